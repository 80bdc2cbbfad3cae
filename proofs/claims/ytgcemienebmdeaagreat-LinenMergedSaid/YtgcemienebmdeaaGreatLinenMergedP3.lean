/- A part of the proof of the laws of this seat. -/
import Derived.Test.YtgcemienebmdeaaGreatLinenMergedP2
import Derived.Test.YtgcemienebmdeaaGreatLinenMergedP1
import Derived.Test.YtgcemienebmdeaaGreatLinenMergedP0
import Derived.Conc.Beside
import Derived.Conc.CrowdComm
import Derived.Conc.LeavingOf
import Derived.LoopNIn
import Derived.Conc.Own2
set_option linter.unusedVariables false
set_option linter.unusedSimpArgs false
namespace Go.Proofs.YtgcemienebmdeaaGreat
open Go Go.Sl Go.Sh
set_option maxRecDepth 100000
noncomputable def cIn (p:List Nat):Code:=sub (KF Tryz.f97) p
theorem ME (I:Imm) (n:Int) (lo:Int) (hi:Int):CtV Tryz.prog 97 #[vI n,vI lo,vI hi] I (.bool (inB n lo hi)):=by
 refine fr (args:=[_,_,_]) (N:=15) Tryz.func97 (fun F=>?_);show Run _ _ (cIn []) _ _ [(0,vI n),(1,vI lo),(2,vI hi)] _ _;refine rnm (rqr ?_);refine sp 1 [(6,.bool false)] (se (rq ?_));refine DB (fun a w=>SE 15 [(6,.bool ((cmp .leq lo n)&&(cmp .leq n hi)))] I F a w) ?_ ?_
 ·
  refine rr (sp 4 [(10,.bool (cmp .leq lo n))] ?_);refine BH 10 rfl (fun h1=>?_) (fun h1=>?_)
  ·
   have a0:=h1;have a0:=leq_t a0;refine sp 5 [(6,.bool (cmp .leq n hi))] (ee ?_);refine AP (fun a w hS hD hW=>⟨hS.sub (.consE 6 rfl (congrArg Value.bool (by simp only [h1,kk])) (.nil _)),hD,hW⟩)
  have a0:=h1;have a0:=leq_f a0;refine sp 5 [(6,.bool false)] (ee ?_);refine AP (fun a w hS hD hW=>⟨hS.sub (.consE 6 rfl (congrArg Value.bool (by simp only [h1,kk])) (.nil _)),hD,hW⟩)
 rintro a w ⟨hS,hD,hW⟩
 refine AU hS hD hW ?_;refine BC (rt1 6 rfl (IR _) ?_);exact ⟨by simp [inB,cmp],rfl⟩
noncomputable def c_checkDivide:=cod Tryz.f115
theorem checkDivide_ct (I:Imm) (a:Value) (h:List Int) (c:Value) (nd:List Int) (b:Int) (a_f:CF I a h) (c_f:CF I c nd):CtV Tryz.prog 115 #[a,c,vI b] I (vI (DP h nd b)):=by
 obtain ⟨a4,a5,c1,c4,rfl,c2,c3,b7⟩:=id a_f;obtain ⟨a6,a7,c5,c8,rfl,c6,c7,b8⟩:=id c_f;refine fr (args:=[_,_,_]) (N:=45) Tryz.func115 (fun F=>?_);show Run _ _ (c_checkDivide []) _ _ [(0,_),(1,_),(2,_)] _ _;refine rnm (rqr ?_);refine sp 1 [(6,vI 0)] (se (rq (rb 0 (rqr (sp 4 [(8,.bool (cmp .eql (↑(h.length)) 0))] (se (rc 8 rfl (fun h1=>?_) (fun h1=>?_))))))))
 ·
  have a8:=h1;have h1:=BG h1;refine rqr (sp 1 [(6,vI 7)] (se (BC (RB (RP (rt1 6 rfl (IR _) ?_))))));exact ⟨congrArg (Value.int .i64) (poolErr_1 (by omega)).symm,rfl⟩
 have a8:=h1;have h1:=BN h1;refine rqr (sp 4 [(12,.bool (cmp .gtr (↑(h.length)) 4))] (se (rc 12 rfl (fun h2=>?_) (fun h2=>?_))))
 ·
  have a9:=h2;have h2:=MB h2;refine rqr (sp 1 [(6,vI 6)] (se (BC (RB (RP (rt1 6 rfl (IR _) ?_))))));exact ⟨congrArg (Value.int .i64) (poolErr_2 (by omega)).symm,rfl⟩
 have a9:=h2;have h2:=SC h2;refine rqr (sp 6 [(16,.bool (!(cmp .eql (↑(nd.length)) (↑(h.length)))))] (se (rc 16 rfl (fun h3=>?_) (fun h3=>?_))))
 ·
  have b0:=h3;have h3:=BN (BP h3);refine rqr (sp 1 [(6,vI 2)] (se (BC (RB (RP (rt1 6 rfl (IR _) ?_))))));exact ⟨congrArg (Value.int .i64) (poolErr_3 (by omega) (by omega) (by omega)).symm,rfl⟩
 have b0:=h3;have h3:=BG (BI h3);refine AO (NB (NX (rq (rqr (sp 3 [(24,vI 0),(23,vI (↑(h.length)))] (se (rb 1 ?_)))))));refine rl (fun mz a w=>∃ k:Nat,(k≤h.length)∧(∀ i,i<k→inB (h.getD i 0) 0 50=true∧inB (nd.getD i 0) 0 50=true)∧SD 45 [(24,vI ↑k),(0,vS a4 h.length a5),(1,vS a6 nd.length a7),(2,vI b),(23,vI (↑(h.length)))] I F a w (mz=h.length-k)) ?_ ?_
 ·intro a w hS hD hW;exact ⟨_,0,Nat.zero_le _,(fun i hi=>by omega),hS.sub su,hD,hW,rfl⟩
 rintro mz a w ⟨k,hk,ha,hS,hD,hW,rfl⟩
 refine AU hS hD hW ?_;clear hS hD hW a w;refine rqr (sp 1 [(25,.bool (cmp .lss ↑k (↑(h.length))))] (se (rq (rc 25 rfl (fun h4=>?_) (fun h4=>?_)))))
 ·
  have b1:=h4;have h4:=CI h4;refine AO (NX (rq (rb 2 (rqr (sp 2 [(7,vI ↑k)] (se (rq ?_)))))));refine DB (fun a w=>SE 45 [(0,vS a4 h.length a5),(1,vS a6 nd.length a7),(2,vI b),(23,vI (↑(h.length))),(24,vI ↑k),(40,.bool ((!(inB (h.getD k 0) 0 50))||(!(inB (nd.getD k 0) 0 50))))] I F a w) ?_ ?_
  ·
   refine rr (sp 2 [(28,vI ↑k),(27,vS a4 h.length a5)] (sd (di 29 1 k b7.addr) (sd (dl 30 (DW b7 k (by omega))) (sd (dc 31 (fun I' hI=>(ME I' (h.getD k 0) 0 50 :))) (sp 2 [(33,.bool (!(inB (h.getD k 0) 0 50)))] ?_)))));refine BH 33 rfl (fun h5=>?_) (fun h5=>?_)
   ·
    have a0:=h5;have a0:=BP a0;have a3:=NW a0;refine sp 7 [(40,.bool true)] (ee ?_);refine AP (fun a w hS hD hW=>⟨hS.sub (sun 5 (.consE 40 rfl (congrArg Value.bool (by simp only [h5,kk])) (.nil _))),hD,hW⟩)
   have a0:=h5;have a0:=BI a0;have a3:=FN a0;refine sp 2 [(35,vI ↑k),(34,vS a6 nd.length a7)] (sd (di 36 1 k b8.addr) (sd (dl 37 (DW b8 k (by omega))) (sd (dc 38 (fun I' hI=>(ME I' (nd.getD k 0) 0 50 :))) (sp 2 [(40,.bool (!(inB (nd.getD k 0) 0 50)))] (ee ?_)))));refine AP (fun a w hS hD hW=>⟨hS.sub (sun 5 (.consE 40 rfl (congrArg Value.bool (by simp only [h5,kk])) (.nil _))),hD,hW⟩)
  rintro a w ⟨hS,hD,hW⟩
  refine AU hS hD hW ?_;clear hS hD hW a w;refine rc 40 rfl (fun h6=>?_) (fun h6=>?_)
  ·
   have b4:=h6;refine rqr (sp 1 [(6,vI 1)] (se (BC (RB (RP (RP (RB (RP (rt1 6 rfl (IR _) ?_)))))))));exact ⟨congrArg (Value.int .i64) (poolErr_4 (by omega) (by omega) (by omega) (i:=k) (by omega) h6).symm,rfl⟩
  have b4:=h6;obtain ⟨a1,a2⟩:=or_f h6;have a1:=BI a1;have b2:=FN a1;have a2:=BI a2;have b3:=FN a2;refine AO (NB (NX (rr (sd (da 41 ↑k 1) (sp 1 [(24,vI (↑k+1))] (ee ?_))))));refine AM (h.length-(k+1)) (by omega) ?_;intro a w hS hD hW;exact ⟨k+1,by omega,OH ha ⟨a1,a2⟩,hS.sub su,hD,hW,rfl⟩
 have b1:=h4;have h4:=CS h4;refine BW 1 (EP (EP (EB (NX (rq (rqr (sp 1 [(42,vI b)] (sd (dc 43 (fun I' hI=>(ME I' b 1 10 :))) (sp 1 [(44,.bool (!(inB b 1 10)))] (se (rc 44 rfl (fun h7=>?_) (fun h7=>?_))))))))))))
 ·
  have b6:=h7;have h7:=BP h7;have b5:=NW h7;refine rqr (sp 1 [(6,vI 1)] (se (BC (RP (rt1 6 rfl (IR _) ?_)))));exact ⟨congrArg (Value.int .i64) (poolErr_5 (by omega) (by omega) (by omega) (fun i hi=>ha i (by omega)) h7).symm,rfl⟩
 have b6:=h7;have h7:=BI h7;have b5:=FN h7;refine AO (NX (rqr (sp 1 [(6,vI 0)] (se (BC (rt1 6 rfl (IR _) ?_))))));exact ⟨congrArg (Value.int .i64) (poolErr_6 (by omega) (by omega) (by omega) (fun i hi=>ha i (by omega)) h7).symm,rfl⟩
end Go.Proofs.YtgcemienebmdeaaGreat
namespace Go.Sl
open Go
theorem OT {Q:Imm→Prop} {I I':Imm} (le:I.le I') (h:∀ J,I.le J→Q J):∀ J,I'.le J→Q J:=fun J hJ=>h J (le.trans hJ)
end Go.Sl
namespace Go.Sh
open Go Go.Sl
section
variable {α:Type} {p:α→Bool} {l:List α} {d:α} {k:Nat}
def KX (p:α→Bool) (l:List α):Int:=match l.findIdx? p with
  | some i=>(i:Int)
  | none=>-1
theorem idxF_hit (h:∀ j,j<k→p (l.getD j d)=false) (hk:k<l.length) (hp:p (l.getD k d)=true):KX p l=k:=by
  have:l.findIdx? p=some k:=by
    rw [List.findIdx?_eq_some_iff_getElem];refine ⟨hk,by simpa [List.getD,hk] using hp,fun j hj=>?_⟩;have:=h j hj
    simpa [List.getD,show j<l.length by omega] using this
  unfold KX;rw [this]
theorem idxF_miss (h:∀ j,j<k→p (l.getD j d)=false) (hk:l.length≤k):KX p l=-1:=by
  have:l.findIdx? p=none:=by
    rw [List.findIdx?_eq_none_iff];intro x hx;obtain ⟨j,hj,rfl⟩:=List.mem_iff_getElem.1 hx;have:=h j (by omega)
    simpa [List.getD,hj] using this
  unfold KX;rw [this]
theorem idxF_any:cmp .geq (KX p l) 0=l.any p:=by
  unfold KX;cases h:l.findIdx? p with
  | none=>
    have:l.any p=false:=by
      rw [List.any_eq_false];intro x hx;have:=List.findIdx?_eq_none_iff.1 h x hx;simp [this]
    rw [this];decide
  | some i=>
    have:l.any p=true:=by
      rw [List.findIdx?_eq_some_iff_getElem] at h;obtain ⟨h1,h2,_⟩:=h;exact List.any_eq_true.2 ⟨_,List.getElem_mem h1,h2⟩
    rw [this];simp [cmp]
theorem MD (h:0≤KX p l):∃ i:Nat,KX p l=↑i∧i<l.length∧p (l.getD i d)=true∧∀ j,j<i→p (l.getD j d)=false:=by
  unfold KX at h ⊢;cases e:l.findIdx? p with
  | none=>rw [e] at h;simp at h
  | some i=>
    rw [List.findIdx?_eq_some_iff_getElem] at e;obtain ⟨h1,h2,h3⟩:=e;refine ⟨i,rfl,h1,by simpa [List.getD,h1] using h2,fun j hj=>?_⟩;have:=h3 j hj
    simpa [List.getD,show j<l.length by omega] using this
theorem idxF_neg (h:KX p l<0):l.any p=false:=by rw [← idxF_any];simp [cmp];omega
end
section
variable {L:Lin} {k:Nat}
theorem startErr_1 (h:¬ (L.start.length:Int)=L.places):DK L=2:=if_pos h
theorem all_at {α:Type} {p:α→Bool} {l:List α} {d:α} (hk:k<l.length) (h:l.all p=true):p (l.getD k d)=true:=by
  have:=List.all_eq_true.1 h (l.getD k d) (by simp [List.getD,hk]);exact this
theorem all_bad {α:Type} {p:α→Bool} {l:List α} {d:α} (hk:k<l.length) (h:p (l.getD k d)=false):l.all p=false:=by
  cases e:l.all p with
  | false=>rfl
  | true=>rw [all_at (d:=d) hk e] at h;cases h
theorem all_good {α:Type} {p:α→Bool} {l:List α} (h:∀ x∈l.take k,p x=true) (hk:l.length≤k):l.all p=true:=List.all_eq_true.2 fun x hx=>h x (by rw [List.take_of_length_le hk];exact hx)
theorem startErr_2 (h:(L.start.length:Int)=L.places) (hk:k<L.start.length) (hb:¬ ((L.start.getD k []).length:Int)=L.sorts):DK L=2:=by
  unfold DK;rw [if_neg (fun x=>x h),if_pos (all_bad (d:=[]) hk (decide_eq_false hb))]
theorem startErr_3 (h:(L.start.length:Int)=L.places) (ha:(L.start.all fun r=>decide ((r.length:Int)=L.sorts))=true) (hk:k<L.start.flatten.length) (hb:inB (L.start.flatten.getD k 0) 0 50=false):DK L=1:=by
  unfold DK;rw [if_neg (fun x=>x h),if_neg (by rw [ha];decide),if_pos (all_bad (d:=0) hk hb)]
theorem startErr_4 (h:(L.start.length:Int)=L.places) (ha:(L.start.all fun r=>decide ((r.length:Int)=L.sorts))=true) (hb:(L.start.flatten.all fun n=>inB n 0 50)=true):DK L=0:=by
  unfold DK;rw [if_neg (fun x=>x h),if_neg (by rw [ha];decide),if_neg (by rw [hb];decide)]
theorem flat_small {xss:List (List Int)} {m:Nat} (h:∀ r∈xss,r.length≤m):xss.flatten.length≤xss.length*m:=by
  induction xss with
  | nil=>simp
  | cons x r ih=>
    have h1:=h x (by simp);have h2:=ih (fun y hy=>h y (by simp [hy]));simp only [List.flatten_cons,List.length_append,List.length_cons,Nat.succ_mul];omega
theorem keepsErr_many (h:4<L.keeps.length):DX L=6:=if_pos h
theorem JO (h:¬ 4<L.keeps.length) (hz:GA (FO L) k=0) (hk:k<L.keeps.length) {e:Int} (he:FO L k=e) (hne:e≠0):DX L=e:=by
  unfold DX;rw [if_neg h,firstE_hit hz (by rw [he];exact hne) hk,he]
theorem keepsErr_none (h:¬ 4<L.keeps.length) (hz:GA (FO L) k=0) (hk:k=L.keeps.length):DX L=0:=by unfold DX;rw [if_neg h,← hk,hz]
section
variable (h3:inB (L.keeps.getD k AQ).place 0 (L.places-1)=true) (h4:inB (L.keeps.getD k AQ).hour 0 200=true)
theorem keepErr_3 (h:inB (L.keeps.getD k AQ).place 0 (L.places-1)=false):FO L k=3:=if_pos h
include h3
theorem keepErr_1 (h:inB (L.keeps.getD k AQ).hour 0 200=false):FO L k=1:=by unfold FO;rw [if_neg (by rw [h3];decide),if_pos h]
include h4
theorem keepErr_1b (h:inB (L.keeps.getD k AQ).who 1 9=false):FO L k=1:=by unfold FO;rw [if_neg (by rw [h3];decide),if_neg (by rw [h4];decide),if_pos h]
variable (h5:inB (L.keeps.getD k AQ).who 1 9=true)
include h5
theorem keepErr_4 (h:((L.keeps.take k).any fun x=>decide (x.place=(L.keeps.getD k AQ).place)&&decide (x.hour=(L.keeps.getD k AQ).hour))=true):FO L k=4:=by unfold FO;rw [if_neg (by rw [h3];decide),if_neg (by rw [h4];decide),if_neg (by rw [h5];decide),if_pos h]
theorem keepErr_ok (h:((L.keeps.take k).any fun x=>decide (x.place=(L.keeps.getD k AQ).place)&&decide (x.hour=(L.keeps.getD k AQ).hour))=false):FO L k=0:=by unfold FO;rw [if_neg (by rw [h3];decide),if_neg (by rw [h4];decide),if_neg (by rw [h5];decide),if_neg (by rw [h];decide)]
end
theorem least_t {k:Int} (h:k=4):Value.int .i64 0=.int .i64 (if k=4 then 0 else 1):=by rw [if_pos h]
theorem least_f {k:Int} (h:k≠4):Value.int .i64 1=.int .i64 (if k=4 then 0 else 1):=by rw [if_neg h]
def QS (L:Lin) (s:Slip):Int:=
  bif !inB s.num 1 999 then 1 else bif !inB s.hour 0 200 then 1 else bif !inB s.kind 1 6 then 8
  else bif !inB s.place 0 (L.places-1) then 3
  else bif cmp .eql s.kind 1&&!inB s.to 0 (L.places-1) then 3
  else bif cmp .eql s.kind 1&&cmp .eql s.to s.place then 4
  else bif !cmp .eql s.kind 1&&!cmp .eql s.to 0 then 1
  else bif !inB s.sort 0 (L.sorts-1) then 3
  else bif s.soil&&(!cmp .eql s.kind 1&&!cmp .eql s.kind 4) then 1
  else bif !inB s.amt (if s.kind=4 then 0 else 1) 50 then 1 else 0
theorem FT (L:Lin) (s:Slip):EC L s=QS L s:=by
  unfold EC QS;simp only [KS,Bool.cond_eq_ite,Bool.and_eq_true,Bool.not_eq_true',decide_eq_true_eq,decide_eq_false_iff_not]
end
section
variable {L:Lin} {k:Nat}
def linC (L:Lin):Int:=bif !inB L.places 1 4||!inB L.sorts 1 2 then 1 else bif !cmp .eql (DK L) 0 then DK L else bif !cmp .eql (DX L) 0 then DX L else bif cmp .gtr (L.slips.length:Int) 8 then 6 else GA (DC L) L.slips.length
theorem OV (L:Lin):AJ L=linC L:=by
  unfold AJ linC
  by_cases e:8<L.slips.length
  · have e2:(8:Int)<L.slips.length:=by omega
    cases inB L.places 1 4 <;> cases inB L.sorts 1 2 <;> simp [cmp,Bool.cond_eq_ite,e2,e]
  · have e2:¬ (8:Int)<L.slips.length:=by omega
    cases inB L.places 1 4 <;> cases inB L.sorts 1 2 <;> simp [cmp,Bool.cond_eq_ite,e2,e]
theorem linErr_at {x:Int} (h0:GA (DC L) L.slips.length=x) (h1:(!inB L.places 1 4||!inB L.sorts 1 2)=false) (h2:(!cmp .eql (DK L) 0)=false) (h3:(!cmp .eql (DX L) 0)=false) (h4:cmp .gtr (L.slips.length:Int) 8=false):AJ L=x:=by
  rw [OV];simp only [linC,h1,h2,h3,h4,cond_false,h0]
theorem slipAt_bad (h:EC L (L.slips.getD k AB)≠0):DC L k=EC L (L.slips.getD k AB):=if_pos h
theorem slipAt_dup (h:EC L (L.slips.getD k AB)=0) (h2:hasNum (L.slips.getD k AB).num (L.slips.take k)=true):DC L k=4:=by unfold DC;rw [if_neg (fun x=>x h),if_pos h2]
theorem slipAt_ok (h:EC L (L.slips.getD k AB)=0) (h2:hasNum (L.slips.getD k AB).num (L.slips.take k)=false):DC L k=0:=by unfold DC;rw [if_neg (fun x=>x h),if_neg (by rw [h2];decide)]
theorem slips_hit (hz:GA (DC L) k=0) (hk:k<L.slips.length) {e:Int} (he:DC L k=e) (hne:e≠0):GA (DC L) L.slips.length=e:=by rw [firstE_hit hz (by rw [he];exact hne) hk,he]
end
theorem openTo_done {st:List (List Int)} {k j:Nat} (h:j=(st.getD k []).length):QM (k:Int) (st.getD k []) j (OZ st k)=OZ st (k+1):=by subst h;rfl
theorem openH_at {L:Lin} {k:Nat} (h:k=L.start.length):OZ L.start k=EA L:=by subst h;rfl
def Within (B:Int) (H:Hs):Prop:=∀ k,-B≤DF k H∧DF k H≤B
theorem Within.put {B B':Int} {H:Hs} (h:Within B H) {k:HKey} {v:Int} (h1:-B'≤v) (h2:v≤B') (hb:B≤B'):Within B' (KC k v H):=fun j=>by
  rw [getH_put];have:=h j;split <;> omega
theorem Within.add {B:Int} {H:Hs} (h:Within B H) {k:HKey} {d:Int} (h1:-50≤d) (h2:d≤50):Within (B+50) (PP k d H):=h.put (by have:=h k;omega) (by have:=h k;omega) (by omega)
theorem Within.doSlip {B:Int} {H:Hs} (h:Within B H) {s:Slip} (h1:0≤s.amt) (h2:s.amt≤50) (hB:0≤B):Within (B+100) (doSlip s H):=by
  have up:∀ {H:Hs},Within (B+50) H→Within (B+100) H:=fun h k=>by have:=h k;omega
  have tw:∀ {H:Hs},Within (B+50+50) H→Within (B+100) H:=fun h k=>by have:=h k;omega
  unfold Sh.doSlip
  split
  · exact tw ((h.add (by omega) (by omega)).add (by omega) (by omega))
  split
  · exact tw ((h.add (by omega) (by omega)).add (by omega) (by omega))
  split
  · exact tw ((h.add (by omega) (by omega)).add (by omega) (by omega))
  split
  · exact up (h.put (by omega) (by omega) (by omega))
  split
  · exact up (h.add (by omega) (by omega))
  · exact up (h.add (by omega) (by omega))
end Go.Sh
namespace Go.Proofs.YtgcemienebmdeaaGreat
open Go Go.Sl Go.Sh
set_option maxRecDepth 100000
noncomputable def c_IdxKeep:=cod Tryz.f165
theorem IdxKeep_ct (I:Imm) (a:Value) (l:List Keep) (f_id:FuncId) (f_cv:List Value) (p:Keep→Bool) (a_f:FR I a l) (f_c:CT Tryz.prog f_id=true) (f_h:∀ J,I.le J→∀ x:Keep,CtV Tryz.prog f_id (.agg #[vI x.place,vI x.hour,vI x.who]::f_cv).toArray J (.bool (p x))):CtV Tryz.prog 165 #[a,.func (.func f_id) #[] f_cv.toArray] I (vI (KX p l)):=by
 obtain ⟨a0,a1,a7,b0,rfl,a8,a9,a5⟩:=id a_f;refine fr (args:=[_,_]) (N:=19) Tryz.func165 (fun F=>?_);show Run _ _ (c_IdxKeep []) _ _ [(0,_),(1,_)] _ _;refine rnm (rqr ?_);refine sp 1 [(4,vI 0)] (se (rq (rqr (sp 3 [(8,vI 0),(7,vI (↑(l.length)))] (se (rb 0 ?_))))));refine rl (fun mz a w=>∃ k:Nat,(k≤l.length)∧(∀ j,j<k→p (l.getD j AQ)=false)∧SD 19 [(8,vI ↑k),(0,vS a0 l.length a1),(1,.func (.func f_id) #[] f_cv.toArray),(7,vI (↑(l.length)))] I F a w (mz=l.length-k)) ?_ ?_
 ·intro a w hS hD hW;exact ⟨_,0,Nat.zero_le _,(fun j hj=>by omega),hS.sub su,hD,hW,rfl⟩
 rintro mz a w ⟨k,hk,a4,hS,hD,hW,rfl⟩
 refine AU hS hD hW ?_;clear hS hD hW a w;refine rqr (sp 1 [(9,.bool (cmp .lss ↑k (↑(l.length))))] (se (rq (rc 9 rfl (fun h1=>?_) (fun h1=>?_)))))
 ·
  have a2:=h1;have h1:=CI h1;refine AO (NX (rq (rb 1 (rqr (sp 2 [(5,vI ↑k)] (sn (sp 3 [(13,vI ↑k),(12,vS a0 l.length a1),(11,.func (.func f_id) #[] f_cv.toArray)] (sd (di 14 3 k a5.addr) (sd (dln 15 14 50 (keepL (l.getD k AQ)) rfl (CE (vals:=IH) (fun _=>rfl) a5 k (by omega))) (sd (MR (f:=(.tmp 11)) (fid:=f_id) (args:=#[(.tmp 15)]) (tys:=#[50]) (cv:=f_cv) (v:=.bool (p (l.getD k AQ))) (d:=16) (ty:=4) (gd:=none) (by kernel_rfl) rfl rfl rfl f_c rfl (fun I' hI=>f_h I' hI (l.getD k AQ))) (se (rc 16 rfl (fun h2=>?_) (fun h2=>?_)))))))))))))
  ·
   have a3:=h2;refine rqr (sp 2 [(4,vI ↑k)] (se (BC (RB (RP (RP (RB (RP (rt1 4 rfl (IR _) ?_)))))))));exact ⟨congrArg (Value.int .i64) (idxF_hit (d:=AQ) a4 (by omega) h2).symm,rfl⟩
  have a3:=h2;refine AO (NB (NX (rr (sd (da 18 ↑k 1) (sp 1 [(8,vI (↑k+1))] (ee ?_))))));refine AM (l.length-(k+1)) (by omega) ?_;intro a w hS hD hW;exact ⟨k+1,by omega,OH a4 h2,hS.sub su,hD,hW,rfl⟩
 have a2:=h1;have h1:=CS h1;refine BW 0 (EP (EP (EB (NX (rqr (sp 1 [(4,vI (-1))] (se (BC (rt1 4 rfl (IR _) ?_)))))))));exact ⟨congrArg (Value.int .i64) (idxF_miss (d:=AQ) a4 (by omega)).symm,rfl⟩
noncomputable def c_ConKeep:=cod Tryz.f146
theorem ConKeep_ct (I:Imm) (a:Value) (l:List Keep) (f_id:FuncId) (f_cv:List Value) (p:Keep→Bool) (a_f:FR I a l) (f_c:CT Tryz.prog f_id=true) (f_h:∀ J,I.le J→∀ x:Keep,CtV Tryz.prog f_id (.agg #[vI x.place,vI x.hour,vI x.who]::f_cv).toArray J (.bool (p x))):CtV Tryz.prog 146 #[a,.func (.func f_id) #[] f_cv.toArray] I (.bool (l.any p)):=by
 obtain ⟨a0,a1,a3,a6,rfl,a4,a5,a7⟩:=id a_f;refine fr (args:=[_,_]) (N:=9) Tryz.func146 (fun F=>?_);show Run _ _ (c_ConKeep []) _ _ [(0,_),(1,_)] _ _;refine rnm (rqr ?_);refine sp 1 [(4,.bool false)] (sn (sp 2 [(6,.func (.func f_id) #[] f_cv.toArray),(5,vS a0 l.length a1)] (sd (dc 7 (fun I' hI=>(IdxKeep_ct I' _ _ f_id f_cv p (a_f.mono hI) f_c (OT hI f_h) :))) (sp 2 [(4,.bool (cmp .geq (KX p l) 0))] (se (BC (rt1 4 rfl (IR _) ?_)))))));exact ⟨congrArg Value.bool idxF_any,rfl⟩
noncomputable def c_IdxSlip:=cod Tryz.f76
theorem MP (I:Imm) (a:Value) (l:List Slip) (f_id:FuncId) (f_cv:List Value) (p:Slip→Bool) (a_f:GZ I a l) (f_c:CT Tryz.prog f_id=true) (f_h:∀ J,I.le J→∀ x:Slip,CtV Tryz.prog f_id (.agg #[vI x.num,vI x.hour,vI x.kind,vI x.place,vI x.to,vI x.sort,.bool x.soil,vI x.amt]::f_cv).toArray J (.bool (p x))):CtV Tryz.prog 76 #[a,.func (.func f_id) #[] f_cv.toArray] I (vI (KX p l)):=by
 obtain ⟨a0,a1,a7,b0,rfl,a8,a9,a5⟩:=id a_f;refine fr (args:=[_,_]) (N:=19) Tryz.func76 (fun F=>?_);show Run _ _ (c_IdxSlip []) _ _ [(0,_),(1,_)] _ _;refine rnm (rqr ?_);refine sp 1 [(4,vI 0)] (se (rq (rqr (sp 3 [(8,vI 0),(7,vI (↑(l.length)))] (se (rb 0 ?_))))));refine rl (fun mz a w=>∃ k:Nat,(k≤l.length)∧(∀ j,j<k→p (l.getD j AB)=false)∧SD 19 [(8,vI ↑k),(0,vS a0 l.length a1),(1,.func (.func f_id) #[] f_cv.toArray),(7,vI (↑(l.length)))] I F a w (mz=l.length-k)) ?_ ?_
 ·intro a w hS hD hW;exact ⟨_,0,Nat.zero_le _,(fun j hj=>by omega),hS.sub su,hD,hW,rfl⟩
 rintro mz a w ⟨k,hk,a4,hS,hD,hW,rfl⟩
 refine AU hS hD hW ?_;clear hS hD hW a w;refine rqr (sp 1 [(9,.bool (cmp .lss ↑k (↑(l.length))))] (se (rq (rc 9 rfl (fun h1=>?_) (fun h1=>?_)))))
 ·
  have a2:=h1;have h1:=CI h1;refine AO (NX (rq (rb 1 (rqr (sp 2 [(5,vI ↑k)] (sn (sp 3 [(13,vI ↑k),(12,vS a0 l.length a1),(11,.func (.func f_id) #[] f_cv.toArray)] (sd (di 14 8 k a5.addr) (sd (dln 15 14 28 (GX (l.getD k AB)) rfl (CE (vals:=DJ) (fun _=>rfl) a5 k (by omega))) (sd (MR (f:=(.tmp 11)) (fid:=f_id) (args:=#[(.tmp 15)]) (tys:=#[28]) (cv:=f_cv) (v:=.bool (p (l.getD k AB))) (d:=16) (ty:=4) (gd:=none) (by kernel_rfl) rfl rfl rfl f_c rfl (fun I' hI=>f_h I' hI (l.getD k AB))) (se (rc 16 rfl (fun h2=>?_) (fun h2=>?_)))))))))))))
  ·
   have a3:=h2;refine rqr (sp 2 [(4,vI ↑k)] (se (BC (RB (RP (RP (RB (RP (rt1 4 rfl (IR _) ?_)))))))));exact ⟨congrArg (Value.int .i64) (idxF_hit (d:=AB) a4 (by omega) h2).symm,rfl⟩
  have a3:=h2;refine AO (NB (NX (rr (sd (da 18 ↑k 1) (sp 1 [(8,vI (↑k+1))] (ee ?_))))));refine AM (l.length-(k+1)) (by omega) ?_;intro a w hS hD hW;exact ⟨k+1,by omega,OH a4 h2,hS.sub su,hD,hW,rfl⟩
 have a2:=h1;have h1:=CS h1;refine BW 0 (EP (EP (EB (NX (rqr (sp 1 [(4,vI (-1))] (se (BC (rt1 4 rfl (IR _) ?_)))))))));exact ⟨congrArg (Value.int .i64) (idxF_miss (d:=AB) a4 (by omega)).symm,rfl⟩
noncomputable def c_ConSlip:=cod Tryz.f91
theorem ConSlip_ct (I:Imm) (a:Value) (l:List Slip) (f_id:FuncId) (f_cv:List Value) (p:Slip→Bool) (a_f:GZ I a l) (f_c:CT Tryz.prog f_id=true) (f_h:∀ J,I.le J→∀ x:Slip,CtV Tryz.prog f_id (.agg #[vI x.num,vI x.hour,vI x.kind,vI x.place,vI x.to,vI x.sort,.bool x.soil,vI x.amt]::f_cv).toArray J (.bool (p x))):CtV Tryz.prog 91 #[a,.func (.func f_id) #[] f_cv.toArray] I (.bool (l.any p)):=by
 obtain ⟨a0,a1,a3,a6,rfl,a4,a5,a7⟩:=id a_f;refine fr (args:=[_,_]) (N:=9) Tryz.func91 (fun F=>?_);show Run _ _ (c_ConSlip []) _ _ [(0,_),(1,_)] _ _;refine rnm (rqr ?_);refine sp 1 [(4,.bool false)] (sn (sp 2 [(6,.func (.func f_id) #[] f_cv.toArray),(5,vS a0 l.length a1)] (sd (dc 7 (fun I' hI=>(MP I' _ _ f_id f_cv p (a_f.mono hI) f_c (OT hI f_h) :))) (sp 2 [(4,.bool (cmp .geq (KX p l) 0))] (se (BC (rt1 4 rfl (IR _) ?_)))))));exact ⟨congrArg Value.bool idxF_any,rfl⟩
noncomputable def c_checkStart:=cod Tryz.f102
theorem checkStart_ct (I:Imm) (l:Value) (L:Lin) (l_f:IsLin I l L) (hp:1≤L.places∧L.places≤4) (hs:1≤L.sorts∧L.sorts≤2):CtV Tryz.prog 102 #[l] I (vI (DK L)):=by
 obtain ⟨l1,l2,l3,rfl,b2,d4,d6⟩:=id l_f;obtain ⟨a0,a1,e7,f0,e4,rfl,e8,e9,b3,d2⟩:=id b2;obtain ⟨a2,a3,f1,f4,rfl,f2,f3,f5⟩:=id d4;obtain ⟨a4,a5,f6,f9,rfl,f7,f8,g0⟩:=id d6;refine fr (args:=[_]) (N:=38) Tryz.func102 (fun F=>?_);show Run _ _ (c_checkStart []) _ _ [(0,_)] _ _;refine rnm (rqr ?_);refine sS (sb 1 26 (AS L (vS a0 L.start.length a1) (vS a2 L.keeps.length a3) (vS a4 L.slips.length a5)) (fun b1=>(sp 1 [(2,vI 0)] (se (rq (rqr (sp 1 [(7,vP b1 2)] (sd (dlb 8 0 2 b1 (vS a0 L.start.length a1)) (sp 2 [(10,vP b1 0),(9,vI (↑(L.start.length)))] (sd (dlb 11 0 0 b1 (vI L.places)) (sp 1 [(12,.bool (!(cmp .eql (↑(L.start.length)) L.places)))] (se (rc 12 rfl (fun h1=>?_) (fun h1=>?_))))))))))))))
 ·
  have c4:=h1;have h1:=BN (BP h1);refine rqr (sp 1 [(2,vI 2)] (se (BC (RP (FL 2 [] rfl (TC _ (TR _)) (IR _) ?_)))));exact ⟨congrArg (Value.int .i64) (startErr_1 (by omega)).symm,rfl⟩
 have c4:=h1;have h1:=BG (BI h1);refine AO (NX (rq (rqr (sp 1 [(13,vP b1 2)] (sd (dlb 14 0 2 b1 (vS a0 L.start.length a1)) (sp 2 [(16,vI 0),(15,vI (↑(L.start.length)))] (se (rb 0 ?_))))))));refine rl (fun mz a w=>∃ k:Nat,(k≤L.start.length)∧(∀ r∈L.start.take k,(fun r=>decide ((r.length:Int)=L.sorts)) r=true)∧SD 38 [(16,vI ↑k),(1,vP b1 0),(14,vS a0 L.start.length a1),(15,vI (↑(L.start.length)))] I ((bX b1 (AS L (vS a0 L.start.length a1) (vS a2 L.keeps.length a3) (vS a4 L.slips.length a5)) 26)::F) a w (mz=L.start.length-k)) ?_ ?_
 ·intro a w hS hD hW;exact ⟨_,0,Nat.zero_le _,(fun x h=>by simp at h),hS.sub su,hD,hW,rfl⟩
 rintro mz a w ⟨k,hk,ha,hS,hD,hW,rfl⟩
 refine AU hS hD hW ?_;refine rqr (sp 1 [(17,.bool (cmp .lss ↑k (↑(L.start.length))))] (se (rq (rc 17 rfl (fun h2=>?_) (fun h2=>?_)))))
 ·
  have c5:=h2;have h2:=CI h2;refine AO (NX (rq (rb 1 (rqr (sd (di 18 1 k b3.addr) ?_)))));have b6:=d2 k (by omega);obtain ⟨d7,d8,g2,g5,b5,g3,g4,g6⟩:=id b6;rw [b5] at b6;refine sd (EU (dl 19 (HT b3 k (by omega))) b5) (sp 1 [(4,vS d7 (L.start.getD k []).length d8)] (sn (sp 3 [(22,vP b1 1),(21,vI (↑((L.start.getD k []).length)))] (sd (dlb 23 0 1 b1 (vI L.sorts)) (sp 1 [(24,.bool (!(cmp .eql (↑((L.start.getD k []).length)) L.sorts)))] (se (rc 24 rfl (fun h3=>?_) (fun h3=>?_))))))))
  ·
   have c6:=h3;have h3:=BN (BP h3);refine rqr (sp 1 [(2,vI 2)] (se (BC (RB (RP (RP (RB (RP (FL 2 [] rfl (TC _ (TR _)) (IR _) ?_)))))))));exact ⟨congrArg (Value.int .i64) (startErr_2 (k:=k) (by omega) (by omega) h3).symm,rfl⟩
  have c6:=h3;have h3:=BG (BI h3);refine AO (NB (NX (rr (sd (da 25 ↑k 1) (sp 1 [(16,vI (↑k+1))] (ee ?_))))));refine AM (L.start.length-(k+1)) (by omega) ?_;intro a w hS hD hW;exact ⟨k+1,by omega,all_snoc (d:=[]) ha (by omega) (decide_eq_true h3),hS.sub su,hD,hW,rfl⟩
 have c5:=h2;have h2:=CS h2;refine BW 0 (EP (EP (EB (NX (rq (rqr (sp 1 [(26,vP b1 2)] (sd (dlb 27 0 2 b1 (vS a0 L.start.length a1)) ?_))))))));have d0:(L.start.all fun r=>decide ((r.length:Int)=L.sorts))=true:=all_good ha (by omega);have h0:L.start.flatten.length≤1000000:=by have h1:=flat_small (xss:=L.start) (m:=2) (fun r hr=>by have:=of_decide_eq_true (List.all_eq_true.1 d0 r hr);omega);omega
 refine sS (sc (some 28) (Concat_ct _ _ _ b2 (by assumption) :) (.refl _) (fun g8 I4 g7 b0 e6=>?_));obtain ⟨u9,b7,e3,e2,b4⟩:=e6;rw [e3,e2];clear e3 e2;obtain ⟨d9,e0,rfl,g9⟩:=b4.shape;refine pm (M':=((bX b1 (AS L (vS a0 L.start.length a1) (vS a2 L.keeps.length a3) (vS a4 L.slips.length a5)) 26)::(b7++F))) PM (sfz (A:=((bX b1 (AS L (vS a0 L.start.length a1) (vS a2 L.keeps.length a3) (vS a4 L.slips.length a5)) 26)::F)) 0 b4 PM.symm (fun e5 a7 a9=>?_));obtain ⟨b8,c0,b9,c3,a8,c1,c2,a6⟩:=id a9;cases a8;refine sp 2 [(30,vI 0),(29,vI (↑(L.start.flatten.length)))] (se (rb 2 ?_));refine rl (fun mz a w=>∃ m:Nat,(m≤L.start.flatten.length)∧(∀ x∈L.start.flatten.take m,inB x 0 50=true)∧SD 38 [(30,vI ↑m),(28,vS d9 L.start.flatten.length e0),(29,vI (↑(L.start.flatten.length)))] e5 ((bX b1 (AS L (vS a0 L.start.length a1) (vS a2 L.keeps.length a3) (vS a4 L.slips.length a5)) 26)::F) a w (mz=L.start.flatten.length-m)) ?_ ?_
 ·intro a w hS hD hW;exact ⟨_,0,Nat.zero_le _,(fun x h=>by simp at h),hS.sub su,hD,hW,rfl⟩
 rintro mz a w ⟨m,hm,hb,hS,hD,hW,rfl⟩
 refine AU hS hD hW ?_;refine rqr (sp 1 [(31,.bool (cmp .lss ↑m (↑(L.start.flatten.length))))] (se (rq (rc 31 rfl (fun h4=>?_) (fun h4=>?_)))))
 ·
  have c7:=h4;have h4:=CI h4;refine AO (NX (rq (rb 3 (rqr (sd (di 32 1 m a6.addr) (sd (dl 33 (DW a6 m (by omega))) (sp 1 [(6,vI (L.start.flatten.getD m 0))] (sn (sp 1 [(34,vI (L.start.flatten.getD m 0))] (sd (dc 35 (fun I' hI=>(ME I' (L.start.flatten.getD m 0) 0 50 :))) (sp 1 [(36,.bool (!(inB (L.start.flatten.getD m 0) 0 50)))] (se (rc 36 rfl (fun h5=>?_) (fun h5=>?_))))))))))))))
  ·
   have c9:=h5;have h5:=BP h5;have c8:=NW h5;refine rqr (sp 1 [(2,vI 1)] (se (BC (RB (RP (RP (RB (RP (FL 2 [] rfl (TC _ (TR _)) (IT b0 a7) ?_)))))))));exact ⟨congrArg (Value.int .i64) (startErr_3 (k:=m) (by omega) d0 (by omega) h5).symm,rfl⟩
  have c9:=h5;have h5:=BI h5;have c8:=FN h5;refine AO (NB (NX (rr (sd (da 37 ↑m 1) (sp 1 [(30,vI (↑m+1))] (ee ?_))))));refine AM (L.start.flatten.length-(m+1)) (by omega) ?_;intro a w hS hD hW;exact ⟨m+1,by omega,all_snoc (d:=0) hb (by omega) h5,hS.sub su,hD,hW,rfl⟩
 have c7:=h4;have h4:=CS h4;refine BW 2 (EP (EP (EB (NX (rqr (sp 1 [(2,vI 0)] (se (BC (FL 2 [] rfl (TC _ (TR _)) (IT b0 a7) ?_)))))))));exact ⟨congrArg (Value.int .i64) (startErr_4 (by omega) d0 (all_good hb (by omega))).symm,rfl⟩
noncomputable def c_checkKeeps1:=cod Tryz.f147
theorem cK1_ct (I:Imm) (x k:Keep) (b:Nat) (hb:I.blk b=some (Obj.cells #[vI k.place,vI k.hour,vI k.who] 50 (0,0))):CtV Tryz.prog 147 #[.agg #[vI x.place,vI x.hour,vI x.who],vP b 0] I (.bool (decide (x.place=k.place)&&decide (x.hour=k.hour))):=by
 refine fr (args:=[_,_]) (N:=16) Tryz.func147 (fun F=>?_);show Run _ _ (c_checkKeeps1 []) _ _ [(0,_),(1,_)] _ _;refine rnm (rqr ?_);refine sS (sb 2 50 (keepA x) (fun b1=>(sp 1 [(3,.bool false)] (se (rq ?_)))));refine DB (fun a w=>SE 16 [(3,.bool ((cmp .eql x.place k.place)&&(cmp .eql x.hour k.hour)))] I ((bX b1 (keepA x) 50)::F) a w) ?_ ?_
 ·
  refine rr (sp 1 [(4,vP b1 0)] (sd (dlb 5 0 0 b1 (vI x.place)) (sd (dfa 6 1 50 0 0 0 rfl) (sd (dld 7 6 3 (vI k.place) rfl (AR hb rfl)) (sp 2 [(9,.bool (cmp .eql x.place k.place))] ?_)))));refine BH 9 rfl (fun h1=>?_) (fun h1=>?_)
  ·
   have a0:=h1;have a0:=BG a0;refine sp 1 [(10,vP b1 1)] (sd (dlb 11 0 1 b1 (vI x.hour)) (sd (ON (x:=(.tmp 1)) (T:=50) (k:=1) (o:=1) (d:=12) (ty:=0) (gd:=(some (5,true))) (by kernel_rfl) (by kernel_rfl) (by kernel_rfl) rfl) (sd (SP (v:=vI k.hour) (x:=(.tmp 12)) (T:=3) (d:=13) (ty:=3) (gd:=(some (5,true))) (by kernel_rfl) (by kernel_rfl) (by kernel_rfl) rfl (AR hb rfl)) (sp 3 [(3,.bool (cmp .eql x.hour k.hour))] (ee ?_)))));refine AP (fun a w hS hD hW=>⟨hS.sub (.consE 3 rfl (congrArg Value.bool (by simp only [h1,kk])) (.nil _)),hD,hW⟩)
  have a0:=h1;have a0:=BN a0;refine sp 7 [(3,.bool false)] (ee ?_);refine AP (fun a w hS hD hW=>⟨hS.sub (.consE 3 rfl (congrArg Value.bool (by simp only [h1,kk])) (.nil _)),hD,hW⟩)
 rintro a w ⟨hS,hD,hW⟩
 refine AU hS hD hW ?_;refine BC (FL 3 [] rfl (TC _ (TR _)) (IR _) ?_);exact ⟨congrArg Value.bool (by simp only [KS]),rfl⟩
noncomputable def c_checkKeeps:=cod Tryz.f103
theorem checkKeeps_ct (I:Imm) (l:Value) (L:Lin) (l_f:IsLin I l L) (hp:1≤L.places∧L.places≤4):CtV Tryz.prog 103 #[l] I (vI (DX L)):=by
 obtain ⟨l1,l2,l3,rfl,c3,a5,c6⟩:=id l_f;obtain ⟨a3,a4,c9,d2,c7,rfl,d0,d1,d3,d4⟩:=id c3;obtain ⟨a0,a1,d5,d8,rfl,d6,d7,a6⟩:=id a5;obtain ⟨a7,a8,d9,e2,rfl,e0,e1,e3⟩:=id c6;refine fr (args:=[_]) (N:=42) Tryz.func103 (fun F=>?_);show Run _ _ (c_checkKeeps []) _ _ [(0,_)] _ _;refine rnm (rqr ?_);refine sS (sb 1 26 (AS L (vS a3 L.start.length a4) (vS a0 L.keeps.length a1) (vS a7 L.slips.length a8)) (fun b1=>(sp 1 [(2,vI 0)] (se (rq (rqr (sp 1 [(5,vP b1 3)] (sd (dlb 6 0 3 b1 (vS a0 L.keeps.length a1)) (sp 2 [(8,.bool (cmp .gtr (↑(L.keeps.length)) 4))] (se (rc 8 rfl (fun h1=>?_) (fun h1=>?_))))))))))))
 ·
  have b4:=h1;have h1:=MB h1;refine rqr (sp 1 [(2,vI 6)] (se (BC (RP (FL 2 [] rfl (TC _ (TR _)) (IR _) ?_)))));exact ⟨congrArg (Value.int .i64) (keepsErr_many (by omega)).symm,rfl⟩
 have b4:=h1;have h1:=SC h1;refine AO (NX (rq (rqr (sp 1 [(9,vP b1 3)] (sd (dlb 10 0 3 b1 (vS a0 L.keeps.length a1)) (sp 2 [(12,vI 0),(11,vI (↑(L.keeps.length)))] (se (rb 0 ?_))))))));refine rl (fun mz a w=>∃ J0:Imm,∃ k:Nat,(I.le J0)∧(k≤L.keeps.length)∧(GA (FO L) k=0)∧SD 42 [(12,vI ↑k),(1,vP b1 0),(10,vS a0 L.keeps.length a1),(11,vI (↑(L.keeps.length)))] J0 ((bX b1 (AS L (vS a3 L.start.length a4) (vS a0 L.keeps.length a1) (vS a7 L.slips.length a8)) 26)::F) a w (mz=L.keeps.length-k)) ?_ ?_
 ·intro a w hS hD hW;exact ⟨_,I,0,IR _,Nat.zero_le _,rfl,hS.sub su,hD,hW,rfl⟩
 rintro mz a w ⟨J0,k,hJ0,hk,hz,hS,hD,hW,rfl⟩
 refine AU hS hD hW ?_;replace a5:=a5.mono hJ0;replace a6:=a6.mono hJ0;refine rqr (sp 1 [(13,.bool (cmp .lss ↑k (↑(L.keeps.length))))] (se (rq (rc 13 rfl (fun h2=>?_) (fun h2=>?_)))))
 ·
  have b5:=h2;have h2:=CI h2;refine AO (NX (rq (rb 1 (rqr (sp 1 [(14,vI ↑k)] (sd (di 15 3 k a6.addr) (sd (dln 16 15 50 (keepL (L.keeps.getD k AQ)) rfl (CE (vals:=IH) (fun _=>rfl) a6 k (by omega))) (sS (sal 4 50 #[vI 0,vI 0,vI 0] (fun b3=>(sp 1 [(3,vI ↑k)] (sS (ss 0 0 b3 (keepL (L.keeps.getD k AQ)) (keepL (L.keeps.getD k AQ)) (_::_::_) (cs:=[_,_,_]) rfl rfl (se (rb 2 (rqr (sp 1 [(18,vP b3 0)] (sd (dlb 19 0 0 b3 (vI ((L.keeps.getD k AQ).place))) (sp 1 [(20,vP b1 0)] (sd (dlb 21 1 0 b1 (vI L.places)) (sd (dsb 22 L.places 1) (sd (dc 23 (fun I' hI=>(ME I' ((L.keeps.getD k AQ).place) 0 (L.places-1) :))) (sp 2 [(17,.bool (!(inB ((L.keeps.getD k AQ).place) 0 (L.places-1))))] (se (rc 17 rfl (fun h3=>?_) (fun h3=>?_))))))))))))))))))))))))))
  ·
   have b7:=h3;have h3:=BP h3;have b6:=NW h3;refine rqr (sp 1 [(2,vI 3)] (se (BC (RB (RB (RP (RP (RB (RP (FL 2 [] rfl (TC _ (TC _ (TR _))) hJ0 ?_))))))))));exact ⟨congrArg (Value.int .i64) (JO (by omega) hz (by omega) (keepErr_3 h3) (by decide)).symm,rfl⟩
  have b7:=h3;have h3:=BI h3;have b6:=FN h3;refine rq (rqr (sp 1 [(26,vP b3 1)] (sd (dlb 27 0 1 b3 (vI ((L.keeps.getD k AQ).hour))) (sd (dc 28 (fun I' hI=>(ME I' ((L.keeps.getD k AQ).hour) 0 200 :))) (sp 2 [(25,.bool (!(inB ((L.keeps.getD k AQ).hour) 0 200)))] (se (rc 25 rfl (fun h4=>?_) (fun h4=>?_))))))))
  ·
   have b0:=h4;have h4:=BP h4;have b8:=NW h4;refine AO (NX ?_);refine run_re 25 rfl (congrArg Value.bool b0) (rct 25 rfl (rqr (sp 1 [(2,vI 1)] (se (BC (RB (RB (RP (RP (RB (RP (FL 2 [] rfl (TC _ (TC _ (TR _))) hJ0 ?_))))))))))));exact ⟨congrArg (Value.int .i64) (JO (by omega) hz (by omega) (keepErr_1 h3 h4) (by decide)).symm,rfl⟩
  have b0:=h4;have h4:=BI h4;have b8:=FN h4;refine rr (sp 1 [(30,vP b3 2)] (sd (dlb 31 0 2 b3 (vI ((L.keeps.getD k AQ).who))) (sd (dc 32 (fun I' hI=>(ME I' ((L.keeps.getD k AQ).who) 1 9 :))) (sp 2 [(25,.bool (!(inB ((L.keeps.getD k AQ).who) 1 9)))] (se (rc 25 rfl (fun h5=>?_) (fun h5=>?_)))))))
  ·
   have c0:=h5;have h5:=BP h5;have b9:=NW h5;refine rqr (sp 1 [(2,vI 1)] (se (BC (RB (RB (RP (RP (RB (RP (FL 2 [] rfl (TC _ (TC _ (TR _))) hJ0 ?_))))))))));exact ⟨congrArg (Value.int .i64) (JO (by omega) hz (by omega) (keepErr_1b h3 h4 h5) (by decide)).symm,rfl⟩
  have c0:=h5;have h5:=BI h5;have b9:=FN h5;refine rqr (sp 1 [(35,vP b1 3)] (sd (dlb 36 1 3 b1 (vS a0 L.keeps.length a1)) (sp 1 [(37,vI ↑k)] ?_)));have a2:=a5.cutHi k (by omega);obtain ⟨e5,e7,e6,f0,b2,e8,e9,f1⟩:=id a2;rw [b2] at a2;refine sd (EU (KH (x:=(.tmp 36)) (lo:=none) (hi:=(some (.tmp 37))) (T:=23) (e:=50) (sz:=3) 0 k (d:=38) (ty:=23) (gd:=none) (by kernel_rfl) rfl (by kernel_rfl) (by kernel_rfl) rfl (.inl ⟨rfl,rfl⟩) (.inr ⟨_,.i64,rfl,rfl⟩) (by omega) (by omega)) b2) (sp 1 [(39,.func (.func 147) #[] #[vP b3 0])] ?_);refine SW (b:=b3) (o:=Obj.cells (keepA (L.keeps.getD k AQ)) 50 (0,0)) (M0:=((bX b1 (AS L (vS a3 L.start.length a4) (vS a0 L.keeps.length a1) (vS a7 L.slips.length a8)) 26)::F)) (PR _) (fun I6 a9 c8=>?_);replace a2:=a2.mono a9;refine sd (dc 40 (fun I' hI=>(ConKeep_ct I' _ _ 147 ([vP b3 0]) (fun x=>decide (x.place=(L.keeps.getD k AQ).place)&&decide (x.hour=(L.keeps.getD k AQ).hour)) (a2.mono hI) (by kernel_rfl) (fun J hJ x=>cK1_ct J x (L.keeps.getD k AQ) b3 ((IT hI hJ).blk _ _ c8)) :))) (sp 1 [(34,.bool ((L.keeps.take k).any (fun x=>decide (x.place=(L.keeps.getD k AQ).place)&&decide (x.hour=(L.keeps.getD k AQ).hour))))] (se (rc 34 rfl (fun h6=>?_) (fun h6=>?_))))
  ·
   have c1:=h6;refine rqr (sp 1 [(2,vI 4)] (se (BC (RB (RB (RP (RP (RB (RP (FL 2 [] rfl (TC _ (TR _)) (IT hJ0 a9) ?_))))))))));exact ⟨congrArg (Value.int .i64) (JO (by omega) hz (by omega) (keepErr_4 h3 h4 h5 h6) (by decide)).symm,rfl⟩
  have c1:=h6;refine AO (NB (NB (NX (rr (sd (da 41 ↑k 1) (sp 1 [(12,vI (↑k+1))] (ee ?_)))))));refine AM (L.keeps.length-(k+1)) (by omega) ?_;intro a w hS hD hW;exact ⟨I6,k+1,(IT hJ0 a9),by omega,firstE_next hz (keepErr_ok h3 h4 h5 h6),hS.sub su,hD,hW,rfl⟩
 have b5:=h2;have h2:=CS h2;refine BW 0 (EP (EP (EB (NX (rqr (sp 1 [(2,vI 0)] (se (BC (FL 2 [] rfl (TC _ (TR _)) hJ0 ?_)))))))));exact ⟨congrArg (Value.int .i64) (keepsErr_none (by omega) hz (by omega)).symm,rfl⟩
noncomputable def c_checkSlip:=cod Tryz.f104
theorem checkSlip_ct (I:Imm) (l:Value) (L:Lin) (s:Slip) (l_f:IsLin I l L) (hp:1≤L.places∧L.places≤4) (hq:1≤L.sorts∧L.sorts≤2):CtV Tryz.prog 104 #[l,.agg #[vI s.num,vI s.hour,vI s.kind,vI s.place,vI s.to,vI s.sort,.bool s.soil,vI s.amt]] I (vI (EC L s)):=by
 obtain ⟨l1,l2,l3,rfl,e8,f0,f2⟩:=id l_f;obtain ⟨b0,b2,f5,f8,f4,rfl,f6,f7,f9,g0⟩:=id e8;obtain ⟨b4,b5,g1,g4,rfl,g2,g3,g5⟩:=id f0;obtain ⟨b6,b7,g6,g9,rfl,g7,g8,h0⟩:=id f2;refine fr (args:=[_,_]) (N:=90) Tryz.func104 (fun F=>?_);show Run _ _ (c_checkSlip []) _ _ [(0,_),(1,_)] _ _;refine rnm (rqr ?_);refine sS (sb 2 26 (AS L (vS b0 L.start.length b2) (vS b4 L.keeps.length b5) (vS b6 L.slips.length b7)) (fun b1=>(sS (sb 3 28 (BK s) (fun b3=>(sp 1 [(4,vI 0)] (se (rq ?_))))))));refine rd0 7 (ox 1 [(8,vP b3 2)] ?_);refine AD (dlb 9 0 2 b3 (vI s.kind)) (ox 2 [(11,vP b3 2),(10,.bool (cmp .eql s.kind 1))] ?_);refine AD (dlb 12 0 2 b3 (vI s.kind)) (ox 2 [(5,.bool (cmp .eql s.kind 1)),(13,.bool (cmp .eql s.kind 4))] ?_);refine AY (sp 1 [(6,.bool (cmp .eql s.kind 4))] (sn (sp 1 [(7,vI 1)] (se (rq ?_)))));refine DB (fun a w=>SE 90 [(2,vP b1 0),(3,vP b3 0),(4,vI 0),(5,.bool (cmp .eql s.kind 1)),(6,.bool (cmp .eql s.kind 4)),(7,vI (if s.kind=4 then 0 else 1))] I ((bX b3 (BK s) 28)::(bX b1 (AS L (vS b0 L.start.length b2) (vS b4 L.keeps.length b5) (vS b6 L.slips.length b7)) 26)::F) a w) ?_ ?_
 ·
  refine rqr (sp 1 [(14,.bool (cmp .eql s.kind 4))] (se (rc 14 rfl (fun h1=>?_) (fun h1=>?_))))
  ·
   have e1:=h1;have h1:=BG h1;refine rr (sp 1 [(7,vI 0)] (ee ?_));exact AP (fun a w hS hD hW=>⟨hS.sub (sun 5 (.consE 7 rfl (least_t h1) (.nil _))),hD,hW⟩)
  have e1:=h1;have h1:=BN h1;refine AO ?_;exact AP (fun a w hS hD hW=>⟨hS.sub (sun 5 (.consE 7 rfl (least_f h1) (.nil _))),hD,hW⟩)
 rintro a w ⟨hS,hD,hW⟩
 refine AU hS hD hW ?_;refine rq (rb 0 (rq (rqr (sp 1 [(16,vP b3 0)] (sd (dlb 17 0 0 b3 (vI s.num)) (sd (dc 18 (fun I' hI=>(ME I' s.num 1 999 :))) (sp 2 [(15,.bool (!(inB s.num 1 999)))] (se (rc 15 rfl (fun h2=>?_) (fun h2=>?_))))))))))
 ·
  have a0:=h2;have h2:=BP h2;have e2:=NW h2;refine AO (NX ?_);refine run_re 15 rfl (congrArg Value.bool a0) (rct 15 rfl (rqr (sp 1 [(4,vI 1)] (se (BC (RB (RP (FL 4 [] rfl (TC _ (TC _ (TR _))) (IR _) ?_))))))));exact ⟨congrArg (Value.int .i64) (by simp only [FT,QS,a0,cond_true,cond_false]),rfl⟩
 have a0:=h2;have h2:=BI h2;have e2:=FN h2;refine rr (sp 1 [(20,vP b3 1)] (sd (dlb 21 0 1 b3 (vI s.hour)) (sd (dc 22 (fun I' hI=>(ME I' s.hour 0 200 :))) (sp 2 [(15,.bool (!(inB s.hour 0 200)))] (se (rc 15 rfl (fun h3=>?_) (fun h3=>?_)))))))
 ·
  have a1:=h3;have h3:=BP h3;have e3:=NW h3;refine rqr (sp 1 [(4,vI 1)] (se (BC (RB (RP (FL 4 [] rfl (TC _ (TC _ (TR _))) (IR _) ?_))))));exact ⟨congrArg (Value.int .i64) (by simp only [FT,QS,a0,a1,cond_true,cond_false]),rfl⟩
 have a1:=h3;have h3:=BI h3;have e3:=FN h3;refine rqr (sp 1 [(25,vP b3 2)] (sd (dlb 26 0 2 b3 (vI s.kind)) (sd (dc 27 (fun I' hI=>(ME I' s.kind 1 6 :))) (sp 2 [(24,.bool (!(inB s.kind 1 6)))] (se (rc 24 rfl (fun h4=>?_) (fun h4=>?_)))))))
 ·
  have a2:=h4;have h4:=BP h4;have e4:=NW h4;refine rqr (sp 1 [(4,vI 8)] (se (BC (RB (RP (FL 4 [] rfl (TC _ (TC _ (TR _))) (IR _) ?_))))));exact ⟨congrArg (Value.int .i64) (by simp only [FT,QS,a0,a1,a2,cond_true,cond_false]),rfl⟩
 have a2:=h4;have h4:=BI h4;have e4:=FN h4;refine rqr (sp 1 [(30,vP b3 3)] (sd (dlb 31 0 3 b3 (vI s.place)) (sp 1 [(32,vP b1 0)] (sd (dlb 33 1 0 b1 (vI L.places)) (sd (dsb 34 L.places 1) (sd (dc 35 (fun I' hI=>(ME I' s.place 0 (L.places-1) :))) (sp 2 [(29,.bool (!(inB s.place 0 (L.places-1))))] (se (rc 29 rfl (fun h5=>?_) (fun h5=>?_))))))))))
 ·
  have a4:=h5;have h5:=BP h5;have e5:=NW h5;refine rqr (sp 1 [(4,vI 3)] (se (BC (RB (RP (FL 4 [] rfl (TC _ (TC _ (TR _))) (IR _) ?_))))));exact ⟨congrArg (Value.int .i64) (by simp only [FT,QS,a0,a1,a2,a4,cond_true,cond_false]),rfl⟩
 have a4:=h5;have h5:=BI h5;have e5:=FN h5;refine rq ?_;refine DB (fun a w=>SE 90 [(2,vP b1 0),(3,vP b3 0),(4,vI 0),(5,.bool (cmp .eql s.kind 1)),(6,.bool (cmp .eql s.kind 4)),(7,vI (if s.kind=4 then 0 else 1)),(37,.bool ((cmp .eql s.kind 1)&&(!(inB s.to 0 (L.places-1)))))] I ((bX b3 (BK s) 28)::(bX b1 (AS L (vS b0 L.start.length b2) (vS b4 L.keeps.length b5) (vS b6 L.slips.length b7)) 26)::F) a w) ?_ ?_
 ·
  refine rr (sp 2 [(39,.bool (cmp .eql s.kind 1))] ?_);refine BH 39 rfl (fun h6=>?_) (fun h6=>?_)
  ·
   have c2:=h6;have c2:=BG c2;refine sp 1 [(40,vP b3 4)] (sd (dlb 41 0 4 b3 (vI s.to)) (sp 1 [(42,vP b1 0)] (sd (dlb 43 1 0 b1 (vI L.places)) (sd (dsb 44 L.places 1) (sd (dc 45 (fun I' hI=>(ME I' s.to 0 (L.places-1) :))) (sp 3 [(37,.bool (!(inB s.to 0 (L.places-1))))] (ee ?_)))))));refine AP (fun a w hS hD hW=>⟨hS.sub (sun 6 (.consE 37 rfl (congrArg Value.bool (by simp only [h6,kk])) (.nil _))),hD,hW⟩)
  have c2:=h6;have c2:=BN c2;refine sp 9 [(37,.bool false)] (ee ?_);refine AP (fun a w hS hD hW=>⟨hS.sub (sun 6 (.consE 37 rfl (congrArg Value.bool (by simp only [h6,kk])) (.nil _))),hD,hW⟩)
 rintro a w ⟨hS,hD,hW⟩
 refine AU hS hD hW ?_;refine rc 37 rfl (fun h7=>?_) (fun h7=>?_)
 ·
  have a8:=h7;obtain ⟨d6,c8⟩:=PY h7;have d6:=BG d6;have c8:=BP c8;have e6:=NW c8;refine rqr (sp 1 [(4,vI 3)] (se (BC (RB (RP (FL 4 [] rfl (TC _ (TC _ (TR _))) (IR _) ?_))))));exact ⟨congrArg (Value.int .i64) (by simp only [FT,QS,a0,a1,a2,a4,a8,cond_true,cond_false]),rfl⟩
 have a8:=h7;refine rq ?_;refine DB (fun a w=>SE 90 [(2,vP b1 0),(3,vP b3 0),(4,vI 0),(5,.bool (cmp .eql s.kind 1)),(6,.bool (cmp .eql s.kind 4)),(7,vI (if s.kind=4 then 0 else 1)),(48,.bool ((cmp .eql s.kind 1)&&(cmp .eql s.to s.place)))] I ((bX b3 (BK s) 28)::(bX b1 (AS L (vS b0 L.start.length b2) (vS b4 L.keeps.length b5) (vS b6 L.slips.length b7)) 26)::F) a w) ?_ ?_
 ·
  refine rr (sp 2 [(50,.bool (cmp .eql s.kind 1))] ?_);refine BH 50 rfl (fun h8=>?_) (fun h8=>?_)
  ·
   have c3:=h8;have c3:=BG c3;refine sp 1 [(51,vP b3 4)] (sd (dlb 52 0 4 b3 (vI s.to)) (sp 1 [(53,vP b3 3)] (sd (dlb 54 0 3 b3 (vI s.place)) (sp 3 [(48,.bool (cmp .eql s.to s.place))] (ee ?_)))));refine AP (fun a w hS hD hW=>⟨hS.sub (sun 6 (.consE 48 rfl (congrArg Value.bool (by simp only [h8,kk])) (.nil _))),hD,hW⟩)
  have c3:=h8;have c3:=BN c3;refine sp 7 [(48,.bool false)] (ee ?_);refine AP (fun a w hS hD hW=>⟨hS.sub (sun 6 (.consE 48 rfl (congrArg Value.bool (by simp only [h8,kk])) (.nil _))),hD,hW⟩)
 rintro a w ⟨hS,hD,hW⟩
 refine AU hS hD hW ?_;refine rc 48 rfl (fun h9=>?_) (fun h9=>?_)
 ·
  have a9:=h9;obtain ⟨d7,d8⟩:=PY h9;have d7:=BG d7;have d8:=BG d8;refine rqr (sp 1 [(4,vI 4)] (se (BC (RB (RP (FL 4 [] rfl (TC _ (TC _ (TR _))) (IR _) ?_))))));exact ⟨congrArg (Value.int .i64) (by simp only [FT,QS,a0,a1,a2,a4,a8,a9,cond_true,cond_false]),rfl⟩
 have a9:=h9;refine rq ?_;refine DB (fun a w=>SE 90 [(2,vP b1 0),(3,vP b3 0),(4,vI 0),(5,.bool (cmp .eql s.kind 1)),(6,.bool (cmp .eql s.kind 4)),(7,vI (if s.kind=4 then 0 else 1)),(57,.bool ((!(cmp .eql s.kind 1))&&(!(cmp .eql s.to 0))))] I ((bX b3 (BK s) 28)::(bX b1 (AS L (vS b0 L.start.length b2) (vS b4 L.keeps.length b5) (vS b6 L.slips.length b7)) 26)::F) a w) ?_ ?_
 ·
  refine rr (sp 3 [(60,.bool (!(cmp .eql s.kind 1)))] ?_);refine BH 60 rfl (fun d0=>?_) (fun d0=>?_)
  ·
   have a5:=d0;have a5:=BN (BP a5);refine sp 1 [(61,vP b3 4)] (sd (dlb 62 0 4 b3 (vI s.to)) (sp 3 [(57,.bool (!(cmp .eql s.to 0)))] (ee ?_)));refine AP (fun a w hS hD hW=>⟨hS.sub (sun 6 (.consE 57 rfl (congrArg Value.bool (by simp only [d0,kk])) (.nil _))),hD,hW⟩)
  have a5:=d0;have a5:=BG (BI a5);refine sp 5 [(57,.bool false)] (ee ?_);refine AP (fun a w hS hD hW=>⟨hS.sub (sun 6 (.consE 57 rfl (congrArg Value.bool (by simp only [d0,kk])) (.nil _))),hD,hW⟩)
 rintro a w ⟨hS,hD,hW⟩
 refine AU hS hD hW ?_;refine rc 57 rfl (fun d9=>?_) (fun d9=>?_)
 ·
  have a3:=d9;obtain ⟨c6,c7⟩:=PY d9;have c6:=BN (BP c6);have c7:=BN (BP c7);refine rqr (sp 1 [(4,vI 1)] (se (BC (RB (RP (FL 4 [] rfl (TC _ (TC _ (TR _))) (IR _) ?_))))));exact ⟨congrArg (Value.int .i64) (by simp only [FT,QS,a0,a1,a2,a4,a8,a9,a3,cond_true,cond_false]),rfl⟩
 have a3:=d9;refine rqr (sp 1 [(66,vP b3 5)] (sd (dlb 67 0 5 b3 (vI s.sort)) (sp 1 [(68,vP b1 1)] (sd (dlb 69 1 1 b1 (vI L.sorts)) (sd (dsb 70 L.sorts 1) (sd (dc 71 (fun I' hI=>(ME I' s.sort 0 (L.sorts-1) :))) (sp 2 [(65,.bool (!(inB s.sort 0 (L.sorts-1))))] (se (rc 65 rfl (fun c4=>?_) (fun c4=>?_))))))))))
 ·
  have a6:=c4;have c4:=BP c4;have d1:=NW c4;refine rqr (sp 1 [(4,vI 3)] (se (BC (RB (RP (FL 4 [] rfl (TC _ (TC _ (TR _))) (IR _) ?_))))));exact ⟨congrArg (Value.int .i64) (by simp only [FT,QS,a0,a1,a2,a4,a8,a9,a3,a6,cond_true,cond_false]),rfl⟩
 have a6:=c4;have c4:=BI c4;have d1:=FN c4;refine rq ?_;refine DB (fun a w=>SE 90 [(3,vP b3 0),(4,vI 0),(7,vI (if s.kind=4 then 0 else 1)),(73,.bool ((s.soil)&&((!(cmp .eql s.kind 1))&&(!(cmp .eql s.kind 4)))))] I ((bX b3 (BK s) 28)::(bX b1 (AS L (vS b0 L.start.length b2) (vS b4 L.keeps.length b5) (vS b6 L.slips.length b7)) 26)::F) a w) ?_ ?_
 ·
  refine rr (sp 1 [(74,vP b3 6)] (sd (dlb 75 0 6 b3 (.bool s.soil)) (sp 1 [(76,.bool s.soil)] ?_)));refine BH 76 rfl (fun c9=>?_) (fun c9=>?_)
  ·
   have d2:=c9;refine sp 4 [(80,.bool (!(cmp .eql s.kind 1)))] ?_;refine BH 80 rfl (fun d3=>?_) (fun d3=>?_)
   ·
    have a7:=d3;have a7:=BN (BP a7);refine sp 4 [(73,.bool (!(cmp .eql s.kind 4)))] (ee ?_);refine AP (fun a w hS hD hW=>⟨hS.sub (sun 3 (.consE 73 rfl (congrArg Value.bool (by simp only [c9,d3,kk])) (.nil _))),hD,hW⟩)
   have a7:=d3;have a7:=BG (BI a7);refine sp 4 [(73,.bool false)] (ee ?_);refine AP (fun a w hS hD hW=>⟨hS.sub (sun 3 (.consE 73 rfl (congrArg Value.bool (by simp only [c9,d3,kk])) (.nil _))),hD,hW⟩)
  have d2:=c9;refine sp 8 [(73,.bool false)] (ee ?_);refine AP (fun a w hS hD hW=>⟨hS.sub (sun 3 (.consE 73 rfl (congrArg Value.bool (by simp only [c9,kk])) (.nil _))),hD,hW⟩)
 rintro a w ⟨hS,hD,hW⟩
 refine AU hS hD hW ?_;refine rc 73 rfl (fun e0=>?_) (fun e0=>?_)
 ·
  have c0:=e0;obtain ⟨f3,d4⟩:=PY e0;obtain ⟨b8,b9⟩:=PY d4;have b8:=BN (BP b8);have b9:=BN (BP b9);refine rqr (sp 1 [(4,vI 1)] (se (BC (RB (RP (FL 4 [] rfl (TC _ (TC _ (TR _))) (IR _) ?_))))));exact ⟨congrArg (Value.int .i64) (by simp only [FT,QS,a0,a1,a2,a4,a8,a9,a3,a6,c0,cond_true,cond_false]),rfl⟩
 have c0:=e0;refine rqr (sp 1 [(85,vP b3 7)] (sd (dlb 86 0 7 b3 (vI s.amt)) (sp 1 [(87,vI (if s.kind=4 then 0 else 1))] (sd (dc 88 (fun I' hI=>(ME I' s.amt (if s.kind=4 then 0 else 1) 50 :))) (sp 2 [(84,.bool (!(inB s.amt (if s.kind=4 then 0 else 1) 50)))] (se (rc 84 rfl (fun c5=>?_) (fun c5=>?_))))))))
 ·
  have c1:=c5;have c5:=BP c5;have d5:=NW c5;refine rqr (sp 1 [(4,vI 1)] (se (BC (RB (RP (FL 4 [] rfl (TC _ (TC _ (TR _))) (IR _) ?_))))));exact ⟨congrArg (Value.int .i64) (by simp only [FT,QS,a0,a1,a2,a4,a8,a9,a3,a6,c0,c1,cond_true,cond_false]),rfl⟩
 have c1:=c5;have c5:=BI c5;have d5:=FN c5;refine AO (NB (NX (rqr (sp 1 [(4,vI 0)] (se (BC (FL 4 [] rfl (TC _ (TC _ (TR _))) (IR _) ?_)))))));exact ⟨congrArg (Value.int .i64) (by simp only [FT,QS,a0,a1,a2,a4,a8,a9,a3,a6,c0,c1,cond_true,cond_false]),rfl⟩
noncomputable def c_numbered1:=cod Tryz.f129
theorem num1_ct (I:Imm) (x:Slip) (n:Int) (b:Nat) (hb:I.blk b=some (Obj.cells #[vI n] 3 (0,0))):CtV Tryz.prog 129 #[.agg #[vI x.num,vI x.hour,vI x.kind,vI x.place,vI x.to,vI x.sort,.bool x.soil,vI x.amt],vP b 0] I (.bool (decide (x.num=n))):=by
 refine fr (args:=[_,_]) (N:=8) Tryz.func129 (fun F=>?_);show Run _ _ (c_numbered1 []) _ _ [(0,_),(1,_)] _ _;refine rnm (rqr ?_);refine sS (sb 2 28 (BK x) (fun b1=>(sp 1 [(3,.bool false)] (sn (sp 1 [(4,vP b1 0)] (sd (dlb 5 0 0 b1 (vI x.num)) (sd (dld 6 1 3 (vI n) rfl (AR hb rfl)) (sp 2 [(3,.bool (cmp .eql x.num n))] (se (BC (FL 3 [] rfl (TC _ (TR _)) (IR _) ?_)))))))))));exact ⟨congrArg Value.bool (by simp only [KS]),rfl⟩
noncomputable def c_numbered:=cod Tryz.f77
theorem NZ (I:Imm) (n:Int):Ct Tryz.prog 77 #[vI n] I ([]) (fun v I' M'=>∃ bq:Nat,v=.func (.func 129) #[] #[vP bq 0]∧M'=[]∧(I'.blk bq=some (Obj.cells #[vI n] 3 (0,0)))):=by
 refine fr (args:=[_]) (N:=4) Tryz.func77 (fun F=>?_);show Run _ _ (c_numbered []) _ _ [(0,_)] _ _;refine rnm (rqr ?_);refine sS (sb 1 3 #[vI n] (fun b1=>(sp 1 [(2,.nilFunc)] (se (rq ?_)))));refine HF (b:=b1) (o:=Obj.cells #[vI n] 3 (0,0)) (M0:=(F)) (PR _) (fun I3 a0 a1=>(rr (sp 2 [(2,.func (.func 129) #[] #[vP b1 0])] (se (BC (rt1 2 rfl a0 ?_))))));exact ⟨_,rfl,rfl,a1⟩
noncomputable def c_LCheck:=cod Tryz.f47
theorem HU (I:Imm) (l:Value) (L:Lin) (l_f:IsLin I l L):CtV Tryz.prog 47 #[l] I (vI (AJ L)):=by
 obtain ⟨l1,l2,l3,rfl,b2,b4,a9⟩:=id l_f;obtain ⟨a2,a3,d7,e0,d5,rfl,d8,d9,e1,e2⟩:=id b2;obtain ⟨a4,a5,e3,e6,rfl,e4,e5,e7⟩:=id b4;obtain ⟨a0,a1,e8,f1,rfl,e9,f0,b7⟩:=id a9;refine fr (args:=[_]) (N:=55) Tryz.func47 (fun F=>?_);show Run _ _ (c_LCheck []) _ _ [(0,_)] _ _;refine rnm (rqr ?_);refine sS (sb 1 26 (AS L (vS a2 L.start.length a3) (vS a4 L.keeps.length a5) (vS a0 L.slips.length a1)) (fun b1=>(sp 1 [(2,vI 0)] (se (rq (rq ?_))))));refine DB (fun a w=>SE 55 [(1,vP b1 0),(2,vI 0),(17,.bool ((!(inB L.places 1 4))||(!(inB L.sorts 1 2))))] I ((bX b1 (AS L (vS a2 L.start.length a3) (vS a4 L.keeps.length a5) (vS a0 L.slips.length a1)) 26)::F) a w) ?_ ?_
 ·
  refine rr (sp 1 [(8,vP b1 0)] (sd (dlb 9 0 0 b1 (vI L.places)) (sd (dc 10 (fun I' hI=>(ME I' L.places 1 4 :))) (sp 2 [(12,.bool (!(inB L.places 1 4)))] ?_))));refine BH 12 rfl (fun h1=>?_) (fun h1=>?_)
  ·
   have a7:=h1;have a7:=BP a7;have b9:=NW a7;refine sp 5 [(17,.bool true)] (ee ?_);refine AP (fun a w hS hD hW=>⟨hS.sub (sun 2 (.consE 17 rfl (congrArg Value.bool (by simp only [h1,kk])) (.nil _))),hD,hW⟩)
  have a7:=h1;have a7:=BI a7;have b9:=FN a7;refine sp 1 [(13,vP b1 1)] (sd (dlb 14 0 1 b1 (vI L.sorts)) (sd (dc 15 (fun I' hI=>(ME I' L.sorts 1 2 :))) (sp 2 [(17,.bool (!(inB L.sorts 1 2)))] (ee ?_))));refine AP (fun a w hS hD hW=>⟨hS.sub (sun 2 (.consE 17 rfl (congrArg Value.bool (by simp only [h1,kk])) (.nil _))),hD,hW⟩)
 rintro a w ⟨hS,hD,hW⟩
 refine AU hS hD hW ?_;refine rc 17 rfl (fun h2=>?_) (fun h2=>?_)
 ·
  have a6:=h2;refine rqr (sp 1 [(2,vI 1)] (se (BC (RP (FL 2 [] rfl (TC _ (TR _)) (IR _) ?_)))));exact ⟨congrArg (Value.int .i64) (by simp only [OV,linC,a6,cond_true,cond_false]),rfl⟩
 have a6:=h2;obtain ⟨c0,c1⟩:=or_f h2;have c0:=BI c0;have c5:=FN c0;have c1:=BI c1;have c6:=FN c1;refine AO (NX (rq (rqr (sd (dnb 18 0 0 b1 (CY L (vS a2 L.start.length a3) (vS a4 L.keeps.length a5) (vS a0 L.slips.length a1))) (sd (dc 19 (fun I' hI=>(checkStart_ct I' _ L ((CM b2 b4 a9).mono hI) (by omega) (by omega) :))) (sp 1 [(3,vI (DK L))] (sn (sp 2 [(21,.bool (!(cmp .eql (DK L) 0)))] (se (rc 21 rfl (fun h3=>?_) (fun h3=>?_)))))))))))
 ·
  have a8:=h3;have h3:=BN (BP h3);refine rqr (sp 2 [(2,vI (DK L))] (se (BC (RP (FL 2 [] rfl (TC _ (TR _)) (IR _) ?_)))));exact ⟨congrArg (Value.int .i64) (by simp only [OV,linC,a6,a8,cond_true,cond_false]),rfl⟩
 have a8:=h3;have h3:=BG (BI h3);refine AO (NX (rq (rqr (sd (dnb 23 0 0 b1 (CY L (vS a2 L.start.length a3) (vS a4 L.keeps.length a5) (vS a0 L.slips.length a1))) (sd (dc 24 (fun I' hI=>(checkKeeps_ct I' _ L ((CM b2 b4 a9).mono hI) (by omega) :))) (sp 1 [(4,vI (DX L))] (sn (sp 2 [(26,.bool (!(cmp .eql (DX L) 0)))] (se (rc 26 rfl (fun h4=>?_) (fun h4=>?_)))))))))))
 ·
  have b0:=h4;have h4:=BN (BP h4);refine rqr (sp 2 [(2,vI (DX L))] (se (BC (RP (FL 2 [] rfl (TC _ (TR _)) (IR _) ?_)))));exact ⟨congrArg (Value.int .i64) (by simp only [OV,linC,a6,a8,b0,cond_true,cond_false]),rfl⟩
 have b0:=h4;have h4:=BG (BI h4);refine AO (NX (rq (rqr (sp 1 [(28,vP b1 4)] (sd (dlb 29 0 4 b1 (vS a0 L.slips.length a1)) (sp 2 [(31,.bool (cmp .gtr (↑(L.slips.length)) 8))] (se (rc 31 rfl (fun h5=>?_) (fun h5=>?_)))))))))
 ·
  have b5:=h5;have h5:=MB h5;refine rqr (sp 1 [(2,vI 6)] (se (BC (RP (FL 2 [] rfl (TC _ (TR _)) (IR _) ?_)))));exact ⟨congrArg (Value.int .i64) (by simp only [OV,linC,a6,a8,b0,b5,cond_true,cond_false]),rfl⟩
 have b5:=h5;have h5:=SC h5;refine AO (NX (rq (rqr (sp 1 [(32,vP b1 4)] (sd (dlb 33 0 4 b1 (vS a0 L.slips.length a1)) (sp 2 [(35,vI 0),(34,vI (↑(L.slips.length)))] (se (rb 0 ?_))))))));refine rl (fun mz a w=>∃ J0:Imm,∃ k:Nat,(I.le J0)∧(k≤L.slips.length)∧(GA (DC L) k=0)∧SD 55 [(35,vI ↑k),(1,vP b1 0),(33,vS a0 L.slips.length a1),(34,vI (↑(L.slips.length)))] J0 ((bX b1 (AS L (vS a2 L.start.length a3) (vS a4 L.keeps.length a5) (vS a0 L.slips.length a1)) 26)::F) a w (mz=L.slips.length-k)) ?_ ?_
 ·intro a w hS hD hW;exact ⟨_,I,0,IR _,Nat.zero_le _,rfl,hS.sub su,hD,hW,rfl⟩
 rintro mz a w ⟨J0,k,hJ0,hk,hz,hS,hD,hW,rfl⟩
 refine AU hS hD hW ?_;replace b2:=b2.mono hJ0;replace b4:=b4.mono hJ0;replace a9:=a9.mono hJ0;replace b7:=b7.mono hJ0;refine rqr (sp 1 [(36,.bool (cmp .lss ↑k (↑(L.slips.length))))] (se (rq (rc 36 rfl (fun h6=>?_) (fun h6=>?_)))))
 ·
  have c7:=h6;have h6:=CI h6;refine AO (NX (rq (rb 1 (rqr (sp 1 [(37,vI ↑k)] (sd (di 38 8 k b7.addr) (sd (dln 39 38 28 (GX (L.slips.getD k AB)) rfl (CE (vals:=DJ) (fun _=>rfl) b7 k (by omega))) (sS (sal 6 28 JK (fun b3=>(sp 1 [(5,vI ↑k)] (sS (ss 0 0 b3 (GX (L.slips.getD k AB)) (GX (L.slips.getD k AB)) (_::_::_) (cs:=[_,_,_,_,_,_,_,_]) rfl rfl (se (rq (rqr (sd (dnb 40 1 0 b1 (CY L (vS a2 L.start.length a3) (vS a4 L.keeps.length a5) (vS a0 L.slips.length a1))) (sd (dnb 41 0 0 b3 (GX (L.slips.getD k AB))) (sd (dc 42 (fun I' hI=>(checkSlip_ct I' _ L (L.slips.getD k AB) ((CM b2 b4 a9).mono hI) (by omega) (by omega) :))) (sp 1 [(7,vI (EC L (L.slips.getD k AB)))] (sn (sp 2 [(44,.bool (!(cmp .eql (EC L (L.slips.getD k AB)) 0)))] (se (rc 44 rfl (fun h7=>?_) (fun h7=>?_)))))))))))))))))))))))))
  ·
   have c8:=h7;have h7:=BN (BP h7);refine rqr (sp 2 [(2,vI (EC L (L.slips.getD k AB)))] (se (BC (RP (RB (RP (RP (RB (RP (FL 2 [] rfl (TC _ (TC _ (TR _))) hJ0 ?_))))))))));exact ⟨congrArg (Value.int .i64) (linErr_at (slips_hit hz (by omega) (slipAt_bad h7) h7) a6 a8 b0 b5).symm,rfl⟩
  have c8:=h7;have h7:=BG (BI h7);refine AO (NX (rq ?_));refine rd 7 [(0,true),(1,true),(2,true),(3,true),(4,true),(5,true),(6,false)] ((bX b3 (BK (L.slips.getD k AB)) 28)::(bX b1 (AS L (vS a2 L.start.length a3) (vS a4 L.keeps.length a5) (vS a0 L.slips.length a1)) 26)::[]) F (ox 1 [(46,vP b1 4)] ?_);refine AD (dlb 47 1 4 b1 (vS a0 L.slips.length a1)) (ox 1 [(48,vI ↑k)] ?_);have b6:=a9.cutHi k (by omega);obtain ⟨f5,f7,f6,g0,c4,f8,f9,g1⟩:=id b6;rw [c4] at b6;refine AD (EU (KH (x:=(.tmp 47)) (lo:=none) (hi:=(some (.tmp 48))) (T:=24) (e:=28) (sz:=8) 0 k (d:=49) (ty:=24) (gd:=none) (by kernel_rfl) rfl (by kernel_rfl) (by kernel_rfl) rfl (.inl ⟨rfl,rfl⟩) (.inr ⟨_,.i64,rfl,rfl⟩) (by omega) (by omega)) c4) (ox 1 [(50,vP b3 0)] ?_);refine AD (dlb 51 0 0 b3 (vI ((L.slips.getD k AB).num))) ?_;refine HB (sc (some 52) (F:=((bX b3 (BK (L.slips.getD k AB)) 28)::(bX b1 (AS L (vS a2 L.start.length a3) (vS a4 L.keeps.length a5) (vS a0 L.slips.length a1)) 26)::F)) (NZ _ ((L.slips.getD k AB).num) :) (PR _) (fun f4 I6 f3 c2 d6=>?_));obtain ⟨b8,d4,c3,d3⟩:=d6;rw [d4,c3];clear d4 c3;replace b6:=b6.mono c2;refine CR (S':=(F)) (PR _) ?_;show OFP _ _ _ _ _ _ ((52,.func (.func 129) #[] #[vP b8 0])::_) _ _;refine HP (nm (nm ?_));refine sd (dc 53 (fun I' hI=>(ConSlip_ct I' _ _ 129 ([vP b8 0]) (fun x=>decide (x.num=((L.slips.getD k AB).num))) (b6.mono hI) (by kernel_rfl) (fun J hJ x=>num1_ct J x ((L.slips.getD k AB).num) b8 ((IT hI hJ).blk _ _ d3)) :))) (se (rc 53 rfl (fun h8=>?_) (fun h8=>?_)))
  ·
   have c9:=h8;refine rqr (sp 1 [(2,vI 4)] (se (BC (RB (RP (RP (RB (RP (FL 2 [] rfl (TC _ (TC _ (TR _))) (IT hJ0 c2) ?_)))))))));exact ⟨congrArg (Value.int .i64) (linErr_at (slips_hit hz (by omega) (slipAt_dup h7 h8) (by decide)) a6 a8 b0 b5).symm,rfl⟩
  have c9:=h8;refine AO (NB (NX (rr (sd (da 54 ↑k 1) (sp 1 [(35,vI (↑k+1))] (ee ?_))))));refine AM (L.slips.length-(k+1)) (by omega) ?_;intro a w hS hD hW;exact ⟨I6,k+1,(IT hJ0 c2),by omega,firstE_next hz (slipAt_ok h7 h8),hS.sub su,hD,(hW.perm (PR _)).sub (TC _ (TR _)),rfl⟩
 have c7:=h6;have h6:=CS h6;refine BW 0 (EP (EP (EB (NX (rqr (sp 1 [(2,vI 0)] (se (BC (FL 2 [] rfl (TC _ (TR _)) hJ0 ?_)))))))));exact ⟨congrArg (Value.int .i64) (linErr_at ((show k=L.slips.length by omega)▸hz) a6 a8 b0 b5).symm,rfl⟩
noncomputable def c_EqKeepS_ct:=cod Tryz.f112
theorem EqKeepS_ct (I:Imm) (a:Value) (xs:List Keep) (b:Value) (ys:List Keep) (a_f:FR I a xs) (b_f:FR I b ys):CtV Tryz.prog 112 #[a,b] I (.bool (decide (xs=ys))):=by
 obtain ⟨a0,a1,b1,b4,rfl,b2,b3,a7⟩:=id a_f;obtain ⟨a2,a3,b5,b8,rfl,b6,b7,a8⟩:=id b_f;refine fr (args:=[_,_]) (N:=26) Tryz.func112 (fun F=>?_);show Run _ _ (c_EqKeepS_ct []) _ _ [(0,_),(1,_)] _ _;refine rnm (rqr ?_);refine sp 1 [(4,.bool false)] (se (rq (rqr (sp 5 [(10,.bool (!(cmp .eql (↑(xs.length)) (↑(ys.length)))))] (se (rc 10 rfl (fun h1=>?_) (fun h1=>?_)))))))
 ·
  have a4:=h1;have h1:=BN (BP h1);refine rqr (sp 1 [(4,.bool false)] (se (BC (RP (rt1 4 rfl (IR _) ?_)))));exact ⟨by rw [decide_eq_false (fun e=>h1 (by rw [e]))],rfl⟩
 have a4:=h1;have h1:=BG (BI h1);refine AO (NX (rq (rqr (sp 3 [(13,vI 0),(12,vI (↑(xs.length)))] (se (rb 0 ?_))))));refine rl (fun mz a w=>∃ k:Nat,(k≤xs.length)∧(xs.length=ys.length)∧(xs.take k=ys.take k)∧SD 26 [(13,vI ↑k),(0,vS a0 xs.length a1),(1,vS a2 ys.length a3),(12,vI (↑(xs.length)))] I F a w (mz=xs.length-k)) ?_ ?_
 ·intro a w hS hD hW;exact ⟨_,0,Nat.zero_le _,by omega,rfl,hS.sub su,hD,hW,rfl⟩
 rintro mz a w ⟨k,hk,hl,ht,hS,hD,hW,rfl⟩
 refine AU hS hD hW ?_;clear hS hD hW a w;refine rqr (sp 1 [(14,.bool (cmp .lss ↑k (↑(xs.length))))] (se (rq (rc 14 rfl (fun h2=>?_) (fun h2=>?_)))))
 ·
  have a5:=h2;have h2:=CI h2;refine AO (NX (rq (rb 1 (rqr (sp 2 [(5,vI ↑k)] (se (rq ?_)))))));refine rd0 8 (ox 2 [(17,vI ↑k),(16,vS a0 xs.length a1)] ?_);refine AD (di 18 3 k a7.addr) ?_;refine AD (dln 19 18 50 (keepL (xs.getD k AQ)) rfl (CE (vals:=IH) (fun _=>rfl) a7 k (by omega))) (ox 2 [(21,vI ↑k),(20,vS a2 ys.length a3)] ?_);refine AD (di 22 3 k a8.addr) ?_;refine AD (dln 23 22 50 (keepL (ys.getD k AQ)) rfl (CE (vals:=IH) (fun _=>rfl) a8 k (by omega))) ?_;refine AY (sd (HM (L:=[(0,.i .i64),(1,.i .i64),(2,.i .i64)]) (x:=(.tmp 19)) (y:=(.tmp 23)) (T:=50) (T':=50) (d:=24) (ty:=4) (gd:=none) (by kernel_rfl) rfl (by kernel_rfl) rfl rfl rfl (eqKeep (xs.getD k AQ) (ys.getD k AQ))) (se (rc 24 rfl (fun h3=>?_) (fun h3=>?_))))
  ·
   have a6:=h3;have h3:=SB (BP h3);refine rqr (sp 1 [(4,.bool false)] (se (BC (RB (RP (RP (RB (RP (rt1 4 rfl (IR _) ?_)))))))));exact ⟨by rw [decide_eq_false (KV hl h3)],rfl⟩
  have a6:=h3;have h3:=NT (BI h3);refine AO (NB (NX (rr (sd (da 25 ↑k 1) (sp 1 [(13,vI (↑k+1))] (ee ?_))))));refine AM (xs.length-(k+1)) (by omega) ?_;intro a w hS hD hW;exact ⟨k+1,by omega,hl,GJ (d:=AQ) hl ht (by omega) h3,hS.sub su,hD,hW,rfl⟩
 have a5:=h2;have h2:=CS h2;refine BW 0 (EP (EP (EB (NX (rqr (sp 1 [(4,.bool true)] (se (BC (rt1 4 rfl (IR _) ?_)))))))));exact ⟨by rw [decide_eq_true (IM hl ht (by omega))],rfl⟩
noncomputable def c_EqRowsF:=cod Tryz.f110
theorem EqRowsF_ct (I:Imm) (a:Value) (xs:List (List Int)) (b:Value) (ys:List (List Int)) (a_f:IsRows I a xs) (b_f:IsRows I b ys):CtV Tryz.prog 110 #[a,b,.func (.func 111) #[] #[]] I (.bool (decide (xs=ys))):=by
 obtain ⟨a8,a9,d3,d6,b8,rfl,d4,d5,b5,b9⟩:=id a_f;obtain ⟨b0,b1,d7,e0,c1,rfl,d8,d9,b6,c2⟩:=id b_f;refine fr (args:=[_,_,_]) (N:=32) Tryz.func110 (fun F=>?_);show Run _ _ (c_EqRowsF []) _ _ [(0,_),(1,_),(2,_)] _ _;refine rnm (rqr ?_);refine sp 1 [(6,.bool false)] (se (rq (rqr (sp 5 [(14,.bool (!(cmp .eql (↑(xs.length)) (↑(ys.length)))))] (se (rc 14 rfl (fun h1=>?_) (fun h1=>?_)))))))
 ·
  have b2:=h1;have h1:=BN (BP h1);refine rqr (sp 1 [(6,.bool false)] (se (BC (RP (rt1 6 rfl (IR _) ?_)))));exact ⟨by rw [decide_eq_false (fun e=>h1 (by rw [e]))],rfl⟩
 have b2:=h1;have h1:=BG (BI h1);refine AO (NX (rq (rqr (sp 3 [(17,vI 0),(16,vI (↑(xs.length))),(15,vS a8 xs.length a9)] (se (rb 0 ?_))))));refine rl (fun mz a w=>∃ k:Nat,(k≤xs.length)∧(xs.length=ys.length)∧(xs.take k=ys.take k)∧SD 32 [(17,vI ↑k),(1,vS b0 ys.length b1),(2,.func (.func 111) #[] #[]),(15,vS a8 xs.length a9),(16,vI (↑(xs.length)))] I F a w (mz=xs.length-k)) ?_ ?_
 ·intro a w hS hD hW;exact ⟨_,0,Nat.zero_le _,by omega,rfl,hS.sub su,hD,hW,rfl⟩
 rintro mz a w ⟨k,hk,hl,ht,hS,hD,hW,rfl⟩
 refine AU hS hD hW ?_;clear hS hD hW a w;refine rqr (sp 1 [(18,.bool (cmp .lss ↑k (↑(xs.length))))] (se (rq (rc 18 rfl (fun h2=>?_) (fun h2=>?_)))))
 ·
  have b3:=h2;have h2:=CI h2;refine AO (NX (rq (rb 1 (rqr (sp 1 [(19,vI ↑k)] (sd (di 20 1 k b5.addr) ?_))))));have a0:=b9 k (by omega);obtain ⟨a2,a3,c3,c6,a4,c4,c5,c7⟩:=id a0;rw [a4] at a0;refine sd (EU (dl 21 (HT b5 k (by omega))) a4) (sp 2 [(8,vS a2 (xs.getD k []).length a3),(7,vI ↑k)] (sn (sp 2 [(23,vI ↑k),(22,vS b0 ys.length b1)] (sd (di 24 1 k b6.addr) ?_))));have a1:=c2 k (by omega);obtain ⟨a5,a6,c8,d1,a7,c9,d0,d2⟩:=id a1;rw [a7] at a1;refine sd (EU (dl 25 (HT b6 k (by omega))) a7) (sp 1 [(9,vS a5 (ys.getD k []).length a6)] (sn (sp 3 [(28,vS a5 (ys.getD k []).length a6),(27,vS a2 (xs.getD k []).length a3),(26,.func (.func 111) #[] #[])] (sd (dc 29 (fun I' hI=>(slicesEqual_ct I' _ _ _ _ (a0.mono hI) (a1.mono hI) :))) (sp 1 [(30,.bool (!(decide ((xs.getD k [])=(ys.getD k [])))))] (se (rc 30 rfl (fun h3=>?_) (fun h3=>?_))))))))
  ·
   have b4:=h3;have h3:=SB (BP h3);refine rqr (sp 1 [(6,.bool false)] (se (BC (RB (RP (RP (RB (RP (rt1 6 rfl (IR _) ?_)))))))));exact ⟨by rw [decide_eq_false (KV hl h3)],rfl⟩
  have b4:=h3;have h3:=NT (BI h3);refine AO (NB (NX (rr (sd (da 31 ↑k 1) (sp 1 [(17,vI (↑k+1))] (ee ?_))))));refine AM (xs.length-(k+1)) (by omega) ?_;intro a w hS hD hW;exact ⟨k+1,by omega,hl,GJ (d:=[]) hl ht (by omega) h3,hS.sub su,hD,hW,rfl⟩
 have b3:=h2;have h2:=CS h2;refine BW 0 (EP (EP (EB (NX (rqr (sp 1 [(6,.bool true)] (se (BC (rt1 6 rfl (IR _) ?_)))))))));exact ⟨by rw [decide_eq_true (IM hl ht (by omega))],rfl⟩
end Go.Proofs.YtgcemienebmdeaaGreat
namespace Go.Sl
open Go
open Go.Conc (G)
inductive Tree
  | leaf
  | node (f:Go.World→Tree)
inductive Twig:Tree→Tree→Prop
  | mk (f:Go.World→Tree) (w:Go.World):Twig (f w) (.node f)
theorem acc_tree (x:Tree):Acc Twig x:=by
  induction x with
  | leaf=>exact ⟨_,fun y h=>by cases h⟩
  | node f ih=>exact ⟨_,fun y h=>by cases h with | mk _ w=>exact ih w⟩
def Red (l' l:List Tree):Prop:=∃ A x y B,l=A++x::B∧l'=A++y::B∧Twig y x
theorem acc_red (l:List Tree):Acc Red l:=by
  induction l with
  | nil=>exact ⟨_,fun l' ⟨A,x,y,B,e,_⟩=>by cases A <;> simp at e⟩
  | cons x l ih=>
    have hx:=acc_tree x
    induction hx generalizing l with
    | intro x _ ihx=>
      induction ih with
      | intro l hl ihl=>
        refine ⟨_,fun l' ⟨A,u,v,B,e1,e2,s⟩=>?_⟩;cases A with
        | nil=>
          simp only [List.nil_append,List.cons.injEq] at e1 e2;obtain ⟨rfl,rfl⟩:=e1;subst e2;exact ihx v s l ⟨_,hl⟩
        | cons a A=>
          simp only [List.cons_append,List.cons.injEq] at e1 e2;obtain ⟨rfl,rfl⟩:=e1;subst e2;exact ihl _ ⟨A,u,v,B,rfl,rfl,s⟩
def natT:Nat→Tree
  | 0=>.leaf
  | n+1=>.node fun _=>natT n
def NG (n:Nat) (τ:Nat→Tree):List Tree:=(List.range n).map τ
def setT (τ:Nat→Tree) (i:Nat) (x:Tree):Nat→Tree:=fun j=>if j=i then x else τ j
theorem KK (τ:Nat→Tree) (i:Nat) (x:Tree):setT τ i x i=x:=by simp [setT]
theorem IE (τ:Nat→Tree) {i j:Nat} (x:Tree) (h:j≠i):setT τ i x j=τ j:=by simp [setT,h]
theorem QF {n i:Nat} {τ:Nat→Tree} {y:Tree} (hi:i<n) (h:Twig y (τ i)):Red (NG n (setT τ i y)) (NG n τ):=by
  obtain ⟨m,rfl⟩:∃ m,n=i+(m+1):=⟨n-(i+1),by omega⟩;have split:List.range (i+(m+1))=List.range i++i::(List.range' (i+1) m):=by
    rw [List.range_eq_range',List.range_eq_range',← List.range'_append_1,List.range'_succ];simp
  refine ⟨(List.range i).map τ,τ i,y,(List.range' (i+1) m).map τ,?_,?_,h⟩
  · unfold NG;rw [split];simp
  · unfold NG
    rw [split,List.map_append,List.map_cons,KK]
    congr 1
    · exact List.map_congr_left fun j hj=>IE τ y (by have:=List.mem_range.1 hj;omega)
    · congr 1
      exact List.map_congr_left fun j hj=>IE τ y (by have:=List.mem_range'.1 hj;omega)
def Tr (P:Program) (Q:Cf→Prop):Tree→Cf→Prop
  | .leaf,c=>Q c
  | .node f,c=>∀ w,Mod c.σ w→∃ fr' cs' w' es σ',(∀ main,stepG P main (G c.fr c.cs) w=.go (G fr' cs') w' es)∧Guar c.σ w w' es σ'∧Tr P Q (f w) ⟨fr',cs',σ'⟩
theorem tr_one {P:Program} {c:Cf} {Q:Cf→Prop} (h:OneStep P c fun d=>∃ T,Tr P Q T d):∃ T,Tr P Q T c:=by
  have:∀ w,∃ T,Mod c.σ w→∃ fr' cs' w' es σ',(∀ main,stepG P main (G c.fr c.cs) w=.go (G fr' cs') w' es)∧Guar c.σ w w' es σ'∧Tr P Q T ⟨fr',cs',σ'⟩:=fun w=>by
    by_cases hw:Mod c.σ w
    · obtain ⟨fr',cs',w',es,σ',h1,h2,T,h3⟩:=h w hw
      exact ⟨T,fun _=>⟨fr',cs',w',es,σ',h1,h2,h3⟩⟩
    · exact ⟨.leaf,fun h=>absurd h hw⟩
  exact ⟨.node fun w=>Classical.choose (this w),fun w=>Classical.choose_spec (this w)⟩
theorem tr_bind {P:Program} {Q R:Cf→Prop} (k:∀ d,Q d→∃ T,Tr P R T d):∀ (T:Tree) (c:Cf),Tr P Q T c→∃ T,Tr P R T c:=by
  intro T
  induction T with
  | leaf=>exact fun c h=>k c h
  | node f ih=>
    intro c h;exact tr_one fun w hw=>let ⟨fr',cs',w',es,σ',h1,h2,h3⟩:=h w hw;⟨fr',cs',w',es,σ',h1,h2,ih w _ h3⟩
@[reducible] def JC (P:Program):Jud P where
  gets c Q:=∃ T,Tr P Q T c
  stop h:=⟨.leaf,h⟩
  bind h k:=let ⟨T,hT⟩:=h;tr_bind k T _ hT
  one h:=tr_one (h.mono fun _ hd=>⟨.leaf,hd⟩)
open Go Go.Conc
def locB:Loc→Option Nat
  | .cell a=>some a.block
  | .obj r=>some r
  | _=>none
def Kn (t:Trace) (g:Nat) (σ:GW):Prop:=∀ i a b,touchAt t i=some a→locB a.loc=some b→σ.blk b≠none→(a.write=true∨¬ σ.pub b)→Knows t g i
def Low (t:Trace) (n:Nat):Prop:=∀ op∈t,op.act.low n
theorem low_touch {x:MemAct} {a:Touch} {b n:Nat} (h:x.low n) (ha:x.touch?=some a) (hb:locB a.loc=some b):b<n:=by
  cases x with
  | access e=>
    simp only [MemAct.touch?,Option.some.injEq] at ha;subst ha;obtain ⟨loc,wr,sy⟩:=e;cases loc <;> simp only [locB,Option.some.injEq] at hb <;> first | (subst hb;exact h) | cases hb
  | mark m=>
    cases m <;> simp only [MemAct.touch?,Option.some.injEq] at ha <;> first | (subst ha;simp only [locB,Option.some.injEq] at hb;subst hb;exact h) | cases ha
  | _=>cases ha
theorem Low.at {t:Trace} {n i b:Nat} {a:Touch} (h:Low t n) (ha:touchAt t i=some a) (hb:locB a.loc=some b):b<n:=by
  obtain ⟨op,ho,hox⟩:=touch_of ha;exact low_touch (h op (mem_of_getElem? ho)) hox hb
theorem ev_touch {σ:GW} {e:Event} {x:Touch} (h:okEv σ e) (hx:(MemAct.ofEvent e).touch?=some x):∃ b,locB x.loc=some b∧σ.blk b≠none∧(x.write=true→¬ σ.pub b):=by
  obtain ⟨loc,wr,sy⟩:=e;cases loc with
  | cell a=>
    simp only [MemAct.ofEvent,MemAct.touch?,Option.some.injEq] at hx;subst hx;exact ⟨_,rfl,h.1,h.2⟩
  | obj r=>
    cases wr <;> cases sy <;> simp only [MemAct.ofEvent,MemAct.touch?,Option.some.injEq] at hx <;> first | (subst hx;exact ⟨_,rfl,h.1,h.2⟩) | cases hx
  | mark m=>cases m <;> first | (simp only [MemAct.ofEvent,MemAct.touch?] at hx;cases hx;done) | exact h.elim
  | output=>exact h.elim
  | goroutines=>exact h.elim
theorem ev_low {σ:GW} {w:Go.World} {e:Event} (h:okEv σ e) (hw:Mod σ w):(MemAct.ofEvent e).low w.heap.size:=by
  have lt:∀ b,σ.blk b≠none→b<w.heap.size:=fun b hb=>by
    cases hx:σ.blk b with
    | none=>exact absurd hx hb
    | some o=>exact (Array.getElem?_eq_some_iff.1 (hw.blk b o hx)).1
  obtain ⟨loc,wr,sy⟩:=e;cases loc with
  | cell a=>exact lt _ h.1
  | obj r=>cases wr <;> cases sy <;> exact lt _ h.1
  | mark m=>cases m <;> first | trivial | exact h.elim
  | output=>exact h.elim
  | goroutines=>exact h.elim
theorem ev_word {σ:GW} {e:Event} (h:okEv σ e) (m:Mark) (hm:MemAct.ofEvent e=.mark m):Neutral m:=by
  obtain ⟨loc,wr,sy⟩:=e;cases loc with
  | cell a=>cases hm
  | obj r=>cases wr <;> cases sy <;> cases hm
  | mark k=>cases k <;> first | (cases hm;rfl) | exact h.elim
  | output=>exact h.elim
  | goroutines=>exact h.elim
section
variable {t:Trace} {g j:Nat} {σ σ' τ:GW} {w w':Go.World} {es:Array Event} {fn:FuncId} {pos:String}
theorem words_own (h:Wordless t) (G:Guar σ w w' es σ'):Wordless (t++MemOp.ofEvents g fn pos es):=
  h.append fun op hop m hm=>by obtain ⟨e,he,rfl⟩:=Go.Conc.mem_ofEvents hop;exact ev_word (G.evs e he) m hm
theorem low_mono {n m:Nat} (h:Low t n) (hn:n≤m):Low t m:=fun op hop=>MemAct.low_mono hn (h op hop)
theorem low_own (h:Low t w.heap.size) (G:Guar σ w w' es σ'):Low (t++MemOp.ofEvents g fn pos es) w'.heap.size:=
  seen_app (low_mono h G.size) fun op hop=>by obtain ⟨e,he,rfl⟩:=Go.Conc.mem_ofEvents hop;exact ev_low (G.evs e he) G.mod
theorem kn_own (h:Kn t g σ) (hl:Low t w.heap.size) (G:Guar σ w w' es σ'):Kn (t++MemOp.ofEvents g fn pos es) g σ':=by
  intro i a b ha hb hk hp;obtain ⟨x,hx,hxa⟩:=touch_of ha;rcases getElem?_append_cases hx with ⟨hi,hx'⟩ | ⟨_,hxu⟩
  · have ha':touchAt t i=some a:=by rw [touchAt_of hx'];exact hxa
    have:=hl.at ha' hb;rcases G.new b hk with hk | hk
    · exact (h i a b ha' hb hk (by rw [← G.pub];exact hp)).app _
    · omega
  · obtain ⟨e,_,rfl⟩:=Go.Conc.mem_ofEvents hxu
    exact knows_own hx
theorem kn_other (h:Kn t j τ) (hτ:Mod τ w) (sep:∀ b,τ.blk b≠none→σ.blk b≠none→τ.pub b∧σ.pub b) (G:Guar σ w w' es σ'):Kn (t++MemOp.ofEvents g fn pos es) j τ:=by
  intro i a b ha hb hk hp;obtain ⟨x,hx,hxa⟩:=touch_of ha;rcases getElem?_append_cases hx with ⟨hi,hx'⟩ | ⟨_,hxu⟩
  · exact (h i a b (by rw [touchAt_of hx'];exact hxa) hb hk hp).app _
  · exfalso
    obtain ⟨e,he,rfl⟩:=Go.Conc.mem_ofEvents hxu;obtain ⟨b',h1,h2,h3⟩:=ev_touch (G.evs e he) hxa;rw [hb] at h1;cases h1;have hlt:b<w.heap.size:=by
      cases hx:τ.blk b with
      | none=>exact absurd hx hk
      | some o=>exact (Array.getElem?_eq_some_iff.1 (hτ.blk b o hx)).1
    rcases G.new b h2 with h4 | h4
    · obtain ⟨s1,s2⟩:=sep b hk h4
      rcases hp with hp | hp
      · exact h3 hp (by rw [G.pub];exact s2)
      · exact hp s1
    · omega
theorem kn_app {u:Trace} (h:Kn t j τ) (hu:∀ op∈u,op.act.touch?=none):Kn (t++u) j τ:=by
  intro i a b ha hb hk hp;obtain ⟨x,hx,hxa⟩:=touch_of ha;rcases getElem?_append_cases hx with ⟨hi,hx'⟩ | ⟨_,hxu⟩
  · exact (h i a b (by rw [touchAt_of hx'];exact hxa) hb hk hp).app _
  · rw [hu x hxu] at hxa;cases hxa
theorem clean_own {said:Bool} (h:¬ Race said t) (hk:Kn t g σ) (hl:Low t w.heap.size) (G:Guar σ w w' es σ'):¬ Race said (t++MemOp.ofEvents g fn pos es):=by
  refine noRace_append h (fun op hop=>by obtain ⟨e,_,rfl⟩:=Go.Conc.mem_ofEvents hop;rfl) fun i a ha op hop b hb hc=>?_
  obtain ⟨e,he,rfl⟩:=Go.Conc.mem_ofEvents hop;obtain ⟨n,h1,h2,h3⟩:=ev_touch (G.evs e he) hb;have hn:locB a.loc=some n:=by rw [hc.1];exact h1
  have:=hl.at ha hn;rcases G.new n h2 with h4 | h4
  · refine hk i a n ha hn h4 ?_
    rcases hc.2.2.1 with hw | hw
    · exact .inl hw
    · exact .inr (by rw [← G.pub];exact h3 hw)
  · omega
theorem OL {said:Bool} {u:Trace} (h:¬ Race said t) (hu:∀ op∈u,op.act.touch?=none):¬ Race said (t++u):=by
  rintro ⟨i,j,hij,⟨a,b,ha,hb,hc⟩,n1,n2⟩
  obtain ⟨x,hx,hxa⟩:=touch_of ha;obtain ⟨y,hy,hyb⟩:=touch_of hb;rcases getElem?_append_cases hy with ⟨hj,hy'⟩ | ⟨_,hyu⟩
  · have hi:i<t.size:=Nat.lt_trans hij hj
    have hx':t[i]?=some x:=by rw [← getElem?_append_old (u:=u) hi];exact hx
    exact h ⟨i,j,hij,⟨a,b,by simp [Trace.act?,hx',hxa],by simp [Trace.act?,hy',hyb],hc⟩,fun e=>n1 (hb_app u e),fun e=>n2 (hb_app u e)⟩
  · rw [hu y hyu] at hyb;cases hyb
end
def QY (P:Program) (r:Nat) (m:Value) (n:Nat) (c:Cf):Prop:=
  (∀ w,Mod c.σ w→∃ z,stepG P false (G c.fr c.cs) w=.comm (G c.fr c.cs) #[scase r m z] true .send w #[])∧QuitsIn P n (Go.Conc.served (G c.fr c.cs) undef)
def Wk (P:Program) (r:Nat) (m:Value):Tree→Cf→Prop
  | .leaf,_=>False
  | .node f, c => (∃ n, (∀ w, f w = natT n) ∧ QY P r m n c) ∨
      ∀ w,Mod c.σ w→∃ fr' cs' w' es σ',stepG P false (G c.fr c.cs) w=.go (G fr' cs') w' es∧Guar c.σ w w' es σ'∧Wk P r m (f w) ⟨fr',cs',σ'⟩
theorem wk_of_tr {P:Program} {r:Nat} {m:Value}:∀ (T:Tree) (c:Cf),Tr P (fun d=>∃ n,QY P r m n d) T c→∃ T,Wk P r m T c:=by
  intro T
  induction T with
  | leaf=>exact fun c ⟨n,h⟩=>⟨.node fun _=>natT n,.inl ⟨n,fun _=>rfl,h⟩⟩
  | node f ih=>
    intro c h;have:∀ w,∃ T,Mod c.σ w→∃ fr' cs' w' es σ',stepG P false (G c.fr c.cs) w=.go (G fr' cs') w' es∧Guar c.σ w w' es σ'∧Wk P r m T ⟨fr',cs',σ'⟩:=fun w=>by
      by_cases hw:Mod c.σ w
      · obtain ⟨fr',cs',w',es,σ',h1,h2,h3⟩:=h w hw
        obtain ⟨T,hT⟩:=ih w _ h3;exact ⟨T,fun _=>⟨fr',cs',w',es,σ',h1 false,h2,hT⟩⟩
      · exact ⟨.leaf,fun h=>absurd h hw⟩
    exact ⟨.node fun w=>Classical.choose (this w),.inr fun w=>Classical.choose_spec (this w)⟩
abbrev Acts:=Nat→Option (Cf × Value)
def HH (act:Acts) (i:Nat):Value:=match act i with | some x=>x.2 | none=>undef
def setA (act:Acts) (i:Nat) (x:Option (Cf × Value)):Acts:=fun j=>if j=i then x else act j
theorem AZ (act:Acts) (i:Nat) (x:Option (Cf × Value)):setA act i x i=x:=by simp [setA]
theorem BO (act:Acts) {i j:Nat} (x:Option (Cf × Value)) (h:j≠i):setA act i x j=act j:=by simp [setA,h]
structure Ch (h:Gh) (σ:GW) (w:Go.World) (t:Trace) (act:Acts) (sent:List (Nat × Value)) (q:Nat) (tm:Bool) (L:List Nat):Prop where
  heap:w.heap[h.r]?=some (.chan h.cap (sent.map Prod.snd).toArray false (q+sent.length) q tm)
  free:σ.blk h.r=none
  nodup:L.Nodup
  mem:∀ i,i∈L↔act i≠none
  outs:h.outs.Perm (sent.map Prod.snd++L.map (HH act))
  room:h.outs.length≤h.cap
  said:∀ k g v,sent[k]?=some (g,v)→0<g∧act g=none∧∃ p,t.act? p=some (.send h.r (q+k))∧t.g? p=some g∧∀ i a,touchAt t i=some a→t.g? i=some g→Before t i p
def Chn (o:Option Gh) (σ:GW) (w:Go.World) (t:Trace) (act:Acts) (sent:List (Nat × Value)):Prop:=
  match o with
  | none=>(∀ i,act i=none)∧sent=[]
  | some h=>∃ q tm L,Ch h σ w t act sent q tm L
structure Fr (P:Program) (σ:GW) (g0:Goroutine) (gs:Array Goroutine) (w:Go.World) (t:Trace) (τ:Nat→Tree) (act:Acts) (sent:List (Nat × Value)):Prop where
  main:gs[0]?=some g0
  mod:Mod σ w
  leav:∀ (i:Nat) (g:Goroutine),0<i→gs[i]?=some g→act i=none→∃ k,τ i=natT k∧QuitsIn P k g
  work:∀ i d m,act i=some (d,m)→0<i∧gs[i]?=some (G d.fr d.cs)∧Mod d.σ w∧∃ h,σ.gh=some h∧Wk P h.r m (τ i) d∧d.σ.blk h.r=none
  sep0:∀ i d m,act i=some (d,m)→∀ b,d.σ.blk b≠none→σ.blk b≠none→d.σ.pub b∧σ.pub b
  sep:∀ i j d m e n,i≠j→act i=some (d,m)→act j=some (e,n)→∀ b,d.σ.blk b≠none→e.σ.blk b≠none→d.σ.pub b∧e.σ.pub b
  chan:Chn σ.gh σ w t act sent
  clean:∀ said,¬ Race said t
  words:Wordless t
  low:Low t w.heap.size
  kn0:Kn t 0 σ
  knw:∀ j d m,act j=some (d,m)→Kn t j d.σ
  all:∀ i a,touchAt t i=some a→Knows t 0 i∨∃ g,t.g? i=some g∧0<g∧(act g≠none∨∃ v,(g,v)∈sent)
  num:∀ g v,(g,v)∈sent→g<gs.size
theorem Mod.same {σ:GW} {w w':Go.World} (h:Mod σ w) (ho:w'.os=w.os) (ht:w'.tape=w.tape) (hu:w'.output=w.output) (hb:∀ b o,σ.blk b=some o→w'.heap[b]?=w.heap[b]?):Mod σ w':=
  ⟨ho.trans h.os,ht.trans h.tape,hu.trans h.output,fun b o hx=>by rw [hb b o hx];exact h.blk b o hx,h.known⟩
theorem Mod.lt {σ:GW} {w:Go.World} (h:Mod σ w) {b:Nat} (hb:σ.blk b≠none):b<w.heap.size:=by
  cases hx:σ.blk b with
  | none=>exact absurd hx hb
  | some o=>exact (Array.getElem?_eq_some_iff.1 (h.blk b o hx)).1
theorem mod_other {κ σ σ':GW} {w w':Go.World} {es:Array Event} (hκ:Mod κ w) (sep:∀ b,κ.blk b≠none→σ.blk b≠none→κ.pub b∧σ.pub b) (g:Guar σ w w' es σ'):Mod κ w':=
  hκ.same g.os g.tape g.output fun b o hb=>by
    refine g.frame b ?_ (hκ.lt (by simp [hb]));cases hx:σ.blk b with
    | none=>exact .inl rfl
    | some y=>exact .inr (sep b (by simp [hb]) (by simp [hx])).2
section
variable {P:Program} {σ:GW} {g0:Goroutine} {gs:Array Goroutine} {w w':Go.World} {t:Trace} {τ:Nat→Tree} {act:Acts} {sent:List (Nat × Value)}
theorem Fr.draw (F:Fr P σ g0 gs w t τ act sent) (d:Nat):Fr P σ g0 gs (w.at d) t τ act sent:=
  ⟨F.main,F.mod.same rfl rfl rfl fun _ _ _=>rfl,F.leav,fun i d m h=>let ⟨h1,h2,h3,h4⟩:=F.work i d m h;⟨h1,h2,h3.same rfl rfl rfl fun _ _ _=>rfl,h4⟩,F.sep0,F.sep,by
    have:=F.chan
    unfold Chn at *
    cases hg:σ.gh with
    | none=>rw [hg] at this;exact this
    | some h=>rw [hg] at this;obtain ⟨q,tm,L,c⟩:=this;exact ⟨q,tm,L,c.heap,c.free,c.nodup,c.mem,c.outs,c.room,c.said⟩,F.clean,F.words,F.low,F.kn0,F.knw,F.all,F.num⟩
theorem Fr.still (F:Fr P σ g0 gs w t τ act sent) {a a':Goroutine} (hm:woken P a a' w' g0=g0):∀ (j:Nat) (g:Goroutine),gs[j]?=some g→woken P a a' w' g=g:=by
  intro j g hg;rcases Nat.eq_zero_or_pos j with rfl | hj
  · rw [F.main] at hg;cases hg;exact hm
  · cases hx:act j with
    | none=>
      obtain ⟨k,_,hq⟩:=F.leav j g hj hg hx;unfold woken
      split
      · exact again_running _ hq.status
      · rfl
    | some x=>
      obtain ⟨d,m⟩:=x;obtain ⟨_,h2,_⟩:=F.work j d m hx;rw [h2] at hg;cases hg;exact woken_run rfl
theorem HX {f:Goroutine→Goroutine} (hf:∀ (j:Nat) (g:Goroutine),gs[j]?=some g→f g=g) {i:Nat} {x:Goroutine} {j:Nat} (hj:j≠i):((gs.map f).setIfInBounds i x)[j]?=gs[j]?:=by
  rw [Array.getElem?_setIfInBounds_ne (Ne.symm hj),Array.getElem?_map];cases hg:gs[j]? with
  | none=>rfl
  | some g=>rw [Option.map_some,hf j g hg]
theorem DI {i:Nat} {g:Goroutine} (h:gs[i]?=some g):i<gs.size:=(Array.getElem?_eq_some_iff.1 h).1
theorem Ch.keep {h : Gh} {σ' : GW} {t' : Trace} {act' : Acts} {q : Nat} {tm : Bool} {L : List Nat} {u : Trace} (c : Ch h σ w t act sent q tm L) (hh : w'.heap[h.r]? = w.heap[h.r]?) (hf : σ'.blk h.r = none) (ha : ∀ i, act' i ≠ none ↔ act i ≠ none) (hmsg : ∀ i, HH act' i = HH act i)
    (hu:∀ op∈u,op.act.touch?=none∨op.g=0∨act op.g≠none) (ht:t'=t++u):Ch h σ' w' t' act' sent q tm L:=by
  subst ht;refine ⟨by rw [hh];exact c.heap,hf,c.nodup,fun i=>by rw [c.mem,ha],?_,c.room,fun k g v hk=>?_⟩
  · have:L.map (HH act')=L.map (HH act):=List.map_congr_left fun i _=>hmsg i
    rw [this];exact c.outs
  · obtain ⟨h0,h1,p,h2,h3,h4⟩:=c.said k g v hk
    have hp:=lt_of_act? h2;refine ⟨h0,?_,p,by rw [act?_old hp];exact h2,by rw [g?_old hp];exact h3,fun i a hi hg=>?_⟩
    · cases hx:act' g with
      | none=>rfl
      | some y=>exact absurd h1 ((ha g).1 (by simp [hx]))
    · obtain ⟨x,hx,hxa⟩:=touch_of hi
      rcases getElem?_append_cases hx with ⟨hlt,hx'⟩ | ⟨_,hxu⟩
      · exact (h4 i a (by rw [touchAt_of hx'];exact hxa) (by rw [g?_old hlt] at hg;exact hg)).app u
      · exfalso
        have hgx:x.g=g:=by simp only [Trace.g?,hx,Option.map_some,Option.some.injEq] at hg;exact hg
        rcases hu x hxu with h | h | h
        · rw [h] at hxa;cases hxa
        · omega
        · rw [hgx] at h;exact h h1
theorem Chn.lt (F:Fr P σ g0 gs w t τ act sent) {h:Gh} (hg:σ.gh=some h):h.r<w.heap.size:=by
  have:=F.chan;unfold Chn at this;rw [hg] at this;obtain ⟨q,tm,L,c⟩:=this;exact (Array.getElem?_eq_some_iff.1 c.heap).1
theorem Chn.open (F:Fr P σ g0 gs w t τ act sent) {h:Gh} (hg:σ.gh=some h):∃ buf s q tm,w.heap[h.r]?=some (.chan h.cap buf false s q tm):=by
  have:=F.chan;unfold Chn at this;rw [hg] at this;obtain ⟨q,tm,L,c⟩:=this;exact ⟨_,_,_,_,c.heap⟩
theorem Fr.step0 {fr fr' : Frame} {cs cs' : List Frame} {es : Array Event} {σ' : GW} {fn : FuncId} {pos : String} (F : Fr P σ (G fr cs) gs w t τ act sent) (g : Guar σ w w' es σ') :
    Fr P σ' (G fr' cs') ((gs.map (woken P (G fr cs) (G fr' cs') w')).setIfInBounds 0 (G fr' cs')) w' (t++MemOp.ofEvents 0 fn pos es) τ act sent:=by
  have hst:=F.still (w':=w') (a:=G fr cs) (a':=G fr' cs') (woken_run rfl);have h0:=DI F.main;have up:∀ b,σ'.blk b≠none→b<w.heap.size→σ.blk b≠none:=fun b h1 h2=>(g.new b h1).resolve_right (by omega)
  refine ⟨by simp [h0],g.mod,fun i x hi hx ha=>?_,fun i d m ha=>?_,fun i d m ha b h1 h2=>?_,F.sep,?_,fun said=>clean_own (F.clean said) F.kn0 F.low g,words_own F.words g,low_own F.low g,kn_own F.kn0 F.low g,fun j d m ha=>?_,fun i a ha=>?_,fun g v hv=>by simpa using F.num g v hv⟩
  · rw [HX hst (by omega)] at hx;exact F.leav i x hi hx ha
  · obtain ⟨h1,h2,h3,h,h4,h5,h6⟩:=F.work i d m ha
    exact ⟨h1,by rw [HX hst (by omega)];exact h2,mod_other h3 (F.sep0 i d m ha) g,h,g.gh.trans h4,h5,h6⟩
  · have hlt:=(F.work i d m ha).2.2.1.lt h1
    rw [g.pub];exact F.sep0 i d m ha b h1 (up b h2 hlt)
  · have:=F.chan
    unfold Chn at *;rw [g.gh];cases hg:σ.gh with
    | none=>rw [hg] at this;exact this
    | some h=>
      have hlt:=Chn.lt F hg;rw [hg] at this;obtain ⟨q,tm,L,c⟩:=this;refine ⟨q,tm,L,c.keep (g.frame _ (.inl c.free) hlt) ?_ (fun _=>Iff.rfl) (fun _=>rfl) (u:=MemOp.ofEvents 0 fn pos es) (fun op hop=>by obtain ⟨e,_,rfl⟩:=Go.Conc.mem_ofEvents hop;exact .inr (.inl rfl)) rfl⟩;cases hx:σ'.blk h.r with
      | none=>rfl
      | some o=>exact absurd c.free (up _ (by simp [hx]) hlt)
  · exact kn_other (F.knw j d m ha) (F.work j d m ha).2.2.1 (F.sep0 j d m ha) g
  · obtain ⟨x,hx,hxa⟩:=touch_of ha
    rcases getElem?_append_cases hx with ⟨hi,hx'⟩ | ⟨_,hxu⟩
    · rcases F.all i a (by rw [touchAt_of hx'];exact hxa) with h | ⟨n,h1,h2⟩
      · exact .inl (h.app _)
      · exact .inr ⟨n,by rw [g?_old hi];exact h1,h2⟩
    · obtain ⟨e,_,rfl⟩:=Go.Conc.mem_ofEvents hxu
      exact .inl (knows_own hx)
theorem Fr.stepW {i : Nat} {d : Cf} {m : Value} {h : Gh} {fr' : Frame} {cs' : List Frame} {es : Array Event} {σ' : GW} {T : Tree} {fn : FuncId} {pos : String} (F : Fr P σ g0 gs w t τ act sent) (hi : act i = some (d, m)) (hg : σ.gh = some h) (g : Guar d.σ w w' es σ')
    (hT:Wk P h.r m T ⟨fr',cs',σ'⟩) (hm:woken P (G d.fr d.cs) (G fr' cs') w' g0=g0) :
    Fr P σ g0 ((gs.map (woken P (G d.fr d.cs) (G fr' cs') w')).setIfInBounds i (G fr' cs')) w' (t++MemOp.ofEvents i fn pos es) (setT τ i T) (setA act i (some (⟨fr',cs',σ'⟩,m))) sent:=by
  have hst:=F.still hm;obtain ⟨hpos,hgi,hmod,h',hg',hwk,hfree⟩:=F.work i d m hi;rw [hg] at hg';cases hg';have hilt:=DI hgi;have hrlt:=Chn.lt F hg;have up:∀ b,σ'.blk b≠none→b<w.heap.size→d.σ.blk b≠none:=fun b h1 h2=>(g.new b h1).resolve_right (by omega)
  have sep0':∀ b,σ.blk b≠none→d.σ.blk b≠none→σ.pub b∧d.σ.pub b:=fun b h1 h2=>(F.sep0 i d m hi b h2 h1).symm
  have hne:∀ j,setA act i (some (⟨fr',cs',σ'⟩,m)) j≠none↔act j≠none:=fun j=>by
    by_cases e:j=i
    · subst e;simp [AZ,hi]
    · rw [BO _ _ e]
  refine ⟨by rw [HX hst (by omega)];exact F.main,mod_other F.mod sep0' g,fun j x hj hx ha=>?_,fun j e n ha=>?_,fun j e n ha b h1 h2=>?_,fun j k e n f o hjk ha hb b h1 h2=>?_,?_,fun said=>clean_own (F.clean said) (F.knw i d m hi) F.low g,words_own F.words g,low_own F.low g,kn_other F.kn0 F.mod sep0' g,fun j e n ha=>?_,fun j a ha=>?_,fun g v hv=>by simpa using F.num g v hv⟩
  · have hji:j≠i:=fun e=>by subst e;rw [AZ] at ha;cases ha
    rw [BO _ _ hji] at ha;rw [HX hst hji] at hx;rw [IE _ _ hji];exact F.leav j x hj hx ha
  · by_cases e1:j=i
    · subst e1
      rw [AZ] at ha;cases ha;refine ⟨hpos,by simp [hilt],g.mod,h,hg,by rw [KK];exact hT,?_⟩;cases hx:σ'.blk h.r with
      | none=>rfl
      | some o=>exact absurd hfree (up _ (by simp [hx]) hrlt)
    · rw [BO _ _ e1] at ha
      obtain ⟨k1,k2,k3,k4⟩:=F.work j e n ha;exact ⟨k1,by rw [HX hst e1];exact k2,mod_other k3 (F.sep j i e n d m e1 ha hi) g,by rw [IE _ _ e1];exact k4⟩
  · by_cases e1:j=i
    · subst e1
      rw [AZ] at ha;cases ha;have:=F.sep0 j d m hi b (up b h1 (F.mod.lt h2)) h2;exact ⟨by rw [show (⟨fr',cs',σ'⟩:Cf).σ.pub=d.σ.pub from g.pub];exact this.1,this.2⟩
    · rw [BO _ _ e1] at ha
      exact F.sep0 j e n ha b h1 h2
  · by_cases e1:j=i
    · subst e1
      rw [AZ] at ha;rw [BO _ _ (Ne.symm hjk)] at hb;cases ha;have:=F.sep j k d m f o hjk hi hb b (up b h1 ((F.work k f o hb).2.2.1.lt h2)) h2;exact ⟨by rw [show (⟨fr',cs',σ'⟩:Cf).σ.pub=d.σ.pub from g.pub];exact this.1,this.2⟩
    · rw [BO _ _ e1] at ha
      by_cases e2:k=i
      · subst e2
        rw [AZ] at hb;cases hb;have:=F.sep j k e n d m hjk ha hi b h1 (up b h2 ((F.work j e n ha).2.2.1.lt h1));exact ⟨this.1,by rw [show (⟨fr',cs',σ'⟩:Cf).σ.pub=d.σ.pub from g.pub];exact this.2⟩
      · rw [BO _ _ e2] at hb
        exact F.sep j k e n f o hjk ha hb b h1 h2
  · have:=F.chan
    unfold Chn at *;rw [hg] at this ⊢;obtain ⟨q,tm,L,c⟩:=this;refine ⟨q,tm,L,c.keep (g.frame _ (.inl hfree) hrlt) c.free hne (fun j=>?_) (u:=MemOp.ofEvents i fn pos es) (fun op hop=>by obtain ⟨e,_,rfl⟩:=Go.Conc.mem_ofEvents hop;exact .inr (.inr (by simp [hi]))) rfl⟩
    by_cases e:j=i
    · subst e;simp [HH,AZ,hi]
    · simp [HH,BO _ _ e]
  · by_cases e1:j=i
    · subst e1
      rw [AZ] at ha;cases ha;exact kn_own (F.knw j d m hi) F.low g
    · rw [BO _ _ e1] at ha
      exact kn_other (F.knw j e n ha) (F.work j e n ha).2.2.1 (F.sep j i e n d m e1 ha hi) g
  · obtain ⟨x,hx,hxa⟩:=touch_of ha
    rcases getElem?_append_cases hx with ⟨hj,hx'⟩ | ⟨_,hxu⟩
    · rcases F.all j a (by rw [touchAt_of hx'];exact hxa) with h | ⟨n,h1,h2,h3⟩
      · exact .inl (h.app _)
      · exact .inr ⟨n,by rw [g?_old hj];exact h1,h2,h3.imp (hne n).2 id⟩
    · obtain ⟨e,_,rfl⟩:=Go.Conc.mem_ofEvents hxu
      exact .inr ⟨i,by simp [Trace.g?,hx],hpos,.inl (by simp [AZ])⟩
theorem Fr.stepL {i k : Nat} {x x' : Goroutine} (F : Fr P σ g0 gs w t τ act sent) (hi : 0 < i) (hx : gs[i]? = some x) (ha : act i = none) (hq : QuitsIn P k x') (hm : woken P x x' w g0 = g0) :
    Fr P σ g0 ((gs.map (woken P x x' w)).setIfInBounds i x') w t (setT τ i (natT k)) act sent:=by
  have hst:=F.still hm;have hilt:=DI hx;refine ⟨by rw [HX hst (by omega)];exact F.main,F.mod,fun j y hj hy hb=>?_,fun j e n hb=>?_,F.sep0,F.sep,F.chan,F.clean,F.words,F.low,F.kn0,F.knw,F.all,fun g v hv=>by simpa using F.num g v hv⟩
  · by_cases e:j=i
    · subst e
      rw [Array.getElem?_setIfInBounds_self_of_lt (by simpa using hilt)] at hy;cases hy;exact ⟨k,KK _ _ _,hq⟩
    · rw [HX hst e] at hy
      rw [IE _ _ e];exact F.leav j y hj hy hb
  · have e1:j≠i:=fun e=>by rw [e,ha] at hb;cases hb
    obtain ⟨k1,k2,k3⟩:=F.work j e n hb;exact ⟨k1,by rw [HX hst e1];exact k2,by rw [IE _ _ e1];exact k3⟩
end
theorem erase_split {α:Type}:∀ {l:List α} {x:α},x∈l→∃ A B,l=A++x::B:=fun h=>List.append_of_mem h
section
variable {P:Program} {σ:GW} {g0:Goroutine} {gs:Array Goroutine} {w:Go.World} {t:Trace} {τ:Nat→Tree} {act:Acts} {sent:List (Nat × Value)}
theorem OC (w:Go.World) (c cap:Nat) (buf:Array Value) (cl:Bool) (s r:Nat) (tm:Bool) (h:c<w.heap.size):(w.setChan c cap buf cl s r tm).heap[c]?=some (.chan cap buf cl s r tm):=by simp [World.setChan,h]
theorem setChan_ne (w:Go.World) (c cap:Nat) (buf:Array Value) (cl:Bool) (s r:Nat) (tm:Bool) {b:Nat} (h:b≠c):(w.setChan c cap buf cl s r tm).heap[b]?=w.heap[b]?:=by
  simp only [World.setChan];rw [Array.getElem?_setIfInBounds_ne (Ne.symm h)]
theorem MN (w:Go.World) (c cap:Nat) (buf:Array Value) (cl:Bool) (s r:Nat) (tm:Bool):(w.setChan c cap buf cl s r tm).heap.size=w.heap.size:=by simp [World.setChan]
theorem GN {κ:GW} {c cap:Nat} {buf:Array Value} {cl:Bool} {s r:Nat} {tm:Bool} (h:Mod κ w) (hc:κ.blk c=none):Mod κ (w.setChan c cap buf cl s r tm):=
  h.same rfl rfl rfl fun b o hb=>setChan_ne w c cap buf cl s r tm fun e=>by rw [e,hc] at hb;cases hb
theorem ST {n:Nat} {u:Trace} (h:Low t n) (hu:∀ op∈u,op.act.low n):Low (t++u) n:=seen_app h hu
theorem MZ {u:Trace} (h:Wordless t) (hu:∀ op∈u,∀ m,op.act≠.mark m):Wordless (t++u):=h.append fun op hop m hm=>absurd hm (hu op hop m)
theorem Fr.awake (F:Fr P σ g0 gs w t τ act sent) (h0:Go.Conc.awake g0):∀ g∈gs,Go.Conc.awake g:=by
  intro g hg;obtain ⟨i,hi,rfl⟩:=Array.mem_iff_getElem.1 hg;have hget:=Array.getElem?_eq_getElem hi;rcases Nat.eq_zero_or_pos i with rfl | hpos
  · have:=F.main
    rw [hget] at this;rw [Option.some.inj this];exact h0
  · cases hx:act i with
    | none=>
      obtain ⟨k,_,hq⟩:=F.leav i _ hpos hget hx;exact awake_of (hq.status.elim .inl fun x=>.inr (.inr x))
    | some x=>
      obtain ⟨d,m⟩:=x;have h2:=(F.work i d m hx).2.1;rw [hget] at h2;rw [Option.some.inj h2];exact awake_of (.inl rfl)
theorem Fr.offers (F:Fr P σ g0 gs w t τ act sent) (r:Nat) (b:Bool):∀ (j:Nat) (g:Goroutine),0<j→gs[j]?=some g→offersAt g r b=[]:=by
  intro j g hj hg;refine offersAt_of_not_blocked ?_ r b;cases hx:act j with
  | none=>
    obtain ⟨k,_,hq⟩:=F.leav j g hj hg hx;rcases hq.status with h | h <;> rw [h] <;> simp
  | some x=>
    obtain ⟨d,m⟩:=x;have h2:=(F.work j d m hx).2.1;rw [hg] at h2;rw [Option.some.inj h2];simp [G]
theorem Fr.send {i n : Nat} {d : Cf} {m : Value} {h : Gh} {s q : Nat} {buf : Array Value} {tm : Bool} {fn fn' : FuncId} {pos pos' : String} (F : Fr P σ g0 gs w t τ act sent) (hi : act i = some (d, m)) (hg : σ.gh = some h) (hq : QuitsIn P n (Go.Conc.served (G d.fr d.cs) undef))
    (hc:w.heap[h.r]?=some (.chan h.cap buf false s q tm)) :
    buf.size<h.cap∧Fr P σ g0 (gs.setIfInBounds i (Go.Conc.served (G d.fr d.cs) undef)) (w.setChan h.r h.cap (buf.push m) false (s+1) q tm)
      (t++#[{ g:=i,fn,pos,act:=.send h.r s },{ g:=i,fn:=fn',pos:=pos',act:=.sendDone h.r s }]) (setT τ i (natT n)) (setA act i none) (sent++[(i,m)]):=by
  obtain ⟨hpos,hgi,hmod,h',hg',hwk,hfree⟩:=F.work i d m hi;have hilt:=DI hgi;have hrlt:=Chn.lt F hg;have hch:=F.chan;unfold Chn at hch;rw [hg] at hch;obtain ⟨q',tm',L,c⟩:=hch;rw [c.heap] at hc;cases hc;have hiL:i∈L:=(c.mem i).2 (by simp [hi]);obtain ⟨A,B,rfl⟩:=erase_split hiL;have hlen:h.outs.length=sent.length+(A.length+(B.length+1)):=by
    have:=c.outs.length_eq
    simpa using this
  have hnd:=c.nodup;have hni:i∉A∧i∉B:=by
    have h1:=(List.nodup_append.1 hnd).2.2;have h2:=(List.nodup_cons.1 (List.nodup_append.1 hnd).2.1).1;exact ⟨fun h=>h1 i h i List.mem_cons_self rfl,h2⟩
  have hmsg:∀ j,j≠i→HH (setA act i none) j=HH act j:=fun j hj=>by simp [HH,BO _ _ hj]
  refine ⟨by have:=c.room;simp;omega,?_⟩;have hu:∀ op∈(#[{ g:=i,fn,pos,act:=.send h.r (q+sent.length) },{ g:=i,fn:=fn',pos:=pos',act:=.sendDone h.r (q+sent.length) }]:Trace),op.act.touch?=none:=by
    intro op hop;simp at hop;rcases hop with rfl | rfl <;> rfl
  refine ⟨by rw [Array.getElem?_setIfInBounds_ne (by omega)];exact F.main,GN F.mod c.free,fun j x hj hx ha=>?_,fun j e k ha=>?_,fun j e k ha=>?_,fun j l e k f o hjl ha hb=>?_,?_,fun said=>OL (F.clean said) hu,MZ F.words (fun op hop k=>by simp at hop;rcases hop with rfl | rfl <;> simp),?_,kn_app F.kn0 hu,fun j e k ha=>?_,fun j a ha=>?_,fun g v hv=>by
    rcases List.mem_append.1 hv with hv | hv
    · simpa using F.num g v hv
    · simp at hv;simpa [hv.1] using hilt⟩
  · by_cases e:j=i
    · subst e
      rw [Array.getElem?_setIfInBounds_self_of_lt hilt] at hx;cases hx;exact ⟨n,KK _ _ _,hq⟩
    · rw [Array.getElem?_setIfInBounds_ne (Ne.symm e)] at hx
      rw [BO _ _ e] at ha;rw [IE _ _ e];exact F.leav j x hj hx ha
  · have e1:j≠i:=fun e=>by rw [e,AZ] at ha;cases ha
    rw [BO _ _ e1] at ha;obtain ⟨k1,k2,k3,h2,k4,k5,k6⟩:=F.work j e k ha;rw [hg] at k4;cases k4;exact ⟨k1,by rw [Array.getElem?_setIfInBounds_ne (Ne.symm e1)];exact k2,GN k3 k6,h,hg,by rw [IE _ _ e1];exact k5,k6⟩
  · have e1:j≠i:=fun e=>by rw [e,AZ] at ha;cases ha
    rw [BO _ _ e1] at ha;exact F.sep0 j e k ha
  · have e1:j≠i:=fun e=>by rw [e,AZ] at ha;cases ha
    have e2:l≠i:=fun e=>by rw [e,AZ] at hb;cases hb
    rw [BO _ _ e1] at ha;rw [BO _ _ e2] at hb;exact F.sep j l e k f o hjl ha hb
  · unfold Chn
    rw [hg];refine ⟨q,tm,A++B,⟨?_,c.free,?_,fun j=>?_,?_,c.room,fun k g v hk=>?_⟩⟩
    · rw [OC _ _ _ _ _ _ _ _ hrlt]
      have e1:((sent++[(i,m)]).map Prod.snd).toArray=(sent.map Prod.snd).toArray.push m:=by simp
      rw [e1];simp [Nat.add_assoc]
    · exact (List.nodup_cons.1 (List.perm_middle.nodup_iff.1 hnd)).2
    · by_cases e:j=i
      · subst e;simp [AZ,hni]
      · rw [BO _ _ e,← c.mem j]
        simp [e]
    · have e1 : (A ++ B).map (HH (setA act i none)) = (A ++ B).map (HH act) := List.map_congr_left fun j hj => hmsg j fun e => by
        subst e;rcases List.mem_append.1 hj with h | h
        · exact hni.1 h
        · exact hni.2 h
      have e2:HH act i=m:=by simp [HH,hi]
      refine c.outs.trans ?_;rw [e1];simp only [List.map_append,List.map_cons,List.map_nil,e2,List.append_assoc,List.singleton_append];exact List.Perm.append_left _ List.perm_middle
    · by_cases hlt:k<sent.length
      · rw [List.getElem?_append_left hlt] at hk
        obtain ⟨g1,g2,p,g3,g4,g5⟩:=c.said k g v hk;have hp:=lt_of_act? g3;have e1:g≠i:=fun e=>by rw [e,hi] at g2;cases g2
        refine ⟨g1,by rw [BO _ _ e1];exact g2,p,by rw [act?_old hp];exact g3,by rw [g?_old hp];exact g4,fun j a hj hgj=>?_⟩;obtain ⟨x,hx,hxa⟩:=touch_of hj;rcases getElem?_append_cases hx with ⟨hjl,hx'⟩ | ⟨_,hxu⟩
        · exact (g5 j a (by rw [touchAt_of hx'];exact hxa) (by rw [g?_old hjl] at hgj;exact hgj)).app _
        · rw [hu x hxu] at hxa;cases hxa
      · have hk' : k = sent.length := by
          have:=(List.getElem?_eq_some_iff.1 hk).1;simp at this;omega
        subst hk';simp at hk;obtain ⟨rfl,rfl⟩:=hk;have hop:(t++#[({ g:=i,fn,pos,act:=.send h.r (q+sent.length) }:MemOp),{ g:=i,fn:=fn',pos:=pos',act:=.sendDone h.r (q+sent.length) }])[t.size]?=some { g:=i,fn,pos,act:=.send h.r (q+sent.length) }:=by
          rw [Array.getElem?_append_right (Nat.le_refl _)];simp
        refine ⟨hpos,AZ _ _ _,t.size,by rw [act?_of hop],by simp only [Trace.g?,hop,Option.map_some],fun j a hj hgj=>?_⟩;obtain ⟨x,hx,hxa⟩:=touch_of hj;rcases getElem?_append_cases hx with ⟨hjl,hx'⟩ | ⟨_,hxu⟩
        · exact .inr (hb_po hjl hx hop (by simp only [Trace.g?,hx,Option.map_some,Option.some.injEq] at hgj;exact hgj))
        · rw [hu x hxu] at hxa;cases hxa
  · rw [MN]
    exact ST F.low fun op hop=>by simp at hop;rcases hop with rfl | rfl <;> exact hrlt
  · have e1:j≠i:=fun e=>by rw [e,AZ] at ha;cases ha
    rw [BO _ _ e1] at ha;exact kn_app (F.knw j e k ha) hu
  · obtain ⟨x,hx,hxa⟩:=touch_of ha
    rcases getElem?_append_cases hx with ⟨hj,hx'⟩ | ⟨_,hxu⟩
    · rcases F.all j a (by rw [touchAt_of hx'];exact hxa) with h1 | ⟨k,h1,h2,h3⟩
      · exact .inl (h1.app _)
      · refine .inr ⟨k,by rw [g?_old hj];exact h1,h2,?_⟩
        by_cases e:k=i
        · subst e;exact .inr ⟨m,by simp⟩
        · rw [BO _ _ e]
          exact h3.imp id fun ⟨v,hv⟩=>⟨v,List.mem_append_left _ hv⟩
    · rw [hu x hxu] at hxa;cases hxa
def GW.outs (σ:GW) (h:Gh) (l:List Value):GW:={ σ with gh:=some { h with outs:=l } }
theorem Fr.recv {fr : Frame} {cs : List Frame} {h : Gh} {g : Nat} {v : Value} {rest : List (Nat × Value)} {outs : List Value} {s q : Nat} {buf : Array Value} {tm : Bool} {fn fn' : FuncId} {pos pos' : String} (F : Fr P σ g0 gs w t τ act ((g, v) :: rest)) (hg : σ.gh = some h)
    (hc:w.heap[h.r]?=some (.chan h.cap buf false s q tm)) (ho:h.outs.Perm (v::outs)) :
    Fr P (σ.outs h outs) (G fr cs) (gs.setIfInBounds 0 (G fr cs)) (w.setChan h.r h.cap (buf.extract 1 buf.size) false s (q+1) tm)
      (t++#[{ g:=0,fn,pos,act:=.recv h.r q h.cap },{ g:=0,fn:=fn',pos:=pos',act:=.recvDone h.r q }]) τ act rest:=by
  have h0:=DI F.main;have hrlt:=Chn.lt F hg;have hch:=F.chan;unfold Chn at hch;rw [hg] at hch;obtain ⟨q',tm',L,c⟩:=hch;rw [c.heap] at hc;cases hc;have hu:∀ op∈(#[{ g:=0,fn,pos,act:=.recv h.r q h.cap },{ g:=0,fn:=fn',pos:=pos',act:=.recvDone h.r q }]:Trace),op.act.touch?=none:=by
    intro op hop;simp at hop;rcases hop with rfl | rfl <;> rfl
  have hop:(t++#[({ g:=0,fn,pos,act:=.recv h.r q h.cap }:MemOp),{ g:=0,fn:=fn',pos:=pos',act:=.recvDone h.r q }])[t.size+1]?=some { g:=0,fn:=fn',pos:=pos',act:=.recvDone h.r q }:=by
    rw [Array.getElem?_append_right (by omega)];simp
  have hW:=MZ F.words (u:=#[({ g:=0,fn,pos,act:=.recv h.r q h.cap }:MemOp),{ g:=0,fn:=fn',pos:=pos',act:=.recvDone h.r q }]) (fun op hop k=>by simp at hop;rcases hop with rfl | rfl <;> simp);refine ⟨by simp [h0],⟨(GN F.mod c.free).os,(GN F.mod c.free).tape,(GN F.mod c.free).output,(GN F.mod c.free).blk,F.mod.known⟩,fun j x hj hx ha=>?_,fun j e k ha=>?_,F.sep0,F.sep,?_,fun said=>OL (F.clean said) hu,hW,?_,kn_app F.kn0 hu,fun j e k ha=>kn_app (F.knw j e k ha) hu,fun j a ha=>?_,fun g v hv=>by simpa using F.num g v (List.mem_cons_of_mem _ hv)⟩
  · rw [Array.getElem?_setIfInBounds_ne (by omega)] at hx
    exact F.leav j x hj hx ha
  · obtain ⟨k1,k2,k3,h2,k4,k5,k6⟩:=F.work j e k ha
    rw [hg] at k4;cases k4;exact ⟨k1,by rw [Array.getElem?_setIfInBounds_ne (by omega)];exact k2,GN k3 k6,_,rfl,k5,k6⟩
  · refine ⟨q+1,tm,L,⟨?_,c.free,c.nodup,c.mem,?_,?_,fun k g' v' hk=>?_⟩⟩
    · show (w.setChan h.r h.cap _ false _ _ tm).heap[h.r]?=_
      rw [OC _ _ _ _ _ _ _ _ hrlt];simp only [List.map_cons,List.length_cons]
      congr 2
      · simp;exact List.take_of_length_le (by simp)
      · omega
    · have:=c.outs.symm.trans ho
      simp only [List.map_cons,List.cons_append] at this;exact (List.Perm.cons_inv this).symm
    · have:=ho.length_eq
      have hr:=c.room;simp at this;show outs.length≤h.cap;omega
    · obtain ⟨g1,g2,p,g3,g4,g5⟩:=c.said (k+1) g' v' (by simpa using hk)
      have hp:=lt_of_act? g3;refine ⟨g1,g2,p,by rw [act?_old hp,g3];congr 2;show _=q+1+k;omega,by rw [g?_old hp];exact g4,fun j a hj hgj=>?_⟩;obtain ⟨x,hx,hxa⟩:=touch_of hj;rcases getElem?_append_cases hx with ⟨hjl,hx'⟩ | ⟨_,hxu⟩
      · exact (g5 j a (by rw [touchAt_of hx'];exact hxa) (by rw [g?_old hjl] at hgj;exact hgj)).app _
      · rw [hu x hxu] at hxa;cases hxa
  · rw [MN]
    exact ST F.low fun op hop=>by simp at hop;rcases hop with rfl | rfl <;> exact hrlt
  · obtain ⟨x,hx,hxa⟩:=touch_of ha
    rcases getElem?_append_cases hx with ⟨hj,hx'⟩ | ⟨_,hxu⟩
    · rcases F.all j a (by rw [touchAt_of hx'];exact hxa) with h1 | ⟨k,h1,h2,h3⟩
      · exact .inl (h1.app _)
      · by_cases e:k=g∧act k=none
        · obtain ⟨e0,e⟩:=e
          obtain ⟨_,_,p,g3,g4,g5⟩:=c.said 0 g v rfl;have hp:=lt_of_act? g3;obtain ⟨y,hy,hya⟩:=Option.map_eq_some_iff.1 g3;refine .inl ⟨t.size+1,_,hop,rfl,.inr ?_⟩;refine ((g5 j a (by rw [touchAt_of hx'];exact hxa) (by rw [h1,e0])).app _).hb (.single (.inr ⟨.handOver (c:=h.r) (k:=q) (by rw [act?_old hp];simpa using g3) (by rw [act?_of hop]),?_,hW.heard hop⟩));exact hW.heard (by rw [getElem?_append_old hp];exact hy)
        · refine .inr ⟨k,by rw [g?_old hj];exact h1,h2,?_⟩
          rcases h3 with h3 | ⟨v',h3⟩
          · exact .inl h3
          · rcases List.mem_cons.1 h3 with h3 | h3
            · cases h3
              by_cases ha:act g=none
              · exact absurd ⟨rfl,ha⟩ e
              · exact .inl ha
            · exact .inr ⟨v',h3⟩
    · rw [hu x hxu] at hxa;cases hxa
theorem Fr.meet {i n : Nat} {d : Cf} {m : Value} {fr : Frame} {cs : List Frame} {h : Gh} {outs : List Value} {s q : Nat} {buf : Array Value} {tm : Bool} {fn fn' fn2 fn3 : FuncId} {pos pos' pos2 pos3 : String} (F : Fr P σ g0 gs w t τ act []) (hi : act i = some (d, m)) (hg : σ.gh = some h) (hq : QuitsIn P n (Go.Conc.served (G d.fr d.cs) undef))
    (hc:w.heap[h.r]?=some (.chan h.cap buf false s q tm)) (ho:h.outs.Perm (m::outs)) :
    Fr P (σ.outs h outs) (G fr cs) ((gs.setIfInBounds 0 (G fr cs)).setIfInBounds i (Go.Conc.served (G d.fr d.cs) undef)) (w.setChan h.r h.cap buf false (s+1) (q+1) tm)
      (t++#[{ g:=i,fn,pos,act:=.send h.r s },{ g:=0,fn:=fn2,pos:=pos2,act:=.recv h.r q h.cap },{ g:=i,fn:=fn',pos:=pos',act:=.sendDone h.r s },{ g:=0,fn:=fn3,pos:=pos3,act:=.recvDone h.r q }]) (setT τ i (natT n)) (setA act i none) []:=by
  obtain ⟨hpos,hgi,hmod,h',hg',hwk,hfree⟩:=F.work i d m hi;have h0:=DI F.main;have hilt:=DI hgi;have hrlt:=Chn.lt F hg;have hch:=F.chan;unfold Chn at hch;rw [hg] at hch;obtain ⟨q',tm',L,c⟩:=hch;rw [c.heap] at hc;cases hc;have hiL:i∈L:=(c.mem i).2 (by simp [hi]);obtain ⟨A,B,rfl⟩:=erase_split hiL;have hnd:=c.nodup;have hni:i∉A∧i∉B:=by
    have h1:=(List.nodup_append.1 hnd).2.2;have h2:=(List.nodup_cons.1 (List.nodup_append.1 hnd).2.1).1;exact ⟨fun h=>h1 i h i List.mem_cons_self rfl,h2⟩
  have hmsg:∀ j,j≠i→HH (setA act i none) j=HH act j:=fun j hj=>by simp [HH,BO _ _ hj]
  simp only [List.length_nil,Nat.add_zero]
  generalize hU:(#[{ g:=i,fn,pos,act:=.send h.r q },{ g:=0,fn:=fn2,pos:=pos2,act:=.recv h.r q h.cap },{ g:=i,fn:=fn',pos:=pos',act:=.sendDone h.r q },{ g:=0,fn:=fn3,pos:=pos3,act:=.recvDone h.r q }]:Trace)=U
  have hu:∀ op∈U,op.act.touch?=none:=by
    subst hU;intro op hop;simp at hop;rcases hop with rfl | rfl | rfl | rfl <;> rfl
  have hop1:(t++U)[t.size]?=some { g:=i,fn,pos,act:=.send h.r q }:=by
    subst hU;rw [Array.getElem?_append_right (by omega)];simp
  have hop2:(t++U)[t.size+3]?=some { g:=0,fn:=fn3,pos:=pos3,act:=.recvDone h.r q }:=by
    subst hU;rw [Array.getElem?_append_right (by omega)];simp
  have hW:=MZ F.words (u:=U) (fun op hop k=>by subst hU;simp at hop;rcases hop with rfl | rfl | rfl | rfl <;> simp);refine ⟨by rw [Array.getElem?_setIfInBounds_ne (by omega)];simp [h0],⟨(GN F.mod c.free).os,(GN F.mod c.free).tape,(GN F.mod c.free).output,(GN F.mod c.free).blk,F.mod.known⟩,fun j x hj hx ha=>?_,fun j e k ha=>?_,fun j e k ha=>?_,fun j l e k f o hjl ha hb=>?_,?_,fun said=>OL (F.clean said) hu,hW,?_,kn_app F.kn0 hu,fun j e k ha=>?_,fun j a ha=>?_,fun g v hv=>by simp at hv⟩
  · by_cases e:j=i
    · subst e
      rw [Array.getElem?_setIfInBounds_self_of_lt (by simpa using hilt)] at hx;cases hx;exact ⟨n,KK _ _ _,hq⟩
    · rw [Array.getElem?_setIfInBounds_ne (Ne.symm e),Array.getElem?_setIfInBounds_ne (by omega)] at hx
      rw [BO _ _ e] at ha;rw [IE _ _ e];exact F.leav j x hj hx ha
  · have e1:j≠i:=fun e=>by rw [e,AZ] at ha;cases ha
    rw [BO _ _ e1] at ha;obtain ⟨k1,k2,k3,h2,k4,k5,k6⟩:=F.work j e k ha;rw [hg] at k4;cases k4;exact ⟨k1,by rw [Array.getElem?_setIfInBounds_ne (Ne.symm e1),Array.getElem?_setIfInBounds_ne (by omega)];exact k2,GN k3 k6,_,rfl,by rw [IE _ _ e1];exact k5,k6⟩
  · have e1:j≠i:=fun e=>by rw [e,AZ] at ha;cases ha
    rw [BO _ _ e1] at ha;exact F.sep0 j e k ha
  · have e1:j≠i:=fun e=>by rw [e,AZ] at ha;cases ha
    have e2:l≠i:=fun e=>by rw [e,AZ] at hb;cases hb
    rw [BO _ _ e1] at ha;rw [BO _ _ e2] at hb;exact F.sep j l e k f o hjl ha hb
  · refine ⟨q+1,tm,A++B,⟨?_,c.free,?_,fun j=>?_,?_,?_,fun k g v hk=>by simp at hk⟩⟩
    · show (w.setChan h.r h.cap _ false _ _ tm).heap[h.r]?=_
      rw [OC _ _ _ _ _ _ _ _ hrlt];simp
    · exact (List.nodup_cons.1 (List.perm_middle.nodup_iff.1 hnd)).2
    · by_cases e:j=i
      · subst e;simp [AZ,hni]
      · rw [BO _ _ e,← c.mem j]
        simp [e]
    · have e1 : (A ++ B).map (HH (setA act i none)) = (A ++ B).map (HH act) := List.map_congr_left fun j hj => hmsg j fun e => by
        subst e;rcases List.mem_append.1 hj with h | h
        · exact hni.1 h
        · exact hni.2 h
      have e2:HH act i=m:=by simp [HH,hi]
      have h1:=c.outs.symm.trans ho;simp only [List.map_nil,List.nil_append,List.map_append,List.map_cons,e2] at h1;show outs.Perm _;rw [e1];simp only [List.map_nil,List.nil_append,List.map_append];exact (List.Perm.cons_inv (List.perm_middle.symm.trans h1)).symm
    · have:=ho.length_eq
      have hr:=c.room;simp at this;show outs.length≤h.cap;omega
  · rw [MN]
    exact ST F.low fun op hop=>by subst hU;simp at hop;rcases hop with rfl | rfl | rfl | rfl <;> exact hrlt
  · have e1:j≠i:=fun e=>by rw [e,AZ] at ha;cases ha
    rw [BO _ _ e1] at ha;exact kn_app (F.knw j e k ha) hu
  · obtain ⟨x,hx,hxa⟩:=touch_of ha
    rcases getElem?_append_cases hx with ⟨hj,hx'⟩ | ⟨_,hxu⟩
    · rcases F.all j a (by rw [touchAt_of hx'];exact hxa) with h1 | ⟨k,h1,h2,h3⟩
      · exact .inl (h1.app _)
      · by_cases e:k=i
        · subst e
          have hxg:x.g=k:=by simp only [Trace.g?,hx',Option.map_some,Option.some.injEq] at h1;exact h1
          refine .inl ⟨t.size+3,_,hop2,rfl,.inr ?_⟩;exact (hb_po hj hx hop1 hxg).trans (.single (.inr ⟨.handOver (c:=h.r) (k:=q) (by rw [act?_of hop1]) (by rw [act?_of hop2]),hW.heard hop1,hW.heard hop2⟩))
        · refine .inr ⟨k,by rw [g?_old hj];exact h1,h2,?_⟩
          rw [BO _ _ e];exact h3
    · rw [hu x hxu] at hxa;cases hxa
end
def GW.share (σ:GW) (h:Gh) (m:Value):GW:={ σ with pub:=fun b=>σ.blk b≠none,gh:=some { h with outs:=m::h.outs } }
def GW.child (σ:GW):GW:={ σ with pub:=fun b=>σ.blk b≠none,gh:=none }
section
variable {P:Program} {σ:GW} {g0:Goroutine} {gs:Array Goroutine} {w:Go.World} {t:Trace} {τ:Nat→Tree} {act:Acts} {sent:List (Nat × Value)}
theorem Fr.spawn {fr fr' cf : Frame} {cs cs' ccs : List Frame} {h : Gh} {m : Value} {T : Tree} {fn fn' : FuncId} {pos pos' : String} (F : Fr P σ (G fr cs) gs w t τ act sent) (hg : σ.gh = some h) (hroom : h.outs.length < h.cap) (hT : Wk P h.r m T ⟨cf, ccs, σ.child⟩) :
    Fr P (σ.share h m) (G fr' cs') ((gs.setIfInBounds 0 (G fr' cs')).push (G cf ccs)) w ((t.push { g:=0,fn,pos,act:=.go gs.size }).push { g:=gs.size,fn:=fn',pos:=pos',act:=.start })
      (setT τ gs.size T) (setA act gs.size (some (⟨cf,ccs,σ.child⟩,m))) sent:=by
  have h0:=DI F.main;have hch:=F.chan;unfold Chn at hch;rw [hg] at hch;obtain ⟨q,tm,L,c⟩:=hch;have hnew:act gs.size=none:=by
    cases hx:act gs.size with
    | none=>rfl
    | some x=>
      obtain ⟨d,k⟩:=x;have:=DI (F.work _ d k hx).2.1;omega
  have hgp:∀ j g,((gs.setIfInBounds 0 (G fr' cs')).push (G cf ccs))[j]?=some g→0<j→j≠gs.size→gs[j]?=some g:=fun j g hj hp hne=>by
    rw [Array.getElem?_push] at hj
    split at hj
    · rename_i e;simp at e;omega
    · rwa [Array.getElem?_setIfInBounds_ne (by omega)] at hj
  have hpg:∀ j g,gs[j]?=some g→0<j→((gs.setIfInBounds 0 (G fr' cs')).push (G cf ccs))[j]?=some g:=fun j g hj hp=>by
    have:=DI hj;rw [Array.getElem?_push,if_neg (by simp;omega),Array.getElem?_setIfInBounds_ne (by omega)];exact hj
  have et:(t.push { g:=0,fn,pos,act:=.go gs.size }).push { g:=gs.size,fn:=fn',pos:=pos',act:=.start }=t++#[({ g:=0,fn,pos,act:=.go gs.size }:MemOp),{ g:=gs.size,fn:=fn',pos:=pos',act:=.start }]:=by
    apply Array.ext';simp
  rw [et]
  generalize hU:(#[({ g:=0,fn,pos,act:=.go gs.size }:MemOp),{ g:=gs.size,fn:=fn',pos:=pos',act:=.start }]:Trace)=U
  have hu:∀ op∈U,op.act.touch?=none:=by
    subst hU;intro op hop;simp at hop;rcases hop with rfl | rfl <;> rfl
  have hop1:(t++U)[t.size]?=some { g:=0,fn,pos,act:=.go gs.size }:=by
    subst hU;rw [Array.getElem?_append_right (by omega)];simp
  have hop2:(t++U)[t.size+1]?=some { g:=gs.size,fn:=fn',pos:=pos',act:=.start }:=by
    subst hU;rw [Array.getElem?_append_right (by omega)];simp
  have hW:=MZ F.words (u:=U) (fun op hop k=>by subst hU;simp at hop;rcases hop with rfl | rfl <;> simp);have ne:∀ j d k,act j=some (d,k)→j≠gs.size:=fun j d k ha e=>by rw [e,hnew] at ha;cases ha
  refine ⟨?_,F.mod.same rfl rfl rfl (fun _ _ _=>rfl) |> fun hm=>⟨hm.os,hm.tape,hm.output,hm.blk,fun b hb=>hb⟩,fun j x hj hx ha=>?_,fun j e k ha=>?_,fun j e k ha b h1 h2=>?_,fun j l e k f o hjl ha hb b h1 h2=>?_,?_,fun said=>OL (F.clean said) hu,hW,?_,fun i a b ha hb hk hp=>?_,fun j e k ha=>?_,fun j a ha=>?_,fun g v hv=>by have:=F.num g v hv;simp;omega⟩
  · rw [Array.getElem?_push,if_neg (by simp;omega)];simp [h0]
  · by_cases e:j=gs.size
    · subst e;rw [AZ] at ha;cases ha
    · rw [BO _ _ e] at ha
      rw [IE _ _ e];exact F.leav j x hj (hgp j x hx hj e) ha
  · by_cases e1:j=gs.size
    · subst e1
      rw [AZ] at ha;cases ha;refine ⟨h0,?_,⟨F.mod.os,F.mod.tape,F.mod.output,F.mod.blk,fun b hb=>hb⟩,_,rfl,by rw [KK];exact hT,c.free⟩;rw [Array.getElem?_push,if_pos (by simp)]
    · rw [BO _ _ e1] at ha
      obtain ⟨k1,k2,k3,h2,k4,k5,k6⟩:=F.work j e k ha;rw [hg] at k4;cases k4;exact ⟨k1,hpg j _ k2 k1,k3,_,rfl,by rw [IE _ _ e1];exact k5,k6⟩
  · by_cases e1:j=gs.size
    · subst e1
      rw [AZ] at ha;cases ha;exact ⟨h1,h2⟩
    · rw [BO _ _ e1] at ha
      exact ⟨(F.sep0 j e k ha b h1 h2).1,h2⟩
  · by_cases e1:j=gs.size
    · subst e1
      rw [AZ] at ha;rw [BO _ _ (Ne.symm hjl)] at hb;cases ha;exact ⟨h1,(F.sep0 l f o hb b h2 h1).1⟩
    · rw [BO _ _ e1] at ha
      by_cases e2:l=gs.size
      · subst e2
        rw [AZ] at hb;cases hb;exact ⟨(F.sep0 j e k ha b h1 h2).1,h2⟩
      · rw [BO _ _ e2] at hb
        exact F.sep j l e k f o hjl ha hb b h1 h2
  · have hni:gs.size∉L:=fun h=>(c.mem _).1 h hnew
    refine ⟨q,tm,gs.size::L,⟨c.heap,c.free,List.nodup_cons.2 ⟨hni,c.nodup⟩,fun j=>?_,?_,?_,fun k g v hk=>?_⟩⟩
    · by_cases e:j=gs.size
      · subst e;simp [AZ]
      · rw [BO _ _ e,← c.mem j];simp [e]
    · have e1 : L.map (HH (setA act gs.size (some (⟨cf, ccs, σ.child⟩, m)))) = L.map (HH act) := List.map_congr_left fun j hj => by
        have:j≠gs.size:=fun e=>hni (e▸hj)
        simp [HH,BO _ _ this]
      have e2:HH (setA act gs.size (some (⟨cf,ccs,σ.child⟩,m))) gs.size=m:=by simp [HH,AZ]
      show (m::h.outs).Perm _;rw [List.map_cons,e1,e2];exact (List.Perm.cons m c.outs).trans List.perm_middle.symm
    · show (m::h.outs).length≤h.cap
      simp;omega
    · obtain ⟨g1,g2,p,g3,g4,g5⟩:=c.said k g v hk
      have hp:=lt_of_act? g3;have hgz:g≠gs.size:=fun e=>by
        have:=F.num g v (List.mem_of_getElem? hk);omega
      refine ⟨g1,by rw [BO _ _ hgz];exact g2,p,by rw [act?_old hp];exact g3,by rw [g?_old hp];exact g4,fun j a hj hgj=>?_⟩;obtain ⟨x,hx,hxa⟩:=touch_of hj;rcases getElem?_append_cases hx with ⟨hjl,hx'⟩ | ⟨_,hxu⟩
      · exact (g5 j a (by rw [touchAt_of hx'];exact hxa) (by rw [g?_old hjl] at hgj;exact hgj)).app _
      · rw [hu x hxu] at hxa;cases hxa
  · exact ST F.low fun op hop=>by subst hU;simp at hop;rcases hop with rfl | rfl <;> trivial
  · rcases hp with hp | hp
    · obtain ⟨x,hx,hxa⟩:=touch_of ha
      rcases getElem?_append_cases hx with ⟨_,hx'⟩ | ⟨_,hxu⟩
      · exact (F.kn0 i a b (by rw [touchAt_of hx'];exact hxa) hb hk (.inl hp)).app _
      · rw [hu x hxu] at hxa;cases hxa
    · exact absurd hk hp
  · by_cases e1:j=gs.size
    · subst e1
      rw [AZ] at ha;cases ha;intro i a b hi hb hk hp;rcases hp with hp | hp
      · obtain ⟨x,hx,hxa⟩:=touch_of hi
        rcases getElem?_append_cases hx with ⟨_,hx'⟩ | ⟨_,hxu⟩
        · have hkn:Knows (t++U) 0 i:=(F.kn0 i a b (by rw [touchAt_of hx'];exact hxa) hb hk (.inl hp)).app _
          obtain ⟨p,z,hz1,hz2,hz3⟩:=F.kn0 i a b (by rw [touchAt_of hx'];exact hxa) hb hk (.inl hp);have hplt:=lt_size_of_getElem? hz1;refine ⟨t.size+1,_,hop2,rfl,.inr ?_⟩;refine ((hz3.app U).hb (hb_po hplt (by rw [getElem?_append_old hplt];exact hz1) hop1 hz2)).trans (.single (.inr ⟨.spawn (child:=gs.size) (by rw [act?_of hop1]) (by rw [act?_of hop2]) (by simp only [Trace.g?,hop2,Option.map_some]),hW.heard hop1,hW.heard hop2⟩))
        · rw [hu x hxu] at hxa;cases hxa
      · exact absurd hk hp
    · rw [BO _ _ e1] at ha
      exact kn_app (F.knw j e k ha) hu
  · obtain ⟨x,hx,hxa⟩:=touch_of ha
    rcases getElem?_append_cases hx with ⟨hj,hx'⟩ | ⟨_,hxu⟩
    · rcases F.all j a (by rw [touchAt_of hx'];exact hxa) with h1 | ⟨k,h1,h2,h3⟩
      · exact .inl (h1.app _)
      · refine .inr ⟨k,by rw [g?_old hj];exact h1,h2,?_⟩
        by_cases e:k=gs.size
        · subst e;exact .inl (by simp [AZ])
        · rw [BO _ _ e];exact h3
    · rw [hu x hxu] at hxa;cases hxa
def Reach (P:Program) (m:Machine) (t:Trace) (D:Machine→Trace→Prop):Prop:=∃ N m' t',runNT P N m t=(.next m',t')∧D m' t'
theorem Reach.now {m:Machine} {D:Machine→Trace→Prop} (h:D m t):Reach P m t D:=⟨0,m,t,rfl,h⟩
theorem Reach.step {m m1:Machine} {ops:Trace} {D:Machine→Trace→Prop} (hs:stepT P m=(.next m1,ops)) (h:Reach P m1 (t++ops) D):Reach P m t D:=by
  obtain ⟨N,m',t',h1,h2⟩:=h;exact ⟨N+1,m',t',by simp only [runNT,hs];exact h1,h2⟩
theorem Reach.trans {m:Machine} {D E:Machine→Trace→Prop} (h:Reach P m t D) (k:∀ m t,D m t→Reach P m t E):Reach P m t E:=by
  obtain ⟨N,m1,t1,h1,h2⟩:=h;obtain ⟨N2,m2,t2,h3,h4⟩:=k m1 t1 h2;refine ⟨N+N2,m2,t2,?_,h4⟩;clear h2 h4 k
  induction N generalizing m t with
  | zero=>simp only [runNT,Prod.mk.injEq,Stepped.next.injEq] at h1;obtain ⟨rfl,rfl⟩:=h1;rw [Nat.zero_add];exact h3
  | succ N ih=>
    rw [show N+1+N2=(N+N2)+1 by omega];simp only [runNT] at h1 ⊢;cases hs:stepT P m with
    | mk s ops=>
      rw [hs] at h1;cases s with
      | next m'=>exact ih h1
      | ended o w=>simp at h1
theorem Fr.park (F:Fr P σ g0 gs w t τ act sent) (g1:Goroutine):Fr P σ g1 (gs.setIfInBounds 0 g1) w t τ act sent:=by
  have h0:=DI F.main;refine ⟨by simp [h0],F.mod,fun j x hj hx ha=>F.leav j x hj (by rwa [Array.getElem?_setIfInBounds_ne (by omega)] at hx) ha,fun j d m ha=>?_,F.sep0,F.sep,F.chan,F.clean,F.words,F.low,F.kn0,F.knw,F.all,fun g v hv=>by simpa using F.num g v hv⟩;obtain ⟨k1,k2,k3⟩:=F.work j d m ha;exact ⟨k1,by rw [Array.getElem?_setIfInBounds_ne (by omega)];exact k2,k3⟩
theorem QO {i : Nat} {g : Goroutine} {sl : Option (Nat × Nat)} (F : Fr P σ g0 gs w t τ act sent) (hi : gs[i]? = some g) (hpos : 0 < i) (hrun : g.status = .running)
    (hm:∀ a a' w',(∀ h,σ.gh=some h→∃ buf s q tm,w'.heap[h.r]?=some (.chan h.cap buf false s q tm))→woken P a a' w' g0=g0) :
    (∃ gs' w' ops τ' act',runT P (crowd gs w sl) i=(.next (crowd gs' w' sl),ops)∧gs'.size=gs.size∧Red (NG gs.size τ') (NG gs.size τ)∧Fr P σ g0 gs' w' (t++ops) τ' act' sent) ∨
    (∃ d m h n f,act i=some (d,m)∧σ.gh=some h∧τ i=.node f∧(∀ w,f w=natT n)∧QY P h.r m n d∧g=G d.fr d.cs):=by
  have hilt:=DI hi;have hi0:(i == 0)=false:=by simp;omega
  cases hx:act i with
  | none=>
    obtain ⟨k,hk,hq⟩:=F.leav i g hpos hi hx;cases k with
    | zero=>rw [show g.status=.finished from hq] at hrun;cases hrun
    | succ k=>
      rcases hq with hq | ⟨_,g',hst,hq⟩
      · rw [hq] at hrun;cases hrun
      · refine .inl ⟨_,w,#[],setT τ i (natT k),act,runT_crowd_go (P:=P) hi (by rw [hi0];exact hst w),by simp,QF hilt (by rw [hk];exact Twig.mk (fun _=>natT k) w),?_⟩
        rw [Array.append_empty];exact F.stepL hpos hi hx hq (hm _ _ _ fun h hg=>Chn.open F hg)
  | some x=>
    obtain ⟨d,m⟩:=x;obtain ⟨_,k2,k3,h,k4,k5,k6⟩:=F.work i d m hx;rw [hi] at k2;obtain rfl:=Option.some.inj k2;cases hτ:τ i with
    | leaf=>rw [hτ] at k5;exact k5.elim
    | node f=>
      rw [hτ] at k5;rcases k5 with ⟨n,hf,hs⟩ | hs
      · exact .inr ⟨d,m,h,n,f,rfl,k4,rfl,hf,hs,rfl⟩
      · obtain ⟨fr',cs',w',es,σ',h1,h2,h3⟩:=hs w k3
        refine .inl ⟨_,w',_,setT τ i (f w),setA act i (some (⟨fr',cs',σ'⟩,m)),runT_crowd_go (P:=P) hi (by rw [hi0];exact h1),by simp,QF hilt (by rw [hτ];exact .mk _ w),?_⟩;refine F.stepW hx k4 h2 h3 (hm _ _ _ fun h' hg'=>?_);rw [k4] at hg';cases hg';obtain ⟨buf,s,q,tm,hc⟩:=Chn.open F k4;exact ⟨buf,s,q,tm,by rw [h2.frame _ (.inl k6) (Chn.lt F k4)];exact hc⟩
theorem others {fr : Frame} {cs : List Frame} {D : Machine → Trace → Prop}
    (hmain:∀ gs w sl t τ act sent,Fr P σ (G fr cs) gs w t τ act sent→∃ m ops,runT P (crowd gs w sl) 0=(.next m,ops)∧Reach P m (t++ops) D) :
    ∀ (l:List Tree),Acc Red l→∀ gs w sl t τ act sent,l=NG gs.size τ→Fr P σ (G fr cs) gs w t τ act sent→Reach P (crowd gs w sl) t D:=by
  intro l hl
  induction hl with
  | intro l _ ih=>
    intro gs w sl t τ act sent hlf F;obtain ⟨i,g,d,sl',hi,hrun,hst⟩:=crowd_pick (P:=P) (w:=w) (sl:=sl) (F.awake (awake_of (.inl rfl))) ⟨0,G fr cs,F.main,rfl⟩;have F':=F.draw d;rcases Nat.eq_zero_or_pos i with rfl | hpos
    · obtain ⟨m,ops,h1,h2⟩:=hmain gs (w.at d) sl' t τ act sent F'
      exact .step (hst.trans h1) h2
    · rcases QO (sl:=sl') F' hi hpos hrun (fun _ _ _ _=>woken_run rfl) with ⟨gs',w',ops,τ',act',h1,h2,h3,h4⟩ | ⟨e,m,h,n,f,h1,h2,h3,h4,⟨h5,h6⟩,rfl⟩
      · exact .step (hst.trans h1) (ih _ (hlf▸h3) gs' w' sl' _ τ' act' sent (by rw [h2]) h4)
      · obtain ⟨buf,s,q,tm,hc⟩:=Chn.open F' h2
        obtain ⟨hroom,F2⟩:=F'.send (fn:=e.fr.fn) (pos:=e.fr.place) (fn':=e.fr.fn) (pos':=e.fr.place) h1 h2 h6 hc;have hi0:(i == 0)=false:=by simp;omega
        obtain ⟨z,hz⟩:=h5 (w.at d) (F'.work i e m h1).2.2.1;have hp:partners (gs.setIfInBounds i ph) h.r false=[]:=partners_nil fun j x hj=>by
          rcases getElem?_stand gs i j x hj with ⟨_,rfl⟩ | ⟨_,hj'⟩
          · rfl
          · rcases Nat.eq_zero_or_pos j with rfl | hjp
            · rw [F'.main] at hj';cases hj'
              exact offersAt_of_not_blocked (by simp [G]) _ _
            · exact F'.offers h.r false j x hjp hj'
        have h7:=crowd_send_room (P:=P) (sl:=sl') hi (by rw [hi0];exact hz) hc hroom hp;refine .step (hst.trans h7) ?_;refine ih (NG gs.size (setT τ i (natT n))) (by rw [hlf];exact QF (DI hi) (by rw [h3,← h4 (w.at d)];exact .mk _ _)) _ _ _ _ (setT τ i (natT n)) (setA act i none) (sent++[(i,m)]) (by simp) ?_;exact F2
def At (P:Program) (Q:Cf→Prop) (m:Machine) (t:Trace):Prop:=∃ d gs w sl τ act sent,m=crowd gs w sl∧Fr P d.σ (G d.fr d.cs) gs w t τ act sent∧Q d
def PT (P:Program) (c:Cf) (Q:Cf→Prop):Prop:=∀ gs w sl t τ act sent,Fr P c.σ (G c.fr c.cs) gs w t τ act sent→Reach P (crowd gs w sl) t (At P Q)
theorem getsB_bind {c:Cf} {Q R:Cf→Prop} (h:PT P c Q) (k:∀ d,Q d→PT P d R):PT P c R:=fun gs w sl t τ act sent F=>
  (h gs w sl t τ act sent F).trans fun m t ⟨d,gs,w,sl,τ,act,sent,e,F',hd⟩=>e▸k d hd gs w sl t τ act sent F'
theorem getsB_one {c:Cf} {Q:Cf→Prop} (h:OneStep P c Q):PT P c Q:=fun gs w sl t τ act sent F=>
  others (fun gs w sl t τ act sent F=>by
    obtain ⟨fr',cs',w',es,σ',h1,h2,h3⟩:=h w F.mod
    exact ⟨_,_,runT_crowd_go (P:=P) F.main (h1 _),.now ⟨⟨fr',cs',σ'⟩,_,w',sl,τ,act,sent,rfl,F.step0 h2,h3⟩⟩) _ (acc_red _) gs w sl t τ act sent rfl F
@[reducible] def JB (P:Program):Jud P where
  gets:=PT P
  stop h:=fun gs w sl t τ act sent F=>.now ⟨_,gs,w,sl,τ,act,sent,rfl,F,h⟩
  bind:=getsB_bind
  one:=getsB_one
theorem getsB_go {fr fr' cf : Frame} {cs cs' ccs : List Frame} {h : Gh} {m : Value} {Q : Cf → Prop} (hg : σ.gh = some h) (hroom : h.outs.length < h.cap) (hs : ∀ w, Mod σ w → stepG P true (G fr cs) w = .spawn (G fr' cs') (G cf ccs) w #[])
    (hc:∃ T,Tr P (fun d=>∃ n,QY P h.r m n d) T ⟨cf,ccs,σ.child⟩) (k:PT P ⟨fr',cs',σ.share h m⟩ Q):PT P ⟨fr,cs,σ⟩ Q:=fun gs w sl t τ act sent F=>
  others (fun gs w sl t τ act sent F=>by
    obtain ⟨T,hT⟩:=hc
    obtain ⟨T,hT⟩:=wk_of_tr T _ hT
    refine ⟨_,_,runT_crowd_spawn (P:=P) F.main (hs w F.mod),?_⟩
    have F2:=F.spawn (fr':=fr') (cs':=cs') (cf:=cf) (ccs:=ccs) (m:=m) (T:=T) (fn:=fr.fn) (pos:=fr.place) (fn':=cf.fn) (pos':=fr.place) hg hroom hT
    refine k _ w sl _ (setT τ gs.size T) (setA act gs.size (some (⟨cf,ccs,σ.child⟩,m))) sent ?_
    have e:∀ (x y:MemOp),t++((MemOp.ofEvents 0 (G fr cs).frame.fn (G fr cs).frame.place #[]).push x |>.push y)=(t.push x).push y:=fun x y=>by
      apply Array.ext';simp [MemOp.ofEvents]
    rw [e]
    exact F2) _ (acc_red _) gs w sl t τ act sent rfl F
theorem waiting {fr : Frame} {cs : List Frame} {h : Gh} {z : Value} {D : Machine → Trace → Prop} (hg : σ.gh = some h) (hne : h.outs ≠ [])
    (hmeet:∀ gs w sl t τ act v outs,h.outs.Perm (v::outs)→Fr P (σ.outs h outs) (G (fr.finish v) cs) gs w t τ act []→Reach P (crowd gs w sl) t D) :
    ∀ (l:List Tree),Acc Red l→∀ gs w sl t τ act,l=NG gs.size τ→Fr P σ (parked (G fr cs) #[rcase h.r z] (.recv false)) gs w t τ act []→Reach P (crowd gs w sl) t D:=by
  intro l hl
  induction hl with
  | intro l _ ih=>
    intro gs w sl t τ act hlf F;have hch:=F.chan;unfold Chn at hch;rw [hg] at hch;obtain ⟨q,tm,L,c⟩:=hch;have hL:L≠[]:=fun e=>by
      have:=c.outs;rw [e] at this;exact hne (by simpa using this)
    obtain ⟨i0,hi0⟩:=List.exists_mem_of_ne_nil L hL;have hact:=(c.mem i0).1 hi0
    obtain ⟨i,g,d,sl',hi,hrun,hst⟩:=crowd_pick (P:=P) (w:=w) (sl:=sl) (F.awake (awake_of (.inr (.inl rfl)))) (by
      cases hx:act i0 with
      | none=>exact absurd hx hact
      | some x=>obtain ⟨d,m⟩:=x;exact ⟨i0,_,(F.work i0 d m hx).2.1,rfl⟩)
    have F':=F.draw d;have hpos:0<i:=by
      rcases Nat.eq_zero_or_pos i with rfl | h
      · rw [F.main] at hi;cases hi;cases hrun
      · exact h
    rcases QO (sl := sl') F' hi hpos hrun (fun a a' w' ho => by
        obtain ⟨buf,s,q,tm,hc⟩:=ho h hg
        exact woken_recv_open a a' hc) with ⟨gs',w',ops,τ',act',h1,h2,h3,h4⟩ | ⟨e,m,h',n,f,h1,h2,h3,h4,⟨h5,h6⟩,rfl⟩
    · exact .step (hst.trans h1) (ih _ (hlf▸h3) gs' w' sl' _ τ' act' (by rw [h2]) h4)
    · rw [hg] at h2;cases h2
      obtain ⟨buf,s,q2,tm2,hc⟩:=Chn.open F' hg;have hmem:m∈h.outs:=c.outs.mem_iff.2 (List.mem_append_right _ (List.mem_map.2 ⟨i,(c.mem i).2 (by simp [h1]),by simp [HH,h1]⟩));obtain ⟨A,B,hAB⟩:=List.append_of_mem hmem;have ho:h.outs.Perm (m::(A++B)):=by rw [hAB];exact List.perm_middle
      have F2:=F'.meet (fr:=fr.finish m) (cs:=cs) (fn:=e.fr.fn) (pos:=e.fr.place) (fn':=e.fr.fn) (pos':=e.fr.place) (fn2:=fr.fn) (pos2:=fr.place) (fn3:=fr.fn) (pos3:=fr.place) h1 hg h6 hc ho;have hi0:(i == 0)=false:=by simp;omega
      obtain ⟨z',hz⟩:=h5 (w.at d) (F'.work i e m h1).2.2.1;have hp:partners (gs.setIfInBounds i ph) h.r false=[(0,0)]:=by
        rw [partners_one (j:=0) (g:=parked (G fr cs) #[rcase h.r z] (.recv false)) (stand_get (by omega) F'.main) fun k x hk hx=>?_]
        · rw [offersAt_parked_recv,if_pos rfl];rfl
        · rcases getElem?_stand gs i k x hx with ⟨_,rfl⟩ | ⟨_,hx'⟩
          · rfl
          · exact F'.offers h.r false k x (by omega) hx'
      have h7:=crowd_send_meets (P:=P) (sl:=sl') (j:=0) hi (by rw [hi0];exact hz) hc (by omega) F'.main hp;refine .step (hst.trans h7) ?_;exact hmeet _ _ _ _ _ _ m (A++B) ho F2
theorem getsB_recv {fr : Frame} {cs : List Frame} {h : Gh} {z : Value} {Q : Cf → Prop} (hg : σ.gh = some h) (hne : h.outs ≠ []) (hs : ∀ w, Mod σ w → stepG P true (G fr cs) w = .comm (G fr cs) #[rcase h.r z] true (.recv false) w #[])
    (k:∀ v outs,h.outs.Perm (v::outs)→PT P ⟨fr.finish v,cs,σ.outs h outs⟩ Q):PT P ⟨fr,cs,σ⟩ Q:=fun gs w sl t τ act sent F=>
  others (fun gs w sl t τ act sent F=>by
    have hch:=F.chan
    unfold Chn at hch
    rw [hg] at hch
    obtain ⟨q,tm,L,c⟩:=hch
    cases hsent:sent with
    | nil=>
      subst hsent
      have hw:∀ cc∈(#[rcase h.r z]:Array CommCase),NoWays w (gs.setIfInBounds 0 ph) cc:=fun cc hcc=>by
        simp at hcc;subst hcc
        refine ⟨made_recv z c.heap,?_⟩
        have hp:partners (gs.setIfInBounds 0 ph) h.r true=[]:=partners_nil fun j x hj=>by
          rcases getElem?_stand gs 0 j x hj with ⟨_,rfl⟩ | ⟨hj0,hj'⟩
          · rfl
          · exact F.offers h.r true j x (by omega) hj'
        simp [ways,rcase,c.heap,hp]
      refine ⟨_,_,crowd_waits (P:=P) F.main (hs w F.mod) hw,?_⟩
      rw [show MemOp.ofEvents 0 (G fr cs).frame.fn (G fr cs).frame.place #[]=#[] from rfl,Array.append_empty]
      exact waiting hg hne (fun gs w sl t τ act v outs ho F=>k v outs ho gs w sl t τ act [] F) _ (acc_red _) _ _ _ _ τ act rfl (F.park _)
    | cons x rest=>
      subst hsent
      obtain ⟨g,v⟩:=x
      have ho:h.outs.Perm (v::(rest.map Prod.snd++L.map (HH act))):=c.outs
      have hp:partners (gs.setIfInBounds 0 ph) h.r true=[]:=partners_nil fun j x hj=>by
        rcases getElem?_stand gs 0 j x hj with ⟨_,rfl⟩ | ⟨hj0,hj'⟩
        · rfl
        · exact F.offers h.r true j x (by omega) hj'
      refine ⟨_,_,crowd_recv_buf (P:=P) F.main (hs w F.mod) c.heap (by simp) hp,?_⟩
      have F2:=F.recv (fr:=fr.finish v) (cs:=cs) (fn:=fr.fn) (pos:=fr.place) (fn':=fr.fn) (pos':=fr.place) hg c.heap ho
      exact k v _ ho _ _ _ _ τ act rest F2) _ (acc_red _) gs w sl t τ act sent rfl F
end
section
variable {P:Program} {σ:GW} {g0:Goroutine} {gs:Array Goroutine} {w:Go.World} {t:Trace} {τ:Nat→Tree} {act:Acts} {sent:List (Nat × Value)}
def GW.give (σ:GW) (r cap:Nat):GW:={ σ with blk:=fun b=>if b=r then none else σ.blk b,gh:=some ⟨r,cap,[]⟩ }
def GW.take (σ:GW) (h:Gh) (q:Nat) (tm:Bool):GW:={ σ with blk:=fun b=>if b=h.r then some (.chan h.cap #[] false q q tm) else σ.blk b,pub:=fun _=>False,gh:=none }
theorem Fr.give {r cap q:Nat} {tm:Bool} (F:Fr P σ g0 gs w t τ act sent) (hg:σ.gh=none) (hr:σ.blk r=some (.chan cap #[] false q q tm)) (hp:¬ σ.pub r):Fr P (σ.give r cap) g0 gs w t τ act sent:=by
  have hch:=F.chan;unfold Chn at hch;rw [hg] at hch;obtain ⟨hact,rfl⟩:=hch;have le:∀ b o,(σ.give r cap).blk b=some o→σ.blk b=some o:=fun b o hb=>by
    simp only [GW.give] at hb
    split at hb
    · cases hb
    · exact hb
  refine ⟨F.main,⟨F.mod.os,F.mod.tape,F.mod.output,fun b o hb=>F.mod.blk b o (le b o hb),fun b hb=>?_⟩,F.leav,fun i d m ha=>(by rw [hact] at ha;cases ha),fun i d m ha=>(by rw [hact] at ha;cases ha),fun i j d m e n _ ha=>(by rw [hact] at ha;cases ha),?_,F.clean,F.words,F.low,fun i a b ha hb hk hpb=>?_,fun i d m ha=>(by rw [hact] at ha;cases ha),F.all,F.num⟩
  · show (if b=r then none else σ.blk b)≠none
    have hb':σ.pub b:=hb;have hne:b≠r:=fun e=>by subst e;exact hp hb'
    rw [if_neg hne];exact F.mod.known b hb'
  · refine ⟨q,tm,[],⟨by simpa using F.mod.blk r _ hr,by simp [GW.give],by simp,fun i=>by simp [hact],by simp,by simp,fun k g v hk=>by simp at hk⟩⟩
  · refine F.kn0 i a b ha hb (fun e=>hk ?_) hpb
    show (if b=r then none else σ.blk b)=none
    split
    · rfl
    · exact e
theorem Fr.take {h:Gh} (F:Fr P σ g0 gs w t τ act sent) (hg:σ.gh=some h) (ho:h.outs=[]):∃ q tm,Fr P (σ.take h q tm) g0 gs w t τ act []:=by
  have hch:=F.chan;unfold Chn at hch;rw [hg] at hch;obtain ⟨q,tm,L,c⟩:=hch;have hnil:=c.outs;rw [ho] at hnil;have hn:=List.nil_perm.1 hnil;have hs:sent=[]:=by
    have:=(List.append_eq_nil_iff.1 hn).1;exact List.map_eq_nil_iff.1 this
  have hL:L=[]:=List.map_eq_nil_iff.1 (List.append_eq_nil_iff.1 hn).2;subst hs hL;have hact:∀ i,act i=none:=fun i=>by
    cases hx:act i with
    | none=>rfl
    | some x=>have:=(c.mem i).2 (by simp [hx]);simp at this
  refine ⟨q,tm,F.main,⟨F.mod.os,F.mod.tape,F.mod.output,fun b o hb=>?_,fun b hb=>hb.elim⟩,F.leav,fun i d m ha=>(by rw [hact] at ha;cases ha),fun i d m ha=>(by rw [hact] at ha;cases ha),fun i j d m e n _ ha=>(by rw [hact] at ha;cases ha),⟨hact,rfl⟩,F.clean,F.words,F.low,fun i a b ha hb hk hpb=>?_,fun i d m ha=>(by rw [hact] at ha;cases ha),F.all,F.num⟩
  · simp only [GW.take] at hb
    split at hb
    · rename_i e;subst e;cases hb;simpa using c.heap
    · exact F.mod.blk b o hb
  · rcases F.all i a ha with h1 | ⟨g,_,_,h2 | ⟨v,h2⟩⟩
    · exact h1
    · exact absurd (hact g) h2
    · simp at h2
theorem getsB_give {fr:Frame} {cs:List Frame} {r cap q:Nat} {tm:Bool} {Q:Cf→Prop} (hg:σ.gh=none) (hr:σ.blk r=some (.chan cap #[] false q q tm)) (hp:¬ σ.pub r) (k:PT P ⟨fr,cs,σ.give r cap⟩ Q):PT P ⟨fr,cs,σ⟩ Q:=
  fun gs w sl t τ act sent F=>k gs w sl t τ act sent (F.give hg hr hp)
theorem getsB_take {fr:Frame} {cs:List Frame} {h:Gh} {Q:Cf→Prop} (hg:σ.gh=some h) (ho:h.outs=[]) (k:∀ q tm,σ.blk h.r=none→PT P ⟨fr,cs,σ.take h q tm⟩ Q):PT P ⟨fr,cs,σ⟩ Q:=
  fun gs w sl t τ act sent F=>let ⟨q,tm,F'⟩:=F.take hg ho;k q tm (by
    have hch:=F.chan
    unfold Chn at hch
    rw [hg] at hch
    obtain ⟨_,_,_,c⟩:=hch
    exact c.free) gs w sl t τ act [] F'
def gw0 (W:Go.World):GW:={ os:=W.os,tape:=W.tape,output:=W.output,blk:=fun b=>W.heap[b]?,pub:=fun _=>False,gh:=none }
theorem mod_gw0 (W:Go.World):Mod (gw0 W) W:=⟨rfl,rfl,rfl,fun _ _ h=>h,fun _ h=>h.elim⟩
theorem fr_solo (P:Program) (g:Goroutine) (W:Go.World):Fr P (gw0 W) g #[g] W #[] (fun _=>.leaf) (fun _=>none) []:=
  ⟨rfl,mod_gw0 W,fun i x hi hx=>by have:=DI hx;simp at this;omega,fun _ _ _ h=>(by cases h),fun _ _ _ h=>(by cases h),fun _ _ _ _ _ _ _ h=>(by cases h),⟨fun _=>rfl,rfl⟩,fun said=>by rintro ⟨i,j,_,⟨a,b,ha,_⟩,_⟩;simp [Trace.act?] at ha,
    fun op h=>by simp at h,fun op h=>by simp at h,fun i a b ha=>by simp [touchAt,Trace.act?] at ha,fun _ _ _ h=>(by cases h),fun i a ha=>by simp [touchAt,Trace.act?] at ha,fun _ _ h=>by simp at h⟩
theorem step_ended {f : FuncId} {fr : Frame} {R : Value → GW → Prop} (noInit : P.inits.idxOf? f = none) (h : Lv P f [] .normal R ⟨fr, [], σ⟩) (hw : Mod σ w) :
    ∃ v w' es σ',stepG P true (G fr []) w=.ended (.done v) w' es∧Guar σ w w' es σ'∧R v σ':=by
  obtain ⟨_,hfn,hm,hd,hk,fn,hf,hr⟩:=h;simp only at hfn hm hd hk hr;subst hfn;obtain ⟨v,w',es,σ',h1,h2,h3⟩:=hr w hw;have h0:=h1 #[];rw [Array.empty_append] at h0;refine ⟨v,w',seen P fr.fn es,σ',?_,h2.less fun e he=>JQ he,h3⟩;simp only [G,stepG,hm,unwind,hd,hf,h0,doReturn,hk,GStep.after,Array.append_empty,Bool.not_true,Bool.false_eq_true,if_false,noInit]
theorem ending {f : FuncId} {fr : Frame} {R : Value → GW → Prop} (noInit : P.inits.idxOf? f = none) (h : Lv P f [] .normal R ⟨fr, [], σ⟩) (hg : σ.gh = none) :
    ∀ (l:List Tree),Acc Red l→∀ gs w sl t τ act sent,l=NG gs.size τ→Fr P σ (G fr []) gs w t τ act sent →
      ∃ N last o w' t',runNT P (N+1) (crowd gs w sl) t=(.ended o w',t')∧runN P N (crowd gs w sl)=.next last∧step P last=.ended o w'∧Go.Conc.Good P (fun v W'=>∃ σ',Mod σ' W'∧R v σ') last o w' t':=by
  intro l hl
  induction hl with
  | intro l _ ih=>
    intro gs w sl t τ act sent hlf F;obtain ⟨i,g,d,sl',hi,hrun,hst⟩:=crowd_pick (P:=P) (w:=w) (sl:=sl) (F.awake (awake_of (.inl rfl))) ⟨0,G fr [],F.main,rfl⟩;have F':=F.draw d;have hch:=F.chan;unfold Chn at hch;rw [hg] at hch;obtain ⟨hact,rfl⟩:=hch;rcases Nat.eq_zero_or_pos i with rfl | hpos
    · obtain ⟨v,w',es,σ',h1,h2,h3⟩:=step_ended noInit h F'.mod
      have hrunT:=runT_many_ended (P:=P) (sl:=sl') F.main (show stepG P (0 == 0) (G fr []) (w.at d)=_ from h1);have F2:=F'.step0 (fr':=fr) (cs':=[]) (fn:=(G fr []).frame.fn) (pos:=(G fr []).frame.place) h2
      generalize hT:t++MemOp.ofEvents 0 (G fr []).frame.fn (G fr []).frame.place es=T at F2
      refine ⟨0,crowd gs w sl,.done v,w',T,?_,rfl,?_,v,rfl,⟨σ',h2.mod,h3⟩,F2.clean,fun i g hgi hne hc=>?_,⟨fun x hx=>?_,rfl⟩,fun j x hx hj=>?_⟩
      · simp only [runNT,hst,hrunT,hT]
      · simp only [step,hst,hrunT]
      · obtain ⟨x,hx,_⟩:=hc
        rcases F2.all i x hx with ⟨q,z,k1,k2,k3⟩ | ⟨n,_,_,k | ⟨v',k⟩⟩
        · rcases k3 with rfl | k3
          · simp only [Trace.g?,k1,Option.map_some,Option.some.injEq] at hgi
            exact absurd (hgi.symm.trans k2) hne
          · exact ⟨q,by simp only [Trace.g?,k1,Option.map_some,k2],k3⟩
        · exact absurd (hact n) k
        · simp at k
      · obtain ⟨j,hj⟩:=List.mem_iff_getElem?.1 hx
        rw [List.getElem?_drop] at hj;obtain ⟨k,_,hq⟩:=F.leav (1+j) x (by omega) (by simpa [crowd] using hj) (hact _);exact ⟨k,hq.leaves⟩
      · obtain ⟨k,_,hq⟩:=F.leav j x (by omega) hx (hact j)
        refine ⟨k,?_⟩;rw [F2.words.deaf];exact hq.hears _ 0
    · rcases QO (sl:=sl') F' hi hpos hrun (fun _ _ _ _=>woken_run rfl) with ⟨gs',w',ops,τ',act',h1,h2,h3,h4⟩ | ⟨e,m,h',n,f',h1,h2,_⟩
      · obtain ⟨N,last,o,w2,t',k1,k2,k3,k4⟩:=ih _ (hlf▸h3) gs' w' sl' _ τ' act' [] (by rw [h2]) h4
        have hs:=hst.trans h1;exact ⟨N+1,last,o,w2,t',by rw [runNT_succ_next hs];exact k1,by rw [runN_succ_next hs];exact k2,k3,k4⟩
      · rw [hact] at h1;cases h1
theorem run_good {f : FuncId} {args : Array Value} {W : Go.World} {R : Value → GW → Prop} (noInit : P.inits.idxOf? f = none) (h : @Calls P (JB P) f args (gw0 W) R) (hR : ∀ v σ, R v σ → σ.gh = none) :
    ∃ M last o w' t',runNT P (M+1) (solo (G (Frame.enter P f args .normal) []) W) #[]=(.ended o w',t')∧runN P M (solo (G (Frame.enter P f args .normal) []) W)=.next last∧step P last=.ended o w' ∧
      Go.Conc.Good P (fun v W'=>∃ σ',Mod σ' W'∧R v σ') last o w' t':=by
  have h1:=h [] #[G (Frame.enter P f args .normal) []] W none #[] (fun _=>.leaf) (fun _=>none) [] (fr_solo P _ W);obtain ⟨N,m,t,h1,d,gs,w,sl,τ,act,sent,rfl,F,hlv⟩:=h1;obtain ⟨fr,cs,σ⟩:=d;obtain rfl:cs=[]:=hlv.cs;have hgh:∀ w,Mod σ w→σ.gh=none:=fun w hw=>by
    obtain ⟨v,w',es,σ',_,h2,h3⟩:=step_ended noInit hlv hw;rw [← h2.gh];exact hR v σ' h3
  obtain ⟨N2,last,o,w',t',k1,k2,k3,k4⟩:=ending noInit hlv (hgh w F.mod) _ (acc_red _) gs w sl t τ act sent rfl F;have h2:runN P N (solo (G (Frame.enter P f args .normal) []) W)=.next (crowd gs w sl):=by
    rw [← runNT_fst P N _ #[]];rw [show solo (G (Frame.enter P f args .normal) []) W=crowd #[G (Frame.enter P f args .normal) []] W none from rfl,h1]
  refine ⟨N+N2,last,o,w',t',?_,?_,k3,k4⟩
  · rw [Nat.add_assoc,runNT_add,show solo (G (Frame.enter P f args .normal) []) W=crowd #[G (Frame.enter P f args .normal) []] W none from rfl,h1];exact k1
  · rw [runN_add,h2];exact k2
end
open Go.Conc (G rcase born)
class Host (P:Program) [J:Jud P]:Prop where
  go:∀ {σ:GW} {fr fr' cf:Frame} {cs cs' ccs:List Frame} {h:Gh} {m:Value} {Q:Cf→Prop},σ.gh=some h→h.outs.length<h.cap→(∀ w,Mod σ w→stepG P true (G fr cs) w=.spawn (G fr' cs') (G cf ccs) w #[]) →
    (∃ T,Tr P (fun d=>∃ n,QY P h.r m n d) T ⟨cf,ccs,σ.child⟩)→J.gets ⟨fr',cs',σ.share h m⟩ Q→J.gets ⟨fr,cs,σ⟩ Q
  recv:∀ {σ:GW} {fr:Frame} {cs:List Frame} {h:Gh} {z:Value} {Q:Cf→Prop},σ.gh=some h→h.outs≠[]→(∀ w,Mod σ w→stepG P true (G fr cs) w=.comm (G fr cs) #[rcase h.r z] true (.recv false) w #[]) →
    (∀ v outs,h.outs.Perm (v::outs)→J.gets ⟨fr.finish v,cs,σ.outs h outs⟩ Q)→J.gets ⟨fr,cs,σ⟩ Q
  give:∀ {σ:GW} {fr:Frame} {cs:List Frame} {r cap q:Nat} {tm:Bool} {Q:Cf→Prop},σ.gh=none→σ.blk r=some (.chan cap #[] false q q tm)→¬ σ.pub r→J.gets ⟨fr,cs,σ.give r cap⟩ Q→J.gets ⟨fr,cs,σ⟩ Q
  take:∀ {σ:GW} {fr:Frame} {cs:List Frame} {h:Gh} {Q:Cf→Prop},σ.gh=some h→h.outs=[]→(∀ q tm,σ.blk h.r=none→J.gets ⟨fr,cs,σ.take h q tm⟩ Q)→J.gets ⟨fr,cs,σ⟩ Q
theorem host_JB (P:Program):@Host P (JB P):=@Host.mk P (JB P) getsB_go getsB_recv getsB_give getsB_take
structure CtB (P:Program) (f:FuncId) (args:Array Value) (I:Imm) (pre:Seg) (post:Value→Imm→Seg→Prop):Prop where
  all:∀ [Jud P] [Host P],CtA P f args I pre post
theorem Ct.b {P:Program} {f:FuncId} {args:Array Value} {I:Imm} {pre:Seg} {post:Value→Imm→Seg→Prop} (h:Ct P f args I pre post):CtB P f args I pre post:=⟨h.all⟩
theorem frB {P : Program} {f : FuncId} {fn : Func} {args : List Value} {I : Imm} {pre : Seg} {post : Value → Imm → Seg → Prop} {N : Nat} (hf : P.funcs[f]? = some fn)
    (h:∀ [Jud P] [Host P] (F:Seg),Run (ρ:=none) P N (KF fn) (RetQ P fn I post F) [] (EW 0 args) I (pre++F)) (hb:fn.body.isSome=true:=by kernel_rfl) (hN:fn.ntmps=N:=by kernel_rfl) (hle:Nat.ble args.length N=true:=by rfl):CtB P f args.toArray I pre post:=
  ⟨QE hf hb hN (Nat.le_of_ble_eq_true hle) h⟩
theorem run_good_ct {P : Program} {f : FuncId} {args : Array Value} {W : Go.World} {I : Imm} {post : Value → Imm → Seg → Prop} (noInit : P.inits.idxOf? f = none) (ct : CtB P f args I [] post) (st : St I [] (gw0 W)) (hg : I.gh = none) :
    ∃ M last o w' t',runNT P (M+1) (Go.Conc.solo (G (Frame.enter P f args .normal) []) W) #[]=(.ended o w',t')∧runN P M (Go.Conc.solo (G (Frame.enter P f args .normal) []) W)=.next last∧step P last=.ended o w' ∧
      Go.Conc.Good P (fun v W'=>∃ σ' I' M',Mod σ' W'∧I.le I'∧post v I' M'∧St I' M' σ') last o w' t':=by
  have h:=@CtB.all P f args I [] post ct (JB P) (host_JB P) [] (gw0 W) st;obtain ⟨M,last,o,w',t',h1,h2,h3,h4⟩:=run_good noInit h (fun v σ ⟨I',M',hle,_,st'⟩=>by rw [st'.gh,hle.gh];exact hg);exact ⟨M,last,o,w',t',h1,h2,h3,h4.mono fun v ⟨σ',hm,I',M',hle,hp,st'⟩=>⟨σ',I',M',hm,hle,hp,by simpa using st'⟩⟩
section
variable {ρ:Option Nat} {P:Program} [J:Jud P] {N:Nat} {ops:Array Oper} {Q:Exit→Act→GW→Prop} {ds:List Deferred} {i:Nat} {l:Sl} {I:Imm} {M:Seg} {ty:TypeId} {gd:Option (Nat × Bool)} {K:Sl→Imm→Seg→Prop}
theorem stp_callH [Host P] {d : Option Tmp} {f : Operand} {fid : FuncId} {args : Array Operand} {tys : Array TypeId} {vals cv : List Value} {pre F : Seg} {post : Value → Imm → Seg → Prop} {argv : Array Value}
    (hop:FF ops N i=some (d,.call { callee:=.value f,args,argTypes:=tys },ty,gd)) (hg:FA ops l gd=some true) (hf:BR l f=some (.func (.func fid) #[] cv.toArray)) (hv:OA l args.toList=some vals)
    (hc:CT P fid=true) (ha:(vals++cv).toArray=argv) (ct:CtB P fid argv I pre post) (hM:M.Perm (pre++F))
    (h:∀ v I' M',I.le I'→post v I' M'→K (ups d v l) I' (M'++F)):Stp P N ops i l I M K:=by
  obtain ⟨o,ho,rfl,he,rfl,rfl,hN,hs⟩:=FI hop;obtain ⟨h1,h2⟩:=HQ hv;refine ⟨o,ho,hN,hs,hg,?_,fun w st=>?_⟩
  · rw [he]
    intro x hx;simp only [Op.operands,Call.operands] at hx;rcases Array.mem_append.1 hx with hx | hx
    · simp at hx;subst hx;exact EK hf
    · exact h1 x (by simpa using hx)
  · rw [FH,he]
    refine call_to (BB hf) h2 hc ?_;rw [ha];exact (ct.all F w (st.perm hM)).mono fun v w' ⟨I',M',hle,hp,st'⟩=>⟨I',M'++F,hle,st',h v I' M' hle hp⟩
def SeqM {ρ:Option Nat} (P:Program) [Jud P] (N:Nat) (ops:Array Oper) (Q:Exit→Act→GW→Prop) (ds:List Deferred) (i:Nat) (l:Sl) (I:Imm) (M:Seg):Prop:=
  ∀ a w,Slots N l a→a.defers=ds→St I M w→QW ρ P ops Q (List.range' i (ops.size-i)) a w
theorem QR (h:Seq (ρ:=ρ) P N ops Q ds i l I M):SeqM (ρ:=ρ) P N ops Q ds i l I M:=fun a w hS hD hW=>wpOps_of_R _ _ _ (h a w hS hD hW)
theorem run_regionM {c:Code} {id:Nat} (hc:c=.region id ops false) (h:SeqM (ρ:=ρ) P N ops Q ds 0 l I M):Run (ρ:=ρ) P N c Q ds l I M:=by
  subst hc;intro a w hS hD hW;have:=h a w hS hD hW;rw [Nat.sub_zero,← List.range_eq_range'] at this;exact wpc_region this
theorem PF {d:Nat} {v:Value} (h:Det P N ops i l I M d v) (next:SeqM (ρ:=ρ) P N ops Q ds (i+1) ((d,v)::l) I M):SeqM (ρ:=ρ) P N ops Q ds i l I M:=by
  obtain ⟨o,ho,hd,hN,hs,h⟩:=h;intro a w hS hD hW;have hlt:i<ops.size:=(Array.getElem?_eq_some_iff.1 ho).1;rw [KJ hlt];have hag:∀ t∈o.looksAt ops,∀ u,look t l=some u→a.tmps[t]?=some u:=fun t _ u hu=>hS.get t u hu
  rcases h with ⟨hg,rfl⟩ | ⟨hg,hk,hr⟩
  · refine QX (by simp [ho,CD hg hag]) ?_
    simp only [ho,Option.bind_some,hd];exact next _ _ (hS.put hN _) (by rw [ES];exact hD) hW
  · refine wpOps_op ho (CD hg hag) ?_
    have:=hr I [] w (Imm.le.refl I) (by rw [List.append_nil];exact hW);rw [← KT hs hk hag] at this;refine GR hs.2 this fun u w' ⟨hu,hst⟩=>?_
    subst hu;rw [hd];exact next _ _ (hS.put hN _) (by rw [ES];exact hD) (by rw [List.append_nil] at hst;exact hst)
structure Shr (I:Imm) (M:Seg) (g:Option Gh) (J:Imm):Prop where
  os:J.os=I.os
  tape:J.tape=I.tape
  output:J.output=I.output
  blk:∀ b o,I.blk b=some o→J.blk b=some o
  mem:∀ b o,(b,o)∈M→J.blk b=some o
  gh:J.gh=g
def goAt (ops:Array Oper) (i:Nat):Option (Operand × TypeId):=
  match ops[i]? with
  | some o=>match o.op with
    | .go c=>match c.callee with
      | .value f=>if c.args.toList.isEmpty&&c.argTypes.toList.isEmpty&&o.dst.isNone&&o.guard.isNone then some (f,o.type) else none
      | _=>none
    | _=>none
  | none=>none
theorem goAt_spec {f:Operand} (h:goAt ops i=some (f,ty)):∃ o,ops[i]?=some o∧o.op=.go { callee:=.value f,args:=#[],argTypes:=#[] }∧o.dst=none∧o.guard=none∧o.type=ty:=by
  unfold goAt at h;cases ho:ops[i]? with
  | none=>rw [ho] at h;cases h
  | some o=>
    rw [ho] at h;simp only at h;cases hop:o.op with
    | go c=>
      rw [hop] at h;simp only at h;obtain ⟨cal,ar,at'⟩:=c;cases cal with
      | value f'=>
        simp only at h
        split at h
        · rename_i hc
          simp only [Bool.and_eq_true,List.isEmpty_iff,Option.isNone_iff_eq_none,Array.toList_eq_nil_iff] at hc;obtain ⟨⟨⟨e1,e2⟩,e3⟩,e4⟩:=hc;simp only [Option.some.injEq,Prod.mk.injEq] at h;subst e1 e2;exact ⟨o,rfl,by rw [h.1] at hop;exact hop,e3,e4,h.2⟩
        · cases h
      | _=>simp at h
    | _=>rw [hop] at h;simp at h
theorem seqM_go [Host P] {f : Operand} {cid : FuncId} {cv : List Value} {h : Gh} {m : Value} (hop : goAt ops i = some (f, ty)) (hf : BR l f = some (.func (.func cid) #[] cv.toArray)) (hI : I.gh = some h) (hroom : h.outs.length < h.cap)
    (hc:∀ Jc σ,Shr I M none Jc→St Jc [] σ→∃ T,Tr P (fun d=>∃ n,QY P h.r m n d) T ⟨(born P { target:=.fn (.func cid) cv.toArray,args:=#[] }).frame,[],σ⟩)
    (next:∀ J,Shr I M (some { h with outs:=m::h.outs }) J→SeqM (ρ:=ρ) P N ops Q ds (i+1) l J []):SeqM (ρ:=ρ) P N ops Q ds i l I M:=by
  obtain ⟨o,ho,hop2,hdst,hgd,rfl⟩:=goAt_spec hop;intro a w hS hD hW b k cs hb;have hlt:i<ops.size:=(Array.getElem?_eq_some_iff.1 ho).1;rw [KJ hlt];have hw:Region.wanted o (yielded ops a.tmps)=true:=by simp [Region.wanted,hgd]
  have hg:w.gh=some h:=hW.gh.trans hI;have hfin:(b.atR a (.inRegion ops (i::List.range' (i+1) (ops.size-(i+1)))::k)).finish undef=b.atR (a.put o.dst undef) (.inRegion ops (List.range' (i+1) (ops.size-(i+1)))::k):=by
    rw [Frame.finish_atR,ho];rfl
  have hput:a.put o.dst undef=a:=by rw [hdst];rfl
  have stc:St { os:=w.os,tape:=w.tape,output:=w.output,blk:=w.blk,pub:=fun b=>w.blk b≠none,gh:=none } [] w.child:=⟨rfl,rfl,rfl,rfl,rfl,fun _ _ h=>h,fun _ _ h=>by simp at h,fun _ _ h=>by simp at h,by simp,fun _ _ h=>by simp at h⟩;have sts:St { os:=w.os,tape:=w.tape,output:=w.output,blk:=w.blk,pub:=fun b=>w.blk b≠none,gh:=some { h with outs:=m::h.outs } } [] (w.share h m):=⟨rfl,rfl,rfl,rfl,rfl,fun _ _ h=>h,fun _ _ h=>by simp at h,fun _ _ h=>by simp at h,by simp,fun _ _ h=>by simp at h⟩
  refine Host.go (P:=P) (cf:=(born P { target:=.fn (.func cid) cv.toArray,args:=#[] }).frame) (ccs:=[]) (fr':=b.atR a (.inRegion ops (List.range' (i+1) (ops.size-(i+1)))::k)) (cs':=cs) (m:=m) hg hroom (fun w1 _=>?_) (hc _ _ ⟨hW.os,hW.tape,hW.output,hW.imm,hW.mem,rfl⟩ stc)
    (next _ ⟨hW.os,hW.tape,hW.output,hW.imm,hW.mem,rfl⟩ a _ hS hD sts b k cs hb)
  have e1:o.semAt b.roundOf a.eval=pure (.spawn { target:=.fn (.func cid) cv.toArray,args:=#[] }):=by
    rw [Oper.semAt_eq _ _ o (fun c hc=>by rw [hop2] at hc;cases hc),FH,hop2];show (do pure (Next.spawn (← resolve a.eval { callee:=.value f,args:=#[],argTypes:=#[] } o.type)):Sem Next)=_;unfold resolve;simp [LY hS hf,Deferred.ofValue,pure_bind]
  rw [PH ho hw,e1];have hfin2:=hfin.trans (by rw [hput]);simp only [stepG.apply,if_true,pure,Sem.runT,GStep.after,born,hfin2,G];have hes:seen P (b.atR a (.inRegion ops (i::List.range' (i+1) (ops.size-(i+1)))::k)).fn #[]=#[]:=by simp [seen]
  simp [hes]
end
theorem Own.cutHi {α:Type} {E sz:Nat} {cell:α→Nat→Value} {a:Option Addr} {n c k:Nat} {xs:List α} {Ms:Seg} (h:Own E sz cell (.slice a n c) xs Ms) (hk:k≤xs.length):Own E sz cell (.slice a k c) (xs.take k) Ms:=by
  rcases h with ⟨hv,rfl,rfl⟩ | ⟨b,c',sp,hv,hc,rfl,hlen⟩
  · simp only [Value.slice.injEq] at hv
    obtain ⟨rfl,rfl,rfl⟩:=hv;simp at hk;subst hk;exact .inl ⟨rfl,rfl,rfl⟩
  · simp only [Value.slice.injEq] at hv
    obtain ⟨rfl,rfl,rfl⟩:=hv;refine .inr ⟨b,c,CQ sz cell (xs.drop k)++sp,by rw [List.length_take,Nat.min_eq_left hk],by rw [List.length_take];omega,?_,?_⟩
    · rw [← List.append_assoc,show CQ sz cell (xs.take k)++CQ sz cell (xs.drop k)=CQ sz cell xs by simp only [CQ];rw [← List.flatMap_append,List.take_append_drop]]
    · rw [← List.append_assoc,show CQ sz cell (xs.take k)++CQ sz cell (xs.drop k)=CQ sz cell xs by simp only [CQ];rw [← List.flatMap_append,List.take_append_drop],hlen]
theorem Own.cutE {α:Type} {E sz:Nat} {cell:α→Nat→Value} {a:Option Addr} {n c k:Nat} {xs:List α} {Ms:Seg} (h:Own E sz cell (.slice a n c) xs Ms):(Value.slice (if c=0 then a else a.map (·.add (0*sz))) (k-0) (c-0))=.slice a k c:=by
  rcases h with ⟨hv,rfl,rfl⟩ | ⟨b,c',sp,hv,hc,rfl,hlen⟩
  · simp only [Value.slice.injEq] at hv
    obtain ⟨rfl,rfl,rfl⟩:=hv;simp
  · simp only [Value.slice.injEq] at hv
    obtain ⟨rfl,rfl,rfl⟩:=hv;simp [Addr.add]
section
variable {P:Program} [Jud P] {N:Nat} {ops:Array Oper} {i:Nat} {l:Sl} {I:Imm} {M:Seg} {ty:TypeId} {gd:Option (Nat × Bool)} {K:Sl→Imm→Seg→Prop}
theorem RU {M0 : Seg} {b : Builtin} {args : Array Operand} {tys : Array TypeId} {vals : List Value} {dst : Option Tmp}
    (hop:FF ops N i=some (dst,.call { callee:=.builtin b,args,argTypes:=tys },ty,gd)) (hg:FA ops l gd=some true) (hk:∀ x∈args,known l x) (hvals:args.toList.map (rho l)=vals) (hM:M.Perm M0)
    (h:∀ (cs:Array Bool),wpL P (builtin b tys ty cs vals.toArray) (fun n M'=>∃ v M'',(n=.value v∨(n=.skip∧v=undef))∧M''.Sublist M'∧K (ups dst v l) I M'') I M0):Stp P N ops i l I M K:=
  LL hop hg (by simpa [Op.operands,Call.operands] using hk) hM (by
    have e:args.map (rho l)=vals.toArray:=by
      apply Array.ext'
      simp [hvals]
    show wpL P (do let d ← resolve (rho l) { callee:=.builtin b,args,argTypes:=tys } ty;invoke d.target d.args) _ I M0
    unfold resolve
    simp only [e]
    exact h _)
theorem stp_clearTail {α : Type} {x : Operand} {T E sz : Nat} {cell : α → Nat → Value} {a : Option Addr} {n c k : Nat} {xs : List α} {Ms R : Seg} {z : Value} {dst : Option Tmp}
    (hop:FF ops N i=some (dst,.call { callee:=.builtin .clear,args:=#[x],argTypes:=#[T] },ty,gd)) (hg:FA ops l gd=some true) (hT:JH P T=some E) (hz:HG P E=some z) (hzs:z.cells.size=sz) (hz1:∀ v∈z.cells.toList,CP v=true) (hsz:0<sz)
    (own:Own E sz cell (.slice a n c) xs Ms) (hk:k≤n) (hx:BR l x=some (.slice (if c=k then a else a.map (·.add (k*sz))) (n-k) (c-k))) (hM:M.Perm (Ms++R))
    (next:∀ Ms',Own E sz cell (.slice a k c) (xs.take k) Ms'→K (ups dst (.tuple #[]) l) I (Ms'++R)):Stp P N ops i l I M K:=by
  refine RU (vals:=[.slice (if c=k then a else a.map (·.add (k*sz))) (n-k) (c-k)]) hop hg (MH hx) (by simp [BB hx]) hM fun cs=>?_
  show wpL P (Builtin.clear_ #[T] ty #[.slice (if c=k then a else a.map (·.add (k*sz))) (n-k) (c-k)] >>= fun x=>pure (Next.value x)) _ I _;refine DV ?_;have hn:n=xs.length:=by obtain ⟨a',c',e,_⟩:=own.shape;cases e;rfl
  have done:∀ Ms',Own E sz cell (.slice a k c) (xs.take k) Ms'→(∃ v M'',(Next.value (.tuple #[])=.value v∨(Next.value (.tuple #[])=Next.skip∧v=undef))∧M''.Sublist (Ms'++R)∧K (ups dst v l) I M''):=fun Ms' h=>⟨_,_,.inl rfl,List.Sublist.refl _,next Ms' h⟩
  unfold Builtin.clear_;show wpL P (underlying T >>= _) _ I _;rw [AE,AL (DT hT)];rcases Nat.eq_zero_or_pos (n-k) with h0 | h0
  · rw [h0]
    have e:xs.take k=xs:=List.take_of_length_le (by omega);have hkn:k=n:=by omega
    cases (if c=k then a else a.map (·.add (k*sz))) with
    | none=>exact done Ms (own.cutHi (by omega))
    | some b=>exact done Ms (own.cutHi (by omega))
  · rcases own with ⟨hv,rfl,rfl⟩ | ⟨b,c',sp,hv,hc,rfl,hlen⟩
    · simp at hn;omega
    · simp only [Value.slice.injEq] at hv
      obtain ⟨rfl,_,rfl⟩:=hv;rw [if_neg (show ¬ c=k by omega)];obtain ⟨m,hm⟩:∃ m,n-k=m+1:=⟨n-k-1,by omega⟩;rw [hm];show wpL P (zeroValue E >>= _) _ I _;rw [AE,DQ hz];show wpL P (storeCells (Addr.add ⟨b,0,none⟩ (k*sz)) (Builtin.zeroCells z.cells (m+1)).toList >>= _) _ I _;rw [AE,GL];have hzl:(Builtin.zeroCells z.cells (m+1)).toList.length=(m+1)*sz:=by simp [Builtin.zeroCells,hzs]
      have hA:(CQ sz cell (xs.take k)).length=k*sz:=by rw [BV,List.length_take,Nat.min_eq_left (by omega)]
      have hs:CQ sz cell xs=CQ sz cell (xs.take k)++CQ sz cell (xs.drop k):=by simp only [CQ];rw [← List.flatMap_append,List.take_append_drop]
      have hB:(CQ sz cell (xs.drop k)).length=(m+1)*sz:=by rw [BV,List.length_drop];congr 1;omega
      refine GK (T:=E) (k:=0) (Builtin.zeroCells z.cells (m+1)).toList 0 _ (CQ sz cell xs++sp).toArray _ (by simp) ?_ ?_ ?_
      · rw [hs,hzl];simp only [List.size_toArray,List.length_append,hA,hB];omega
      · intro v hv
        simp only [Builtin.zeroCells,Array.toList_map,Array.toList_range,List.mem_map,List.mem_range] at hv;obtain ⟨q,hq,rfl⟩:=hv;have hlt:q%z.cells.size<z.cells.size:=Nat.mod_lt _ (by omega);rw [getElem!_pos z.cells (q%z.cells.size) hlt];exact hz1 _ (by simp)
      · have e2 : JT (CQ sz cell xs ++ sp).toArray (0 + k * sz + 0) (Builtin.zeroCells z.cells (m + 1)).toList = (CQ sz cell (xs.take k) ++ ((Builtin.zeroCells z.cells (m + 1)).toList ++ sp)).toArray := by
          apply Array.ext'
          have:=LH (Builtin.zeroCells z.cells (m+1)).toList (CQ sz cell (xs.take k)) (CQ sz cell (xs.drop k)++sp) (by rw [hzl,List.length_append,hB];omega);rw [hA] at this;rw [hs,show 0+k*sz+0=k*sz by omega,List.append_assoc,this,hzl,List.drop_append_of_le_length (by rw [hB];exact Nat.le_refl _),List.drop_of_length_le (by rw [hB];exact Nat.le_refl _)];simp
        rw [e2];refine done _ (.inr ⟨b,c,(Builtin.zeroCells z.cells (m+1)).toList++sp,by rw [List.length_take,Nat.min_eq_left (by omega)],by rw [List.length_take];omega,rfl,?_⟩);rw [← hlen,hs];simp only [List.length_append,hA,hB,hzl];omega
end
open Go.Conc (G rcase)
def tyChan (P:Program) (t:TypeId):Option TypeId:=
  match P.underlying t with
  | some (.chan _ e)=>some e
  | _=>none
def wpcL (ρ:Option Nat) (P:Program) [J:Jud P] (c:Code) (Q:Exit→Act→GW→Prop) (a:Act) (σ:GW):Prop:=
  ∀ (b:Frame) (k:List Item) (cs:List Frame),b.roundOf=ρ→gets P (b.atR a (.code c::.inLoop c::k)) cs σ (Arr Q b k cs)
theorem wpcL_of {ρ:Option Nat} {P:Program} [J:Jud P] {c:Code} {Q:Exit→Act→GW→Prop} {a:Act} {σ:GW} (h:wpc ρ P c (Exit.then (wpcL ρ P c Q) Q) a σ):wpcL ρ P c Q a σ:=by
  intro b k cs hb;refine J.bind (h b (.inLoop c::k) cs hb) fun d hd=>?_
  cases hd with
  | normal h=>exact CU (fun main w=>by simp [G,stepG,stepG.exec,Frame.atR]) (h b k cs hb)
  | exit k₁ hk h=>exact J.stop (.exit k₁ (hk.trans (by simp [exitTo])) h)
  | goto k₁ hk h=>exact J.stop (.goto k₁ (hk.trans (by simp [gotoIn])) h)
  | ret k₁ h=>exact J.stop (.ret k₁ h)
theorem wpc_loopL {ρ:Option Nat} {P:Program} [J:Jud P] {c:Code} {Q:Exit→Act→GW→Prop} {a:Act} {σ:GW} (h:wpcL ρ P c Q a σ):wpc ρ P (.loop c) Q a σ:=fun b k cs hb=>
  CU (fr':=b.atR a (.code c::.inLoop c::k)) (cs':=cs) (fun main w=>by simp [G,stepG,stepG.exec,Frame.atR]) (h b k cs hb)
section
variable {ρ:Option Nat} {P:Program} [J:Jud P] {N:Nat} {Q:Exit→Act→GW→Prop} {ds:List Deferred} {l:Sl} {I:Imm} {M:Seg} {C:List Nat→Code} {p:List Nat} {c:Code}
def RunL {ρ:Option Nat} (P:Program) [Jud P] (N:Nat) (c:Code) (Q:Exit→Act→GW→Prop) (ds:List Deferred) (l:Sl) (I:Imm) (M:Seg):Prop:=
  ∀ a w,Slots N l a→a.defers=ds→St I M w→wpcL ρ P c Q a w
theorem HE (h:Run (ρ:=ρ) P N c (Exit.then (wpcL ρ P c Q) Q) ds l I M):RunL (ρ:=ρ) P N c Q ds l I M:=fun a w hS hD hW=>wpcL_of (h a w hS hD hW)
theorem rL (h:RunL (ρ:=ρ) P N (C (p++[0])) Q ds l I M) (hc:C p=.loop (C (p++[0])):=by kernel_rfl):Run (ρ:=ρ) P N (C p) Q ds l I M:=fun a w hS hD hW=>by rw [hc];exact wpc_loopL (h a w hS hD hW)
theorem GF {Q':Exit→Act→GW→Prop} (h:RunL (ρ:=ρ) P N c Q ds l I M):Pst N (Exit.then (wpcL ρ P c Q) Q') .normal ds l I M:=h
end
section
variable {ρ:Option Nat} {P:Program} [J:Jud P] {N:Nat} {ops:Array Oper} {Q:Exit→Act→GW→Prop} {ds:List Deferred} {i d:Nat} {l:Sl} {I:Imm} {M:Seg} {ty:TypeId} {gd:Option (Nat × Bool)} {K:Sl→Imm→Seg→Prop} {c:Code}
theorem seqM_recv [Host P] {x : Operand} {T el : Nat} {z : Value} {h : Gh} (hop : FF ops N i = some (some d, .recv T x false, ty, none)) (hT : tyChan P T = some el) (hz : HG P el = some z)
    (hx:BR l x=some (.chan (some h.r))) (hI:I.gh=some h) (hne:h.outs≠[])
    (next:∀ v outs,h.outs.Perm (v::outs)→SeqM (ρ:=ρ) P N ops Q ds (i+1) ((d,v)::l) { I with gh:=some { h with outs:=outs } } M):SeqM (ρ:=ρ) P N ops Q ds i l I M:=by
  obtain ⟨o,ho,hd,hop2,hty,hgd,hN,hs⟩:=FI hop;intro a w hS hD hW b k cs hb;have hlt:i<ops.size:=(Array.getElem?_eq_some_iff.1 ho).1;rw [KJ hlt];have hw:Region.wanted o (yielded ops a.tmps)=true:=by unfold Region.wanted;rw [hgd]
  have he:o.semAt b.roundOf a.eval=execOp a.eval o:=Oper.semAt_eq _ _ o hs.2;have hrun:∀ w1,(execOp a.eval o).runT P w1 #[]=(.ok (.comm #[rcase h.r z] true (.recv false)) w1,#[]):=fun w1=>by
    obtain ⟨dir,hu⟩:∃ dir,P.underlying T=some (.chan dir el):=by
      unfold tyChan at hT
      split at hT
      · cases hT;exact ⟨_,by assumption⟩
      · cases hT
    obtain ⟨inf,hi,hzi⟩:∃ inf,P.info? el=some inf∧inf.zero=some z:=by
      unfold HG at hz;cases hI:P.info? el with
      | none=>rw [hI] at hz;cases hz
      | some inf=>rw [hI] at hz;exact ⟨inf,rfl,hz⟩
    rw [FH,hop2];have e1:(IF a.eval (.recv T x false) o.type).run P w1=.ok (.comm #[rcase h.r z] true (.recv false)) w1:=by
      simp [IF,execOp,underlying,zeroValue,typeInfo,hu,hi,hzi,LY hS hx,rcase]
    have e2:(IF a.eval (.recv T x false) o.type).events P w1 #[]=#[]:=by
      simp [IF,execOp,underlying,zeroValue,typeInfo,hu,hi,hzi,LY hS hx,rcase]
    rw [Sem.runT_eq,e1,e2]
  refine Host.recv (P:=P) (z:=z) (hW.gh.trans hI) hne (fun w1 hw1=>?_) fun v outs hp=>?_
  · rw [PH ho hw,he]
    have hes:∀ f,seen P f #[]=#[]:=fun f=>by simp [seen]
    simp only [stepG.apply,if_true,hrun,GStep.after,G];simp [hes]
  · have hfin : (b.atR a (.inRegion ops (i :: List.range' (i + 1) (ops.size - (i + 1))) :: k)).finish v = b.atR (a.put o.dst v) (.inRegion ops (List.range' (i + 1) (ops.size - (i + 1))) :: k) := by
      rw [Frame.finish_atR,ho];rfl
    rw [hfin,hd];exact next v outs hp _ (w.outs h outs) (hS.put (hN d rfl) v) (by rw [ES];exact hD) ⟨hW.os,hW.tape,hW.output,hW.pub,rfl,hW.imm,hW.mem,hW.own,hW.nodup,hW.disj⟩ b k cs hb
theorem run_give [Host P] {r cap:Nat} {tm:Bool} {M':Seg} (hg:I.gh=none) (hM:M=(r,.chan cap #[] false 0 0 tm)::M') (next:Run (ρ:=ρ) P N c Q ds l { I with gh:=some ⟨r,cap,[]⟩ } M'):Run (ρ:=ρ) P N c Q ds l I M:=by
  subst hM;intro a w hS hD hW b k cs hb;refine Host.give (P:=P) (σ:=w) (q:=0) (tm:=tm) (cap:=cap) (r:=r) (hW.gh.trans hg) (hW.mem _ _ (List.mem_cons_self ..)) (by rw [hW.pub];exact hW.own _ _ (List.mem_cons_self ..)) (next a (w.give r cap) hS hD ⟨hW.os,hW.tape,hW.output,hW.pub,rfl,fun b' o hb'=>?_,fun b' o hm=>?_,fun b' o hm=>hW.own _ _ (List.mem_cons_of_mem _ hm),(List.nodup_cons.1 hW.nodup).2,fun b' o hm=>hW.disj _ _ (List.mem_cons_of_mem _ hm)⟩ b k cs hb)
  · have h1:=hW.disj _ _ (List.mem_cons_self ..)
    show (if b'=r then none else w.blk b')=some o;rw [if_neg (fun e=>by rw [e,h1] at hb';cases hb')];exact hW.imm _ _ hb'
  · have h1:=(List.nodup_cons.1 hW.nodup).1
    show (if b'=r then none else w.blk b')=some o;rw [if_neg (fun e=>h1 (by rw [← e];exact List.mem_map.2 ⟨_,hm,rfl⟩))];exact hW.mem _ _ (List.mem_cons_of_mem _ hm)
theorem run_take [Host P] {h : Gh} {F : Seg} {I0 : Imm} (hg : I.gh = some h) (ho : h.outs = []) (h0 : I0.gh = none) (hp : I0.pub = fun _ => False) (hos : I.os = I0.os) (htp : I.tape = I0.tape) (hout : I.output = I0.output)
    (hF:∀ b o,(b,o)∈F→I.blk b=some o∧I0.blk b=none) (hFn:(F.map Prod.fst).Nodup) (hI0:∀ b o,I0.blk b=some o→I.blk b=some o)
    (next:∀ q tm J,I0.le J→(∀ b o,I.blk b=some o→b≠h.r→(∀ o',(b,o')∉F)→J.blk b=some o)→Run (ρ:=ρ) P N c Q ds l J ((h.r,.chan h.cap #[] false q q tm)::(M++F))):Run (ρ:=ρ) P N c Q ds l I M:=by
  intro a w hS hD hW b k cs hb;refine Host.take (P:=P) (hW.gh.trans hg) ho fun q tm hfree=>?_
  have hr0:I0.blk h.r=none:=by
    cases hx:I0.blk h.r with
    | none=>rfl
    | some o=>rw [hW.imm _ _ (hI0 _ _ hx)] at hfree;cases hfree
  have hrF:∀ o,(h.r,o)∉F:=fun o hm=>by rw [hW.imm _ _ (hF _ _ hm).1] at hfree;cases hfree
  have hrM:∀ o,(h.r,o)∉M:=fun o hm=>by rw [hW.mem _ _ hm] at hfree;cases hfree
  let J:Imm:={ I0 with blk:=fun b=>if b=h.r∨b∈F.map Prod.fst then none else I.blk b }
  have hnF:∀ b o,I0.blk b=some o→¬ (b=h.r∨b∈F.map Prod.fst):=fun b o hb hh=>by
    rcases hh with rfl | hh
    · rw [hr0] at hb;cases hb
    · obtain ⟨⟨b',o'⟩,hm,rfl⟩:=List.mem_map.1 hh
      rw [(hF _ _ hm).2] at hb;cases hb
  refine next q tm J ⟨rfl,rfl,rfl,rfl,rfl,fun b o hb=>?_⟩ (fun b o hb hne hnf=>?_) a (w.take h q tm) hS hD ⟨?_,?_,?_,hp.symm,h0.symm,fun b o hb=>?_,fun b o hm=>?_,fun b o hm=>by show ¬ I0.pub b;rw [hp];exact id,?_,fun b o hm=>?_⟩ b k cs hb
  · show (if _ then none else I.blk b)=some o
    rw [if_neg (hnF b o hb)];exact hI0 b o hb
  · show (if _ then none else I.blk b)=some o
    rw [if_neg]
    · exact hb
    · rintro (e | hh)
      · exact hne e
      · obtain ⟨⟨b',o'⟩,hm,rfl⟩:=List.mem_map.1 hh
        exact hnf _ hm
  · exact hW.os.trans hos
  · exact hW.tape.trans htp
  · exact hW.output.trans hout
  · have hb':(if b=h.r∨b∈F.map Prod.fst then none else I.blk b)=some o:=hb
    split at hb'
    · cases hb'
    · rename_i hne
      show (if b=h.r then _ else w.blk b)=some o;rw [if_neg fun e=>hne (.inl e)];exact hW.imm _ _ hb'
  · show (if b=h.r then _ else w.blk b)=some o
    rcases List.mem_cons.1 hm with e | hm
    · cases e;rw [if_pos rfl]
    · have : b ≠ h.r := fun e => by
        subst e;rcases List.mem_append.1 hm with hm | hm
        · exact hrM _ hm
        · exact hrF _ hm
      rw [if_neg this];rcases List.mem_append.1 hm with hm | hm
      · exact hW.mem _ _ hm
      · exact hW.imm _ _ (hF _ _ hm).1
  · show (h.r::(M++F).map Prod.fst).Nodup
    rw [List.nodup_cons,List.map_append,List.nodup_append];refine ⟨fun hm=>?_,hW.nodup,hFn,fun x hx y hy e=>?_⟩
    · rcases List.mem_append.1 hm with hm | hm
      · obtain ⟨⟨b',o'⟩,hm,e⟩:=List.mem_map.1 hm
        simp only at e;subst e;exact hrM _ hm
      · obtain ⟨⟨b',o'⟩,hm,e⟩:=List.mem_map.1 hm
        simp only at e;subst e;exact hrF _ hm
    · subst e
      obtain ⟨⟨b1,o1⟩,h1,rfl⟩:=List.mem_map.1 hx;obtain ⟨⟨b2,o2⟩,h2,e2⟩:=List.mem_map.1 hy;simp only at e2;subst e2;have:=hW.disj _ _ h1;rw [(hF _ _ h2).1] at this;cases this
  · show (if b=h.r∨b∈F.map Prod.fst then none else I.blk b)=none
    rcases List.mem_cons.1 hm with e | hm
    · cases e;rw [if_pos (.inl rfl)]
    · rcases List.mem_append.1 hm with hm | hm
      · split
        · rfl
        · exact hW.disj _ _ hm
      · rw [if_pos (.inr (List.mem_map.2 ⟨_,hm,rfl⟩))]
theorem stp_close {M0 : Seg} {r cap s q : Nat} {tm : Bool} {buf : Array Value} {x : Operand} {tys : Array TypeId} {dst : Option Tmp} (hop : FF ops N i = some (dst, .call { callee := .builtin .close, args := #[x], argTypes := tys }, ty, gd)) (hg : FA ops l gd = some true)
    (hx:BR l x=some (.chan (some r))) (hM:M.Perm ((r,.chan cap buf false s q tm)::M0)) (next:K (ups dst (.tuple #[]) l) I M0):Stp P N ops i l I M K:=by
  refine RU (vals:=[.chan (some r)]) hop hg (MH hx) (by simp [BB hx]) hM fun cs=>?_
  show wpL P (Builtin.close_ tys ty #[.chan (some r)] >>= fun x=>pure (Next.value x)) _ I _;refine DV ?_;unfold Builtin.close_;show wpL P (Sem.getObj r _) _ I _;refine ⟨.chan cap buf false s q tm,.inl (List.mem_cons_self ..),rfl,?_⟩;show wpL P (Sem.setObj r _ _) _ I _;refine FZ 0 rfl rfl rfl ?_;exact ⟨_,M0,.inl rfl,List.sublist_cons_self ..,next⟩
theorem stp_makeChan {x : Operand} {T el bs n : Nat} (hop : FF ops N i = some (some d, .makeChan T x, ty, gd)) (hg : FA ops l gd = some true) (hT : tyChan P T = some el) (hb : KD P el = some bs) (hbs : bs ≤ 256)
    (hx:BR l x=some (.int .i64 (n:Int))) (hn:n≤1000) (next:∀ b,K ((d,.chan (some b))::l) I ((b,Obj.chan n #[] false 0 0 false)::M)):Stp P N ops i l I M K:=by
  obtain ⟨dir,hu⟩:∃ dir,P.underlying T=some (.chan dir el):=by
    unfold tyChan at hT
    split at hT
    · cases hT;exact ⟨_,by assumption⟩
    · cases hT
  obtain ⟨inf,hi,hby⟩:∃ inf,P.info? el=some inf∧inf.bytes=bs:=by
    unfold KD at hb;cases hi:P.info? el with
    | none=>rw [hi] at hb;cases hb
    | some inf=>rw [hi] at hb;exact ⟨inf,rfl,by simpa using hb⟩
  refine CV hop hg (MH hx) ?_;show wpL P (Instr.makeChan T (rho l x) >>= fun x=>pure (Next.value x)) _ I M;refine DV ?_;rw [BB hx];unfold Instr.makeChan;show wpL P (underlying T >>= _) _ I M;rw [AE,AL hu];show wpL P (typeInfo el >>= _) _ I M;rw [AE,DE hi];have h1:(inf.bytes:Int)*(n:Int)≤((256*1000:Nat):Int):=by
    rw [← Int.natCast_mul];exact Int.ofNat_le.2 (Nat.mul_le_mul (by omega) hn)
  have h2:¬ ((n:Int)<0∨(n:Int)>IntKind.i64.max∨(inf.bytes:Int)*(n:Int)>2 ^ 48-112):=by
    rintro (h | h | h)
    · omega
    · have:IntKind.i64.max=9223372036854775807:=by decide
      omega
    · omega
  rw [if_neg h2];intro b;exact ⟨_,.inl rfl,next b⟩
end
open Go.Conc (G rcase scase born QuitsIn)
section
variable {P:Program} [J:Jud P] {N:Nat} {ops:Array Oper} {R:Seg} {ds:List Deferred} {b:Frame} {k:List Item} {cs:List Frame} {G':Cf→Prop}
theorem gets_op {a : Act} {σ : GW} {i : Nat} {rest : List Nat} {o : Oper} (ho : ops[i]? = some o) (hw : Region.wanted o (yielded ops a.tmps) = true)
    (h:wpOp b.roundOf P o a σ fun a' σ'=>gets P (b.atR a' (.inRegion ops rest::k)) cs σ' G'):gets P (b.atR a (.inRegion ops (i::rest)::k)) cs σ G':=by
  have hfin:∀ v,(b.atR a (.inRegion ops (i::rest)::k)).finish v=b.atR (a.put o.dst v) (.inRegion ops rest::k):=by
    intro v;rw [Frame.finish_atR,ho];rfl
  refine QI (fun main w=>PH ho hw) (fun d r x k e=>by simp [Frame.atR] at e) ?_;refine h.mono fun n σ' hn=>?_
  cases n with
  | value v=>show gets P (Frame.finish _ v) cs σ' _;rw [hfin];exact hn
  | skip=>show gets P (Frame.finish _ undef) cs σ' _;rw [hfin];exact hn
  | defer d=>
    show gets P (Frame.finish _ undef) cs σ' _;have:({ b.atR a (.inRegion ops (i::rest)::k) with defers:=d::a.defers }:Frame).finish undef=b.atR ({ a with defers:=d::a.defers }.put o.dst undef) (.inRegion ops rest::k):=by
      have:=Frame.finish_atR b { a with defers:=d::a.defers } ops i rest k undef;rw [ho] at this;exact this
    exact this▸hn
  | enter f args=>exact J.bind (hn (b.atR a (.inRegion ops (i::rest)::k)::cs)) fun d hd=>QJ hd fun v σ' hv=>by rw [hfin];exact hv
  | round l f tmps assign body=>
    refine J.bind (hn (b.atR a (.inRegion ops (i::rest)::k)) cs) fun d hd=>?_
    obtain ⟨fr,cs',σ⟩:=d;obtain ⟨v,h1,h2,h3⟩:=hd;simp only at h1 h2 h3;subst h2 h3;rw [hfin];exact h1
  | _=>exact hn.elim
theorem gets_det {a : Act} {w : GW} {l : Sl} {I : Imm} {i d : Nat} {v : Value} {rest : List Nat} (h : Det P N ops i l I R d v) (hS : Slots N l a) (hD : a.defers = ds) (hW : St I R w)
    (next:∀ a' w',Slots N ((d,v)::l) a'→a'.defers=ds→St I R w'→gets P (b.atR a' (.inRegion ops rest::k)) cs w' G'):gets P (b.atR a (.inRegion ops (i::rest)::k)) cs w G':=by
  obtain ⟨o,ho,hd,hN,hs,h⟩:=h;have hag:∀ t∈o.looksAt ops,∀ u,look t l=some u→a.tmps[t]?=some u:=fun t _ u hu=>hS.get t u hu
  rcases h with ⟨hg,rfl⟩ | ⟨hg,hk,hr⟩
  · have hw:=CD hg hag
    refine CU (fr':=b.atR (a.put o.dst undef) (.inRegion ops rest::k)) (cs':=cs) (fun main w=>?_) (next _ _ (by rw [hd];exact hS.put hN _) (by rw [ES];exact hD) hW);have e:((ops[i]?).map (Region.wanted · (yielded ops a.tmps))).getD false=false:=by rw [ho];exact hw
    have e2:(ops[i]?).bind (·.dst)=o.dst:=by rw [ho];rfl
    rw [← e2,← Frame.finish_atR];simp only [Frame.atR] at *;simp [G,stepG,stepG.exec,e]
  · refine gets_op ho (CD hg hag) ?_
    have:=hr I [] w (Imm.le.refl I) (by rw [List.append_nil];exact hW);rw [← KT hs hk hag] at this;refine GR hs.2 this fun u w' ⟨hu,hst⟩=>?_
    subst hu;rw [hd];exact next _ _ (hS.put hN _) (by rw [ES];exact hD) (by rw [List.append_nil] at hst;exact hst)
theorem gets_any {n : Nat} (hsz : ops.size = n + 1) (hlt : ∀ j o, ops[j]? = some o → ∀ e ∈ o.after, Region.binds .any e = true → e.on < j) (hw : ∀ i, i < n → wt ops n i = true) (dv : Nat → Nat × Value) (l0 : Sl) {I : Imm}
    (hbase:∀ i,i<n→look (dv i).1 l0=none) (hinj:∀ i j,i<n→j<n→(dv i).1=(dv j).1→i=j)
    (hdet:∀ i l,i<n→(∀ t v,look t l0=some v→look t l=some v)→(∀ o,ops[i]?=some o→∀ e∈o.after,Region.binds .any e=true→look (dv e.on).1 l=some (dv e.on).2)→Det P N ops i l I R (dv i).1 (dv i).2)
    (hG:∀ l a σ,Slots N l a→a.defers=ds→St I R σ→(∀ t v,look t l0=some v→look t l=some v)→(∀ j,j<n→look (dv j).1 l=some (dv j).2)→gets P (b.atR a (.inRegion ops [n]::k)) cs σ G') :
    ∀ (fuel t:Nat) (listed:Array Bool) (l:Sl) (a:Act) (σ:GW),listed.size=n+1→listed.count false=fuel→¬ GB listed n→RA ops listed→Slots N l a→a.defers=ds→St I R σ →
      (∀ t v,look t l0=some v→look t l=some v)→(∀ j,j<n→GB listed j→look (dv j).1 l=some (dv j).2) →
      gets P (b.atR a (.inRegion ops (Region.linearise.go .any ops fuel t listed [])::k)) cs σ G':=by
  intro fuel
  induction fuel with
  | zero=>
    intro t listed l a σ hl hc hn
    exfalso
    refine hn ?_;have hlt:n<listed.size:=by omega
    have:false∉listed:=Array.count_eq_zero.1 hc;unfold GB;rw [Array.getD_eq_getD_getElem?,Array.getElem?_eq_getElem hlt];simp only [Option.getD_some];cases hx:listed[n] with
    | true=>rfl
    | false=>exact absurd (hx▸Array.getElem_mem hlt) this
  | succ fuel ih=>
    intro t listed l a σ hl hc hn hcl hS hD hW hk0 hk;simp only [Region.linearise.go]
    change gets P (b.atR a (.inRegion ops (match (Region.ready .any ops listed)[t%(Region.ready .any ops listed).length]? with
      | some i=>Region.linearise.go .any ops fuel (t/(Region.ready .any ops listed).length) (listed.setIfInBounds i true) [i]
      | none=>[].reverse)::k)) cs σ G'
    cases hi:(Region.ready .any ops listed)[t%(Region.ready .any ops listed).length]? with
    | none=>
      have hnil:Region.ready .any ops listed=[]:=by
        cases hr:Region.ready .any ops listed with
        | nil=>rfl
        | cons x xs=>
          rw [hr] at hi;have hlt:t%(x::xs).length<(x::xs).length:=Nat.mod_lt _ (by simp);simp at hi;simp at hlt;omega
      exfalso
      refine hn ?_;have all:∀ j,j<n+1→GB listed j:=by
        intro j
        induction j using Nat.strongRecOn with
        | _ j ihj=>
          intro hj;rcases Classical.em (GB listed j) with h | h
          · exact h
          · exfalso
            have:j∈Region.ready .any ops listed:=mem_ready.2 ⟨by
              unfold GB at h
              have hlt:j<listed.size:=by omega
              simp [hlt] at h ⊢
              exact h,ops[j]'(by omega),by simp,fun e he hb=>ihj e.on (hlt j _ (by simp) e he hb) (by have:=hlt j _ (Array.getElem?_eq_getElem (by omega)) e he hb;omega)⟩
            rw [hnil] at this;cases this
      exact all n (by omega)
    | some i=>
      have him:=List.mem_of_getElem? hi;obtain ⟨hnd,o,ho,hall⟩:=CW him;have hil:i<n+1:=by rw [← hsz];exact (Array.getElem?_eq_some_iff.1 ho).1
      have hcl':=KG hcl him (by omega);have hcount:(listed.setIfInBounds i true).count false=fuel:=by
        have hi':i<listed.size:=by omega
        have e:listed[i]=false:=by simpa [hi'] using hnd
        rw [Array.setIfInBounds_def,dif_pos hi',Array.count_set,e,hc];simp
      simp only [];rw [linearise_go_acc,List.reverse_singleton,List.singleton_append]
      by_cases hin:i=n
      · subst hin
        have hdone:∀ j,j<i→GB listed j:=fun j hj=>JJ hcl i j (fun o' ho'=>by rw [ho] at ho';cases ho';exact hall) (hw j hj)
        have hf:fuel=0:=by
          rw [← hcount];refine Array.count_eq_zero.2 fun hm=>?_
          obtain ⟨j,hj,e⟩:=Array.mem_iff_getElem.1 hm
          have hd:GB (listed.setIfInBounds i true) j:=(GM (by omega)).2 (by
            simp at hj
            by_cases h:j=i
            · exact .inl h
            · exact .inr (hdone j (by omega)))
          unfold GB at hd;rw [Array.getD_eq_getD_getElem?,Array.getElem?_eq_getElem hj,e] at hd;cases hd
        subst hf;simp only [Region.linearise.go,List.reverse_nil];exact hG l a σ hS hD hW hk0 fun j hj=>hk j hj (hdone j hj)
      · have hlt':i<n:=by omega
        refine gets_det (hdet i l hlt' hk0 fun o' ho' e he hb=>?_) hS hD hW fun a' w' hS' hD' hW'=>?_
        · rw [ho] at ho';cases ho'
          exact hk e.on (by have:=hlt i o ho e he hb;omega) (hall e he hb)
        · refine ih _ _ _ a' w' (by simpa using hl) hcount (fun h=>?_) hcl' hS' hD' hW' (fun t v ht=>?_) fun j hj hd=>?_
          · rcases (GM (by omega)).1 h with h | h
            · exact hin h.symm
            · exact hn h
          · have hne:(dv i).1≠t:=fun e=>by rw [← e,hbase i hlt'] at ht;cases ht
            rw [BE hne];exact hk0 t v ht
          · rcases (GM (by omega)).1 hd with rfl | h
            · exact CN _ _ _
            · by_cases e:i=j
              · subst e;exact CN _ _ _
              · rw [BE fun h2=>e (hinj i j hlt' hj h2)];exact hk j hj h
end
theorem born_send {P : Program} {cid : FuncId} {fn : Func} {N id n r : Nat} {ops : Array Oper} {cv : List Value} {m : Value} {x y : Operand} {ty : TypeId} {I : Imm} {σ : GW}
    (hf:P.funcs[cid]?=some fn) (hcb:CT P cid=true) (hb:fn.body=some (.region id ops true)) (hres:fn.results=#[]) (hN:fn.ntmps=N) (hle:cv.length≤N) (hmx:P.follows .mixedOrders=true)
    (hsz:ops.size=n+1) (hlt:∀ j o,ops[j]?=some o→∀ e∈o.after,Region.binds .any e=true→e.on<j) (hw:∀ i,i<n→wt ops n i=true) (dv:Nat→Nat × Value)
    (hbase:∀ i,i<n→look (dv i).1 (EW 0 cv)=none) (hinj:∀ i j,i<n→j<n→(dv i).1=(dv j).1→i=j)
    (hdet:∀ [Jud P],∀ i l,i<n→(∀ t v,look t (EW 0 cv)=some v→look t l=some v)→(∀ o,ops[i]?=some o→∀ e∈o.after,Region.binds .any e=true→look (dv e.on).1 l=some (dv e.on).2)→Det P N ops i l I [] (dv i).1 (dv i).2)
    (hop:FF ops N n=some (none,.send x y,ty,none)) (hx:∀ l,(∀ j,j<n→look (dv j).1 l=some (dv j).2)→BR l x=some (.chan (some r))∧BR l y=some m) (hW:St I [] σ) :
    ∃ T,Tr P (fun d=>∃ n,QY P r m n d) T ⟨(born P { target:=.fn (.func cid) cv.toArray,args:=#[] }).frame,[],σ⟩:=by
  letI J:Jud P:=JC P
  show J.gets _ _
  let f0:Frame:={ (default:Frame) with fn:=P.funcs.size,defers:=[],mode:=.panicking [goexitEntry] }
  let b:Frame:={ (default:Frame) with fn:=cid,kind:=.deferred,roundOf:=none }
  have henter:Frame.enter P cid cv.toArray .deferred=b.atR { tmps:=cv.toArray++Array.replicate (fn.ntmps-cv.toArray.size) undef,defers:=[] } [.code (.region id ops true)]:=by
    simp [Frame.enter,Frame.atR,hf,hb,b]
  refine CU (fr':=Frame.enter P cid cv.toArray .deferred) (cs':=[f0]) (fun main w=>?_) ?_
  · have hnm : (fn.name == "runtime.NumGoroutine") = false := by
      unfold CT at hcb;rw [hf] at hcb;simp only [Bool.and_eq_true,Bool.not_eq_true'] at hcb;exact hcb.1
    have hrun:(callFunc cid cv.toArray).run P w=.ok (.enter cid cv.toArray) w:=by
      have:=hnm;simp at this;simp [callFunc,hf,hb,this]
    have hev:(callFunc cid cv.toArray).events P w #[]=#[]:=by
      have:=hnm;simp at this;simp [callFunc,hf,hb,this]
    have hse:∀ f,seen P f #[]=#[]:=fun f=>by simp [seen]
    simp [G,stepG,unwind,callDeferred,invoke,born,f0,GStep.after,hse,hrun,hev]
  rw [henter];have hS:Slots N (EW 0 cv) { tmps:=cv.toArray++Array.replicate (fn.ntmps-cv.toArray.size) undef,defers:=[] }:=by
    refine ⟨?_,fun t v hv=>?_⟩
    · simp;omega
    obtain ⟨_,h2⟩:=KZ cv 0 t v hv;rw [Nat.sub_zero] at h2;have hlt:t<cv.length:=(List.getElem?_eq_some_iff.1 h2).1;rw [Array.getElem?_append_left (by simpa using hlt)]
    simpa using h2
  refine J.bind (J.one (Q:=fun d=>∃ t,d=⟨b.atR { tmps:=cv.toArray++Array.replicate (fn.ntmps-cv.toArray.size) undef,defers:=[] } (.inRegion ops (Region.schedule (P.follows .mixedOrders) ops t)::[]),[f0],σ⟩) fun w hw=>
    ⟨b.atR _ (.inRegion ops (Region.schedule (P.follows .mixedOrders) ops (w.tape w.drawn (.order b.fn id)))::[]),[f0],{ w with drawn:=w.drawn+1 },#[],σ,
      fun main=>by simp [G,stepG,stepG.exec,Frame.atR,choose,Sem.run,Question.forced,Question.cut],
      ⟨⟨hw.os,hw.tape,hw.output,hw.blk,hw.known⟩,rfl,rfl,Nat.le_refl _,fun _ _ _=>rfl,fun _ h=>.inl h,fun _ h=>h,rfl,rfl,rfl,fun e he=>by simp at he⟩,⟨_,rfl⟩⟩) fun d ⟨t,hd⟩=>hd▸?_
  simp only [Region.schedule,hmx,Bool.true_or,if_true];have hdn:∀ k,¬ GB (Array.replicate ops.size false) k:=fun k hk=>by
    unfold GB at hk;rw [Array.getD_eq_getD_getElem?] at hk
    by_cases h:k<ops.size
    · simp [h] at hk
    · simp [h] at hk
  refine gets_any hsz hlt hw dv (EW 0 cv) hbase hinj hdet (fun l a σ' hS' hD' hW' hk0 hk=>J.stop ?_) ops.size t (Array.replicate ops.size false) _ _ _ (by simp [hsz]) (by simp) (hdn _) (fun k hk=>absurd hk (hdn k)) hS rfl hW (fun _ _ h=>h) fun j _ h=>absurd h (hdn j)
  obtain ⟨hx,hy⟩:=hx l hk;obtain ⟨o,ho,hd,hop2,hty,hgd,hN',hs⟩:=FI hop;have hwn:Region.wanted o (yielded ops a.tmps)=true:=by unfold Region.wanted;rw [hgd]
  refine ⟨4,fun w hw=>?_,?_⟩
  · have he : o.semAt b.roundOf a.eval = pure (.comm #[scase r m (.tuple #[])] true .send) := by
      rw [Oper.semAt_eq _ _ o hs.2,FH,hop2];simp [IF,execOp,LY hS' hx,LY hS' hy,scase]
    refine ⟨.tuple #[],?_⟩;rw [PH ho hwn,he];simp only [stepG.apply,if_true,pure,Sem.runT,GStep.after,G];simp [seen]
  · have hfin : (b.atR a (.inRegion ops [n] :: [])).finish undef = b.atR a [.inRegion ops []] := by
      rw [Frame.finish_atR,ho];show b.atR (a.put o.dst undef) _=_;rw [hd];rfl
    have e:Go.Conc.served (G (b.atR a (.inRegion ops [n]::[])) [f0]) undef=G (b.atR a [.inRegion ops []]) [f0]:=by
      show ({ frame:=(b.atR a (.inRegion ops [n]::[])).finish undef,callers:=[f0],status:=.running,dying:=none }:Goroutine)=_;rw [hfin];rfl
    show QuitsIn P 4 (Go.Conc.served (G (b.atR a (.inRegion ops [n]::[])) [f0]) undef);rw [e];refine .inr ⟨rfl,G (b.atR a []) [f0],fun w=>by simp [G,stepG,stepG.exec,Frame.atR],?_⟩;refine .inr ⟨rfl,G { b.atR a [] with mode:=.returning } [f0],fun w=>by simp [G,stepG,stepG.exec,Frame.atR,b],?_⟩;refine .inr ⟨rfl,G f0 [],fun w=>?_,?_⟩
    · simp [G,stepG,unwind,Frame.atR,hD',hf,results,hres,doReturn,b,f0,GStep.after,seen,goexitEntry]
    refine .inr ⟨rfl,{ G f0 [] with status:=.finished },fun w=>?_,rfl⟩;simp [G,stepG,unwind,f0,goexitEntry,Frame.catches,show (default:Frame).todo=[] from rfl]
theorem run_facts {ρ:Option Nat} {P:Program} [Jud P] {N:Nat} {c:Code} {Q:Exit→Act→GW→Prop} {ds:List Deferred} {l:Sl} {I:Imm} {M:Seg} (h:∀ w,St I M w→Run (ρ:=ρ) P N c Q ds l I M):Run (ρ:=ρ) P N c Q ds l I M:=fun a w hS hD hW=>h w hW a w hS hD hW
theorem two_perm {α:Type} {a b x:α} {xs:List α} (h:[a,b].Perm (x::xs)):(x=a∧xs=[b])∨(x=b∧xs=[a]):=by
  have hl:=h.length_eq
  match xs,hl with
  | [y],_=>
    have hx:x∈[a,b]:=h.mem_iff.2 (List.mem_cons_self ..);rcases List.mem_cons.1 hx with rfl | hx
    · have:=List.perm_singleton.1 (h.cons_inv).symm
      exact .inl ⟨rfl,this⟩
    · have hx:x=b:=by simpa using hx
      subst hx;have h2:[x,a].Perm (x::[y]):=(List.Perm.swap a x []).trans h;have:=List.perm_singleton.1 (h2.cons_inv).symm;exact .inr ⟨rfl,this⟩
theorem one_perm {α:Type} {a x:α} {xs:List α} (h:[a].Perm (x::xs)):x=a∧xs=[]:=by
  have:=List.singleton_perm.1 h;cases this;exact ⟨rfl,rfl⟩
theorem rrM {ρ:Option Nat} {P:Program} [Jud P] {N:Nat} {C:List Nat→Code} {p:List Nat} {Q:Exit→Act→GW→Prop} {ds:List Deferred} {l:Sl} {I:Imm} {M:Seg} (h:SeqM (ρ:=ρ) P N (FC (C p)) Q ds 0 l I M) (hc:QK (C p)=true:=by kernel_rfl):Run (ρ:=ρ) P N (C p) Q ds l I M:=by
  obtain ⟨id,e⟩:=RL hc;exact run_regionM e h
def edgesOk (ops:Array Oper):Bool:=(List.range ops.size).all fun j=>match ops[j]? with | some o=>o.after.all (fun e=>!Region.binds .any e||Nat.blt e.on j) | none=>true
theorem edges_lt {ops:Array Oper} (h:edgesOk ops=true):∀ j o,ops[j]?=some o→∀ e∈o.after,Region.binds .any e=true→e.on<j:=by
  intro j o ho e he hb;have hlt:j<ops.size:=(Array.getElem?_eq_some_iff.1 ho).1;have h1:=List.all_eq_true.1 h j (List.mem_range.2 hlt);simp only [ho] at h1;have h2:=Array.all_eq_true_iff_forall_mem.1 h1 e he;rw [hb] at h2
  simpa using h2
def wtOk (ops:Array Oper) (n:Nat):Bool:=(List.range n).all (wt ops n)
theorem wt_lt {ops:Array Oper} {n:Nat} (h:wtOk ops n=true):∀ i,i<n→wt ops n i=true:=fun i hi=>List.all_eq_true.1 h i (List.mem_range.2 hi)
def edgeAt (ops:Array Oper) (j i:Nat):Bool:=match ops[j]? with | some o=>o.after.any (fun e=>Nat.beq e.on i&&Region.binds .any e) | none=>false
theorem edge_get {ops:Array Oper} {j i:Nat} {p:Nat→Prop} (h:edgeAt ops j i=true) (hd:∀ o,ops[j]?=some o→∀ e∈o.after,Region.binds .any e=true→p e.on):p i:=by
  unfold edgeAt at h;cases ho:ops[j]? with
  | none=>rw [ho] at h;cases h
  | some o=>
    rw [ho] at h;simp only [Array.any_eq_true'] at h;obtain ⟨e,he,h⟩:=h;rw [Bool.and_eq_true] at h;have:=Nat.eq_of_beq_eq_true h.1;subst this;exact hd o ho e he h.2
end Go.Sl

/- A part of the proof of the laws of this seat. -/
import Derived.Test.YtgcemienebmdeaaGreatLinenMoreP1
import Derived.Test.YtgcemienebmdeaaGreatLinenMoreP2
set_option linter.unusedVariables false
set_option linter.unusedSimpArgs false
namespace Go.Sl
open Go
theorem leMono {Q:Imm→Prop} {I I':Imm} (le:I.le I') (h:∀ J,I.le J→Q J):∀ J,I'.le J→Q J:=fun J hJ=>h J (le.trans hJ)
end Go.Sl
namespace Go.Sh
open Go Go.Sl
section
variable {α:Type} {p:α→Bool} {l:List α} {d:α} {k:Nat}
def JK (p:α→Bool) (l:List α):Int:=match l.findIdx? p with
  | some i=>(i:Int)
  | none=>-1
theorem idxF_hit (h:∀ j,j<k→p (l.getD j d)=false) (hk:k<l.length) (hp:p (l.getD k d)=true):JK p l=k:=by
  have:l.findIdx? p=some k:=by
    rw [List.findIdx?_eq_some_iff_getElem];refine ⟨hk,by simpa [List.getD,hk] using hp,fun j hj=>?_⟩;have:=h j hj
    simpa [List.getD,show j<l.length by omega] using this
  unfold JK;rw [this]
theorem idxF_miss (h:∀ j,j<k→p (l.getD j d)=false) (hk:l.length≤k):JK p l=-1:=by
  have:l.findIdx? p=none:=by
    rw [List.findIdx?_eq_none_iff];intro x hx;obtain ⟨j,hj,rfl⟩:=List.mem_iff_getElem.1 hx;have:=h j (by omega)
    simpa [List.getD,hj] using this
  unfold JK;rw [this]
theorem idxF_any:cmp .geq (JK p l) 0=l.any p:=by
  unfold JK;cases h:l.findIdx? p with
  | none=>
    have:l.any p=false:=by
      rw [List.any_eq_false];intro x hx;have:=List.findIdx?_eq_none_iff.1 h x hx;simp [this]
    rw [this];decide
  | some i=>
    have:l.any p=true:=by
      rw [List.findIdx?_eq_some_iff_getElem] at h;obtain ⟨h1,h2,_⟩:=h;exact List.any_eq_true.2 ⟨_,List.getElem_mem h1,h2⟩
    rw [this];simp [cmp]
theorem idxF_spec (h:0≤JK p l):∃ i:Nat,JK p l=↑i∧i<l.length∧p (l.getD i d)=true∧∀ j,j<i→p (l.getD j d)=false:=by
  unfold JK at h ⊢;cases e:l.findIdx? p with
  | none=>rw [e] at h;simp at h
  | some i=>
    rw [List.findIdx?_eq_some_iff_getElem] at e;obtain ⟨h1,h2,h3⟩:=e;refine ⟨i,rfl,h1,by simpa [List.getD,h1] using h2,fun j hj=>?_⟩;have:=h3 j hj
    simpa [List.getD,show j<l.length by omega] using this
theorem idxF_neg (h:JK p l<0):l.any p=false:=by rw [← idxF_any];simp [cmp];omega
end
section
variable {L:Lin} {k:Nat}
theorem startErr_1 (h:¬ (L.start.length:Int)=L.places):CP L=2:=if_pos h
theorem all_at {α:Type} {p:α→Bool} {l:List α} {d:α} (hk:k<l.length) (h:l.all p=true):p (l.getD k d)=true:=by
  have:=List.all_eq_true.1 h (l.getD k d) (by simp [List.getD,hk]);exact this
theorem all_bad {α:Type} {p:α→Bool} {l:List α} {d:α} (hk:k<l.length) (h:p (l.getD k d)=false):l.all p=false:=by
  cases e:l.all p with
  | false=>rfl
  | true=>rw [all_at (d:=d) hk e] at h;cases h
theorem RU {α:Type} {p:α→Bool} {l:List α} (h:∀ x∈l.take k,p x=true) (hk:l.length≤k):l.all p=true:=List.all_eq_true.2 fun x hx=>h x (by rw [List.take_of_length_le hk];exact hx)
theorem startErr_2 (h:(L.start.length:Int)=L.places) (hk:k<L.start.length) (hb:¬ ((L.start.getD k []).length:Int)=L.sorts):CP L=2:=by
  unfold CP;rw [if_neg (fun x=>x h),if_pos (all_bad (d:=[]) hk (decide_eq_false hb))]
theorem startErr_3 (h:(L.start.length:Int)=L.places) (ha:(L.start.all fun r=>decide ((r.length:Int)=L.sorts))=true) (hk:k<L.start.flatten.length) (hb:inB (L.start.flatten.getD k 0) 0 50=false):CP L=1:=by
  unfold CP;rw [if_neg (fun x=>x h),if_neg (by rw [ha];decide),if_pos (all_bad (d:=0) hk hb)]
theorem startErr_4 (h:(L.start.length:Int)=L.places) (ha:(L.start.all fun r=>decide ((r.length:Int)=L.sorts))=true) (hb:(L.start.flatten.all fun n=>inB n 0 50)=true):CP L=0:=by
  unfold CP;rw [if_neg (fun x=>x h),if_neg (by rw [ha];decide),if_neg (by rw [hb];decide)]
theorem flat_small {xss:List (List Int)} {m:Nat} (h:∀ r∈xss,r.length≤m):xss.flatten.length≤xss.length*m:=by
  induction xss with
  | nil=>simp
  | cons x r ih=>
    have h1:=h x (by simp);have h2:=ih (fun y hy=>h y (by simp [hy]));simp only [List.flatten_cons,List.length_append,List.length_cons,Nat.succ_mul];omega
theorem OR (h:4<L.keeps.length):CO L=6:=if_pos h
theorem FP (h:¬ 4<L.keeps.length) (hz:FB (EQ L) k=0) (hk:k<L.keeps.length) {e:Int} (he:EQ L k=e) (hne:e≠0):CO L=e:=by
  unfold CO;rw [if_neg h,firstE_hit hz (by rw [he];exact hne) hk,he]
theorem OS (h:¬ 4<L.keeps.length) (hz:FB (EQ L) k=0) (hk:k=L.keeps.length):CO L=0:=by unfold CO;rw [if_neg h,← hk,hz]
section
variable (h3:inB (L.keeps.getD k AN).place 0 (L.places-1)=true) (h4:inB (L.keeps.getD k AN).hour 0 200=true)
theorem keepErr_3 (h:inB (L.keeps.getD k AN).place 0 (L.places-1)=false):EQ L k=3:=if_pos h
include h3
theorem keepErr_1 (h:inB (L.keeps.getD k AN).hour 0 200=false):EQ L k=1:=by unfold EQ;rw [if_neg (by rw [h3];decide),if_pos h]
include h4
theorem keepErr_1b (h:inB (L.keeps.getD k AN).who 1 9=false):EQ L k=1:=by unfold EQ;rw [if_neg (by rw [h3];decide),if_neg (by rw [h4];decide),if_pos h]
variable (h5:inB (L.keeps.getD k AN).who 1 9=true)
include h5
theorem keepErr_4 (h:((L.keeps.take k).any fun x=>decide (x.place=(L.keeps.getD k AN).place)&&decide (x.hour=(L.keeps.getD k AN).hour))=true):EQ L k=4:=by unfold EQ;rw [if_neg (by rw [h3];decide),if_neg (by rw [h4];decide),if_neg (by rw [h5];decide),if_pos h]
theorem keepErr_ok (h:((L.keeps.take k).any fun x=>decide (x.place=(L.keeps.getD k AN).place)&&decide (x.hour=(L.keeps.getD k AN).hour))=false):EQ L k=0:=by unfold EQ;rw [if_neg (by rw [h3];decide),if_neg (by rw [h4];decide),if_neg (by rw [h5];decide),if_neg (by rw [h];decide)]
end
theorem least_t {k:Int} (h:k=4):Value.int .i64 0=.int .i64 (if k=4 then 0 else 1):=by rw [if_pos h]
theorem least_f {k:Int} (h:k≠4):Value.int .i64 1=.int .i64 (if k=4 then 0 else 1):=by rw [if_neg h]
def PH (L:Lin) (s:Slip):Int:=
  bif !inB s.num 1 999 then 1 else bif !inB s.hour 0 200 then 1 else bif !inB s.kind 1 6 then 8
  else bif !inB s.place 0 (L.places-1) then 3
  else bif cmp .eql s.kind 1&&!inB s.to 0 (L.places-1) then 3
  else bif cmp .eql s.kind 1&&cmp .eql s.to s.place then 4
  else bif !cmp .eql s.kind 1&&!cmp .eql s.to 0 then 1
  else bif !inB s.sort 0 (L.sorts-1) then 3
  else bif s.soil&&(!cmp .eql s.kind 1&&!cmp .eql s.kind 4) then 1
  else bif !inB s.amt (if s.kind=4 then 0 else 1) 50 then 1 else 0
theorem FE (L:Lin) (s:Slip):BP L s=PH L s:=by
  unfold BP PH;simp only [KR,Bool.cond_eq_ite,Bool.and_eq_true,Bool.not_eq_true',decide_eq_true_eq,decide_eq_false_iff_not]
end
section
variable {L:Lin} {k:Nat}
def linC (L:Lin):Int:=bif !inB L.places 1 4||!inB L.sorts 1 2 then 1 else bif !cmp .eql (CP L) 0 then CP L else bif !cmp .eql (CO L) 0 then CO L else bif cmp .gtr (L.slips.length:Int) 8 then 6 else FB (CU L) L.slips.length
theorem JM (L:Lin):AK L=linC L:=by
  unfold AK linC
  by_cases e:8<L.slips.length
  · have e2:(8:Int)<L.slips.length:=by omega
    cases inB L.places 1 4 <;> cases inB L.sorts 1 2 <;> simp [cmp,Bool.cond_eq_ite,e2,e]
  · have e2:¬ (8:Int)<L.slips.length:=by omega
    cases inB L.places 1 4 <;> cases inB L.sorts 1 2 <;> simp [cmp,Bool.cond_eq_ite,e2,e]
theorem OU {x:Int} (h0:FB (CU L) L.slips.length=x) (h1:(!inB L.places 1 4||!inB L.sorts 1 2)=false) (h2:(!cmp .eql (CP L) 0)=false) (h3:(!cmp .eql (CO L) 0)=false) (h4:cmp .gtr (L.slips.length:Int) 8=false):AK L=x:=by
  rw [JM];simp only [linC,h1,h2,h3,h4,cond_false,h0]
theorem slipAt_bad (h:BP L (L.slips.getD k AB)≠0):CU L k=BP L (L.slips.getD k AB):=if_pos h
theorem slipAt_dup (h:BP L (L.slips.getD k AB)=0) (h2:hasNum (L.slips.getD k AB).num (L.slips.take k)=true):CU L k=4:=by unfold CU;rw [if_neg (fun x=>x h),if_pos h2]
theorem slipAt_ok (h:BP L (L.slips.getD k AB)=0) (h2:hasNum (L.slips.getD k AB).num (L.slips.take k)=false):CU L k=0:=by unfold CU;rw [if_neg (fun x=>x h),if_neg (by rw [h2];decide)]
theorem PI (hz:FB (CU L) k=0) (hk:k<L.slips.length) {e:Int} (he:CU L k=e) (hne:e≠0):FB (CU L) L.slips.length=e:=by rw [firstE_hit hz (by rw [he];exact hne) hk,he]
end
theorem openTo_done {st:List (List Int)} {k j:Nat} (h:j=(st.getD k []).length):QK (k:Int) (st.getD k []) j (OY st k)=OY st (k+1):=by subst h;rfl
theorem openH_at {L:Lin} {k:Nat} (h:k=L.start.length):OY L.start k=HE L:=by subst h;rfl
def Within (B:Int) (H:Hs):Prop:=∀ k,-B≤DK k H∧DK k H≤B
theorem Within.put {B B':Int} {H:Hs} (h:Within B H) {k:HKey} {v:Int} (h1:-B'≤v) (h2:v≤B') (hb:B≤B'):Within B' (KA k v H):=fun j=>by
  rw [getH_put];have:=h j;split <;> omega
theorem Within.add {B:Int} {H:Hs} (h:Within B H) {k:HKey} {d:Int} (h1:-50≤d) (h2:d≤50):Within (B+50) (PQ k d H):=h.put (by have:=h k;omega) (by have:=h k;omega) (by omega)
theorem Within.doSlip {B:Int} {H:Hs} (h:Within B H) {s:Slip} (h1:0≤s.amt) (h2:s.amt≤50) (hB:0≤B):Within (B+100) (doSlip s H):=by
  have up:∀ {H:Hs},Within (B+50) H→Within (B+100) H:=fun h k=>by have:=h k;omega
  have tw:∀ {H:Hs},Within (B+50+50) H→Within (B+100) H:=fun h k=>by have:=h k;omega
  unfold Sh.doSlip
  split
  · exact tw ((h.add (by omega) (by omega)).add (by omega) (by omega))
  split
  · exact tw ((h.add (by omega) (by omega)).add (by omega) (by omega))
  split
  · exact tw ((h.add (by omega) (by omega)).add (by omega) (by omega))
  split
  · exact up (h.put (by omega) (by omega) (by omega))
  split
  · exact up (h.add (by omega) (by omega))
  · exact up (h.add (by omega) (by omega))
end Go.Sh
namespace Go.Proofs.YtgcemienebmdeaaGreat
open Go Go.Sl Go.Sh
set_option maxRecDepth 100000
noncomputable def c_IdxKeep:=cod Tryz.f165
theorem IdxKeep_ct (I:Imm) (a:Value) (l:List Keep) (f_id:FuncId) (f_cv:List Value) (p:Keep→Bool) (a_f:EV I a l) (f_c:DF Tryz.prog f_id=true) (f_h:∀ J,I.le J→∀ x:Keep,CtV Tryz.prog f_id (.agg #[vI x.place,vI x.hour,vI x.who]::f_cv).toArray J (.bool (p x))):CtV Tryz.prog 165 #[a,.func (.func f_id) #[] f_cv.toArray] I (vI (JK p l)):=by
 obtain ⟨a0,a1,a7,b0,rfl,a8,a9,a5⟩:=id a_f;refine fr (args:=[_,_]) (N:=19) Tryz.func165 (fun F=>?_);show Run _ _ (c_IdxKeep []) _ _ [(0,_),(1,_)] _ _;refine rnm (rqr ?_);refine sp 1 [(4,vI 0)] (se (rq (rqr (sp 3 [(8,vI 0),(7,vI (↑(l.length)))] (se (rb 0 ?_))))));refine rl (fun mz a w=>∃ k:Nat,(k≤l.length)∧(∀ j,j<k→p (l.getD j AN)=false)∧SD 19 [(8,vI ↑k),(0,vS a0 l.length a1),(1,.func (.func f_id) #[] f_cv.toArray),(7,vI (↑(l.length)))] I F a w (mz=l.length-k)) ?_ ?_
 ·intro a w hS hD hW;exact ⟨_,0,Nat.zero_le _,(fun j hj=>by omega),hS.sub su,hD,hW,rfl⟩
 rintro mz a w ⟨k,hk,a4,hS,hD,hW,rfl⟩
 refine AU hS hD hW ?_;clear hS hD hW a w;refine rqr (sp 1 [(9,.bool (cmp .lss ↑k (↑(l.length))))] (se (rq (rc 9 rfl (fun h1=>?_) (fun h1=>?_)))))
 ·
  have a2:=h1;have h1:=BX h1;refine AM (NX (rq (rb 1 (rqr (sp 2 [(5,vI ↑k)] (sn (sp 3 [(13,vI ↑k),(12,vS a0 l.length a1),(11,.func (.func f_id) #[] f_cv.toArray)] (sd (di 14 3 k a5.addr) (sd (dln 15 14 50 (NG (l.getD k AN)) rfl (CB (vals:=FS) (fun _=>rfl) a5 k (by omega))) (sd (OI (f:=(.tmp 11)) (fid:=f_id) (args:=#[(.tmp 15)]) (tys:=#[50]) (cv:=f_cv) (v:=.bool (p (l.getD k AN))) (d:=16) (ty:=4) (gd:=none) (by kernel_rfl) rfl rfl rfl f_c rfl (fun I' hI=>f_h I' hI (l.getD k AN))) (se (rc 16 rfl (fun h2=>?_) (fun h2=>?_)))))))))))))
  ·
   have a3:=h2;refine rqr (sp 2 [(4,vI ↑k)] (se (BD (RB (RP (RP (RB (RP (rt1 4 rfl (IR _) ?_)))))))));exact ⟨congrArg (Value.int .i64) (idxF_hit (d:=AN) a4 (by omega) h2).symm,rfl⟩
  have a3:=h2;refine AM (NB (NX (rr (sd (da 18 ↑k 1) (sp 1 [(8,vI (↑k+1))] (ee ?_))))));refine AO (l.length-(k+1)) (by omega) ?_;intro a w hS hD hW;exact ⟨k+1,by omega,KE a4 h2,hS.sub su,hD,hW,rfl⟩
 have a2:=h1;have h1:=CF h1;refine BR 0 (EP (EP (EB (NX (rqr (sp 1 [(4,vI (-1))] (se (BD (rt1 4 rfl (IR _) ?_)))))))));exact ⟨congrArg (Value.int .i64) (idxF_miss (d:=AN) a4 (by omega)).symm,rfl⟩
noncomputable def c_ConKeep:=cod Tryz.f146
theorem ConKeep_ct (I:Imm) (a:Value) (l:List Keep) (f_id:FuncId) (f_cv:List Value) (p:Keep→Bool) (a_f:EV I a l) (f_c:DF Tryz.prog f_id=true) (f_h:∀ J,I.le J→∀ x:Keep,CtV Tryz.prog f_id (.agg #[vI x.place,vI x.hour,vI x.who]::f_cv).toArray J (.bool (p x))):CtV Tryz.prog 146 #[a,.func (.func f_id) #[] f_cv.toArray] I (.bool (l.any p)):=by
 obtain ⟨a0,a1,a3,a6,rfl,a4,a5,a7⟩:=id a_f;refine fr (args:=[_,_]) (N:=9) Tryz.func146 (fun F=>?_);show Run _ _ (c_ConKeep []) _ _ [(0,_),(1,_)] _ _;refine rnm (rqr ?_);refine sp 1 [(4,.bool false)] (sn (sp 2 [(6,.func (.func f_id) #[] f_cv.toArray),(5,vS a0 l.length a1)] (sd (dc 7 (fun I' hI=>(IdxKeep_ct I' _ _ f_id f_cv p (a_f.mono hI) f_c (leMono hI f_h) :))) (sp 2 [(4,.bool (cmp .geq (JK p l) 0))] (se (BD (rt1 4 rfl (IR _) ?_)))))));exact ⟨congrArg Value.bool idxF_any,rfl⟩
noncomputable def c_IdxSlip:=cod Tryz.f76
theorem MR (I:Imm) (a:Value) (l:List Slip) (f_id:FuncId) (f_cv:List Value) (p:Slip→Bool) (a_f:FY I a l) (f_c:DF Tryz.prog f_id=true) (f_h:∀ J,I.le J→∀ x:Slip,CtV Tryz.prog f_id (.agg #[vI x.num,vI x.hour,vI x.kind,vI x.place,vI x.to,vI x.sort,.bool x.soil,vI x.amt]::f_cv).toArray J (.bool (p x))):CtV Tryz.prog 76 #[a,.func (.func f_id) #[] f_cv.toArray] I (vI (JK p l)):=by
 obtain ⟨a0,a1,a7,b0,rfl,a8,a9,a5⟩:=id a_f;refine fr (args:=[_,_]) (N:=19) Tryz.func76 (fun F=>?_);show Run _ _ (c_IdxSlip []) _ _ [(0,_),(1,_)] _ _;refine rnm (rqr ?_);refine sp 1 [(4,vI 0)] (se (rq (rqr (sp 3 [(8,vI 0),(7,vI (↑(l.length)))] (se (rb 0 ?_))))));refine rl (fun mz a w=>∃ k:Nat,(k≤l.length)∧(∀ j,j<k→p (l.getD j AB)=false)∧SD 19 [(8,vI ↑k),(0,vS a0 l.length a1),(1,.func (.func f_id) #[] f_cv.toArray),(7,vI (↑(l.length)))] I F a w (mz=l.length-k)) ?_ ?_
 ·intro a w hS hD hW;exact ⟨_,0,Nat.zero_le _,(fun j hj=>by omega),hS.sub su,hD,hW,rfl⟩
 rintro mz a w ⟨k,hk,a4,hS,hD,hW,rfl⟩
 refine AU hS hD hW ?_;clear hS hD hW a w;refine rqr (sp 1 [(9,.bool (cmp .lss ↑k (↑(l.length))))] (se (rq (rc 9 rfl (fun h1=>?_) (fun h1=>?_)))))
 ·
  have a2:=h1;have h1:=BX h1;refine AM (NX (rq (rb 1 (rqr (sp 2 [(5,vI ↑k)] (sn (sp 3 [(13,vI ↑k),(12,vS a0 l.length a1),(11,.func (.func f_id) #[] f_cv.toArray)] (sd (di 14 8 k a5.addr) (sd (dln 15 14 28 (EU (l.getD k AB)) rfl (CB (vals:=CV) (fun _=>rfl) a5 k (by omega))) (sd (OI (f:=(.tmp 11)) (fid:=f_id) (args:=#[(.tmp 15)]) (tys:=#[28]) (cv:=f_cv) (v:=.bool (p (l.getD k AB))) (d:=16) (ty:=4) (gd:=none) (by kernel_rfl) rfl rfl rfl f_c rfl (fun I' hI=>f_h I' hI (l.getD k AB))) (se (rc 16 rfl (fun h2=>?_) (fun h2=>?_)))))))))))))
  ·
   have a3:=h2;refine rqr (sp 2 [(4,vI ↑k)] (se (BD (RB (RP (RP (RB (RP (rt1 4 rfl (IR _) ?_)))))))));exact ⟨congrArg (Value.int .i64) (idxF_hit (d:=AB) a4 (by omega) h2).symm,rfl⟩
  have a3:=h2;refine AM (NB (NX (rr (sd (da 18 ↑k 1) (sp 1 [(8,vI (↑k+1))] (ee ?_))))));refine AO (l.length-(k+1)) (by omega) ?_;intro a w hS hD hW;exact ⟨k+1,by omega,KE a4 h2,hS.sub su,hD,hW,rfl⟩
 have a2:=h1;have h1:=CF h1;refine BR 0 (EP (EP (EB (NX (rqr (sp 1 [(4,vI (-1))] (se (BD (rt1 4 rfl (IR _) ?_)))))))));exact ⟨congrArg (Value.int .i64) (idxF_miss (d:=AB) a4 (by omega)).symm,rfl⟩
noncomputable def c_ConSlip:=cod Tryz.f91
theorem ConSlip_ct (I:Imm) (a:Value) (l:List Slip) (f_id:FuncId) (f_cv:List Value) (p:Slip→Bool) (a_f:FY I a l) (f_c:DF Tryz.prog f_id=true) (f_h:∀ J,I.le J→∀ x:Slip,CtV Tryz.prog f_id (.agg #[vI x.num,vI x.hour,vI x.kind,vI x.place,vI x.to,vI x.sort,.bool x.soil,vI x.amt]::f_cv).toArray J (.bool (p x))):CtV Tryz.prog 91 #[a,.func (.func f_id) #[] f_cv.toArray] I (.bool (l.any p)):=by
 obtain ⟨a0,a1,a3,a6,rfl,a4,a5,a7⟩:=id a_f;refine fr (args:=[_,_]) (N:=9) Tryz.func91 (fun F=>?_);show Run _ _ (c_ConSlip []) _ _ [(0,_),(1,_)] _ _;refine rnm (rqr ?_);refine sp 1 [(4,.bool false)] (sn (sp 2 [(6,.func (.func f_id) #[] f_cv.toArray),(5,vS a0 l.length a1)] (sd (dc 7 (fun I' hI=>(MR I' _ _ f_id f_cv p (a_f.mono hI) f_c (leMono hI f_h) :))) (sp 2 [(4,.bool (cmp .geq (JK p l) 0))] (se (BD (rt1 4 rfl (IR _) ?_)))))));exact ⟨congrArg Value.bool idxF_any,rfl⟩
noncomputable def c_checkStart:=cod Tryz.f102
theorem checkStart_ct (I:Imm) (l:Value) (L:Lin) (l_f:IsLin I l L) (hp:1≤L.places∧L.places≤4) (hs:1≤L.sorts∧L.sorts≤2):CtV Tryz.prog 102 #[l] I (vI (CP L)):=by
 obtain ⟨l1,l2,l3,rfl,b2,d4,d6⟩:=id l_f;obtain ⟨a0,a1,e7,f0,e4,rfl,e8,e9,b3,d2⟩:=id b2;obtain ⟨a2,a3,f1,f4,rfl,f2,f3,f5⟩:=id d4;obtain ⟨a4,a5,f6,f9,rfl,f7,f8,g0⟩:=id d6;refine fr (args:=[_]) (N:=38) Tryz.func102 (fun F=>?_);show Run _ _ (c_checkStart []) _ _ [(0,_)] _ _;refine rnm (rqr ?_);refine sS (sb 1 26 (AH L (vS a0 L.start.length a1) (vS a2 L.keeps.length a3) (vS a4 L.slips.length a5)) (fun b1=>(sp 1 [(2,vI 0)] (se (rq (rqr (sp 1 [(7,vP b1 2)] (sd (dlb 8 0 2 b1 (vS a0 L.start.length a1)) (sp 2 [(10,vP b1 0),(9,vI (↑(L.start.length)))] (sd (dlb 11 0 0 b1 (vI L.places)) (sp 1 [(12,.bool (!(cmp .eql (↑(L.start.length)) L.places)))] (se (rc 12 rfl (fun h1=>?_) (fun h1=>?_))))))))))))))
 ·
  have c4:=h1;have h1:=BG (BF h1);refine rqr (sp 1 [(2,vI 2)] (se (BD (RP (DL 2 [] rfl (TC _ (TR _)) (IR _) ?_)))));exact ⟨congrArg (Value.int .i64) (startErr_1 (by omega)).symm,rfl⟩
 have c4:=h1;have h1:=BE (BC h1);refine AM (NX (rq (rqr (sp 1 [(13,vP b1 2)] (sd (dlb 14 0 2 b1 (vS a0 L.start.length a1)) (sp 2 [(16,vI 0),(15,vI (↑(L.start.length)))] (se (rb 0 ?_))))))));refine rl (fun mz a w=>∃ k:Nat,(k≤L.start.length)∧(∀ r∈L.start.take k,(fun r=>decide ((r.length:Int)=L.sorts)) r=true)∧SD 38 [(16,vI ↑k),(1,vP b1 0),(14,vS a0 L.start.length a1),(15,vI (↑(L.start.length)))] I ((bX b1 (AH L (vS a0 L.start.length a1) (vS a2 L.keeps.length a3) (vS a4 L.slips.length a5)) 26)::F) a w (mz=L.start.length-k)) ?_ ?_
 ·intro a w hS hD hW;exact ⟨_,0,Nat.zero_le _,(fun x h=>by simp at h),hS.sub su,hD,hW,rfl⟩
 rintro mz a w ⟨k,hk,ha,hS,hD,hW,rfl⟩
 refine AU hS hD hW ?_;refine rqr (sp 1 [(17,.bool (cmp .lss ↑k (↑(L.start.length))))] (se (rq (rc 17 rfl (fun h2=>?_) (fun h2=>?_)))))
 ·
  have c5:=h2;have h2:=BX h2;refine AM (NX (rq (rb 1 (rqr (sd (di 18 1 k b3.addr) ?_)))));have b6:=d2 k (by omega);obtain ⟨d7,d8,g2,g5,b5,g3,g4,g6⟩:=id b6;rw [b5] at b6;refine sd (DE (dl 19 (DY b3 k (by omega))) b5) (sp 1 [(4,vS d7 (L.start.getD k []).length d8)] (sn (sp 3 [(22,vP b1 1),(21,vI (↑((L.start.getD k []).length)))] (sd (dlb 23 0 1 b1 (vI L.sorts)) (sp 1 [(24,.bool (!(cmp .eql (↑((L.start.getD k []).length)) L.sorts)))] (se (rc 24 rfl (fun h3=>?_) (fun h3=>?_))))))))
  ·
   have c6:=h3;have h3:=BG (BF h3);refine rqr (sp 1 [(2,vI 2)] (se (BD (RB (RP (RP (RB (RP (DL 2 [] rfl (TC _ (TR _)) (IR _) ?_)))))))));exact ⟨congrArg (Value.int .i64) (startErr_2 (k:=k) (by omega) (by omega) h3).symm,rfl⟩
  have c6:=h3;have h3:=BE (BC h3);refine AM (NB (NX (rr (sd (da 25 ↑k 1) (sp 1 [(16,vI (↑k+1))] (ee ?_))))));refine AO (L.start.length-(k+1)) (by omega) ?_;intro a w hS hD hW;exact ⟨k+1,by omega,MS (d:=[]) ha (by omega) (decide_eq_true h3),hS.sub su,hD,hW,rfl⟩
 have c5:=h2;have h2:=CF h2;refine BR 0 (EP (EP (EB (NX (rq (rqr (sp 1 [(26,vP b1 2)] (sd (dlb 27 0 2 b1 (vS a0 L.start.length a1)) ?_))))))));have d0:(L.start.all fun r=>decide ((r.length:Int)=L.sorts))=true:=RU ha (by omega);have h0:L.start.flatten.length≤1000000:=by have h1:=flat_small (xss:=L.start) (m:=2) (fun r hr=>by have:=of_decide_eq_true (List.all_eq_true.1 d0 r hr);omega);omega
 refine sS (sc (some 28) (Concat_ct _ _ _ b2 (by assumption) :) (.refl _) (fun g8 I4 g7 b0 e6=>?_));obtain ⟨u9,b7,e3,e2,b4⟩:=e6;rw [e3,e2];clear e3 e2;obtain ⟨d9,e0,rfl,g9⟩:=b4.shape;refine pm (M':=((bX b1 (AH L (vS a0 L.start.length a1) (vS a2 L.keeps.length a3) (vS a4 L.slips.length a5)) 26)::(b7++F))) PM (sfz (A:=((bX b1 (AH L (vS a0 L.start.length a1) (vS a2 L.keeps.length a3) (vS a4 L.slips.length a5)) 26)::F)) 0 b4 PM.symm (fun e5 a7 a9=>?_));obtain ⟨b8,c0,b9,c3,a8,c1,c2,a6⟩:=id a9;cases a8;refine sp 2 [(30,vI 0),(29,vI (↑(L.start.flatten.length)))] (se (rb 2 ?_));refine rl (fun mz a w=>∃ m:Nat,(m≤L.start.flatten.length)∧(∀ x∈L.start.flatten.take m,inB x 0 50=true)∧SD 38 [(30,vI ↑m),(28,vS d9 L.start.flatten.length e0),(29,vI (↑(L.start.flatten.length)))] e5 ((bX b1 (AH L (vS a0 L.start.length a1) (vS a2 L.keeps.length a3) (vS a4 L.slips.length a5)) 26)::F) a w (mz=L.start.flatten.length-m)) ?_ ?_
 ·intro a w hS hD hW;exact ⟨_,0,Nat.zero_le _,(fun x h=>by simp at h),hS.sub su,hD,hW,rfl⟩
 rintro mz a w ⟨m,hm,hb,hS,hD,hW,rfl⟩
 refine AU hS hD hW ?_;refine rqr (sp 1 [(31,.bool (cmp .lss ↑m (↑(L.start.flatten.length))))] (se (rq (rc 31 rfl (fun h4=>?_) (fun h4=>?_)))))
 ·
  have c7:=h4;have h4:=BX h4;refine AM (NX (rq (rb 3 (rqr (sd (di 32 1 m a6.addr) (sd (dl 33 (DG a6 m (by omega))) (sp 1 [(6,vI (L.start.flatten.getD m 0))] (sn (sp 1 [(34,vI (L.start.flatten.getD m 0))] (sd (dc 35 (fun I' hI=>(MC I' (L.start.flatten.getD m 0) 0 50 :))) (sp 1 [(36,.bool (!(inB (L.start.flatten.getD m 0) 0 50)))] (se (rc 36 rfl (fun h5=>?_) (fun h5=>?_))))))))))))))
  ·
   have c9:=h5;have h5:=BF h5;have c8:=HK h5;refine rqr (sp 1 [(2,vI 1)] (se (BD (RB (RP (RP (RB (RP (DL 2 [] rfl (TC _ (TR _)) (IT b0 a7) ?_)))))))));exact ⟨congrArg (Value.int .i64) (startErr_3 (k:=m) (by omega) d0 (by omega) h5).symm,rfl⟩
  have c9:=h5;have h5:=BC h5;have c8:=DB h5;refine AM (NB (NX (rr (sd (da 37 ↑m 1) (sp 1 [(30,vI (↑m+1))] (ee ?_))))));refine AO (L.start.flatten.length-(m+1)) (by omega) ?_;intro a w hS hD hW;exact ⟨m+1,by omega,MS (d:=0) hb (by omega) h5,hS.sub su,hD,hW,rfl⟩
 have c7:=h4;have h4:=CF h4;refine BR 2 (EP (EP (EB (NX (rqr (sp 1 [(2,vI 0)] (se (BD (DL 2 [] rfl (TC _ (TR _)) (IT b0 a7) ?_)))))))));exact ⟨congrArg (Value.int .i64) (startErr_4 (by omega) d0 (RU hb (by omega))).symm,rfl⟩
noncomputable def c_checkKeeps1:=cod Tryz.f147
theorem cK1_ct (I:Imm) (x k:Keep) (b:Nat) (hb:I.blk b=some (Obj.cells #[vI k.place,vI k.hour,vI k.who] 50 (0,0))):CtV Tryz.prog 147 #[.agg #[vI x.place,vI x.hour,vI x.who],vP b 0] I (.bool (decide (x.place=k.place)&&decide (x.hour=k.hour))):=by
 refine fr (args:=[_,_]) (N:=16) Tryz.func147 (fun F=>?_);show Run _ _ (c_checkKeeps1 []) _ _ [(0,_),(1,_)] _ _;refine rnm (rqr ?_);refine sS (sb 2 50 (keepA x) (fun b1=>(sp 1 [(3,.bool false)] (se (rq ?_)))));refine BV (fun a w=>SE 16 [(3,.bool ((cmp .eql x.place k.place)&&(cmp .eql x.hour k.hour)))] I ((bX b1 (keepA x) 50)::F) a w) ?_ ?_
 ·
  refine rr (sp 1 [(4,vP b1 0)] (sd (dlb 5 0 0 b1 (vI x.place)) (sd (dfa 6 1 50 0 0 0 rfl) (sd (dld 7 6 3 (vI k.place) rfl (AW hb rfl)) (sp 2 [(9,.bool (cmp .eql x.place k.place))] ?_)))));refine BB 9 rfl (fun h1=>?_) (fun h1=>?_)
  ·
   have a0:=h1;have a0:=BE a0;refine sp 1 [(10,vP b1 1)] (sd (dlb 11 0 1 b1 (vI x.hour)) (sd (OJ (x:=(.tmp 1)) (T:=50) (k:=1) (o:=1) (d:=12) (ty:=0) (gd:=(some (5,true))) (by kernel_rfl) (by kernel_rfl) (by kernel_rfl) rfl) (sd (RZ (v:=vI k.hour) (x:=(.tmp 12)) (T:=3) (d:=13) (ty:=3) (gd:=(some (5,true))) (by kernel_rfl) (by kernel_rfl) (by kernel_rfl) rfl (AW hb rfl)) (sp 3 [(3,.bool (cmp .eql x.hour k.hour))] (ee ?_)))));refine AL (fun a w hS hD hW=>⟨hS.sub (.consE 3 rfl (congrArg Value.bool (by simp only [h1,kk])) (.nil _)),hD,hW⟩)
  have a0:=h1;have a0:=BG a0;refine sp 7 [(3,.bool false)] (ee ?_);refine AL (fun a w hS hD hW=>⟨hS.sub (.consE 3 rfl (congrArg Value.bool (by simp only [h1,kk])) (.nil _)),hD,hW⟩)
 rintro a w ⟨hS,hD,hW⟩
 refine AU hS hD hW ?_;refine BD (DL 3 [] rfl (TC _ (TR _)) (IR _) ?_);exact ⟨congrArg Value.bool (by simp only [KR]),rfl⟩
noncomputable def c_checkKeeps:=cod Tryz.f103
theorem checkKeeps_ct (I:Imm) (l:Value) (L:Lin) (l_f:IsLin I l L) (hp:1≤L.places∧L.places≤4):CtV Tryz.prog 103 #[l] I (vI (CO L)):=by
 obtain ⟨l1,l2,l3,rfl,c3,a5,c6⟩:=id l_f;obtain ⟨a3,a4,c9,d2,c7,rfl,d0,d1,d3,d4⟩:=id c3;obtain ⟨a0,a1,d5,d8,rfl,d6,d7,a6⟩:=id a5;obtain ⟨a7,a8,d9,e2,rfl,e0,e1,e3⟩:=id c6;refine fr (args:=[_]) (N:=42) Tryz.func103 (fun F=>?_);show Run _ _ (c_checkKeeps []) _ _ [(0,_)] _ _;refine rnm (rqr ?_);refine sS (sb 1 26 (AH L (vS a3 L.start.length a4) (vS a0 L.keeps.length a1) (vS a7 L.slips.length a8)) (fun b1=>(sp 1 [(2,vI 0)] (se (rq (rqr (sp 1 [(5,vP b1 3)] (sd (dlb 6 0 3 b1 (vS a0 L.keeps.length a1)) (sp 2 [(8,.bool (cmp .gtr (↑(L.keeps.length)) 4))] (se (rc 8 rfl (fun h1=>?_) (fun h1=>?_))))))))))))
 ·
  have b4:=h1;have h1:=JY h1;refine rqr (sp 1 [(2,vI 6)] (se (BD (RP (DL 2 [] rfl (TC _ (TR _)) (IR _) ?_)))));exact ⟨congrArg (Value.int .i64) (OR (by omega)).symm,rfl⟩
 have b4:=h1;have h1:=MB h1;refine AM (NX (rq (rqr (sp 1 [(9,vP b1 3)] (sd (dlb 10 0 3 b1 (vS a0 L.keeps.length a1)) (sp 2 [(12,vI 0),(11,vI (↑(L.keeps.length)))] (se (rb 0 ?_))))))));refine rl (fun mz a w=>∃ J0:Imm,∃ k:Nat,(I.le J0)∧(k≤L.keeps.length)∧(FB (EQ L) k=0)∧SD 42 [(12,vI ↑k),(1,vP b1 0),(10,vS a0 L.keeps.length a1),(11,vI (↑(L.keeps.length)))] J0 ((bX b1 (AH L (vS a3 L.start.length a4) (vS a0 L.keeps.length a1) (vS a7 L.slips.length a8)) 26)::F) a w (mz=L.keeps.length-k)) ?_ ?_
 ·intro a w hS hD hW;exact ⟨_,I,0,IR _,Nat.zero_le _,rfl,hS.sub su,hD,hW,rfl⟩
 rintro mz a w ⟨J0,k,hJ0,hk,hz,hS,hD,hW,rfl⟩
 refine AU hS hD hW ?_;replace a5:=a5.mono hJ0;replace a6:=a6.mono hJ0;refine rqr (sp 1 [(13,.bool (cmp .lss ↑k (↑(L.keeps.length))))] (se (rq (rc 13 rfl (fun h2=>?_) (fun h2=>?_)))))
 ·
  have b5:=h2;have h2:=BX h2;refine AM (NX (rq (rb 1 (rqr (sp 1 [(14,vI ↑k)] (sd (di 15 3 k a6.addr) (sd (dln 16 15 50 (NG (L.keeps.getD k AN)) rfl (CB (vals:=FS) (fun _=>rfl) a6 k (by omega))) (sS (sal 4 50 #[vI 0,vI 0,vI 0] (fun b3=>(sp 1 [(3,vI ↑k)] (sS (ss 0 0 b3 (NG (L.keeps.getD k AN)) (NG (L.keeps.getD k AN)) (_::_::_) (cs:=[_,_,_]) rfl rfl (se (rb 2 (rqr (sp 1 [(18,vP b3 0)] (sd (dlb 19 0 0 b3 (vI ((L.keeps.getD k AN).place))) (sp 1 [(20,vP b1 0)] (sd (dlb 21 1 0 b1 (vI L.places)) (sd (dsb 22 L.places 1) (sd (dc 23 (fun I' hI=>(MC I' ((L.keeps.getD k AN).place) 0 (L.places-1) :))) (sp 2 [(17,.bool (!(inB ((L.keeps.getD k AN).place) 0 (L.places-1))))] (se (rc 17 rfl (fun h3=>?_) (fun h3=>?_))))))))))))))))))))))))))
  ·
   have b7:=h3;have h3:=BF h3;have b6:=HK h3;refine rqr (sp 1 [(2,vI 3)] (se (BD (RB (RB (RP (RP (RB (RP (DL 2 [] rfl (TC _ (TC _ (TR _))) hJ0 ?_))))))))));exact ⟨congrArg (Value.int .i64) (FP (by omega) hz (by omega) (keepErr_3 h3) (by decide)).symm,rfl⟩
  have b7:=h3;have h3:=BC h3;have b6:=DB h3;refine rq (rqr (sp 1 [(26,vP b3 1)] (sd (dlb 27 0 1 b3 (vI ((L.keeps.getD k AN).hour))) (sd (dc 28 (fun I' hI=>(MC I' ((L.keeps.getD k AN).hour) 0 200 :))) (sp 2 [(25,.bool (!(inB ((L.keeps.getD k AN).hour) 0 200)))] (se (rc 25 rfl (fun h4=>?_) (fun h4=>?_))))))))
  ·
   have b0:=h4;have h4:=BF h4;have b8:=HK h4;refine AM (NX ?_);refine run_re 25 rfl (congrArg Value.bool b0) (rct 25 rfl (rqr (sp 1 [(2,vI 1)] (se (BD (RB (RB (RP (RP (RB (RP (DL 2 [] rfl (TC _ (TC _ (TR _))) hJ0 ?_))))))))))));exact ⟨congrArg (Value.int .i64) (FP (by omega) hz (by omega) (keepErr_1 h3 h4) (by decide)).symm,rfl⟩
  have b0:=h4;have h4:=BC h4;have b8:=DB h4;refine rr (sp 1 [(30,vP b3 2)] (sd (dlb 31 0 2 b3 (vI ((L.keeps.getD k AN).who))) (sd (dc 32 (fun I' hI=>(MC I' ((L.keeps.getD k AN).who) 1 9 :))) (sp 2 [(25,.bool (!(inB ((L.keeps.getD k AN).who) 1 9)))] (se (rc 25 rfl (fun h5=>?_) (fun h5=>?_)))))))
  ·
   have c0:=h5;have h5:=BF h5;have b9:=HK h5;refine rqr (sp 1 [(2,vI 1)] (se (BD (RB (RB (RP (RP (RB (RP (DL 2 [] rfl (TC _ (TC _ (TR _))) hJ0 ?_))))))))));exact ⟨congrArg (Value.int .i64) (FP (by omega) hz (by omega) (keepErr_1b h3 h4 h5) (by decide)).symm,rfl⟩
  have c0:=h5;have h5:=BC h5;have b9:=DB h5;refine rqr (sp 1 [(35,vP b1 3)] (sd (dlb 36 1 3 b1 (vS a0 L.keeps.length a1)) (sp 1 [(37,vI ↑k)] ?_)));have a2:=a5.cutHi k (by omega);obtain ⟨e5,e7,e6,f0,b2,e8,e9,f1⟩:=id a2;rw [b2] at a2;refine sd (DE (HW (x:=(.tmp 36)) (lo:=none) (hi:=(some (.tmp 37))) (T:=23) (e:=50) (sz:=3) 0 k (d:=38) (ty:=23) (gd:=none) (by kernel_rfl) rfl (by kernel_rfl) (by kernel_rfl) rfl (.inl ⟨rfl,rfl⟩) (.inr ⟨_,.i64,rfl,rfl⟩) (by omega) (by omega)) b2) (sp 1 [(39,.func (.func 147) #[] #[vP b3 0])] ?_);refine SG (b:=b3) (o:=Obj.cells (keepA (L.keeps.getD k AN)) 50 (0,0)) (M0:=((bX b1 (AH L (vS a3 L.start.length a4) (vS a0 L.keeps.length a1) (vS a7 L.slips.length a8)) 26)::F)) (PR _) (fun I6 a9 c8=>?_);replace a2:=a2.mono a9;refine sd (dc 40 (fun I' hI=>(ConKeep_ct I' _ _ 147 ([vP b3 0]) (fun x=>decide (x.place=(L.keeps.getD k AN).place)&&decide (x.hour=(L.keeps.getD k AN).hour)) (a2.mono hI) (by kernel_rfl) (fun J hJ x=>cK1_ct J x (L.keeps.getD k AN) b3 ((IT hI hJ).blk _ _ c8)) :))) (sp 1 [(34,.bool ((L.keeps.take k).any (fun x=>decide (x.place=(L.keeps.getD k AN).place)&&decide (x.hour=(L.keeps.getD k AN).hour))))] (se (rc 34 rfl (fun h6=>?_) (fun h6=>?_))))
  ·
   have c1:=h6;refine rqr (sp 1 [(2,vI 4)] (se (BD (RB (RB (RP (RP (RB (RP (DL 2 [] rfl (TC _ (TR _)) (IT hJ0 a9) ?_))))))))));exact ⟨congrArg (Value.int .i64) (FP (by omega) hz (by omega) (keepErr_4 h3 h4 h5 h6) (by decide)).symm,rfl⟩
  have c1:=h6;refine AM (NB (NB (NX (rr (sd (da 41 ↑k 1) (sp 1 [(12,vI (↑k+1))] (ee ?_)))))));refine AO (L.keeps.length-(k+1)) (by omega) ?_;intro a w hS hD hW;exact ⟨I6,k+1,(IT hJ0 a9),by omega,KT hz (keepErr_ok h3 h4 h5 h6),hS.sub su,hD,hW,rfl⟩
 have b5:=h2;have h2:=CF h2;refine BR 0 (EP (EP (EB (NX (rqr (sp 1 [(2,vI 0)] (se (BD (DL 2 [] rfl (TC _ (TR _)) hJ0 ?_)))))))));exact ⟨congrArg (Value.int .i64) (OS (by omega) hz (by omega)).symm,rfl⟩
noncomputable def c_checkSlip:=cod Tryz.f104
theorem QZ (I:Imm) (l:Value) (L:Lin) (s:Slip) (l_f:IsLin I l L) (hp:1≤L.places∧L.places≤4) (hq:1≤L.sorts∧L.sorts≤2):CtV Tryz.prog 104 #[l,.agg #[vI s.num,vI s.hour,vI s.kind,vI s.place,vI s.to,vI s.sort,.bool s.soil,vI s.amt]] I (vI (BP L s)):=by
 obtain ⟨l1,l2,l3,rfl,e8,f0,f2⟩:=id l_f;obtain ⟨b0,b2,f5,f8,f4,rfl,f6,f7,f9,g0⟩:=id e8;obtain ⟨b4,b5,g1,g4,rfl,g2,g3,g5⟩:=id f0;obtain ⟨b6,b7,g6,g9,rfl,g7,g8,h0⟩:=id f2;refine fr (args:=[_,_]) (N:=90) Tryz.func104 (fun F=>?_);show Run _ _ (c_checkSlip []) _ _ [(0,_),(1,_)] _ _;refine rnm (rqr ?_);refine sS (sb 2 26 (AH L (vS b0 L.start.length b2) (vS b4 L.keeps.length b5) (vS b6 L.slips.length b7)) (fun b1=>(sS (sb 3 28 (AV s) (fun b3=>(sp 1 [(4,vI 0)] (se (rq ?_))))))));refine rd0 7 (ox 1 [(8,vP b3 2)] ?_);refine AD (dlb 9 0 2 b3 (vI s.kind)) (ox 2 [(11,vP b3 2),(10,.bool (cmp .eql s.kind 1))] ?_);refine AD (dlb 12 0 2 b3 (vI s.kind)) (ox 2 [(5,.bool (cmp .eql s.kind 1)),(13,.bool (cmp .eql s.kind 4))] ?_);refine BA (sp 1 [(6,.bool (cmp .eql s.kind 4))] (sn (sp 1 [(7,vI 1)] (se (rq ?_)))));refine BV (fun a w=>SE 90 [(2,vP b1 0),(3,vP b3 0),(4,vI 0),(5,.bool (cmp .eql s.kind 1)),(6,.bool (cmp .eql s.kind 4)),(7,vI (if s.kind=4 then 0 else 1))] I ((bX b3 (AV s) 28)::(bX b1 (AH L (vS b0 L.start.length b2) (vS b4 L.keeps.length b5) (vS b6 L.slips.length b7)) 26)::F) a w) ?_ ?_
 ·
  refine rqr (sp 1 [(14,.bool (cmp .eql s.kind 4))] (se (rc 14 rfl (fun h1=>?_) (fun h1=>?_))))
  ·
   have e1:=h1;have h1:=BE h1;refine rr (sp 1 [(7,vI 0)] (ee ?_));exact AL (fun a w hS hD hW=>⟨hS.sub (sun 5 (.consE 7 rfl (least_t h1) (.nil _))),hD,hW⟩)
  have e1:=h1;have h1:=BG h1;refine AM ?_;exact AL (fun a w hS hD hW=>⟨hS.sub (sun 5 (.consE 7 rfl (least_f h1) (.nil _))),hD,hW⟩)
 rintro a w ⟨hS,hD,hW⟩
 refine AU hS hD hW ?_;refine rq (rb 0 (rq (rqr (sp 1 [(16,vP b3 0)] (sd (dlb 17 0 0 b3 (vI s.num)) (sd (dc 18 (fun I' hI=>(MC I' s.num 1 999 :))) (sp 2 [(15,.bool (!(inB s.num 1 999)))] (se (rc 15 rfl (fun h2=>?_) (fun h2=>?_))))))))))
 ·
  have a0:=h2;have h2:=BF h2;have e2:=HK h2;refine AM (NX ?_);refine run_re 15 rfl (congrArg Value.bool a0) (rct 15 rfl (rqr (sp 1 [(4,vI 1)] (se (BD (RB (RP (DL 4 [] rfl (TC _ (TC _ (TR _))) (IR _) ?_))))))));exact ⟨congrArg (Value.int .i64) (by simp only [FE,PH,a0,cond_true,cond_false]),rfl⟩
 have a0:=h2;have h2:=BC h2;have e2:=DB h2;refine rr (sp 1 [(20,vP b3 1)] (sd (dlb 21 0 1 b3 (vI s.hour)) (sd (dc 22 (fun I' hI=>(MC I' s.hour 0 200 :))) (sp 2 [(15,.bool (!(inB s.hour 0 200)))] (se (rc 15 rfl (fun h3=>?_) (fun h3=>?_)))))))
 ·
  have a1:=h3;have h3:=BF h3;have e3:=HK h3;refine rqr (sp 1 [(4,vI 1)] (se (BD (RB (RP (DL 4 [] rfl (TC _ (TC _ (TR _))) (IR _) ?_))))));exact ⟨congrArg (Value.int .i64) (by simp only [FE,PH,a0,a1,cond_true,cond_false]),rfl⟩
 have a1:=h3;have h3:=BC h3;have e3:=DB h3;refine rqr (sp 1 [(25,vP b3 2)] (sd (dlb 26 0 2 b3 (vI s.kind)) (sd (dc 27 (fun I' hI=>(MC I' s.kind 1 6 :))) (sp 2 [(24,.bool (!(inB s.kind 1 6)))] (se (rc 24 rfl (fun h4=>?_) (fun h4=>?_)))))))
 ·
  have a2:=h4;have h4:=BF h4;have e4:=HK h4;refine rqr (sp 1 [(4,vI 8)] (se (BD (RB (RP (DL 4 [] rfl (TC _ (TC _ (TR _))) (IR _) ?_))))));exact ⟨congrArg (Value.int .i64) (by simp only [FE,PH,a0,a1,a2,cond_true,cond_false]),rfl⟩
 have a2:=h4;have h4:=BC h4;have e4:=DB h4;refine rqr (sp 1 [(30,vP b3 3)] (sd (dlb 31 0 3 b3 (vI s.place)) (sp 1 [(32,vP b1 0)] (sd (dlb 33 1 0 b1 (vI L.places)) (sd (dsb 34 L.places 1) (sd (dc 35 (fun I' hI=>(MC I' s.place 0 (L.places-1) :))) (sp 2 [(29,.bool (!(inB s.place 0 (L.places-1))))] (se (rc 29 rfl (fun h5=>?_) (fun h5=>?_))))))))))
 ·
  have a4:=h5;have h5:=BF h5;have e5:=HK h5;refine rqr (sp 1 [(4,vI 3)] (se (BD (RB (RP (DL 4 [] rfl (TC _ (TC _ (TR _))) (IR _) ?_))))));exact ⟨congrArg (Value.int .i64) (by simp only [FE,PH,a0,a1,a2,a4,cond_true,cond_false]),rfl⟩
 have a4:=h5;have h5:=BC h5;have e5:=DB h5;refine rq ?_;refine BV (fun a w=>SE 90 [(2,vP b1 0),(3,vP b3 0),(4,vI 0),(5,.bool (cmp .eql s.kind 1)),(6,.bool (cmp .eql s.kind 4)),(7,vI (if s.kind=4 then 0 else 1)),(37,.bool ((cmp .eql s.kind 1)&&(!(inB s.to 0 (L.places-1)))))] I ((bX b3 (AV s) 28)::(bX b1 (AH L (vS b0 L.start.length b2) (vS b4 L.keeps.length b5) (vS b6 L.slips.length b7)) 26)::F) a w) ?_ ?_
 ·
  refine rr (sp 2 [(39,.bool (cmp .eql s.kind 1))] ?_);refine BB 39 rfl (fun h6=>?_) (fun h6=>?_)
  ·
   have c2:=h6;have c2:=BE c2;refine sp 1 [(40,vP b3 4)] (sd (dlb 41 0 4 b3 (vI s.to)) (sp 1 [(42,vP b1 0)] (sd (dlb 43 1 0 b1 (vI L.places)) (sd (dsb 44 L.places 1) (sd (dc 45 (fun I' hI=>(MC I' s.to 0 (L.places-1) :))) (sp 3 [(37,.bool (!(inB s.to 0 (L.places-1))))] (ee ?_)))))));refine AL (fun a w hS hD hW=>⟨hS.sub (sun 6 (.consE 37 rfl (congrArg Value.bool (by simp only [h6,kk])) (.nil _))),hD,hW⟩)
  have c2:=h6;have c2:=BG c2;refine sp 9 [(37,.bool false)] (ee ?_);refine AL (fun a w hS hD hW=>⟨hS.sub (sun 6 (.consE 37 rfl (congrArg Value.bool (by simp only [h6,kk])) (.nil _))),hD,hW⟩)
 rintro a w ⟨hS,hD,hW⟩
 refine AU hS hD hW ?_;refine rc 37 rfl (fun h7=>?_) (fun h7=>?_)
 ·
  have a8:=h7;obtain ⟨d6,c8⟩:=LQ h7;have d6:=BE d6;have c8:=BF c8;have e6:=HK c8;refine rqr (sp 1 [(4,vI 3)] (se (BD (RB (RP (DL 4 [] rfl (TC _ (TC _ (TR _))) (IR _) ?_))))));exact ⟨congrArg (Value.int .i64) (by simp only [FE,PH,a0,a1,a2,a4,a8,cond_true,cond_false]),rfl⟩
 have a8:=h7;refine rq ?_;refine BV (fun a w=>SE 90 [(2,vP b1 0),(3,vP b3 0),(4,vI 0),(5,.bool (cmp .eql s.kind 1)),(6,.bool (cmp .eql s.kind 4)),(7,vI (if s.kind=4 then 0 else 1)),(48,.bool ((cmp .eql s.kind 1)&&(cmp .eql s.to s.place)))] I ((bX b3 (AV s) 28)::(bX b1 (AH L (vS b0 L.start.length b2) (vS b4 L.keeps.length b5) (vS b6 L.slips.length b7)) 26)::F) a w) ?_ ?_
 ·
  refine rr (sp 2 [(50,.bool (cmp .eql s.kind 1))] ?_);refine BB 50 rfl (fun h8=>?_) (fun h8=>?_)
  ·
   have c3:=h8;have c3:=BE c3;refine sp 1 [(51,vP b3 4)] (sd (dlb 52 0 4 b3 (vI s.to)) (sp 1 [(53,vP b3 3)] (sd (dlb 54 0 3 b3 (vI s.place)) (sp 3 [(48,.bool (cmp .eql s.to s.place))] (ee ?_)))));refine AL (fun a w hS hD hW=>⟨hS.sub (sun 6 (.consE 48 rfl (congrArg Value.bool (by simp only [h8,kk])) (.nil _))),hD,hW⟩)
  have c3:=h8;have c3:=BG c3;refine sp 7 [(48,.bool false)] (ee ?_);refine AL (fun a w hS hD hW=>⟨hS.sub (sun 6 (.consE 48 rfl (congrArg Value.bool (by simp only [h8,kk])) (.nil _))),hD,hW⟩)
 rintro a w ⟨hS,hD,hW⟩
 refine AU hS hD hW ?_;refine rc 48 rfl (fun h9=>?_) (fun h9=>?_)
 ·
  have a9:=h9;obtain ⟨d7,d8⟩:=LQ h9;have d7:=BE d7;have d8:=BE d8;refine rqr (sp 1 [(4,vI 4)] (se (BD (RB (RP (DL 4 [] rfl (TC _ (TC _ (TR _))) (IR _) ?_))))));exact ⟨congrArg (Value.int .i64) (by simp only [FE,PH,a0,a1,a2,a4,a8,a9,cond_true,cond_false]),rfl⟩
 have a9:=h9;refine rq ?_;refine BV (fun a w=>SE 90 [(2,vP b1 0),(3,vP b3 0),(4,vI 0),(5,.bool (cmp .eql s.kind 1)),(6,.bool (cmp .eql s.kind 4)),(7,vI (if s.kind=4 then 0 else 1)),(57,.bool ((!(cmp .eql s.kind 1))&&(!(cmp .eql s.to 0))))] I ((bX b3 (AV s) 28)::(bX b1 (AH L (vS b0 L.start.length b2) (vS b4 L.keeps.length b5) (vS b6 L.slips.length b7)) 26)::F) a w) ?_ ?_
 ·
  refine rr (sp 3 [(60,.bool (!(cmp .eql s.kind 1)))] ?_);refine BB 60 rfl (fun d0=>?_) (fun d0=>?_)
  ·
   have a5:=d0;have a5:=BG (BF a5);refine sp 1 [(61,vP b3 4)] (sd (dlb 62 0 4 b3 (vI s.to)) (sp 3 [(57,.bool (!(cmp .eql s.to 0)))] (ee ?_)));refine AL (fun a w hS hD hW=>⟨hS.sub (sun 6 (.consE 57 rfl (congrArg Value.bool (by simp only [d0,kk])) (.nil _))),hD,hW⟩)
  have a5:=d0;have a5:=BE (BC a5);refine sp 5 [(57,.bool false)] (ee ?_);refine AL (fun a w hS hD hW=>⟨hS.sub (sun 6 (.consE 57 rfl (congrArg Value.bool (by simp only [d0,kk])) (.nil _))),hD,hW⟩)
 rintro a w ⟨hS,hD,hW⟩
 refine AU hS hD hW ?_;refine rc 57 rfl (fun d9=>?_) (fun d9=>?_)
 ·
  have a3:=d9;obtain ⟨c6,c7⟩:=LQ d9;have c6:=BG (BF c6);have c7:=BG (BF c7);refine rqr (sp 1 [(4,vI 1)] (se (BD (RB (RP (DL 4 [] rfl (TC _ (TC _ (TR _))) (IR _) ?_))))));exact ⟨congrArg (Value.int .i64) (by simp only [FE,PH,a0,a1,a2,a4,a8,a9,a3,cond_true,cond_false]),rfl⟩
 have a3:=d9;refine rqr (sp 1 [(66,vP b3 5)] (sd (dlb 67 0 5 b3 (vI s.sort)) (sp 1 [(68,vP b1 1)] (sd (dlb 69 1 1 b1 (vI L.sorts)) (sd (dsb 70 L.sorts 1) (sd (dc 71 (fun I' hI=>(MC I' s.sort 0 (L.sorts-1) :))) (sp 2 [(65,.bool (!(inB s.sort 0 (L.sorts-1))))] (se (rc 65 rfl (fun c4=>?_) (fun c4=>?_))))))))))
 ·
  have a6:=c4;have c4:=BF c4;have d1:=HK c4;refine rqr (sp 1 [(4,vI 3)] (se (BD (RB (RP (DL 4 [] rfl (TC _ (TC _ (TR _))) (IR _) ?_))))));exact ⟨congrArg (Value.int .i64) (by simp only [FE,PH,a0,a1,a2,a4,a8,a9,a3,a6,cond_true,cond_false]),rfl⟩
 have a6:=c4;have c4:=BC c4;have d1:=DB c4;refine rq ?_;refine BV (fun a w=>SE 90 [(3,vP b3 0),(4,vI 0),(7,vI (if s.kind=4 then 0 else 1)),(73,.bool ((s.soil)&&((!(cmp .eql s.kind 1))&&(!(cmp .eql s.kind 4)))))] I ((bX b3 (AV s) 28)::(bX b1 (AH L (vS b0 L.start.length b2) (vS b4 L.keeps.length b5) (vS b6 L.slips.length b7)) 26)::F) a w) ?_ ?_
 ·
  refine rr (sp 1 [(74,vP b3 6)] (sd (dlb 75 0 6 b3 (.bool s.soil)) (sp 1 [(76,.bool s.soil)] ?_)));refine BB 76 rfl (fun c9=>?_) (fun c9=>?_)
  ·
   have d2:=c9;refine sp 4 [(80,.bool (!(cmp .eql s.kind 1)))] ?_;refine BB 80 rfl (fun d3=>?_) (fun d3=>?_)
   ·
    have a7:=d3;have a7:=BG (BF a7);refine sp 4 [(73,.bool (!(cmp .eql s.kind 4)))] (ee ?_);refine AL (fun a w hS hD hW=>⟨hS.sub (sun 3 (.consE 73 rfl (congrArg Value.bool (by simp only [c9,d3,kk])) (.nil _))),hD,hW⟩)
   have a7:=d3;have a7:=BE (BC a7);refine sp 4 [(73,.bool false)] (ee ?_);refine AL (fun a w hS hD hW=>⟨hS.sub (sun 3 (.consE 73 rfl (congrArg Value.bool (by simp only [c9,d3,kk])) (.nil _))),hD,hW⟩)
  have d2:=c9;refine sp 8 [(73,.bool false)] (ee ?_);refine AL (fun a w hS hD hW=>⟨hS.sub (sun 3 (.consE 73 rfl (congrArg Value.bool (by simp only [c9,kk])) (.nil _))),hD,hW⟩)
 rintro a w ⟨hS,hD,hW⟩
 refine AU hS hD hW ?_;refine rc 73 rfl (fun e0=>?_) (fun e0=>?_)
 ·
  have c0:=e0;obtain ⟨f3,d4⟩:=LQ e0;obtain ⟨b8,b9⟩:=LQ d4;have b8:=BG (BF b8);have b9:=BG (BF b9);refine rqr (sp 1 [(4,vI 1)] (se (BD (RB (RP (DL 4 [] rfl (TC _ (TC _ (TR _))) (IR _) ?_))))));exact ⟨congrArg (Value.int .i64) (by simp only [FE,PH,a0,a1,a2,a4,a8,a9,a3,a6,c0,cond_true,cond_false]),rfl⟩
 have c0:=e0;refine rqr (sp 1 [(85,vP b3 7)] (sd (dlb 86 0 7 b3 (vI s.amt)) (sp 1 [(87,vI (if s.kind=4 then 0 else 1))] (sd (dc 88 (fun I' hI=>(MC I' s.amt (if s.kind=4 then 0 else 1) 50 :))) (sp 2 [(84,.bool (!(inB s.amt (if s.kind=4 then 0 else 1) 50)))] (se (rc 84 rfl (fun c5=>?_) (fun c5=>?_))))))))
 ·
  have c1:=c5;have c5:=BF c5;have d5:=HK c5;refine rqr (sp 1 [(4,vI 1)] (se (BD (RB (RP (DL 4 [] rfl (TC _ (TC _ (TR _))) (IR _) ?_))))));exact ⟨congrArg (Value.int .i64) (by simp only [FE,PH,a0,a1,a2,a4,a8,a9,a3,a6,c0,c1,cond_true,cond_false]),rfl⟩
 have c1:=c5;have c5:=BC c5;have d5:=DB c5;refine AM (NB (NX (rqr (sp 1 [(4,vI 0)] (se (BD (DL 4 [] rfl (TC _ (TC _ (TR _))) (IR _) ?_)))))));exact ⟨congrArg (Value.int .i64) (by simp only [FE,PH,a0,a1,a2,a4,a8,a9,a3,a6,c0,c1,cond_true,cond_false]),rfl⟩
noncomputable def c_numbered1:=cod Tryz.f129
theorem num1_ct (I:Imm) (x:Slip) (n:Int) (b:Nat) (hb:I.blk b=some (Obj.cells #[vI n] 3 (0,0))):CtV Tryz.prog 129 #[.agg #[vI x.num,vI x.hour,vI x.kind,vI x.place,vI x.to,vI x.sort,.bool x.soil,vI x.amt],vP b 0] I (.bool (decide (x.num=n))):=by
 refine fr (args:=[_,_]) (N:=8) Tryz.func129 (fun F=>?_);show Run _ _ (c_numbered1 []) _ _ [(0,_),(1,_)] _ _;refine rnm (rqr ?_);refine sS (sb 2 28 (AV x) (fun b1=>(sp 1 [(3,.bool false)] (sn (sp 1 [(4,vP b1 0)] (sd (dlb 5 0 0 b1 (vI x.num)) (sd (dld 6 1 3 (vI n) rfl (AW hb rfl)) (sp 2 [(3,.bool (cmp .eql x.num n))] (se (BD (DL 3 [] rfl (TC _ (TR _)) (IR _) ?_)))))))))));exact ⟨congrArg Value.bool (by simp only [KR]),rfl⟩
noncomputable def c_numbered:=cod Tryz.f77
theorem KW (I:Imm) (n:Int):Ct Tryz.prog 77 #[vI n] I ([]) (fun v I' M'=>∃ bq:Nat,v=.func (.func 129) #[] #[vP bq 0]∧M'=[]∧(I'.blk bq=some (Obj.cells #[vI n] 3 (0,0)))):=by
 refine fr (args:=[_]) (N:=4) Tryz.func77 (fun F=>?_);show Run _ _ (c_numbered []) _ _ [(0,_)] _ _;refine rnm (rqr ?_);refine sS (sb 1 3 #[vI n] (fun b1=>(sp 1 [(2,.nilFunc)] (se (rq ?_)))));refine HT (b:=b1) (o:=Obj.cells #[vI n] 3 (0,0)) (M0:=(F)) (PR _) (fun I3 a0 a1=>(rr (sp 2 [(2,.func (.func 129) #[] #[vP b1 0])] (se (BD (rt1 2 rfl a0 ?_))))));exact ⟨_,rfl,rfl,a1⟩
noncomputable def c_LCheck:=cod Tryz.f47
theorem KD (I:Imm) (l:Value) (L:Lin) (l_f:IsLin I l L):CtV Tryz.prog 47 #[l] I (vI (AK L)):=by
 obtain ⟨l1,l2,l3,rfl,b2,b4,a9⟩:=id l_f;obtain ⟨a2,a3,d7,e0,d5,rfl,d8,d9,e1,e2⟩:=id b2;obtain ⟨a4,a5,e3,e6,rfl,e4,e5,e7⟩:=id b4;obtain ⟨a0,a1,e8,f1,rfl,e9,f0,b7⟩:=id a9;refine fr (args:=[_]) (N:=55) Tryz.func47 (fun F=>?_);show Run _ _ (c_LCheck []) _ _ [(0,_)] _ _;refine rnm (rqr ?_);refine sS (sb 1 26 (AH L (vS a2 L.start.length a3) (vS a4 L.keeps.length a5) (vS a0 L.slips.length a1)) (fun b1=>(sp 1 [(2,vI 0)] (se (rq (rq ?_))))));refine BV (fun a w=>SE 55 [(1,vP b1 0),(2,vI 0),(17,.bool ((!(inB L.places 1 4))||(!(inB L.sorts 1 2))))] I ((bX b1 (AH L (vS a2 L.start.length a3) (vS a4 L.keeps.length a5) (vS a0 L.slips.length a1)) 26)::F) a w) ?_ ?_
 ·
  refine rr (sp 1 [(8,vP b1 0)] (sd (dlb 9 0 0 b1 (vI L.places)) (sd (dc 10 (fun I' hI=>(MC I' L.places 1 4 :))) (sp 2 [(12,.bool (!(inB L.places 1 4)))] ?_))));refine BB 12 rfl (fun h1=>?_) (fun h1=>?_)
  ·
   have a7:=h1;have a7:=BF a7;have b9:=HK a7;refine sp 5 [(17,.bool true)] (ee ?_);refine AL (fun a w hS hD hW=>⟨hS.sub (sun 2 (.consE 17 rfl (congrArg Value.bool (by simp only [h1,kk])) (.nil _))),hD,hW⟩)
  have a7:=h1;have a7:=BC a7;have b9:=DB a7;refine sp 1 [(13,vP b1 1)] (sd (dlb 14 0 1 b1 (vI L.sorts)) (sd (dc 15 (fun I' hI=>(MC I' L.sorts 1 2 :))) (sp 2 [(17,.bool (!(inB L.sorts 1 2)))] (ee ?_))));refine AL (fun a w hS hD hW=>⟨hS.sub (sun 2 (.consE 17 rfl (congrArg Value.bool (by simp only [h1,kk])) (.nil _))),hD,hW⟩)
 rintro a w ⟨hS,hD,hW⟩
 refine AU hS hD hW ?_;refine rc 17 rfl (fun h2=>?_) (fun h2=>?_)
 ·
  have a6:=h2;refine rqr (sp 1 [(2,vI 1)] (se (BD (RP (DL 2 [] rfl (TC _ (TR _)) (IR _) ?_)))));exact ⟨congrArg (Value.int .i64) (by simp only [JM,linC,a6,cond_true,cond_false]),rfl⟩
 have a6:=h2;obtain ⟨c0,c1⟩:=or_f h2;have c0:=BC c0;have c5:=DB c0;have c1:=BC c1;have c6:=DB c1;refine AM (NX (rq (rqr (sd (dnb 18 0 0 b1 (BQ L (vS a2 L.start.length a3) (vS a4 L.keeps.length a5) (vS a0 L.slips.length a1))) (sd (dc 19 (fun I' hI=>(checkStart_ct I' _ L ((BL b2 b4 a9).mono hI) (by omega) (by omega) :))) (sp 1 [(3,vI (CP L))] (sn (sp 2 [(21,.bool (!(cmp .eql (CP L) 0)))] (se (rc 21 rfl (fun h3=>?_) (fun h3=>?_)))))))))))
 ·
  have a8:=h3;have h3:=BG (BF h3);refine rqr (sp 2 [(2,vI (CP L))] (se (BD (RP (DL 2 [] rfl (TC _ (TR _)) (IR _) ?_)))));exact ⟨congrArg (Value.int .i64) (by simp only [JM,linC,a6,a8,cond_true,cond_false]),rfl⟩
 have a8:=h3;have h3:=BE (BC h3);refine AM (NX (rq (rqr (sd (dnb 23 0 0 b1 (BQ L (vS a2 L.start.length a3) (vS a4 L.keeps.length a5) (vS a0 L.slips.length a1))) (sd (dc 24 (fun I' hI=>(checkKeeps_ct I' _ L ((BL b2 b4 a9).mono hI) (by omega) :))) (sp 1 [(4,vI (CO L))] (sn (sp 2 [(26,.bool (!(cmp .eql (CO L) 0)))] (se (rc 26 rfl (fun h4=>?_) (fun h4=>?_)))))))))))
 ·
  have b0:=h4;have h4:=BG (BF h4);refine rqr (sp 2 [(2,vI (CO L))] (se (BD (RP (DL 2 [] rfl (TC _ (TR _)) (IR _) ?_)))));exact ⟨congrArg (Value.int .i64) (by simp only [JM,linC,a6,a8,b0,cond_true,cond_false]),rfl⟩
 have b0:=h4;have h4:=BE (BC h4);refine AM (NX (rq (rqr (sp 1 [(28,vP b1 4)] (sd (dlb 29 0 4 b1 (vS a0 L.slips.length a1)) (sp 2 [(31,.bool (cmp .gtr (↑(L.slips.length)) 8))] (se (rc 31 rfl (fun h5=>?_) (fun h5=>?_)))))))))
 ·
  have b5:=h5;have h5:=JY h5;refine rqr (sp 1 [(2,vI 6)] (se (BD (RP (DL 2 [] rfl (TC _ (TR _)) (IR _) ?_)))));exact ⟨congrArg (Value.int .i64) (by simp only [JM,linC,a6,a8,b0,b5,cond_true,cond_false]),rfl⟩
 have b5:=h5;have h5:=MB h5;refine AM (NX (rq (rqr (sp 1 [(32,vP b1 4)] (sd (dlb 33 0 4 b1 (vS a0 L.slips.length a1)) (sp 2 [(35,vI 0),(34,vI (↑(L.slips.length)))] (se (rb 0 ?_))))))));refine rl (fun mz a w=>∃ J0:Imm,∃ k:Nat,(I.le J0)∧(k≤L.slips.length)∧(FB (CU L) k=0)∧SD 55 [(35,vI ↑k),(1,vP b1 0),(33,vS a0 L.slips.length a1),(34,vI (↑(L.slips.length)))] J0 ((bX b1 (AH L (vS a2 L.start.length a3) (vS a4 L.keeps.length a5) (vS a0 L.slips.length a1)) 26)::F) a w (mz=L.slips.length-k)) ?_ ?_
 ·intro a w hS hD hW;exact ⟨_,I,0,IR _,Nat.zero_le _,rfl,hS.sub su,hD,hW,rfl⟩
 rintro mz a w ⟨J0,k,hJ0,hk,hz,hS,hD,hW,rfl⟩
 refine AU hS hD hW ?_;replace b2:=b2.mono hJ0;replace b4:=b4.mono hJ0;replace a9:=a9.mono hJ0;replace b7:=b7.mono hJ0;refine rqr (sp 1 [(36,.bool (cmp .lss ↑k (↑(L.slips.length))))] (se (rq (rc 36 rfl (fun h6=>?_) (fun h6=>?_)))))
 ·
  have c7:=h6;have h6:=BX h6;refine AM (NX (rq (rb 1 (rqr (sp 1 [(37,vI ↑k)] (sd (di 38 8 k b7.addr) (sd (dln 39 38 28 (EU (L.slips.getD k AB)) rfl (CB (vals:=CV) (fun _=>rfl) b7 k (by omega))) (sS (sal 6 28 IQ (fun b3=>(sp 1 [(5,vI ↑k)] (sS (ss 0 0 b3 (EU (L.slips.getD k AB)) (EU (L.slips.getD k AB)) (_::_::_) (cs:=[_,_,_,_,_,_,_,_]) rfl rfl (se (rq (rqr (sd (dnb 40 1 0 b1 (BQ L (vS a2 L.start.length a3) (vS a4 L.keeps.length a5) (vS a0 L.slips.length a1))) (sd (dnb 41 0 0 b3 (EU (L.slips.getD k AB))) (sd (dc 42 (fun I' hI=>(QZ I' _ L (L.slips.getD k AB) ((BL b2 b4 a9).mono hI) (by omega) (by omega) :))) (sp 1 [(7,vI (BP L (L.slips.getD k AB)))] (sn (sp 2 [(44,.bool (!(cmp .eql (BP L (L.slips.getD k AB)) 0)))] (se (rc 44 rfl (fun h7=>?_) (fun h7=>?_)))))))))))))))))))))))))
  ·
   have c8:=h7;have h7:=BG (BF h7);refine rqr (sp 2 [(2,vI (BP L (L.slips.getD k AB)))] (se (BD (RP (RB (RP (RP (RB (RP (DL 2 [] rfl (TC _ (TC _ (TR _))) hJ0 ?_))))))))));exact ⟨congrArg (Value.int .i64) (OU (PI hz (by omega) (slipAt_bad h7) h7) a6 a8 b0 b5).symm,rfl⟩
  have c8:=h7;have h7:=BE (BC h7);refine AM (NX (rq ?_));refine rd 7 [(0,true),(1,true),(2,true),(3,true),(4,true),(5,true),(6,false)] ((bX b3 (AV (L.slips.getD k AB)) 28)::(bX b1 (AH L (vS a2 L.start.length a3) (vS a4 L.keeps.length a5) (vS a0 L.slips.length a1)) 26)::[]) F (ox 1 [(46,vP b1 4)] ?_);refine AD (dlb 47 1 4 b1 (vS a0 L.slips.length a1)) (ox 1 [(48,vI ↑k)] ?_);have b6:=a9.cutHi k (by omega);obtain ⟨f5,f7,f6,g0,c4,f8,f9,g1⟩:=id b6;rw [c4] at b6;refine AD (DE (HW (x:=(.tmp 47)) (lo:=none) (hi:=(some (.tmp 48))) (T:=24) (e:=28) (sz:=8) 0 k (d:=49) (ty:=24) (gd:=none) (by kernel_rfl) rfl (by kernel_rfl) (by kernel_rfl) rfl (.inl ⟨rfl,rfl⟩) (.inr ⟨_,.i64,rfl,rfl⟩) (by omega) (by omega)) c4) (ox 1 [(50,vP b3 0)] ?_);refine AD (dlb 51 0 0 b3 (vI ((L.slips.getD k AB).num))) ?_;refine GA (sc (some 52) (F:=((bX b3 (AV (L.slips.getD k AB)) 28)::(bX b1 (AH L (vS a2 L.start.length a3) (vS a4 L.keeps.length a5) (vS a0 L.slips.length a1)) 26)::F)) (KW _ ((L.slips.getD k AB).num) :) (PR _) (fun f4 I6 f3 c2 d6=>?_));obtain ⟨b8,d4,c3,d3⟩:=d6;rw [d4,c3];clear d4 c3;replace b6:=b6.mono c2;refine CG (S':=(F)) (PR _) ?_;show OFP _ _ _ _ _ _ ((52,.func (.func 129) #[] #[vP b8 0])::_) _ _;refine GX (nm (nm ?_));refine sd (dc 53 (fun I' hI=>(ConSlip_ct I' _ _ 129 ([vP b8 0]) (fun x=>decide (x.num=((L.slips.getD k AB).num))) (b6.mono hI) (by kernel_rfl) (fun J hJ x=>num1_ct J x ((L.slips.getD k AB).num) b8 ((IT hI hJ).blk _ _ d3)) :))) (se (rc 53 rfl (fun h8=>?_) (fun h8=>?_)))
  ·
   have c9:=h8;refine rqr (sp 1 [(2,vI 4)] (se (BD (RB (RP (RP (RB (RP (DL 2 [] rfl (TC _ (TC _ (TR _))) (IT hJ0 c2) ?_)))))))));exact ⟨congrArg (Value.int .i64) (OU (PI hz (by omega) (slipAt_dup h7 h8) (by decide)) a6 a8 b0 b5).symm,rfl⟩
  have c9:=h8;refine AM (NB (NX (rr (sd (da 54 ↑k 1) (sp 1 [(35,vI (↑k+1))] (ee ?_))))));refine AO (L.slips.length-(k+1)) (by omega) ?_;intro a w hS hD hW;exact ⟨I6,k+1,(IT hJ0 c2),by omega,KT hz (slipAt_ok h7 h8),hS.sub su,hD,(hW.perm (PR _)).sub (TC _ (TR _)),rfl⟩
 have c7:=h6;have h6:=CF h6;refine BR 0 (EP (EP (EB (NX (rqr (sp 1 [(2,vI 0)] (se (BD (DL 2 [] rfl (TC _ (TR _)) hJ0 ?_)))))))));exact ⟨congrArg (Value.int .i64) (OU ((show k=L.slips.length by omega)▸hz) a6 a8 b0 b5).symm,rfl⟩
end Go.Proofs.YtgcemienebmdeaaGreat
namespace Go.Sl
open Go
structure Borns (es:Array MapEntry) (cl:Nat):Prop where
  once:(es.toList.map (·.born)).Nodup
  lt:∀ e∈es.toList,e.born<cl
def MapB {κ:Type} (enc:κ→Value) (es:Array MapEntry) (cl:Nat) (kvs:List (κ × Value)):Prop:=MapIs enc es kvs∧Borns es cl
theorem MapB.nil {κ:Type} (enc:κ→Value) (cl:Nat):MapB enc #[] cl []:=⟨rfl,by simp,fun _ h=>by simp at h⟩
theorem Borns.push {es:Array MapEntry} {cl:Nat} (h:Borns es cl) (k v:Value):Borns (es.push { key:=k,val:=v,born:=cl }) (cl+1):=by
  refine ⟨?_,fun e he=>?_⟩
  · simp only [Array.toList_push,List.map_append,List.map_cons,List.map_nil]
    refine List.nodup_append.2 ⟨h.once,by simp,fun a ha b hb=>?_⟩;obtain ⟨e,he,rfl⟩:=List.mem_map.1 ha;simp at hb;subst hb;have:=h.lt e he;omega
  · simp only [Array.toList_push,List.mem_append,List.mem_singleton] at he
    rcases he with he | rfl
    · have:=h.lt e he;omega
    · show cl<cl+1;omega
theorem modify_born (es:Array MapEntry) (j:Nat) (f:MapEntry→MapEntry) (hf:∀ e,(f e).born=e.born):(es.modify j f).toList.map (·.born)=es.toList.map (·.born):=by
  apply List.ext_getElem?
  intro n;simp only [List.getElem?_map,Array.getElem?_toList,Array.getElem?_modify]
  split
  · cases es[n]? <;> simp [hf]
  · rfl
theorem Borns.modify {es:Array MapEntry} {cl:Nat} (h:Borns es cl) (j:Nat) (f:MapEntry→MapEntry) (hf:∀ e,(f e).born=e.born):Borns (es.modify j f) cl:=by
  refine ⟨by rw [modify_born _ _ _ hf];exact h.once,fun e he=>?_⟩;have:e.born∈(es.modify j f).toList.map (·.born):=List.mem_map_of_mem he;rw [modify_born _ _ _ hf] at this;obtain ⟨e',he',e1⟩:=List.mem_map.1 this;rw [← e1];exact h.lt e' he'
def ent {κ:Type} [DecidableEq κ] (k:κ) (z:Value):List (κ × Value)→List (κ × Value)
  | []=>[(k,z)]
  | x::r=>if x.1=k then x::r else x::ent k z r
section
variable {κ:Type} [DecidableEq κ]
theorem getKv_ent (k:κ) (z:Value):∀ kvs:List (κ × Value),(MA k (ent k z kvs)).getD z=(MA k kvs).getD z:=by
  intro kvs
  induction kvs with
  | nil=>simp [ent,MA]
  | cons x r ih=>simp only [ent];split <;> simp_all [MA]
theorem upd_ent (k:κ) (z v:Value):∀ kvs:List (κ × Value),upd k v (ent k z kvs)=upd k v kvs:=by
  intro kvs
  induction kvs with
  | nil=>simp [ent,upd]
  | cons x r ih=>simp only [ent];split <;> simp_all [upd]
theorem findKv_ent (k : κ) (z : Value) : ∀ (kvs : List (κ × Value)) (i : Nat), (match EN k kvs i with
    | some (j,u)=>ent k z kvs=kvs∧EN k (ent k z kvs) i=some (j,u)
    | none=>ent k z kvs=kvs++[(k,z)]∧EN k (ent k z kvs) i=some (i+kvs.length,z)):=by
  intro kvs
  induction kvs with
  | nil=>intro i;simp [EN,ent]
  | cons x r ih=>
    intro i;simp only [EN,ent]
    by_cases h:x.1=k
    · simp [h,EN]
    · simp only [if_neg h]
      have:=ih (i+1);cases hf:EN k r (i+1) with
      | none=>
        rw [hf] at this;obtain ⟨h1,h2⟩:=this;refine ⟨by rw [h1];rfl,?_⟩;show (if x.1=k then some (i,x.2) else EN k (ent k z r) (i+1))=_;rw [if_neg h,h2,List.length_cons];congr 2;omega
      | some p=>
        rw [hf] at this;obtain ⟨h1,h2⟩:=this;refine ⟨by rw [h1],?_⟩;show (if x.1=k then some (i,x.2) else EN k (ent k z r) (i+1))=_;rw [if_neg h,h2]
theorem findKv_lt (k:κ):∀ (kvs:List (κ × Value)) (i j:Nat) (u:Value),EN k kvs i=some (j,u)→i≤j∧j-i<kvs.length∧kvs[j-i]?=some (k,u):=by
  intro kvs
  induction kvs with
  | nil=>intro i j u h;cases h
  | cons x r ih=>
    intro i j u h;simp only [EN] at h
    split at h
    · rename_i e
      cases h;simp [← e]
    · obtain ⟨h1,h2,h3⟩:=ih _ _ _ h
      refine ⟨by omega,by simp;omega,?_⟩;rw [show j-i=(j-(i+1))+1 by omega];simpa using h3
end
theorem key_at {κ:Type} {enc:κ→Value} {es:Array MapEntry} {kvs:List (κ × Value)} (his:MapIs enc es kvs) {j:Nat} {k:κ} {u:Value} (h:kvs[j]?=some (k,u)):∃ e,es[j]?=some e∧e.key=enc k∧e.val=u:=by
  have:=congrArg (fun l=>l[j]?) his;simp only [List.getElem?_map,Array.getElem?_toList,h,Option.map_some,NF] at this;cases he:es[j]? with
  | none=>rw [he] at this;cases this
  | some e=>rw [he] at this;simp only [Option.map_some,Option.some.injEq,Prod.mk.injEq] at this;exact ⟨e,rfl,this.1,this.2⟩
def Stamp {κ:Type} [DecidableEq κ] (es:Array MapEntry) (kvs:List (κ × Value)) (st:Nat) (k:κ):Prop:=∃ j u,EN k kvs 0=some (j,u)∧(es[j]?).map (·.born)=some st
section
variable {ρ:Option Nat} {P:Program} [Jud P] {N:Nat} {ops:Array Oper} {i:Nat} {l:Sl} {I:Imm} {R M:Seg} {d:Nat} {ty:TypeId} {gd:Option (Nat × Bool)} {K:Sl→Imm→Seg→Prop}
variable {κ:Type} [DecidableEq κ] {enc:κ→Value}
theorem set_same {es:Array MapEntry} {j:Nat} {e:MapEntry} (h:es[j]?=some e) {key:Value} (hk:key=e.key):es.modify j (fun e=>{ e with key })=es:=by
  apply Array.ext_getElem?
  intro n;rw [Array.getElem?_modify]
  split
  · rename_i e1;subst e1 hk;rw [h];rfl
  · rfl
theorem RL {P:Program} {a:Value} {Q:Value→Seg→Prop} (h:Q a M):wpL P (Instr.keyThatStays a a) Q I M:=by
  unfold Instr.keyThatStays
  split
  · exact h
  · rw [AE]
    show (if (Question.extern "map.whichKeyStays" 2).forced then _ else ∀ t,_)
    split
    · show Q _ M;split <;> exact h
    · intro t;show Q _ M;split <;> exact h
theorem stp_mapEntry {x y : Operand} {T kt et r cl : Nat} {es : Array MapEntry} {kvs : List (κ × Value)} {k : κ} {z : Value} (n : Nat) (hop : FJ ops N i = some (some d, .mapEntry T x y, ty, gd)) (hg : FH ops l gd = some true)
    (hT:tyMap P T=some (kt,et)) (hK:KeyOk P kt enc) (hx:CE l x=some (.map (some r))) (hy:CE l y=some (enc k)) (hz:HF P et=some z) (hn:M[n]?=some (r,Obj.map es cl)) (hb:MapB enc es cl kvs)
    (h:∀ es' cl' (st:Nat),MapB enc es' cl' (ent k z kvs)→Stamp es' (ent k z kvs) st k→K ((d,.tuple #[(MA k kvs).getD z,.int .i64 (st:Int)])::l) I (M.set n (r,Obj.map es' cl'))):Stp P N ops i l I M K:=
  DD hop hg (JL hx hy) (by
    obtain ⟨his,hbo⟩:=hb
    show wpL P (Instr.mapEntry T (rho l x) (rho l y) >>= fun x=>pure (Next.value x)) _ I M
    rw [BI hx,BI hy]
    refine DX ?_
    unfold Instr.mapEntry
    rw [AE,AP (KN hT)]
    show wpL P (Sem.getObj r _) _ I M
    refine ⟨_,.inl (List.mem_of_getElem? hn),rfl,?_⟩
    show wpL P (Instr.checkKey _ _ _ _ >>= _) _ I _
    rw [AE]
    refine hK.check _ _ _ _ _ ?_
    rw [AE]
    refine hK.find k es.toList kvs _ _ _ his ?_
    have hf:=findKv_ent k z kvs 0
    have hgk:=findKv_get k kvs 0
    cases hkv:EN k kvs 0 with
    | none=>
      rw [hkv] at hf hgk
      simp only at hf
      simp only [Option.map_none] at hgk
      show wpL P (zeroValue et >>= _) _ I M
      rw [AE,DS hz]
      show wpL P (Sem.setObj r _ _) _ I M
      refine FU n rfl hn rfl ?_
      refine ⟨_,.inl rfl,?_⟩
      have h1:=h (es.push { key:=enc k,val:=z,born:=cl }) (cl+1) cl ⟨by rw [hf.1];exact QJ his k z cl,hbo.push _ _⟩ ⟨_,_,hf.2,by
        have hs:=MapIs.size his
        rw [Nat.zero_add,← hs];simp⟩
      rw [← hgk] at h1
      exact h1
    | some p=>
      obtain ⟨j,w⟩:=p
      rw [hkv] at hf hgk
      simp only at hf
      simp only [Option.map_some] at hgk
      obtain ⟨_,_,h3⟩:=findKv_lt k kvs 0 j w hkv
      rw [Nat.sub_zero] at h3
      obtain ⟨e,he,hek,hev⟩:=key_at his h3
      have hold:((es[j]?).map (·.key)).getD (enc k)=enc k:=by rw [he];exact hek
      show wpL P (Instr.keyThatStays (((es[j]?).map (·.key)).getD (enc k)) (enc k) >>= _) _ I M
      rw [AE,hold]
      refine RL ?_
      show wpL P (Sem.setObj r _ _) _ I M
      refine FU n rfl hn rfl ?_
      refine ⟨_,.inl rfl,?_⟩
      rw [set_same he hek.symm]
      have h1:=h es cl e.born ⟨by rw [hf.1];exact his,hbo⟩ ⟨_,_,hf.2,by rw [he];rfl⟩
      rw [← hgk] at h1
      rw [he]
      exact h1)
theorem stp_entryStore {x y u : Operand} {T r cl st : Nat} {es : Array MapEntry} {kvs : List (κ × Value)} {k : κ} {v : Value} (n : Nat) (hop : FJ ops N i = some (none, .entryStore T x y u, ty, gd)) (hg : FH ops l gd = some true)
    (hx:CE l x=some (.map (some r))) (hy:CE l y=some (.int .i64 (st:Int))) (hu:CE l u=some v) (hn:M[n]?=some (r,Obj.map es cl)) (hb:MapB enc es cl kvs) (hst:Stamp es kvs st k)
    (h:∀ es',MapB enc es' cl (upd k v kvs)→K l I (M.set n (r,Obj.map es' cl))):Stp P N ops i l I M K:=
  DD hop hg (known3 hx hy hu) (by
    obtain ⟨his,hbo⟩:=hb
    obtain ⟨j,w,hj,hs⟩:=hst
    show wpL P (Instr.entryStore T (rho l x) (rho l y) (rho l u) >>= fun _=>pure Next.skip) _ I M
    rw [BI hx,BI hy,BI hu,AE]
    unfold Instr.entryStore
    show wpL P (Sem.getObj r _) _ I M
    refine ⟨_,.inl (List.mem_of_getElem? hn),rfl,?_⟩
    obtain ⟨_,_,h3⟩:=findKv_lt k kvs 0 j w hj
    rw [Nat.sub_zero] at h3
    obtain ⟨e,he,hek,hev⟩:=key_at his h3
    rw [he] at hs
    simp only [Option.map_some,Option.some.injEq] at hs
    have hjl:j<es.size:=(Array.getElem?_eq_some_iff.1 he).1
    have hej:es[j]=e:=(Array.getElem?_eq_some_iff.1 he).2
    have hfi:es.findIdx? (fun e=>(e.born:Int) == (st:Int))=some j:=by
      rw [Array.findIdx?_eq_some_iff_getElem]
      refine ⟨hjl,by rw [hej,hs];simp,fun q hq=>?_⟩
      have hne:es[q].born≠st:=fun e1=>by
        have h4:(es.toList.map (·.born))[q]'(by simp;omega)=(es.toList.map (·.born))[j]'(by simpa using hjl):=by simp [e1,hej,hs]
        have:=(List.getElem_inj hbo.once).1 h4
        omega
      simp only [Bool.not_eq_true,beq_eq_false_iff_ne,ne_eq]
      intro e1;exact hne (by omega)
    show wpL P (match es.findIdx? (fun e=>(e.born:Int) == (st:Int)) with
      | some i=>Go.setObj r (.map (es.modify i fun e=>{ e with val:=v }) cl)
      | none=>unsupported (.noEntry "instr/MapEntry.the entry is gone")) _ I M
    rw [hfi]
    show wpL P (Sem.setObj r _ _) _ I M
    refine FU n rfl hn rfl ?_
    refine ⟨undef,.inr ⟨rfl,rfl⟩,h _ ⟨?_,hbo.modify _ _ (fun _=>rfl)⟩⟩
    have hq:=QC k v kvs 0
    rw [hj] at hq
    simp only [Nat.sub_zero] at hq
    rw [hq.2.1]
    have e2:es.modify j (fun e=>{ e with val:=v })=es.modify j (fun e=>{ e with key:=enc k,val:=v }):=by
      apply Array.ext_getElem?
      intro q
      rw [Array.getElem?_modify,Array.getElem?_modify]
      split
      · rename_i e1;subst e1;rw [he];simp [hek]
      · rfl
    rw [e2]
    exact mapIs_set his j k v (enc k) rfl)
end
def ME (seen:Array Nat) (e:MapEntry):Bool:=!seen.contains e.born
def Left {κ:Type} (enc:κ→Value) (es:Array MapEntry) (seen:Array Nat) (todo:List (κ × Value)):Prop:=(es.toList.filter (ME seen)).map (fun e=>(e.key,e.val))=todo.map (NF enc)
def AtEntry {κ:Type} (enc:κ→Value) (es:Array MapEntry) (seen:Array Nat) (x:κ × Value):Prop:=∃ e,e∈es.toList∧seen.back?=some e.born∧e.key=enc x.1∧e.val=x.2
theorem Left.start {κ:Type} {enc:κ→Value} {es:Array MapEntry} {kvs:List (κ × Value)} (h:MapIs enc es kvs):Left enc es #[] kvs:=by
  unfold Left;have:es.toList.filter (ME #[])=es.toList:=List.filter_eq_self.2 fun e _=>by simp [ME]
  rw [this];exact h
theorem born_inj {es:Array MapEntry} {cl:Nat} (h:Borns es cl) {e e':MapEntry} (he:e∈es.toList) (he':e'∈es.toList) (hb:e.born=e'.born):e=e':=by
  obtain ⟨a,ha,rfl⟩:=List.mem_iff_getElem.1 he;obtain ⟨b,hb',rfl⟩:=List.mem_iff_getElem.1 he';have:a=b:=(List.getElem_inj (h₀:=by simpa using ha) (h₁:=by simpa using hb') h.once).1 (by simpa using hb);subst this;rfl
theorem new_push {es:Array MapEntry} {cl:Nat} (h:Borns es cl) {seen:Array Nat} {A B:List MapEntry} {e:MapEntry} (hs:es.toList.filter (ME seen)=A++e::B):es.toList.filter (ME (seen.push e.born))=A++B:=by
  have hnd:(es.toList.map (·.born)).Nodup:=h.once;have hsub:(A++e::B).Sublist es.toList:=by rw [← hs];exact List.filter_sublist
  have hn2:((A++e::B).map (·.born)).Nodup:=(hsub.map _).nodup hnd;have e1:es.toList.filter (ME (seen.push e.born))=(es.toList.filter (ME seen)).filter (fun x=>!(x.born == e.born)):=by
    rw [List.filter_filter];refine List.filter_congr fun x _=>?_
    simp only [ME,Array.contains_push,Bool.not_or];rw [Bool.and_comm]
  rw [e1,hs,List.filter_append,List.filter_cons];rw [List.map_append,List.map_cons] at hn2;have hd:=List.nodup_append.1 hn2;have hd2:=List.nodup_cons.1 hd.2.1;have hA:A.filter (fun x=>!(x.born == e.born))=A:=List.filter_eq_self.2 fun x hx=>by
    have:=hd.2.2 x.born (List.mem_map_of_mem hx) e.born (by simp)
    simpa using this
  have hB:B.filter (fun x=>!(x.born == e.born))=B:=List.filter_eq_self.2 fun x hx=>by
    have:x.born≠e.born:=fun e2=>hd2.1 (by rw [← e2];exact List.mem_map_of_mem hx)
    simpa using this
  rw [hA,hB];simp
section
variable {P:Program} [Jud P] {N:Nat} {ops:Array Oper} {i:Nat} {l:Sl} {I:Imm} {R M:Seg} {d:Nat} {ty:TypeId} {gd:Option (Nat × Bool)} {K:Sl→Imm→Seg→Prop}
theorem stp_range {x : Operand} {T kt et r cl : Nat} {es : Array MapEntry} (hop : FJ ops N i = some (some d, .range T x, ty, gd)) (hg : FH ops l gd = some true) (hT : tyMap P T = some (kt, et)) (hx : CE l x = some (.map (some r))) (hm : Holds I M r (.map es cl))
    (h:∀ b,K ((d,.pointer (some ⟨b,0,none⟩))::l) I ((b,Obj.mapIter (some r) cl #[] cl)::M)):Stp P N ops i l I M K:=
  DD hop hg (MG hx) (by
    show wpL P (Instr.range T (rho l x) >>= fun x=>pure (Next.value x)) _ I M
    rw [BI hx]
    refine DX ?_
    unfold Instr.range
    rw [AE,AP (KN hT)]
    show wpL P (Sem.getObj r _) _ I M
    exact ⟨_,hm,rfl,fun b=>⟨_,.inl rfl,h b⟩⟩)
theorem stp_next {κ : Type} {enc : κ → Value} {x : Operand} {r cl b : Nat} {es : Array MapEntry} {seen : Array Nat} {todo : List (κ × Value)} (n : Nat) (hop : FJ ops N i = some (some d, .next x false, ty, gd)) (hg : FH ops l gd = some true)
    (hx:CE l x=some (.pointer (some ⟨b,0,none⟩))) (hn:M[n]?=some (b,Obj.mapIter (some r) cl seen cl)) (hm:Holds I M r (.map es cl)) (hb:Borns es cl) (hl:Left enc es seen todo)
    (h0:todo=[]→K ((d,.tuple #[.bool false])::l) I M)
    (h1:∀ A y B seen',todo=A++y::B→Left enc es seen' (A++B)→AtEntry enc es seen' y→K ((d,.tuple #[.bool true,enc y.1,y.2])::l) I (M.set n (b,Obj.mapIter (some r) cl seen' cl))):Stp P N ops i l I M K:=
  DD hop hg (MG hx) (by
    show wpL P (Instr.next (rho l x) false ty >>= fun x=>pure (Next.value x)) _ I M
    rw [BI hx]
    refine DX ?_
    unfold Instr.next
    show wpL P (Sem.getObj b _) _ I M
    refine ⟨_,.inl (List.mem_of_getElem? hn),rfl,?_⟩
    show wpL P (Sem.getObj r _) _ I M
    refine ⟨_,hm,rfl,?_⟩
    have hc:(!seen.isEmpty&&!es.isEmpty&&es.all (fun (e:MapEntry)=>decide (e.born≥cl)))=false:=by
      rcases Nat.eq_zero_or_pos es.size with hz | hz
      · have:es.isEmpty=true:=by simpa [Array.isEmpty] using hz
        rw [this];simp
      · have : es.all (fun (e : MapEntry) => decide (e.born ≥ cl)) = false := by
          rw [Array.all_eq_false]
          refine ⟨0,hz,?_⟩
          have:=hb.lt es[0] (by simp)
          simp;omega
        rw [this];simp
    show wpL P (if (!seen.isEmpty&&!es.isEmpty&&es.all (fun (e:MapEntry)=>decide (e.born≥cl)))=true then _ else _) _ I M
    rw [hc]
    simp only [Bool.false_eq_true,if_false]
    have hold:(es.filter (ME seen)).filter (fun (e:MapEntry)=>decide (e.born<cl))=es.filter (ME seen):=by
      rw [Array.filter_eq_self];intro e he
      have:=hb.lt e (by simpa using (Array.mem_filter.1 he).1);simpa using this
    have hnew:(es.filter (ME seen)).filter (fun (e:MapEntry)=>decide (e.born≥cl))=#[]:=by
      rw [Array.filter_eq_empty_iff];intro e he
      have:=hb.lt e (by simpa using (Array.mem_filter.1 he).1);simp;omega
    have e0:(fun e:MapEntry=>!seen.contains e.born)=ME seen:=rfl
    rw [e0]
    rw [hold,hnew,Array.append_empty]
    have hfl:(es.filter (ME seen)).toList=es.toList.filter (ME seen):=by simp
    generalize hL:es.filter (ME seen)=L at hfl
    have take : ∀ (q : Nat), q < L.size → wpL P (match (L.map some)[q]? with
        | some (some e)=>(do
          Go.setObj b (.mapIter (some r) cl (seen.push e.born) cl)
          pure (Value.tuple #[.bool true,e.key,e.val]))
        | some none=>pure (.tuple #[.bool false])
        | none=>stuck "Next: no such candidate") (fun v M'=>∃ u,(Next.value v=.value u∨(Next.value v=.skip∧u=undef))∧K ((d,u)::l) I M') I M:=fun q hq=>by
      have hget:(L.map some)[q]?=some (some L[q]):=by simp [hq]
      rw [hget]
      have hsp:es.toList.filter (ME seen)=L.toList.take q++L[q]::L.toList.drop (q+1):=by
        rw [← hfl]
        have:=List.drop_eq_getElem_cons (l:=L.toList) (i:=q) (by simpa using hq)
        rw [show L[q]=L.toList[q]'(by simpa using hq) from by simp,← this,List.take_append_drop]
      have hl2:(L.toList.take q++L[q]::L.toList.drop (q+1)).map (fun e=>(e.key,e.val))=todo.map (NF enc):=by rw [← hsp];exact hl
      have hlen:todo.length=L.size:=by
        have:=congrArg List.length hl2
        simp only [List.length_map,List.length_append,List.length_take,List.length_cons,List.length_drop,Array.length_toList] at this
        omega
      have hspt:todo=todo.take q++todo[q]'(by omega)::todo.drop (q+1):=by
        have:=List.drop_eq_getElem_cons (l:=todo) (i:=q) (by omega)
        rw [← this,List.take_append_drop]
      rw [hspt,List.map_append,List.map_append,List.map_cons,List.map_cons] at hl2
      have hk:(L.toList.take q).map (fun e=>(e.key,e.val))=(todo.take q).map (NF enc)∧(L[q].key,L[q].val)::(L.toList.drop (q+1)).map (fun e=>(e.key,e.val))=NF enc (todo[q]'(by omega))::(todo.drop (q+1)).map (NF enc):=
        List.append_inj hl2 (by simp;omega)
      obtain ⟨k1,k2⟩:=hk
      simp only [List.cons.injEq,NF,Prod.mk.injEq] at k2
      obtain ⟨⟨k3,k4⟩,k5⟩:=k2
      have hmem:L[q]∈es.toList:=by
        have:L[q]∈es.toList.filter (ME seen):=by rw [hsp];simp
        exact (List.mem_filter.1 this).1
      show wpL P (Sem.setObj b _ _) _ I M
      refine FU n rfl hn rfl ?_
      refine ⟨_,.inl rfl,?_⟩
      rw [k3,k4]
      refine h1 (todo.take q) (todo[q]'(by omega)) (todo.drop (q+1)) (seen.push L[q].born) hspt ?_ ⟨L[q],hmem,by simp,k3,k4⟩
      unfold Left
      rw [new_push hb hsp,List.map_append,List.map_append,k1,k5]
    by_cases hz:L.size=0
    · have hLe:L=#[]:=Array.size_eq_zero_iff.1 hz
      subst hLe
      have ht:todo=[]:=by
        unfold Left at hl
        rw [← hfl] at hl
        simpa using hl.symm
      have:((if (#[]:Array MapEntry).isEmpty=true then #[none] else #[])++Array.map some (#[]:Array MapEntry))=#[none]:=by simp
      rw [this,AE]
      show (if (Question.mapNext 1).forced=true then _ else _)
      rw [if_pos (by decide)]
      exact ⟨_,.inl rfl,h0 ht⟩
    · have : ((if L.isEmpty = true then #[none] else #[]) ++ Array.map some L) = L.map some := by
        have:L.isEmpty=false:=by simpa [Array.isEmpty] using hz
        rw [this];simp
      rw [this,AE,Array.size_map]
      show (if (Question.mapNext L.size).forced=true then _ else ∀ t,_)
      split
      · exact take 0 (by omega)
      · intro t
        exact take (t%L.size) (Nat.mod_lt _ (by omega)))
theorem stp_entry {κ : Type} {enc : κ → Value} {x : Operand} {r cl b : Nat} {es : Array MapEntry} {seen : Array Nat} {y : κ × Value} (hop : FJ ops N i = some (some d, .entry x, ty, gd)) (hg : FH ops l gd = some true)
    (hx:CE l x=some (.pointer (some ⟨b,0,none⟩))) (hn:(b,Obj.mapIter (some r) cl seen cl)∈M) (hm:Holds I M r (.map es cl)) (hb:Borns es cl) (ha:AtEntry enc es seen y)
    (h:K ((d,.tuple #[enc y.1,y.2])::l) I M):Stp P N ops i l I M K:=
  DD hop hg (MG hx) (by
    obtain ⟨e,he,hbk,k1,k2⟩:=ha
    show wpL P (Instr.entry (rho l x) >>= fun x=>pure (Next.value x)) _ I M
    rw [BI hx]
    refine DX ?_
    unfold Instr.entry
    show wpL P (Sem.getObj b _) _ I M
    refine ⟨_,.inl hn,rfl,?_⟩
    dsimp only [Sem.bind]
    rw [hbk]
    show wpL P (Sem.getObj r _) _ I M
    refine ⟨_,hm,rfl,?_⟩
    dsimp only [Sem.bind]
    rw [if_neg (by simp)]
    have hf:es.find? (fun x=>x.born == e.born)=some e:=by
      rw [← Array.find?_toList]
      cases hq:es.toList.find? (fun x=>x.born == e.born) with
      | none=>have:=List.find?_eq_none.1 hq e he;simp at this
      | some e'=>
        have h1:=List.find?_some hq;have h2:=List.mem_of_find?_eq_some hq
        rw [born_inj hb h2 he (by simpa using h1)]
    rw [hf]
    refine ⟨_,.inl rfl,?_⟩
    rw [k1,k2];exact h)
end
end Go.Sl
namespace Go.Sh
open Go Go.Sl
def hkCells (k:HKey):Array Value:=#[.int .i64 k.pl,.int .i64 k.so,.bool k.soil]
def MU (k:HKey):Value:=.agg (hkCells k)
def flatH:List (Nat × SK):=[(0,.i .i64),(1,.i .i64),(2,.b)]
theorem BK {P:Program} {kt:TypeId} (h:LR P 4 kt=some (3,flatH)) (hagg:EF P kt=some true):KeyOk P kt MU:=
  keyOk_flat h (by decide) hagg hkCells (fun _=>rfl) (fun _=>rfl) (fun a b=>by
    obtain ⟨a1,a2,a3⟩:=a;obtain ⟨b1,b2,b3⟩:=b
    show ((a1 == b1)&&((a2 == b2)&&((a3 == b3)&&true)))=decide ((⟨a1,a2,a3⟩:HKey)=⟨b1,b2,b3⟩)
    simp only [Bool.and_true,HKey.mk.injEq,Bool.decide_and];rfl)
def intV (h:Hs):List (HKey × Value):=h.map fun x=>(x.1,.int .i64 x.2)
theorem BT (k:HKey) (h:Hs):(MA k (intV h)).getD (.int .i64 0)=.int .i64 (DK k h):=by
  induction h with
  | nil=>rfl
  | cons x r ih => simp only [intV, List.map_cons, MA, DK] at ih ⊢; split; · rfl
                   · exact ih
theorem upd_intV (k:HKey) (v:Int) (h:Hs):upd k (.int .i64 v) (intV h)=intV (KA k v h):=by
  induction h with
  | nil=>rfl
  | cons x r ih => simp only [intV, List.map_cons, upd, KA] at ih ⊢; split; · rfl
                   · rw [ih];rfl
end Go.Sh
namespace Go.Sl
open Go
def LkPr {κ:Type} [DecidableEq κ] (r:Nat) (enc:κ→Value) (k:κ) (z v:Value):Seg→Prop:=fun X=>∃ es cl kvs,X=[(r,Obj.map es cl)]∧MapIs enc es kvs∧(MA k kvs).getD z=v
section
variable {P:Program} [Jud P] {N:Nat} {ops:Array Oper} {i:Nat} {l:Sl} {I:Imm} {d:Nat} {ty:TypeId} {gd:Option (Nat × Bool)} {κ:Type} [DecidableEq κ] {enc:κ→Value}
theorem FM {x y : Operand} {T kt et r : Nat} {k : κ} {z v : Value} (hop : FJ ops N i = some (some d, .lookup T x y false, ty, gd)) (hg : FH ops l gd = some true)
    (hT:tyMap P T=some (kt,et)) (hK:KeyOk P kt enc) (hx:CE l x=some (.map (some r))) (hy:CE l y=some (enc k)) (hz:HF P et=some z):∀ X,LkPr r enc k z v X→Det P N ops i l I X d v:=by
  rintro X ⟨es,cl,kvs,rfl,h1,h2⟩
  exact HH (cl:=cl) hop hg hT hK hx hy hz (.inl (by simp)) h1 h2
theorem MH {r cl:Nat} {es:Array MapEntry} {kvs:List (κ × Value)} {k:κ} {z v:Value} (h:MapB enc es cl kvs) (hv:(MA k kvs).getD z=v):LkPr r enc k z v [(r,Obj.map es cl)]:=⟨es,cl,kvs,rfl,h.1,hv⟩
theorem JN {r cl:Nat} {es:Array MapEntry} {kvs:List (κ × Value)} {k k':κ} {z v:Value} (h:MapB enc es cl (ent k z kvs)) (hk:k'=k) (hv:(MA k' kvs).getD z=v):LkPr r enc k' z v [(r,Obj.map es cl)]:=⟨es,cl,_,rfl,h.1,by subst hk;rw [getKv_ent];exact hv⟩
end
section
variable {P:Program} [Jud P] {N:Nat} {ops:Array Oper} {i:Nat} {l:Sl} {I:Imm} {M:Seg} {ty:TypeId} {gd:Option (Nat × Bool)} {K:Sl→Imm→Seg→Prop} {κ:Type} [DecidableEq κ] {enc:κ→Value}
theorem NO {x y u : Operand} {T kt et r cl : Nat} {es : Array MapEntry} {kvs : List (κ × Value)} {k : κ} {v : Value} (n : Nat) (hop : FJ ops N i = some (none, .mapUpdate T x y u, ty, gd)) (hg : FH ops l gd = some true)
    (hT:tyMap P T=some (kt,et)) (hK:KeyOk P kt enc) (hx:CE l x=some (.map (some r))) (hy:CE l y=some (enc k)) (hu:CE l u=some v) (hn:M[n]?=some (r,Obj.map es cl)) (hb:MapB enc es cl kvs)
    (h:∀ es' cl',MapB enc es' cl' (upd k v kvs)→K l I (M.set n (r,Obj.map es' cl'))):Stp P N ops i l I M K:=
  DD hop hg (known3 hx hy hu) (by
    obtain ⟨his,hbo⟩:=hb
    show wpL P (Instr.mapUpdate T (rho l x) (rho l y) (rho l u) >>= fun _=>pure Next.skip) _ I M
    rw [BI hx,BI hy,BI hu,AE]
    unfold Instr.mapUpdate
    rw [AE,AP (KN hT)]
    show wpL P (Sem.getObj r _) _ I M
    refine ⟨_,.inl (List.mem_of_getElem? hn),rfl,?_⟩
    show wpL P (Instr.checkKey _ _ _ _ >>= _) _ I _
    rw [AE]
    refine hK.check _ _ _ _ _ ?_
    rw [AE]
    refine hK.find k es.toList kvs _ _ _ his ?_
    have hf:=QC k v kvs 0
    cases hkv:EN k kvs 0 with
    | none=>
      rw [hkv] at hf
      simp only at hf
      show wpL P (Sem.setObj r _ _) _ I M
      refine FU n rfl hn rfl ?_
      refine ⟨undef,.inr ⟨rfl,rfl⟩,h _ _ ⟨?_,hbo.push _ _⟩⟩
      rw [hf.1]
      exact QJ his k v cl
    | some p=>
      obtain ⟨j,w⟩:=p
      rw [hkv] at hf
      simp only [Nat.sub_zero] at hf
      obtain ⟨_,h1,_,h2⟩:=hf
      obtain ⟨_,_,h3⟩:=findKv_lt k kvs 0 j w hkv
      rw [Nat.sub_zero] at h3
      obtain ⟨e,he,hek,hev⟩:=key_at his h3
      have hold:((es[j]?).map (·.key)).getD (enc k)=enc k:=by rw [he];exact hek
      show wpL P (Instr.keyThatStays (((es[j]?).map (·.key)).getD (enc k)) (enc k) >>= _) _ I M
      rw [AE,hold]
      refine RL ?_
      show wpL P (Sem.setObj r _ _) _ I M
      refine FU n rfl hn rfl ?_
      refine ⟨undef,.inr ⟨rfl,rfl⟩,h _ _ ⟨?_,hbo.modify _ _ (fun _=>rfl)⟩⟩
      rw [h1]
      exact mapIs_set his j k v _ rfl)
end
end Go.Sl
namespace Go.Sh
open Go Go.Sl
def MapH (es:Array MapEntry) (cl:Nat) (H:Hs):Prop:=MapB MU es cl (intV H)∧(H.map Prod.fst).Nodup
def EntH (es:Array MapEntry) (cl:Nat) (H:Hs) (k:HKey) (st:Nat):Prop:=MapB MU es cl (ent k (.int .i64 0) (intV H))∧Stamp es (ent k (.int .i64 0) (intV H)) st k∧(H.map Prod.fst).Nodup
theorem MapH.nil (cl:Nat):MapH #[] cl []:=⟨MapB.nil _ _,by simp⟩
theorem putH_keys (k:HKey) (v:Int):∀ H:Hs,(KA k v H).map Prod.fst=if k∈H.map Prod.fst then H.map Prod.fst else H.map Prod.fst++[k]:=by
  intro H
  induction H with
  | nil=>rfl
  | cons x r ih=>
    simp only [KA]
    by_cases h:x.1=k
    · simp [h]
    · rw [if_neg h]
      simp only [List.map_cons,ih,List.mem_cons,Ne.symm h,false_or]
      split <;> simp
theorem putH_once {k:HKey} {v:Int} {H:Hs} (h:(H.map Prod.fst).Nodup):((KA k v H).map Prod.fst).Nodup:=by
  rw [putH_keys]
  split
  · exact h
  · rename_i hk
    exact List.nodup_append.2 ⟨h,by simp,fun a ha b hb=>by
      simp only [List.mem_singleton] at hb
      intro e;rw [e,hb] at ha;exact hk ha⟩
theorem getH_mem {H:Hs} (h:(H.map Prod.fst).Nodup) {x:HKey × Int} (hx:x∈H):DK x.1 H=x.2:=by
  induction H with
  | nil=>cases hx
  | cons y r ih=>
    rw [List.map_cons,List.nodup_cons] at h;simp only [DK];rcases List.mem_cons.1 hx with rfl | hx
    · rw [if_pos rfl]
    · rw [if_neg (fun e=>h.1 (by rw [e];exact List.mem_map_of_mem hx)),ih h.2 hx]
theorem mem_getH {H:Hs} {k:HKey} (h:DK k H≠0):(k,DK k H)∈H:=by
  induction H with
  | nil=>exact absurd rfl h
  | cons y r ih=>
    simp only [DK] at h ⊢
    by_cases e:y.1=k
    · rw [if_pos e];subst e;exact List.mem_cons_self
    · rw [if_neg e] at h ⊢;exact List.mem_cons_of_mem _ (ih h)
theorem falls_iff {h g:Hs} (hg:(g.map Prod.fst).Nodup):falls h g=true↔∃ k,DK k g<0∧0≤DK k h:=by
  unfold falls;simp only [List.any_eq_true,Bool.and_eq_true,decide_eq_true_eq]
  constructor
  · rintro ⟨x,hx,h1,h2⟩;exact ⟨x.1,by rw [getH_mem hg hx];exact h1,h2⟩
  · rintro ⟨k,h1,h2⟩;exact ⟨_,mem_getH (by omega),h1,h2⟩
def Negs (ks:List HKey) (H:Hs):Prop:=∀ k,k∈ks↔DK k H<0
end Go.Sh
namespace Go.Sl
open Go Go.Sh
section
variable {P:Program} [Jud P] {N:Nat} {ops:Array Oper} {i:Nat} {l:Sl} {I:Imm} {M:Seg} {ty:TypeId} {gd:Option (Nat × Bool)} {K:Sl→Imm→Seg→Prop} {d:Nat}
theorem stp_putH {x y u : Operand} {T kt et r cl : Nat} {es : Array MapEntry} {H : Hs} {k : HKey} {v : Int} (n : Nat) (hop : FJ ops N i = some (none, .mapUpdate T x y u, ty, gd)) (hg : FH ops l gd = some true)
    (hT:tyMap P T=some (kt,et)) (hK:KeyOk P kt MU) (hx:CE l x=some (.map (some r))) (hy:CE l y=some (MU k)) (hu:CE l u=some (.int .i64 v)) (hn:M[n]?=some (r,Obj.map es cl)) (hb:MapH es cl H)
    (h:∀ es' cl',MapH es' cl' (KA k v H)→K l I (M.set n (r,Obj.map es' cl'))):Stp P N ops i l I M K:=
  NO n hop hg hT hK hx hy hu hn hb.1 fun es' cl' h'=>h es' cl' ⟨upd_intV k v H▸h',putH_once hb.2⟩
theorem JV {x y : Operand} {T kt et r cl : Nat} {es : Array MapEntry} {H : Hs} {k : HKey} (n : Nat) (hop : FJ ops N i = some (some d, .mapEntry T x y, ty, gd)) (hg : FH ops l gd = some true)
    (hT:tyMap P T=some (kt,et)) (hK:KeyOk P kt MU) (hx:CE l x=some (.map (some r))) (hy:CE l y=some (MU k)) (hz:HF P et=some (.int .i64 0)) (hn:M[n]?=some (r,Obj.map es cl)) (hb:MapH es cl H)
    (h:∀ es' cl' (st:Nat),EntH es' cl' H k st→K ((d,.tuple #[.int .i64 (DK k H),.int .i64 (st:Int)])::l) I (M.set n (r,Obj.map es' cl'))):Stp P N ops i l I M K:=
  stp_mapEntry n hop hg hT hK hx hy hz hn hb.1 fun es' cl' st h1 h2=>by
    rw [BT];exact h es' cl' st ⟨h1,h2,hb.2⟩
theorem IC {x y u : Operand} {T r cl st : Nat} {es : Array MapEntry} {H : Hs} {k : HKey} {v : Int} (n : Nat) (hop : FJ ops N i = some (none, .entryStore T x y u, ty, gd)) (hg : FH ops l gd = some true)
    (hx:CE l x=some (.map (some r))) (hy:CE l y=some (.int .i64 (st:Int))) (hu:CE l u=some (.int .i64 v)) (hn:M[n]?=some (r,Obj.map es cl)) (hb:EntH es cl H k st)
    (h:∀ es',MapH es' cl (KA k v H)→K l I (M.set n (r,Obj.map es' cl))):Stp P N ops i l I M K:=
  stp_entryStore (k:=k) n hop hg hx hy hu hn hb.1 hb.2.1 fun es' h'=>h es' ⟨by rw [upd_ent,upd_intV] at h';exact h',putH_once hb.2.2⟩
theorem map_cut {α β:Type} {f:α→β} {l:List α} {A B:List β} {y:β} (h:l.map f=A++y::B):∃ A' y' B',l=A'++y'::B'∧A=A'.map f∧y=f y'∧B=B'.map f:=by
  obtain ⟨A',R,rfl,h1,h2⟩:=List.map_eq_append_iff.1 h;obtain ⟨y',B',rfl,h3,h4⟩:=List.map_eq_cons_iff.1 h2;exact ⟨A',y',B',rfl,h1.symm,h3.symm,h4.symm⟩
theorem stp_nextH {x : Operand} {r cl b : Nat} {es : Array MapEntry} {seen : Array Nat} {todo : Hs} (n : Nat) (hop : FJ ops N i = some (some d, .next x false, ty, gd)) (hg : FH ops l gd = some true)
    (hx:CE l x=some (.pointer (some ⟨b,0,none⟩))) (hn:M[n]?=some (b,Obj.mapIter (some r) cl seen cl)) (hm:Holds I M r (.map es cl)) (hb:Borns es cl) (hl:Left MU es seen (intV todo))
    (h0:todo=[]→K ((d,.tuple #[.bool false])::l) I M)
    (h1:∀ A (y:HKey × Int) B seen',todo=A++y::B→Left MU es seen' (intV (A++B))→AtEntry MU es seen' (y.1,.int .i64 y.2)→K ((d,.tuple #[.bool true,MU y.1,.int .i64 y.2])::l) I (M.set n (b,Obj.mapIter (some r) cl seen' cl))):Stp P N ops i l I M K:=
  stp_next n hop hg hx hn hm hb hl (fun h=>h0 (by simpa [intV] using h)) fun A y B seen' e hl' ha=>by
    obtain ⟨A',y',B',rfl,rfl,rfl,rfl⟩:=map_cut (show todo.map _=A++y::B from e);exact h1 A' y' B' seen' rfl (by simpa [intV] using hl') ha
theorem stp_nextK {x : Operand} {r cl b : Nat} {es : Array MapEntry} {seen : Array Nat} {todo : List HKey} (n : Nat) (hop : FJ ops N i = some (some d, .next x false, ty, gd)) (hg : FH ops l gd = some true)
    (hx:CE l x=some (.pointer (some ⟨b,0,none⟩))) (hn:M[n]?=some (b,Obj.mapIter (some r) cl seen cl)) (hm:Holds I M r (.map es cl)) (hb:Borns es cl) (hl:Left MU es seen (NH todo))
    (h0:todo=[]→K ((d,.tuple #[.bool false])::l) I M)
    (h1:∀ A (y:HKey) B seen',todo=A++y::B→Left MU es seen' (NH (A++B))→AtEntry MU es seen' (y,.bool true)→K ((d,.tuple #[.bool true,MU y,.bool true])::l) I (M.set n (b,Obj.mapIter (some r) cl seen' cl))):Stp P N ops i l I M K:=
  stp_next n hop hg hx hn hm hb hl (fun h=>h0 (by simpa [NH] using h)) fun A y B seen' e hl' ha=>by
    obtain ⟨A',y',B',rfl,rfl,rfl,rfl⟩:=map_cut (show todo.map _=A++y::B from e);exact h1 A' y' B' seen' rfl (by simpa [NH] using hl') ha
theorem stp_setTrue {x y u : Operand} {T kt et r cl : Nat} {es : Array MapEntry} {ks : List HKey} {k : HKey} (n : Nat) (hop : FJ ops N i = some (none, .mapUpdate T x y u, ty, gd)) (hg : FH ops l gd = some true)
    (hT:tyMap P T=some (kt,et)) (hK:KeyOk P kt MU) (hx:CE l x=some (.map (some r))) (hy:CE l y=some (MU k)) (hu:CE l u=some (.bool true)) (hn:M[n]?=some (r,Obj.map es cl)) (hb:MapB MU es cl (NH ks))
    (h:∀ es' cl',MapB MU es' cl' (NH (if k∈ks then ks else ks++[k]))→K l I (M.set n (r,Obj.map es' cl'))):Stp P N ops i l I M K:=
  NO n hop hg hT hK hx hy hu hn hb fun es' cl' h'=>h es' cl' (by rw [upd_trues] at h';exact h')
end
end Go.Sl
namespace Go.Sh
open Go Go.Sl
def IsBook (T:TypeId) (I:Imm) (b:Nat) (v1 v2 v3:Value) (r:Nat) (L:Lin):Prop:=
  I.blk b=some (Obj.cells #[.int .i64 L.places,.int .i64 L.sorts,v1,v2,v3,.map (some r)] T (0,0))∧IsRows I v1 L.start∧EV I v2 L.keeps∧FY I v3 L.slips
theorem IsBook.mono {T:TypeId} {I J:Imm} {b:Nat} {v1 v2 v3:Value} {r:Nat} {L:Lin} (h:IsBook T I b v1 v2 v3 r L) (le:I.le J):IsBook T J b v1 v2 v3 r L:=
  ⟨le.blk _ _ h.1,h.2.1.mono le,h.2.2.1.mono le,h.2.2.2.mono le⟩
def NegP (ks:List HKey) (dn:Hs):Prop:=∀ k,k∈ks↔∃ x∈dn,x.1=k∧x.2<0
section
variable {ks:List HKey} {dn A B todo H:Hs} {y:HKey × Int}
theorem NegP.nil:NegP [] []:=fun k=>by simp
theorem NegP.skip (h:NegP ks dn) (hy:¬ y.2<0):NegP ks (dn++[y]):=fun k=>by
  rw [h k]
  constructor
  · rintro ⟨x,hx,h1⟩;exact ⟨x,by simp [hx],h1⟩
  · rintro ⟨x,hx,h1,h2⟩
    rcases List.mem_append.1 hx with hx | hx
    · exact ⟨x,hx,h1,h2⟩
    · simp only [List.mem_singleton] at hx;subst hx;exact absurd h2 hy
theorem NegP.add (h:NegP ks dn) (hy:y.2<0):NegP (if y.1∈ks then ks else ks++[y.1]) (dn++[y]):=fun k=>by
  have e:k∈(if y.1∈ks then ks else ks++[y.1])↔k∈ks∨k=y.1:=by
    split
    · rename_i hk;exact ⟨.inl,fun q=>q.elim id (fun e=>e▸hk)⟩
    · simp
  rw [e,h k]
  constructor
  · rintro (⟨x,hx,h1⟩ | rfl)
    · exact ⟨x,by simp [hx],h1⟩
    · exact ⟨y,by simp,rfl,hy⟩
  · rintro ⟨x,hx,h1,h2⟩
    rcases List.mem_append.1 hx with hx | hx
    · exact .inl ⟨x,hx,h1,h2⟩
    · simp only [List.mem_singleton] at hx;subst hx;exact .inr h1.symm
theorem perm_took (h:(dn++todo).Perm H) (e:todo=A++y::B):((dn++[y])++(A++B)).Perm H:=by
  subst e;refine List.Perm.trans ?_ h;rw [List.append_assoc];exact List.Perm.append_left _ (List.perm_middle (l₁:=A)).symm
theorem took_len (e:todo=A++y::B):(A++B).length<todo.length:=by subst e;simp
theorem NegP.done (h:NegP ks dn) (hp:(dn++todo).Perm H) (he:todo=[]) (hn:(H.map Prod.fst).Nodup):Negs ks H:=fun k=>by
  subst he;rw [List.append_nil] at hp;rw [h k]
  constructor
  · rintro ⟨x,hx,rfl,h2⟩;rw [getH_mem hn (hp.mem_iff.1 hx)];exact h2
  · intro hk;exact ⟨_,hp.mem_iff.2 (mem_getH (by omega)),rfl,hk⟩
end
end Go.Sh
namespace Go.Proofs.YtgcemienebmdeaaGreat
open Go Go.Sl Go.Sh
set_option maxRecDepth 100000
noncomputable def c_open:=cod Tryz.f68
theorem open_ct (I:Imm) (l:Value) (L:Lin) (l_f:IsLin I l L):Ct Tryz.prog 68 #[l] I ([]) (fun v I' M'=>∃ u:Nat,∃ w1:Value,∃ w2:Value,∃ w3:Value,∃ r:Nat,∃ es:Array MapEntry,∃ cl:Nat,v=vP u 0∧M'=[(r,Obj.map es cl)]∧IsBook 134 I' u w1 w2 w3 r L∧MapH es cl (HE L)):=by
 obtain ⟨l1,l2,l3,rfl,b8,c0,c1⟩:=id l_f;obtain ⟨a0,a1,e0,e3,d5,rfl,e1,e2,b9,c5⟩:=id b8;obtain ⟨a6,a7,e4,e7,rfl,e5,e6,e8⟩:=id c0;obtain ⟨a8,a9,e9,f2,rfl,f0,f1,f3⟩:=id c1;refine fr (args:=[_]) (N:=38) Tryz.func68 (fun F=>?_);show Run _ _ (c_open []) _ _ [(0,_)] _ _;refine rnm (rqr ?_);refine sS (sb 1 26 (AH L (vS a0 L.start.length a1) (vS a6 L.keeps.length a7) (vS a8 L.slips.length a9)) (fun b1=>(sp 1 [(2,.pointer none)] (sn (sd (dnb 8 0 0 b1 (BQ L (vS a0 L.start.length a1) (vS a6 L.keeps.length a7) (vS a8 L.slips.length a9))) (sS (LB (d:=9) (T:=132) (ty:=132) (gd:=none) (by kernel_rfl) rfl (fun b3=>(sp 1 [(10,.agg #[vI L.places,vI L.sorts,vS a0 L.start.length a1,vS a6 L.keeps.length a7,vS a8 L.slips.length a9,.map (some b3)])] (sS (sb 11 134 #[vI L.places,vI L.sorts,vS a0 L.start.length a1,vS a6 L.keeps.length a7,vS a8 L.slips.length a9,.map (some b3)] (fun b5=>(sp 1 [(3,vP b5 0)] ?_)))))))))))));refine SG (b:=b5) (o:=Obj.cells #[vI L.places,vI L.sorts,vS a0 L.start.length a1,vS a6 L.keeps.length a7,vS a8 L.slips.length a9,.map (some b3)] 134 (0,0)) (M0:=((b3,Obj.map #[] 0)::(bX b1 (AH L (vS a0 L.start.length a1) (vS a6 L.keeps.length a7) (vS a8 L.slips.length a9)) 26)::F)) (PR _) (fun I7 b4 d4=>?_);replace b8:=b8.mono b4;replace b9:=b9.mono b4;replace c5:=fun i hi=>(c5 i hi).mono b4
 replace c0:=c0.mono b4;replace c1:=c1.mono b4;refine se (rq (rqr (sp 1 [(12,vP b1 2)] (sd (dlb 13 1 2 b1 (vS a0 L.start.length a1)) (sp 2 [(15,vI 0),(14,vI (↑(L.start.length)))] (se (rb 0 ?_)))))));refine rl (fun mz a w=>∃ k:Nat,∃ a3:Array MapEntry,∃ a2:Nat,(k≤L.start.length)∧(MapH a3 a2 (OY L.start k))∧SD 38 [(15,vI ↑k),(2,.pointer none),(3,vP b5 0),(13,vS a0 L.start.length a1),(14,vI (↑(L.start.length)))] I7 ((b3,Obj.map a3 a2)::(bX b1 (AH L (vS a0 L.start.length a1) (vS a6 L.keeps.length a7) (vS a8 L.slips.length a9)) 26)::F) a w (mz=L.start.length-k)) ?_ ?_
 ·intro a w hS hD hW;exact ⟨_,0,#[],0,Nat.zero_le _,(MapH.nil _),hS.sub su,hD,hW,rfl⟩
 rintro mz a w ⟨k,a3,a2,hk,b0,hS,hD,hW,rfl⟩
 refine AU hS hD hW ?_;refine rqr (sp 1 [(16,.bool (cmp .lss ↑k (↑(L.start.length))))] (se (rq (rc 16 rfl (fun h1=>?_) (fun h1=>?_)))))
 ·
  have c9:=h1;have h1:=BX h1;refine AM (NX (rq (rb 1 (rqr (sp 1 [(17,vI ↑k)] (sd (di 18 1 k b9.addr) ?_))))));have c3:=c5 k (by omega);obtain ⟨b6,b7,d6,d9,c2,d7,d8,c4⟩:=id c3;rw [c2] at c3;refine sd (DE (dl 19 (DY b9 k (by omega))) c2) (sp 2 [(5,vS b6 (L.start.getD k []).length b7),(4,vI ↑k)] (sn (sp 3 [(22,vI 0),(21,vI (↑((L.start.getD k []).length))),(20,vS b6 (L.start.getD k []).length b7)] (se (rb 2 ?_)))));refine rl (fun mz a w=>∃ j:Nat,∃ a5:Array MapEntry,∃ a4:Nat,(j≤(L.start.getD k []).length)∧(MapH a5 a4 (QK ↑k (L.start.getD k []) j (OY L.start k)))∧SD 38 [(22,vI ↑j),(2,.pointer none),(3,vP b5 0),(4,vI ↑k),(13,vS a0 L.start.length a1),(14,vI (↑(L.start.length))),(15,vI ↑k),(20,vS b6 (L.start.getD k []).length b7),(21,vI (↑((L.start.getD k []).length)))] I7 ((b3,Obj.map a5 a4)::(bX b1 (AH L (vS a0 L.start.length a1) (vS a6 L.keeps.length a7) (vS a8 L.slips.length a9)) 26)::F) a w (mz=(L.start.getD k []).length-j)) ?_ ?_
  ·intro a w hS hD hW;exact ⟨_,0,a3,a2,Nat.zero_le _,b0,hS.sub su,hD,hW,rfl⟩
  rintro mz a w ⟨j,a5,a4,hj,b2,hS,hD,hW,rfl⟩
  refine AU hS hD hW ?_;refine rqr (sp 1 [(23,.bool (cmp .lss ↑j (↑((L.start.getD k []).length))))] (se (rq (rc 23 rfl (fun h2=>?_) (fun h2=>?_)))))
  ·
   have d0:=h2;have h2:=BX h2;refine AM (NX (rq (rb 3 (rqr (sp 1 [(24,vI ↑j)] (sd (di 25 1 j c4.addr) (sd (dl 26 (DG c4 j (by omega))) (sp 2 [(7,vI ((L.start.getD k []).getD j 0)),(6,vI ↑j)] (se (rr (sp 2 [(28,vP b5 0)] (sd (dfa 29 28 134 1 5 0 rfl) (sd (dld 30 29 132 (.map (some b3)) rfl (AW d4 rfl)) (sp 4 [(34,vI ((L.start.getD k []).getD j 0)),(33,.agg #[vI ↑k,vI ↑j,.bool false])] (sS (stp_putH (x:=(.tmp 30)) (y:=(.tmp 33)) (u:=(.tmp 34)) (T:=132) (kt:=136) (et:=3) (k:=(⟨↑k,↑j,false⟩:HKey)) (H:=QK ↑k (L.start.getD k []) j (OY L.start k)) (v:=(L.start.getD k []).getD j 0) 0 (ty:=0) (gd:=none) (by kernel_rfl) rfl (by kernel_rfl) (BK (by kernel_rfl) (by kernel_rfl)) rfl rfl rfl rfl b2 (fun c8 c7 c6=>(nm (ee (NB (NX (rr ?_))))))))))))))))))))));refine sd (da 35 ↑j 1) (sp 1 [(22,vI (↑j+1))] (ee ?_));refine AO ((L.start.getD k []).length-(j+1)) (by omega) ?_;intro a w hS hD hW;exact ⟨j+1,c8,c7,by omega,c6,hS.sub su,hD,hW,rfl⟩
  have d0:=h2;have h2:=CF h2;refine BR 2 (EP (EP (EB (NB (NX (rr (sd (da 36 ↑k 1) (sp 1 [(15,vI (↑k+1))] (ee ?_)))))))));refine AO (L.start.length-(k+1)) (by omega) ?_;intro a w hS hD hW;exact ⟨k+1,a5,a4,by omega,(openTo_done (st:=L.start) (k:=k) (j:=j) (by omega)▸b2),hS.sub su,hD,hW,rfl⟩
 have c9:=h1;have h1:=CF h1;refine BR 0 (EP (EP (EB (NX (rqr (sp 2 [(2,vP b5 0)] (se (BD (DL 2 ([(b3,Obj.map a3 a2)]) rfl (TK _ (TC _ (TR _))) b4 ?_)))))))));exact ⟨_,_,_,_,_,_,_,rfl,rfl,⟨d4,b8,c0,c1⟩,((openH_at (L:=L) (k:=k) (by omega))▸b0)⟩
end Go.Proofs.YtgcemienebmdeaaGreat
namespace Go.Sh
open Go Go.Sl
section
variable {α:Type} {c:α→α→Int} {l zs:List α} {i j m:Nat} {d:α}
def InsI (c:α→α→Int) (l zs:List α) (i:Nat):Prop:=zs=AG c (l.take i)++l.drop i
def InsAt (c:α→α→Int) (d:α) (l zs:List α) (i j:Nat):Prop:=
  j≤i∧i<l.length∧zs=(AG c (l.take i)).take j++l.getD i d::((AG c (l.take i)).drop j++l.drop (i+1))∧∀ z∈(AG c (l.take i)).drop j,c (l.getD i d) z<0
theorem EJ (h:i≤l.length):(AG c (l.take i)).length=i:=by rw [(GR _).length_eq,List.length_take];omega
theorem InsI.start:InsI c l l 1:=by
  unfold InsI;cases l with
  | nil=>rfl
  | cons x r=>rfl
theorem InsI.len (h:InsI c l zs i):zs.length=l.length:=by
  rw [h,List.length_append,(GR _).length_eq,List.length_take,List.length_drop];omega
theorem InsI.into (h:InsI c l zs i) (hi:i<l.length):InsAt c d l zs i i:=by
  have hl:=EJ (c:=c) (Nat.le_of_lt hi);refine ⟨Nat.le_refl _,hi,?_,?_⟩
  · rw [h,List.take_of_length_le (l:=AG c (l.take i)) (by omega),List.drop_of_length_le (l:=AG c (l.take i)) (by omega),List.drop_eq_getElem_cons hi]
    simp [List.getD,hi]
  · rw [List.drop_of_length_le (by omega)];intro z hz;cases hz
theorem InsI.done (h:InsI c l zs i) (hi:l.length≤i):zs=AG c l:=by
  rw [h,List.take_of_length_le hi,List.drop_of_length_le hi,List.append_nil]
theorem swapG {l:List α} {i j:Nat} {d:α} (hi:i<l.length) (hj:j<l.length):((l.set i (l.getD j d)).set j (l.getD i d)).Perm l:=by
  have e1:l.getD i d=l[i]:=by simp [List.getD,hi]
  have e2:l.getD j d=l[j]:=by simp [List.getD,hj]
  rw [e1,e2];exact List.set_set_perm hi hj
theorem InsAt.len (h:InsAt c d l zs i j):zs.length=l.length:=by
  obtain ⟨h1,h2,h3,_⟩:=h;have hl:=EJ (c:=c) (Nat.le_of_lt h2);rw [h3];simp only [List.length_append,List.length_cons,List.length_take,List.length_drop,hl];omega
theorem InsAt.at_j (h:InsAt c d l zs i j):zs.getD j d=l.getD i d:=by
  obtain ⟨h1,h2,h3,_⟩:=h;have hl:=EJ (c:=c) (Nat.le_of_lt h2);rw [h3,List.getD_eq_getElem?_getD,List.getElem?_append_right (by rw [List.length_take];omega)];rw [show j-((AG c (l.take i)).take j).length=0 by rw [List.length_take];omega];rfl
theorem InsAt.at_m (h:InsAt c d l zs i j) (hm:m<j):zs.getD m d=(AG c (l.take i)).getD m d:=by
  obtain ⟨h1,h2,h3,_⟩:=h;have hl:=EJ (c:=c) (Nat.le_of_lt h2);rw [h3,List.getD_eq_getElem?_getD,List.getElem?_append_left (by rw [List.length_take];omega),List.getElem?_take_of_lt hm,← List.getD_eq_getElem?_getD]
theorem InsAt.step (h:InsAt c d l zs i j) (hm:m+1=j) (hlt:c (zs.getD j d) (zs.getD m d)<0):InsAt c d l ((zs.set j (zs.getD m d)).set m (zs.getD j d)) i m:=by
  rw [h.at_j,h.at_m (m:=m) (by omega)] at hlt ⊢;obtain ⟨h1,h2,h3,h4⟩:=h;have hl:=EJ (c:=c) (Nat.le_of_lt h2);unfold InsAt
  generalize AG c (l.take i)=q at h3 h4 hl hlt ⊢
  generalize l.getD i d=x at h3 h4 hlt ⊢
  have hmq:m<q.length:=by omega
  have hd:q.drop m=q.getD m d::q.drop (m+1):=by rw [List.drop_eq_getElem_cons hmq];simp [List.getD,hmq]
  refine ⟨by omega,h2,?_,?_⟩
  · subst hm
    rw [CH (d:=d) hmq] at h3;rw [h3,List.set_append_right _ _ (by simp;omega),show m+1-(q.take m++[q.getD m d]).length=0 by simp;omega,List.set_cons_zero,List.append_assoc,List.set_append_right _ _ (by simp;omega),show m-(q.take m).length=0 by simp;omega,List.singleton_append,List.set_cons_zero,hd];rfl
  · rw [hd]
    intro z hz;rcases List.mem_cons.1 hz with rfl | hz
    · exact hlt
    · rw [hm] at hz;exact h4 z hz
theorem InsAt.done (h:InsAt c d l zs i j) (hs:j=0∨¬ c (zs.getD j d) (zs.getD (j-1) d)<0):InsI c l zs (i+1):=by
  rcases Nat.eq_zero_or_pos j with h0 | h0
  · obtain ⟨h1,h2,h3,h4⟩:=h
    unfold InsI;rw [isort_take (d:=d) h2,insB_at d _ _ j (by rw [EJ (Nat.le_of_lt h2)];exact h1) h4 (.inl h0),h3];simp
  · rw [h.at_j,h.at_m (m:=j-1) (by omega)] at hs
    obtain ⟨h1,h2,h3,h4⟩:=h;unfold InsI;rw [isort_take (d:=d) h2,insB_at d _ _ j (by rw [EJ (Nat.le_of_lt h2)];exact h1) h4 hs,h3];simp
theorem InsAt.done2 {u:Nat} (h:InsAt c d l zs i j) (hu:u=0) (hb:(cmp .gtr (j:Int) (u:Int)&&cmp .lss (c (zs.getD j d) (zs.getD ((j:Int)-1).toNat d)) 0)=false):InsI c l zs (i+1):=by
  subst hu;refine h.done ?_;rcases Nat.eq_zero_or_pos j with h0 | h0
  · exact .inl h0
  · refine .inr ?_
    rw [show ((j:Int)-1).toNat=j-1 by omega] at hb;simp only [cmp,Bool.and_eq_false_iff,decide_eq_false_iff_not] at hb;rcases hb with hb | hb
    · omega
    · omega
end
def QY (s:Slip):Prop:=-1000000≤s.hour∧s.hour≤1000000∧-1000000≤s.num∧s.num≤1000000
def cmpZ (x y:Int):Int:=x-y
theorem less_cmpZ {x y:Int}:cmp .lss x y=cmp .lss (cmpZ x y) 0:=by
  show decide (x<y)=decide (x-y<0);exact decide_eq_decide.2 (by omega)
theorem u8_id {m:Nat} (h:m<256):IntKind.u8.wrap (m:Int)=m:=by
  have h1:IntKind.u8.signed=false:=rfl;have h2:IntKind.u8.bits=8:=rfl;simp only [IntKind.wrap,h1,h2,Bool.false_and,Bool.false_eq_true,if_false];omega
theorem u64_id {m:Nat} (h:m<1000000):IntKind.u64.wrap (m:Int)=m:=by
  have h1:IntKind.u64.signed=false:=rfl;have h2:IntKind.u64.bits=64:=rfl;simp only [IntKind.wrap,h1,h2,Bool.false_and,Bool.false_eq_true,if_false];omega
theorem byteAt_range {s:List UInt8} {j:Nat}:0≤byteAt s j∧byteAt s j≤255:=by
  unfold byteAt;have:=(s.getD j 0).toNat_lt;omega
end Go.Sh
namespace Go.Sl
open Go
def IterP {α:Type} (P:Program) (gf:FuncId) (cv:List Value) (enc:α→List Value) (seq:List α) (R:List α→Imm→Seg→Prop) (I0:Imm):Prop:=
  ∀ [Jud P] (L:Nat) (Cl Sp:List α→Imm→Seg→Prop),(∀ xs I J M,I.le J→Cl xs I M→Cl xs J M) →
    (∀ xs x I Mr M,(xs++[x]) <+: seq→I0.le I→R (xs++[x]) I Mr→Cl xs I M→Yt P L (enc x).toArray I (Mr++M) (fun v I' M'=>(v=.bool true∧∃ Mr' M2,M'=Mr'++M2∧R (xs++[x]) I' Mr'∧Cl (xs++[x]) I' M2)∨(v=.bool false∧Sp (xs++[x]) I' M'))) →
    ∀ I Mr M,I0.le I→R [] I Mr→Cl [] I M→CtA P gf (.func (.yield L) #[] #[]::cv).toArray I (Mr++M) (fun _ I' M'=>(∃ Mr' M2,M'=Mr'++M2∧R seq I' Mr'∧Cl seq I' M2)∨(∃ xs,Sp xs I' M'))
section
variable {ρ:Option Nat} {P:Program} [Jud P] {N:Nat} {ops:Array Oper} {i:Nat} {l:Sl} {I:Imm} {R M:Seg} {ty:TypeId} {gd:Option (Nat × Bool)} {K:Sl→Imm→Seg→Prop} {Q:Exit→Act→GW→Prop} {ds:List Deferred}
theorem HU {α : Type} {c : Code} {g : Operand} {ps : Array Tmp} {assign body : Code} {gf : FuncId} {cv : List Value} {enc : α → List Value} {seq : List α} {R : List α → Imm → Seg → Prop} {Mr M0 F0 : Seg}
    (Cl:List α→Imm→Seg→Prop) (Sp:Code→List α→Imm→Seg→Prop) (sl:α→Nat→Sl) (mm:α→Nat→Seg)
    (hc:c=.rangeFunc g ps assign body) (hg:CE l g=some (.func (.func gf) #[] cv.toArray)) (hcall:DF P gf=true) (hps:∀ x,(enc x).length=ps.size) (hpN:ps.all (fun t=>Nat.blt t N)=true)
    (it:IterP P gf cv enc seq R I)
    (hmono:∀ xs I J M,I.le J→Cl xs I M→Cl xs J M)
    (hM:M.Perm (Mr++(M0++F0))) (hr:R [] I Mr) (h0:Cl [] I M0)
    (hassign:∀ L x I1 M1,Run (ρ:=some L) P N assign (Exit.then (fun a w=>∃ k,Slots N (sl x k) a∧a.defers=[]∧St I1 (mm x k++M1) w) (fun _ _ _=>False)) [] (putAll (ps.toList.zip (enc x)) l) I1 M1)
    (hbody:∀ L x k xs I1 Mr1 M1 F1,(xs++[x]) <+: seq→I.le I1→R (xs++[x]) I1 Mr1→Cl xs I1 M1 →
      Run (ρ:=some L) P N body (RoundQ I1 (fun o I' M'=>match o with | none=>∃ Mr' M2,M'=Mr'++M2∧R (xs++[x]) I' Mr'∧Cl (xs++[x]) I' M2 | some c=>Sp c (xs++[x]) I' M') F1) [] (sl x k) I1 (mm x k++(Mr1++(M1++F1))))
    (hdone:∀ D I' Mr' M',I.le I'→R seq I' Mr'→Cl seq I' M'→Pst N Q .normal (mark D::ds) l I' ((D,.deferred (some []))::(Mr'++(M'++F0))))
    (hstop:∀ D c xs I' M',I.le I'→Sp c xs I' M'→Run (ρ:=none) P N c Q (mark D::ds) l I' ((D,.deferred (some []))::(M'++F0))) :
    Run (ρ:=none) P N c Q ds l I M:=by
  subst hc;intro a w hS hD hW;refine PN (LX hS hg) (fun args σ K hk=>KQ hcall args σ K hk) fun fn=>?_
  have hent:wpL P (Instr.enterLoop fn a.tmps ps assign body none) (fun lm M'=>∃ D L,lm=(L,[mark D])∧M'=(L,.loop { state:=.ready,pending:=none,fn,tmps:=a.tmps,params:=ps,assign,body,defers:=D })::(D,.deferred (some []))::(Mr++(M0++F0))) I (Mr++(M0++F0)):=
    fun D L=>⟨D,L,rfl,rfl⟩
  refine (IF _ _ I _ w hent (hW.perm hM)).mono ?_
  rintro lm w1 ⟨M',⟨D,L,rfl,rfl⟩,hW2⟩
  obtain ⟨rec,hrec⟩:∃ rec:LoopState→Option Code→Loop,rec=fun st pe=>{ state:=st,pending:=pe,fn,tmps:=a.tmps,params:=ps,assign,body,defers:=D }:=⟨_,rfl⟩
  have hst:∀ st pe,(rec st pe).state=st:=by rw [hrec];intros;rfl
  have hpe:∀ st pe,(rec st pe).pending=pe:=by rw [hrec];intros;rfl
  have hset:∀ st pe st',{ rec st pe with state:=st' }=rec st' pe:=by rw [hrec];intros;rfl
  have hset2:∀ st pe st' pe',{ rec st pe with state:=st',pending:=pe' }=rec st' pe':=by rw [hrec];intros;rfl
  replace hW2:St I ((L,.loop (rec .ready none))::(D,.deferred (some []))::(Mr++(M0++F0))) w1:=by rw [hrec];exact hW2
  have hit:=it L (fun xs I M=>∃ M0,M=(L,.loop (rec .ready none))::(D,.deferred (some []))::M0∧Cl xs I M0)
    (fun xs I M=>∃ c M0,M=(L,.loop (rec .done (some c)))::(D,.deferred (some []))::M0∧Sp c xs I M0)
    (fun xs I J M le ⟨M0,e,h⟩=>⟨M0,e,hmono xs I J M0 le h⟩) ?_ I Mr ((L,.loop (rec .ready none))::(D,.deferred (some []))::M0) (Imm.le.refl I) hr ⟨M0,rfl,h0⟩
  · have e1:(#[Value.func (.yield L) #[] #[]]++cv.toArray)=(.func (.yield L) #[] #[]::cv).toArray:=by simp
    show Calls P gf (#[Value.func (.yield L) #[] #[]]++cv.toArray) w1 _;rw [e1];refine (hit F0 w1 (hW2.perm ?_)).mono ?_
    · rw [List.append_assoc]
      exact ((List.perm_middle (l₁:=Mr)).trans (.cons _ (List.perm_middle (l₁:=Mr)))).symm
    · rintro v w' ⟨I',M',hle,hp,st⟩
      rcases hp with ⟨Mr',M2,rfl,hR,M3,rfl,hcl⟩ | ⟨xs,c,M3,rfl,hsp⟩
      · have st2 := st.perm (show ((Mr' ++ ((L, Obj.loop (rec .ready none)) :: (D, .deferred (some [])) :: M3)) ++ F0).Perm ((L, Obj.loop (rec .ready none)) :: (D, .deferred (some [])) :: (Mr' ++ (M3 ++ F0))) by
          rw [List.append_assoc]
          exact (List.perm_middle (l₁:=Mr')).trans (.cons _ (List.perm_middle (l₁:=Mr'))))
        refine (IF _ (fun jump M''=>jump=none∧∃ o,M''=(L,o)::(D,.deferred (some []))::(Mr'++(M3++F0))) I' _ w' (LI (by rw [hst];simp) ⟨hpe _ _,_,rfl⟩) st2).mono ?_
        rintro jump w3 ⟨M'',⟨rfl,o,rfl⟩,st3⟩
        exact hdone D I' Mr' M3 hle hR hcl _ _ ⟨hS.size,hS.get⟩ (by show [mark D]++a.defers=_;rw [hD];rfl) st3.drop
      · refine (IF _ (fun jump M''=>jump=some c∧∃ o,M''=(L,o)::(D,.deferred (some []))::(M3++F0)) I' _ w' (LI (by rw [hst];simp) ⟨hpe _ _,_,rfl⟩) st).mono ?_
        rintro jump w3 ⟨M'',⟨rfl,o,rfl⟩,st3⟩
        exact hstop D c xs I' M3 hle hsp _ _ ⟨hS.size,hS.get⟩ (by show [mark D]++a.defers=_;rw [hD];rfl) st3.drop
  · rintro xs x I1 Mr1 M1' hpre hle hR ⟨M1,rfl,hcl⟩ F1 w2 st
    have hfold:((ps.zip (enc x).toArray).foldl (fun tmps (t,a)=>tmps.setIfInBounds t a) a.tmps)=(ps.toList.zip (enc x)).foldl (fun t (x:Tmp × Value)=>t.setIfInBounds x.1 x.2) a.tmps:=by
      rw [← Array.foldl_toList];simp
    refine (IF _ (fun n M''=>n=.round L fn ((ps.toList.zip (enc x)).foldl (fun t (x:Tmp × Value)=>t.setIfInBounds x.1 x.2) a.tmps) assign body∧M''=_) I1 _ w2 (wpL_yield (r:=rec .ready none) (by simp) (by rw [hrec];simpa using hps x) ⟨by rw [← hfold,hrec],rfl⟩) st).mono ?_
    rintro n w2' ⟨M'',⟨rfl,rfl⟩,st⟩
    refine ⟨_,_,assign,body,rfl,RH ?_⟩;refine ND (hassign L x I1 _ _ w2' (slots_fold (ps.toList.zip (enc x)) l a.tmps ⟨hS.size,hS.get⟩ ?_) rfl st) ?_
    · intro y hy'
      have:=(List.of_mem_zip (show (y.1,y.2)∈ps.toList.zip (enc x) from hy')).1;have h3:=Array.all_eq_true'.1 hpN y.1 (by simpa using this);exact Nat.le_of_ble_eq_true h3
    · rintro e a1 w3 hq
      cases e with
      | normal=>
        obtain ⟨k,hS3,hD3,st3⟩:=hq;have st4:St I1 ((L,.loop (rec .ready none))::(mm x k++(Mr1++(M1++((D,.deferred (some []))::F1))))) w3:=st3.perm ((List.Perm.append_left (mm x k) perm3).trans List.perm_middle);refine (IF _ (fun _ M''=>M''=(L,.loop (rec .busy none))::(mm x k++(Mr1++(M1++((D,.deferred (some []))::F1))))) I1 _ w3 (NP (hst _ _) (by rw [hset])) st4).mono ?_
        rintro _ w4 ⟨M'',rfl,st4'⟩
        have st5:St I1 (mm x k++(Mr1++(M1++((L,.loop (rec .busy none))::(D,.deferred (some []))::F1)))) w4:=by
          refine st4'.perm ?_;refine (List.perm_middle (l₁:=mm x k)).symm.trans (List.Perm.append_left (mm x k) ?_);have:=(perm3 (A:=Mr1) (B:=M1) (C:=F1) (x:=(L,Obj.loop (rec .busy none))) (y:=(D,Obj.deferred (some [])))).symm;refine this.trans ?_;rw [List.append_assoc];refine List.Perm.append_left Mr1 ?_;show ((L,Obj.loop (rec .busy none))::(D,.deferred (some []))::(M1++F1)).Perm _;exact ((List.perm_middle (l₁:=M1)).trans (.cons _ (List.perm_middle (l₁:=M1)))).symm
        refine ND (hbody L x k xs I1 Mr1 M1 _ hpre hle hR hcl a1 _ hS3 hD3 st5) ?_
        have fin : ∀ (jump : Option Code) (I' : Imm) (M' : Seg) (w6 : GW), St I' (M' ++ ((L, .loop (rec .busy none)) :: (D, .deferred (some [])) :: F1)) w6 →
            SemTo P (Instr.endRound L jump) w6 fun v w7=>v=.bool jump.isNone∧St I' ((L,.loop (rec (if jump.isNone then .ready else .done) jump))::(M'++((D,.deferred (some []))::F1))) w7:=fun jump I' M' w6 st6=>by
          refine (IF _ (fun v M''=>v=.bool jump.isNone∧M''=(L,.loop (rec (if jump.isNone then .ready else .done) jump))::(M'++((D,.deferred (some []))::F1))) I' _ w6 (RK jump ⟨rfl,by rw [hset2]⟩) (st6.perm perm4)).mono ?_
          rintro v w7 ⟨M'',⟨h1,rfl⟩,st7⟩
          exact ⟨h1,st7⟩
        rintro e a6 w6 hq6
        have stop : ∀ (c : Code), (∃ I' M', I1.le I' ∧ Sp c (xs ++ [x]) I' M' ∧ St I' (M' ++ ((L, .loop (rec .busy none)) :: (D, .deferred (some [])) :: F1)) w6) →
            SemTo P (Instr.endRound L (some c)) w6 (RQ I1 (fun v I' M'=>(v=.bool true∧∃ Mr' M2,M'=Mr'++M2∧R (xs++[x]) I' Mr'∧∃ M0,M2=(L,.loop (rec .ready none))::(D,.deferred (some []))::M0∧Cl (xs++[x]) I' M0) ∨
              (v=.bool false∧∃ c M0,M'=(L,.loop (rec .done (some c)))::(D,.deferred (some []))::M0∧Sp c (xs++[x]) I' M0)) F1):=by
          rintro c ⟨I',M',hle',hp,st6⟩
          refine (fin (some c) I' M' w6 st6).mono ?_
          rintro v w7 ⟨rfl,h2⟩
          exact ⟨I',_,hle',.inr ⟨rfl,c,M',rfl,hp⟩,h2.perm (.cons _ List.perm_middle)⟩
        cases e with
        | normal=>
          obtain ⟨I',M',hle',⟨Mr',M2,rfl,hR',hcl'⟩,st6⟩:=hq6;refine (fin none I' _ w6 st6).mono ?_
          rintro v w7 ⟨rfl,h2⟩
          refine ⟨I',_,hle',.inl ⟨rfl,Mr',_,rfl,hR',M2,rfl,hcl'⟩,h2.perm ?_⟩;rw [List.append_assoc];exact perm3.symm
        | ret=>exact stop .ret hq6
        | exit id=>exact stop (.exit id) hq6
        | goto t=>exact stop (.goto t) hq6
        | panic ch=>exact hq6.elim
        | outgrown=>exact hq6.elim
      | exit id=>exact hq.elim
      | goto t=>exact hq.elim
      | ret=>exact hq.elim
      | panic ch=>exact hq.elim
      | outgrown=>exact hq.elim
end
section
variable {P:Program} [Jud P] {N:Nat} {ops:Array Oper} {i:Nat} {l:Sl} {I:Imm} {M:Seg} {ty:TypeId} {gd:Option (Nat × Bool)} {K:Sl→Imm→Seg→Prop}
theorem call_toB {P : Program} {f : Operand} {fid : FuncId} {args : Array Operand} {tys : Array TypeId} {fs vals cv : List Value} {ρ : Operand → Value} {w : GW} {Q : Next → GW → Prop} (hf : ρ f = .func (.func fid) fs.toArray cv.toArray) (hvals : args.toList.map ρ = vals) (hc : DF P fid = true)
    (hk:Q (.enter fid (fs++vals++cv).toArray) w):SemTo P (IJ ρ (.call { callee:=.value f,args,argTypes:=tys }) ty) w Q:=by
  have e:args.map ρ=vals.toArray:=by apply Array.ext';simp [hvals]
  show SemTo P (do let d ← resolve ρ { callee:=.value f,args,argTypes:=tys } ty;invoke d.target d.args:Sem Next) w Q;unfold resolve;simp only [e,hf,Deferred.ofValue];show SemTo P (callFunc fid ((fs.toArray++vals.toArray)++cv.toArray)) w Q;refine KQ hc _ _ _ ?_
  simpa using hk
theorem stp_callB {d : Option Tmp} {f : Operand} {fid : FuncId} {args : Array Operand} {tys : Array TypeId} {fs vals cv : List Value} {pre F : Seg} {post : Value → Imm → Seg → Prop} {argv : Array Value}
    (hop:FJ ops N i=some (d,.call { callee:=.value f,args,argTypes:=tys },ty,gd)) (hg:FH ops l gd=some true) (hf:CE l f=some (.func (.func fid) fs.toArray cv.toArray)) (hv:NW l args.toList=some vals)
    (hc:DF P fid=true) (ha:(fs++vals++cv).toArray=argv) (ct:Ct P fid argv I pre post) (hM:M.Perm (pre++F))
    (h:∀ v I' M',I.le I'→post v I' M'→K (ups d v l) I' (M'++F)):Stp P N ops i l I M K:=by
  obtain ⟨o,ho,rfl,he,rfl,rfl,hN,hs⟩:=FC hop;obtain ⟨h1,h2⟩:=HN hv;refine ⟨o,ho,hN,hs,hg,?_,fun w st=>?_⟩
  · rw [he]
    intro x hx;simp only [Op.operands,Call.operands] at hx;rcases Array.mem_append.1 hx with hx | hx
    · simp at hx;subst hx;exact EL hf
    · exact h1 x (by simpa using hx)
  · rw [FA,he]
    refine call_toB (BI hf) h2 hc ?_;rw [ha];exact (ct.all F w (st.perm hM)).mono fun v w' ⟨I',M',hle,hp,st'⟩=>⟨I',M'++F,hle,st',h v I' M' hle hp⟩
end
end Go.Sl
namespace Go.Sh
open Go Go.Sl
def doFn (g:Int→FuncId) (b:Nat) (k:Int):Value:=.func (.func (g k)) #[.pointer (some ⟨b,0,none⟩)] #[]
def fnTab (g:Int→FuncId) (b:Nat):List (Int × Value):=[(1,doFn g b 1),(2,doFn g b 2),(3,doFn g b 3),(4,doFn g b 4),(5,doFn g b 5),(6,doFn g b 6)]
theorem getKv_fn {g:Int→FuncId} {b:Nat} {k:Int} (h1:1≤k) (h2:k≤6):(MA k (fnTab g b)).getD .nilFunc=doFn g b k:=by
  have:k=1∨k=2∨k=3∨k=4∨k=5∨k=6:=by omega
  rcases this with rfl | rfl | rfl | rfl | rfl | rfl <;> rfl
section
variable {s:Slip} {H:Hs}
theorem doSlip_1 (e:s.kind=1):doSlip s H=PQ ⟨s.to,s.sort,s.soil⟩ s.amt (PQ ⟨s.place,s.sort,s.soil⟩ (-s.amt) H):=by unfold doSlip;rw [if_pos e]
theorem doSlip_2 (e:s.kind=2):doSlip s H=PQ ⟨s.place,s.sort,true⟩ s.amt (PQ ⟨s.place,s.sort,false⟩ (-s.amt) H):=by unfold doSlip;rw [if_neg (by omega),if_pos e]
theorem doSlip_3 (e:s.kind=3):doSlip s H=PQ ⟨s.place,s.sort,false⟩ s.amt (PQ ⟨s.place,s.sort,true⟩ (-s.amt) H):=by unfold doSlip;rw [if_neg (by omega),if_neg (by omega),if_pos e]
theorem doSlip_4 (e:s.kind=4):doSlip s H=KA ⟨s.place,s.sort,s.soil⟩ s.amt H:=by unfold doSlip;rw [if_neg (by omega),if_neg (by omega),if_neg (by omega),if_pos e];rfl
theorem doSlip_5 (e:s.kind=5):doSlip s H=PQ ⟨s.place,s.sort,false⟩ s.amt H:=by unfold doSlip;rw [if_neg (by omega),if_neg (by omega),if_neg (by omega),if_neg (by omega),if_pos e]
theorem doSlip_6 (e:s.kind=6):doSlip s H=PQ ⟨s.place,s.sort,true⟩ (-s.amt) H:=by unfold doSlip;rw [if_neg (by omega),if_neg (by omega),if_neg (by omega),if_neg (by omega),if_neg (by omega)]
end
structure GoodS (l:List Slip):Prop where
  len:l.length<20
  ok:∀ s∈l,(1≤s.kind∧s.kind≤6)∧(0≤s.amt∧s.amt≤50)∧QY s
theorem GoodS.sub {l l':List Slip} (h:GoodS l) (hl:l'.length≤l.length) (hm:∀ x∈l',x∈l):GoodS l':=⟨Nat.lt_of_le_of_lt hl h.len,fun s hs=>h.ok s (hm s hs)⟩
theorem GoodS.perm {l l':List Slip} (h:GoodS l) (p:l'.Perm l):GoodS l':=h.sub (Nat.le_of_eq p.length_eq) fun x hx=>p.subset hx
theorem GoodS.sorted {l:List Slip} (h:GoodS l):GoodS (AG AC l):=h.perm (GR l)
theorem GoodS.small {l:List Slip} (h:GoodS l):∀ x∈l,QY x:=fun x hx=>(h.ok x hx).2.2
section
variable {S:List Slip} {H:Hs} {k:Nat}
theorem HI:∀ {S:List Slip} {H:Hs},(evs H S).length=S.length:=by
  intro S
  induction S with
  | nil=>intro H;rfl
  | cons s r ih=>intro H;simp only [evs,List.length_cons,ih]
theorem evs_take:∀ {S:List Slip} {H:Hs} {k:Nat},k<S.length→(evs H S).take (k+1)=(evs H S).take k++[evOf (aft H (S.take k)) (S.getD k AB)]:=by
  intro S
  induction S with
  | nil=>intro H k h;simp at h
  | cons s r ih=>
    intro H k h;cases k with
    | zero=>rfl
    | succ k=>
      have:=ih (H:=doSlip s H) (k:=k) (by simpa using h);simp only [evs,List.take_succ_cons,this,List.cons_append];rfl
theorem aft_take (h:k<S.length):aft H (S.take (k+1))=doSlip (S.getD k AB) (aft H (S.take k)):=by
  rw [CH (d:=AB) h];unfold aft;rw [List.foldl_append];rfl
theorem aft_within {B:Int} (hB:0≤B) (hg:∀ s∈S,0≤s.amt∧s.amt≤50):∀ {H:Hs},Within B H→Within (B+100*S.length) (aft H S):=by
  induction S generalizing B with
  | nil=>intro H h;simpa [aft] using h
  | cons s r ih=>
    intro H h;have h1:=hg s (by simp);have:=ih (B:=B+100) (by omega) (fun x hx=>hg x (by simp [hx])) (h.doSlip h1.1 h1.2 hB);rw [show B+100*((s::r).length:Int)=B+100+100*(r.length:Int) by rw [List.length_cons];omega];exact this
theorem Within.mono {B B':Int} {H:Hs} (h:Within B H) (hb:B≤B'):Within B' H:=fun k=>by have:=h k;omega
theorem GoodS.within (hg:GoodS S) (h:Within 1000 H) (k:Nat):Within 100000 (aft H (S.take k)):=by
  have hl:=hg.len;refine (aft_within (by omega) (fun s hs=>(hg.ok s (List.mem_of_mem_take hs)).2.1) h).mono ?_;have:(S.take k).length≤S.length:=by rw [List.length_take];omega
  omega
end
theorem below_of {ks0 ks1:List HKey} {h g:Hs} {dn td:List HKey} (h0:Negs ks0 h) (h1:Negs ks1 g) (hp:(dn++td).Perm ks1) (ht:td=[]) (hn:(g.map Prod.fst).Nodup):(dn.any fun k=>!decide (k∈ks0))=falls h g:=by
  subst ht;rw [List.append_nil] at hp;rw [Bool.eq_iff_iff,falls_iff hn];simp only [List.any_eq_true,Bool.not_eq_true',decide_eq_false_iff_not]
  constructor
  · rintro ⟨k,hk,hk2⟩
    exact ⟨k,(h1 k).1 (hp.mem_iff.1 hk),Int.not_lt.1 fun hlt=>hk2 ((h0 k).2 hlt)⟩
  · rintro ⟨k,hk,hk2⟩
    exact ⟨k,hp.mem_iff.2 ((h1 k).2 hk),fun hm=>by have:=(h0 k).1 hm;omega⟩
theorem any_snoc {α:Type} {p:α→Bool} {l:List α} {x:α}:(l++[x]).any p=(l.any p||p x):=by simp
def EvR (r:Nat) (H:Hs) (S:List Slip) (n:Nat) (M:Seg):Prop:=∃ es cl,M=[(r,Obj.map es cl)]∧MapH es cl (aft H (S.take n))
def encEv (e:Event):List Value:=[.agg #[.int .i64 e.slip.num,.int .i64 e.slip.hour,.int .i64 e.slip.kind,.int .i64 e.slip.place,.int .i64 e.slip.to,.int .i64 e.slip.sort,.bool e.slip.soil,.int .i64 e.slip.amt,.int .i64 e.gap,.bool e.below]]
theorem evOf_mk {h:Hs} {s:Slip} {g:Int} {b:Bool} (h1:(evOf h s).gap=g) (h2:falls h (doSlip s h)=b):evOf h s=⟨s,g,b⟩:=by subst h1;subst h2;rfl
theorem gap_t {h:Hs} {s:Slip} (e:s.kind=4):(evOf h s).gap=s.amt-DK ⟨s.place,s.sort,s.soil⟩ h:=if_pos e
theorem gap_f {h:Hs} {s:Slip} (e:¬ s.kind=4):(evOf h s).gap=0:=if_neg e
theorem permK_took {α:Type} {dn todo A B H:List α} {y:α} (h:(dn++todo).Perm H) (e:todo=A++y::B):((dn++[y])++(A++B)).Perm H:=by
  subst e;refine List.Perm.trans ?_ h;rw [List.append_assoc];exact List.Perm.append_left _ (List.perm_middle (l₁:=A)).symm
theorem tookK_len {α:Type} {todo A B:List α} {y:α} (e:todo=A++y::B):(A++B).length<todo.length:=by subst e;simp
theorem fnTab_of {g:Int→FuncId} {b:Nat} {es:Array MapEntry} (h:MapIs encI es (upd (6:Int) (doFn g b 6) (upd (5:Int) (doFn g b 5) (upd (4:Int) (doFn g b 4) (upd (3:Int) (doFn g b 3) (upd (2:Int) (doFn g b 2) (upd (1:Int) (doFn g b 1) []))))))):MapIs encI es (fnTab g b):=by
  have e:(upd (6:Int) (doFn g b 6) (upd (5:Int) (doFn g b 5) (upd (4:Int) (doFn g b 4) (upd (3:Int) (doFn g b 3) (upd (2:Int) (doFn g b 2) (upd (1:Int) (doFn g b 1) []))))))=fnTab g b:=by simp [upd,fnTab]
  rw [e] at h;exact h
end Go.Sh
namespace Go.Sl
open Go
theorem Own.cutHi {α:Type} {E sz:Nat} {cell:α→Nat→Value} {a:Option Addr} {n c k:Nat} {xs:List α} {Ms:Seg} (h:Own E sz cell (.slice a n c) xs Ms) (hk:k≤xs.length):Own E sz cell (.slice a k c) (xs.take k) Ms:=by
  rcases h with ⟨hv,rfl,rfl⟩ | ⟨b,c',sp,hv,hc,rfl,hlen⟩
  · simp only [Value.slice.injEq] at hv
    obtain ⟨rfl,rfl,rfl⟩:=hv;simp at hk;subst hk;exact .inl ⟨rfl,rfl,rfl⟩
  · simp only [Value.slice.injEq] at hv
    obtain ⟨rfl,rfl,rfl⟩:=hv;refine .inr ⟨b,c,CW sz cell (xs.drop k)++sp,by rw [List.length_take,Nat.min_eq_left hk],by rw [List.length_take];omega,?_,?_⟩
    · rw [← List.append_assoc,show CW sz cell (xs.take k)++CW sz cell (xs.drop k)=CW sz cell xs by simp only [CW];rw [← List.flatMap_append,List.take_append_drop]]
    · rw [← List.append_assoc,show CW sz cell (xs.take k)++CW sz cell (xs.drop k)=CW sz cell xs by simp only [CW];rw [← List.flatMap_append,List.take_append_drop],hlen]
theorem Own.cutE {α:Type} {E sz:Nat} {cell:α→Nat→Value} {a:Option Addr} {n c k:Nat} {xs:List α} {Ms:Seg} (h:Own E sz cell (.slice a n c) xs Ms):(Value.slice (if c=0 then a else a.map (·.add (0*sz))) (k-0) (c-0))=.slice a k c:=by
  rcases h with ⟨hv,rfl,rfl⟩ | ⟨b,c',sp,hv,hc,rfl,hlen⟩
  · simp only [Value.slice.injEq] at hv
    obtain ⟨rfl,rfl,rfl⟩:=hv;simp
  · simp only [Value.slice.injEq] at hv
    obtain ⟨rfl,rfl,rfl⟩:=hv;simp [Addr.add]
section
variable {P:Program} [Jud P] {N:Nat} {ops:Array Oper} {i:Nat} {l:Sl} {I:Imm} {M:Seg} {ty:TypeId} {gd:Option (Nat × Bool)} {K:Sl→Imm→Seg→Prop}
theorem RJ {M0 : Seg} {b : Builtin} {args : Array Operand} {tys : Array TypeId} {vals : List Value} {dst : Option Tmp}
    (hop:FJ ops N i=some (dst,.call { callee:=.builtin b,args,argTypes:=tys },ty,gd)) (hg:FH ops l gd=some true) (hk:∀ x∈args,known l x) (hvals:args.toList.map (rho l)=vals) (hM:M.Perm M0)
    (h:∀ (cs:Array Bool),wpL P (builtin b tys ty cs vals.toArray) (fun n M'=>∃ v M'',(n=.value v∨(n=.skip∧v=undef))∧M''.Sublist M'∧K (ups dst v l) I M'') I M0):Stp P N ops i l I M K:=
  LG hop hg (by simpa [Op.operands,Call.operands] using hk) hM (by
    have e:args.map (rho l)=vals.toArray:=by
      apply Array.ext'
      simp [hvals]
    show wpL P (do let d ← resolve (rho l) { callee:=.builtin b,args,argTypes:=tys } ty;invoke d.target d.args) _ I M0
    unfold resolve
    simp only [e]
    exact h _)
theorem stp_clearTail {α : Type} {x : Operand} {T E sz : Nat} {cell : α → Nat → Value} {a : Option Addr} {n c k : Nat} {xs : List α} {Ms R : Seg} {z : Value} {dst : Option Tmp}
    (hop:FJ ops N i=some (dst,.call { callee:=.builtin .clear,args:=#[x],argTypes:=#[T] },ty,gd)) (hg:FH ops l gd=some true) (hT:JA P T=some E) (hz:HF P E=some z) (hzs:z.cells.size=sz) (hz1:∀ v∈z.cells.toList,DC v=true) (hsz:0<sz)
    (own:Own E sz cell (.slice a n c) xs Ms) (hk:k≤n) (hx:CE l x=some (.slice (if c=k then a else a.map (·.add (k*sz))) (n-k) (c-k))) (hM:M.Perm (Ms++R))
    (next:∀ Ms',Own E sz cell (.slice a k c) (xs.take k) Ms'→K (ups dst (.tuple #[]) l) I (Ms'++R)):Stp P N ops i l I M K:=by
  refine RJ (vals:=[.slice (if c=k then a else a.map (·.add (k*sz))) (n-k) (c-k)]) hop hg (MG hx) (by simp [BI hx]) hM fun cs=>?_
  show wpL P (Builtin.clear_ #[T] ty #[.slice (if c=k then a else a.map (·.add (k*sz))) (n-k) (c-k)] >>= fun x=>pure (Next.value x)) _ I _;refine DX ?_;have hn:n=xs.length:=by obtain ⟨a',c',e,_⟩:=own.shape;cases e;rfl
  have done:∀ Ms',Own E sz cell (.slice a k c) (xs.take k) Ms'→(∃ v M'',(Next.value (.tuple #[])=.value v∨(Next.value (.tuple #[])=Next.skip∧v=undef))∧M''.Sublist (Ms'++R)∧K (ups dst v l) I M''):=fun Ms' h=>⟨_,_,.inl rfl,List.Sublist.refl _,next Ms' h⟩
  unfold Builtin.clear_;show wpL P (underlying T >>= _) _ I _;rw [AE,AP (DW hT)];rcases Nat.eq_zero_or_pos (n-k) with h0 | h0
  · rw [h0]
    have e:xs.take k=xs:=List.take_of_length_le (by omega);have hkn:k=n:=by omega
    cases (if c=k then a else a.map (·.add (k*sz))) with
    | none=>exact done Ms (own.cutHi (by omega))
    | some b=>exact done Ms (own.cutHi (by omega))
  · rcases own with ⟨hv,rfl,rfl⟩ | ⟨b,c',sp,hv,hc,rfl,hlen⟩
    · simp at hn;omega
    · simp only [Value.slice.injEq] at hv
      obtain ⟨rfl,_,rfl⟩:=hv;rw [if_neg (show ¬ c=k by omega)];obtain ⟨m,hm⟩:∃ m,n-k=m+1:=⟨n-k-1,by omega⟩;rw [hm];show wpL P (zeroValue E >>= _) _ I _;rw [AE,DS hz];show wpL P (storeCells (Addr.add ⟨b,0,none⟩ (k*sz)) (Builtin.zeroCells z.cells (m+1)).toList >>= _) _ I _;rw [AE,GI];have hzl:(Builtin.zeroCells z.cells (m+1)).toList.length=(m+1)*sz:=by simp [Builtin.zeroCells,hzs]
      have hA:(CW sz cell (xs.take k)).length=k*sz:=by rw [CC,List.length_take,Nat.min_eq_left (by omega)]
      have hs:CW sz cell xs=CW sz cell (xs.take k)++CW sz cell (xs.drop k):=by simp only [CW];rw [← List.flatMap_append,List.take_append_drop]
      have hB:(CW sz cell (xs.drop k)).length=(m+1)*sz:=by rw [CC,List.length_drop];congr 1;omega
      refine GH (T:=E) (k:=0) (Builtin.zeroCells z.cells (m+1)).toList 0 _ (CW sz cell xs++sp).toArray _ (by simp) ?_ ?_ ?_
      · rw [hs,hzl];simp only [List.size_toArray,List.length_append,hA,hB];omega
      · intro v hv
        simp only [Builtin.zeroCells,Array.toList_map,Array.toList_range,List.mem_map,List.mem_range] at hv;obtain ⟨q,hq,rfl⟩:=hv;have hlt:q%z.cells.size<z.cells.size:=Nat.mod_lt _ (by omega);rw [getElem!_pos z.cells (q%z.cells.size) hlt];exact hz1 _ (by simp)
      · have e2 : JS (CW sz cell xs ++ sp).toArray (0 + k * sz + 0) (Builtin.zeroCells z.cells (m + 1)).toList = (CW sz cell (xs.take k) ++ ((Builtin.zeroCells z.cells (m + 1)).toList ++ sp)).toArray := by
          apply Array.ext'
          have:=KZ (Builtin.zeroCells z.cells (m+1)).toList (CW sz cell (xs.take k)) (CW sz cell (xs.drop k)++sp) (by rw [hzl,List.length_append,hB];omega);rw [hA] at this;rw [hs,show 0+k*sz+0=k*sz by omega,List.append_assoc,this,hzl,List.drop_append_of_le_length (by rw [hB];exact Nat.le_refl _),List.drop_of_length_le (by rw [hB];exact Nat.le_refl _)];simp
        rw [e2];refine done _ (.inr ⟨b,c,(Builtin.zeroCells z.cells (m+1)).toList++sp,by rw [List.length_take,Nat.min_eq_left (by omega)],by rw [List.length_take];omega,rfl,?_⟩);rw [← hlen,hs];simp only [List.length_append,hA,hB,hzl];omega
end
end Go.Sl
namespace Go.Sh
open Go Go.Sl
section
variable {α:Type} {p:α→Bool} {xs zs:List α} {i j:Nat} {d:α}
theorem idxF_ge:-1≤JK p xs:=by unfold JK;cases xs.findIdx? p <;> simp <;> omega
theorem filter_noneD (h:JK p xs=-1):xs.filter (fun x=>!p x)=xs:=by
  have:=idxF_neg (p:=p) (l:=xs) (by omega);rw [List.any_eq_false] at this;exact List.filter_eq_self.2 fun x hx=>by simpa using this x hx
def DelI (p:α→Bool) (xs zs:List α) (i j:Nat):Prop:=zs.length=xs.length∧i<j∧j≤xs.length∧zs.take i=(xs.take j).filter (fun x=>!p x)∧zs.drop j=xs.drop j
theorem DelI.start (hi:i<xs.length) (hp:p (xs.getD i d)=true) (hb:∀ j,j<i→p (xs.getD j d)=false):DelI p xs xs i (i+1):=by
  refine ⟨rfl,by omega,hi,?_,rfl⟩;rw [CH (d:=d) hi,List.filter_append];have h1:(xs.take i).filter (fun x=>!p x)=xs.take i:=List.filter_eq_self.2 fun x hx=>by
    obtain ⟨q,hq,rfl⟩:=List.mem_iff_getElem.1 hx;rw [List.length_take] at hq;have:=hb q (by omega);simp only [List.getElem_take]
    simpa [List.getD,show q<xs.length by omega] using this
  rw [h1];simp only [List.filter_cons,hp,List.filter_nil];simp
theorem DelI.at_j (h:DelI p xs zs i j) (hj:j<xs.length):zs.getD j d=xs.getD j d:=by
  obtain ⟨h1,h2,h3,h4,h5⟩:=h;have e:(zs.drop j)[0]?=(xs.drop j)[0]?:=by rw [h5]
  simp only [List.getElem?_drop,Nat.add_zero] at e;rw [List.getD_eq_getElem?_getD,List.getD_eq_getElem?_getD,e]
theorem drop_next (h:zs.drop j=xs.drop j):zs.drop (j+1)=xs.drop (j+1):=by
  rw [← List.drop_drop,← List.drop_drop,h]
theorem DelI.skip (h:DelI p xs zs i j) (hj:j<xs.length) (hp:p (zs.getD j d)=true):DelI p xs zs i (j+1):=by
  rw [h.at_j hj] at hp;obtain ⟨h1,h2,h3,h4,h5⟩:=h;refine ⟨h1,by omega,hj,?_,drop_next h5⟩;rw [CH (d:=d) hj,List.filter_append,← h4];simp only [List.filter_cons,hp,List.filter_nil];simp
theorem DelI.keep (h:DelI p xs zs i j) (hj:j<xs.length) (hp:p (zs.getD j d)=false):DelI p xs (zs.set i (zs.getD j d)) (i+1) (j+1):=by
  rw [h.at_j hj] at hp ⊢;obtain ⟨h1,h2,h3,h4,h5⟩:=h;refine ⟨by rw [List.length_set,h1],by omega,hj,?_,?_⟩
  · rw [CH (d:=d) hj,List.filter_append,← h4,CH (d:=d) (by rw [List.length_set];omega)]
    simp only [List.filter_cons,hp,List.filter_nil];have e1:(zs.set i (xs.getD j d)).take i=zs.take i:=by rw [List.take_set_of_le (Nat.le_refl _)]
    have e2:(zs.set i (xs.getD j d)).getD i d=xs.getD j d:=by rw [List.getD_eq_getElem?_getD,List.getElem?_set_self (by omega)];rfl
    rw [e1,e2];simp
  · rw [List.drop_set_of_lt (by omega)];exact drop_next h5
theorem DelI.done (h:DelI p xs zs i j) (hj:j=xs.length):zs.take i=xs.filter (fun x=>!p x):=by
  obtain ⟨h1,h2,h3,h4,h5⟩:=h;rw [h4,hj,List.take_length]
end
def FL (L:Lin) (h:Int):List Slip:=L.slips.filter fun x=>!decide (h<x.hour)
def atL (L:Lin) (h:Int):Lin:=⟨L.places,L.sorts,L.start,L.keeps,FL L h⟩
def atH (L:Lin) (h:Int):Hs:=aft (HE L) (AG AC (FL L h))
theorem GoodS.to {L:Lin} (hg:GoodS L.slips) (h:Int):GoodS (atL L h).slips:=hg.sub (List.length_filter_le _ _) fun x hx=>(List.mem_filter.1 hx).1
theorem EvR.full {r:Nat} {H:Hs} {S:List Slip} {M:Seg} {n:Nat} (h:EvR r H S n M) (hn:n=S.length):∃ es cl,M=[(r,Obj.map es cl)]∧MapH es cl (aft H S):=by
  obtain ⟨es,cl,h1,h2⟩:=h;rw [hn,List.take_length] at h2;exact ⟨es,cl,h1,h2⟩
end Go.Sh
namespace Go.Proofs.YtgcemienebmdeaaGreat
open Go Go.Sl Go.Sh
set_option maxRecDepth 100000
noncomputable def c_DelSlip:=cod Tryz.f138
theorem DelSlip_ct (I:Imm) (v:Value) (xs:List Slip) (s_Ms:Seg) (f_id:FuncId) (f_cv:List Value) (p:Slip→Bool) (own:Own 28 8 AX v xs s_Ms) (f_c:DF Tryz.prog f_id=true) (f_h:∀ J,I.le J→∀ x:Slip,CtV Tryz.prog f_id (.agg #[vI x.num,vI x.hour,vI x.kind,vI x.place,vI x.to,vI x.sort,.bool x.soil,vI x.amt]::f_cv).toArray J (.bool (p x))) (hl:xs.length≤1000):Ct Tryz.prog 138 #[v,.func (.func f_id) #[] f_cv.toArray] I s_Ms (fun u I' M'=>Own 28 8 AX u (xs.filter fun x=>!p x) M'):=by
 obtain ⟨a2,a3,rfl,d3⟩:=own.shape;refine fr (args:=[_,_]) (N:=42) Tryz.func138 (fun F=>?_);show Run _ _ (c_DelSlip []) _ _ [(0,_),(1,_)] _ _;refine rnm (rqr ?_);refine sp 1 [(4,vN)] (sn (sp 2 [(9,.func (.func f_id) #[] f_cv.toArray),(8,vS a2 xs.length a3)] ?_));have b3:=ct_own (I:=I) AB own (by omega) (fun I' hI hs_l=>(MR I' _ _ f_id f_cv p hs_l f_c (leMono hI f_h) :));refine sS (sc (some 10) (F:=(F)) (b3 :) (.refl _) (fun d2 I1 d1 a6 c3=>?_));obtain ⟨b7,b6⟩:=c3;rw [b7,b6];clear b7 b6;replace f_h:=leMono a6 f_h;refine nm ?_;show Seq _ _ _ _ _ _ ((10,vI (JK p xs))::_) _ _;refine sp 1 [(5,vI (JK p xs))] (se (rq (rqr (sp 2 [(12,.bool (cmp .eql (JK p xs) (-1)))] (se (rc 12 rfl (fun h1=>?_) (fun h1=>?_)))))))
 ·
  have b0:=h1;have h1:=BE h1;refine rqr (sp 2 [(4,vS a2 xs.length a3)] (se (BD (RP (DL 4 s_Ms rfl (TA (TR _) _) a6 ?_)))));exact (filter_noneD h1).symm▸own
 have b0:=h1;have h1:=BG h1;refine AM (NX (rq (rq ?_)));have c6:=idxF_ge (p:=p) (xs:=xs);obtain ⟨i0,b9,c0,c1,c2⟩:=idxF_spec (p:=p) (l:=xs) (d:=AB) (by omega);rw [b9];refine rr (sp 1 [(14,vI ↑i0)] (sd (da 15 ↑i0 1) (sp 1 [(6,vI (↑i0+1))] (se (rb 0 ?_)))));refine rl (fun mz a w=>∃ i:Nat,∃ j:Nat,∃ zs:List Slip,∃ a1:Seg,(DelI p xs zs i j)∧(Own 28 8 AX (vS a2 xs.length a3) zs a1)∧SD 42 [(0,(vS a2 xs.length a3)),(5,vI ↑i),(6,vI ↑j),(1,.func (.func f_id) #[] f_cv.toArray),(4,vN)] I1 (a1++F) a w (mz=xs.length-j)) ?_ ?_
 ·intro a w hS hD hW;exact ⟨_,i0,i0+1,xs,s_Ms,DelI.start (d:=AB) c0 c1 c2,own,hS.sub su,hD,hW,rfl⟩
 rintro mz a w ⟨i,j,zs,a1,a9,a0,hS,hD,hW,rfl⟩
 refine AU hS hD hW ?_;clear hS hD hW a w;obtain ⟨c9,c7,c8,_,_⟩:=id a9;refine rq (rqr (sp 4 [(19,.bool (cmp .lss ↑j (↑(xs.length))))] (se (rc 19 rfl (fun h2=>?_) (fun h2=>?_)))))
 ·
  have b1:=h2;have h2:=BX h2;refine AM (NX (rq (rb 1 (rqr (sp 2 [(23,vI ↑j),(22,vS a2 xs.length a3)] ?_)))));obtain ⟨d0,a4⟩:=a0.row AB;refine sd (di 24 8 j (fun _=>a4.addr (by omega)) (n:=xs.length)) (sd (dn 25 (MM (vals:=CV) (fun _=>rfl) a4 (fun x hx=>by simp [hx]) j (by omega))) (sS (sal 7 28 IQ (fun a8=>(sS (ss 0 0 a8 (EU (zs.getD j AB)) (EU (zs.getD j AB)) (_::_) (cs:=[_,_,_,_,_,_,_,_]) rfl rfl (sn (sp 1 [(26,.func (.func f_id) #[] f_cv.toArray)] (sd (dnb 27 0 0 a8 (EU (zs.getD j AB))) (sd (OI (f:=(.tmp 26)) (fid:=f_id) (args:=#[(.tmp 27)]) (tys:=#[28]) (cv:=f_cv) (v:=.bool (p (zs.getD j AB))) (d:=28) (ty:=4) (gd:=none) (by kernel_rfl) rfl rfl rfl f_c rfl (fun I' hI=>f_h I' hI (zs.getD j AB))) (sp 1 [(29,.bool (!(p (zs.getD j AB))))] (se (rc 29 rfl (fun h3=>?_) (fun h3=>?_))))))))))))))
  ·
   have b2:=h3;have h3:=BF h3;refine rqr (sp 2 [(31,vI ↑i),(30,vS a2 xs.length a3)] (sd (dnb 32 0 0 a8 (EU (zs.getD j AB))) ?_));obtain ⟨c4,a5⟩:=a0.row AB;refine sd (di 33 8 i (fun _=>a5.addr (by omega)) (n:=xs.length)) (sS (HB (T:=28) (x:=(.tmp 33)) (y:=(.tmp 32)) (rc:=fun i f=>AX ((zs).getD i AB) f) AB i (zs.getD j AB) (ty:=0) (gd:=none) (by kernel_rfl) rfl a0 a5 (by omega) rfl rfl (by kernel_rfl) rfl (ML _) PM.symm (fun a7 b4=>(pm (M':=((bX a8 (AV (zs.getD j AB)) 28)::(a7++F))) PM (se (rr (sp 1 [(34,vI ↑i)] (sd (da 35 ↑i 1) (sp 1 [(5,vI (↑i+1))] (ee (NB (NX (rr (sp 1 [(20,vI ↑j)] (sd (da 21 ↑j 1) (sp 1 [(6,vI (↑j+1))] (ee ?_)))))))))))))))));refine AO (xs.length-(j+1)) (by omega) ?_;intro a w hS hD hW;exact ⟨i+1,j+1,zs.set i (zs.getD j AB),a7,a9.keep (by omega) h3,b4,hS.sub su,hD,(hW.perm (PR _)).sub (TC _ (TR _)),rfl⟩
  have b2:=h3;have h3:=BC h3;refine AM (NB (NX (rr (sp 1 [(20,vI ↑j)] (sd (da 21 ↑j 1) (sp 1 [(6,vI (↑j+1))] (ee ?_)))))));refine AO (xs.length-(j+1)) (by omega) ?_;intro a w hS hD hW;exact ⟨i,j+1,zs,a1,a9.skip (by omega) h3,a0,hS.sub su,hD,(hW.perm (PR _)).sub (TC _ (TR _)),rfl⟩
 have b1:=h2;have h2:=CF h2;refine BR 0 (EP (EP (EB (NX (rqr (sp 2 [(37,vI ↑i),(36,vS a2 xs.length a3)] (sd (HW (x:=(.tmp 36)) (lo:=some (.tmp 37)) (hi:=none) (T:=24) (e:=28) (sz:=8) i xs.length (d:=38) (ty:=24) (gd:=none) (by kernel_rfl) rfl (by kernel_rfl) (by kernel_rfl) rfl (.inr ⟨_,.i64,rfl,rfl⟩) (.inl ⟨rfl,rfl⟩) (by omega) (by omega)) (sS (stp_clearTail (x:=(.tmp 38)) (T:=24) (E:=28) (sz:=8) (z:=.agg IQ) (dst:=none) (cell:=AX) (a:=a2) (n:=xs.length) (c:=a3) (k:=i) (xs:=zs) (ty:=0) (gd:=none) (by kernel_rfl) rfl (by kernel_rfl) (by kernel_rfl) rfl (by decide) (by decide) a0 (by omega) rfl (PR _) (fun b8 b5=>?_))))))))));rw [a9.done (by omega)] at b5;refine nm (sn ?_);refine sp 2 [(40,vI ↑i),(39,vS a2 xs.length a3)] (sd (DE (HW (x:=(.tmp 39)) (lo:=none) (hi:=some (.tmp 40)) (T:=24) (e:=28) (sz:=8) 0 i (d:=41) (ty:=24) (gd:=none) (by kernel_rfl) rfl (by kernel_rfl) (by kernel_rfl) rfl (.inl ⟨rfl,rfl⟩) (.inr ⟨_,.i64,rfl,rfl⟩) (by omega) (by omega)) b5.cutE) (sp 1 [(4,vS a2 i a3)] (se (BD (DL 4 b8 rfl (TA (TR _) _) a6 ?_)))));exact b5
noncomputable def c_bmove:=cod Tryz.f117
theorem bmove_ct (I:Imm) (b:Nat) (b_1 b_2 b_3:Value) (b_r:Nat) (b_es:Array MapEntry) (b_cl:Nat) (L:Lin) (H:Hs) (s:Slip) (b_b:IsBook 134 I b b_1 b_2 b_3 b_r L) (b_is:MapH b_es b_cl H) (hH:Within 1000000 H) (ha:0≤s.amt∧s.amt≤50):Ct Tryz.prog 117 #[vP b 0,.agg #[vI s.num,vI s.hour,vI s.kind,vI s.place,vI s.to,vI s.sort,.bool s.soil,vI s.amt]] I ([(b_r,Obj.map b_es b_cl)]) (fun v I' M'=>∃ b_et:Array MapEntry,∃ b_ct:Nat,v=.tuple #[]∧M'=[(b_r,Obj.map b_et b_ct)]∧MapH b_et b_ct (PQ ⟨s.to,s.sort,s.soil⟩ s.amt (PQ ⟨s.place,s.sort,s.soil⟩ (-s.amt) H))):=by
 obtain ⟨d6,a1,a3,a5⟩:=id b_b;obtain ⟨b4,b6,b5,b9,b0,rfl,b7,b8,c0,c1⟩:=id a1;obtain ⟨c2,c4,c3,c7,rfl,c5,c6,c8⟩:=id a3;obtain ⟨c9,d1,d0,d4,rfl,d2,d3,d5⟩:=id a5;refine fr (args:=[_,_]) (N:=38) Tryz.func117 (fun F=>?_);show Run _ _ (c_bmove []) _ _ [(0,_),(1,_)] _ _;refine rnm (rqr ?_);refine sS (sb 3 28 (AV s) (fun b1=>(se (rq ?_))));refine rdX (M:=((bX b1 (AV s) 28)::(b_r,Obj.map b_es b_cl)::[])) (F0:=F) [] 17 [(0,true),(1,true),(2,true),(3,true),(4,true),(5,true),(6,true),(7,true),(8,true),(9,true),(10,true),(11,true),(12,true),(13,true),(14,true),(15,false),(16,true)] (by simp only [AA,CA,NA,List.append_nil];exact PR _) FV ?_;refine AF (dpv 4 (vP b 0)) ?_;refine AF (dpv 5 (vP b 0)) ?_;refine AF (dfa 6 5 134 1 5 0 rfl) ?_;refine AF (dld 7 6 132 (.map (some b_r)) rfl (AW d6 rfl)) ?_;refine AF (dpv 8 (vP b1 3)) ?_;refine AF (dlb 9 0 3 b1 (vI s.place)) ?_;refine AF (dpv 10 (vP b1 5)) ?_;refine AF (dlb 11 0 5 b1 (vI s.sort)) ?_;refine AF (dpv 12 (vP b1 6)) ?_;refine AF (dlb 13 0 6 b1 (.bool s.soil)) ?_;refine AF (dpv 14 (.agg #[vI s.place,vI s.sort,.bool s.soil])) ?_;refine JP (LkPr b_r MU (⟨s.place,s.sort,s.soil⟩:HKey) (vI 0) (vI (DK (⟨s.place,s.sort,s.soil⟩:HKey) H))) (MH b_is.1 (BT (⟨s.place,s.sort,s.soil⟩:HKey) H)) (PS _ _ _) (FM (x:=(.tmp 7)) (y:=(.tmp 14)) (T:=132) (kt:=136) (et:=3) (k:=(⟨s.place,s.sort,s.soil⟩:HKey)) (z:=vI 0) (d:=15) (ty:=3) (gd:=none) (by kernel_rfl) rfl (by kernel_rfl) (BK (by kernel_rfl) (by kernel_rfl)) rfl rfl (by kernel_rfl)) ?_;refine AF (dpv 16 (vP b1 7)) ?_;refine AF (dlb 17 0 7 b1 (vI s.amt)) ?_;have e4:=hH ⟨s.place,s.sort,s.soil⟩;refine AY (dsb 18 (DK (⟨s.place,s.sort,s.soil⟩:HKey) H) s.amt) ?_;refine CI (Mx:=fun FX=>((bX b1 (AV s) 28)::(b_r,Obj.map b_es b_cl)::FX)) rfl (fun FX=>by simp only [AA,CA,NA,List.append_nil];exact PR _) (fun FX=>?_);refine id (JV (d:=19) (x:=(.tmp 7)) (y:=(.tmp 14)) (T:=132) (kt:=136) (et:=3) (k:=(⟨s.place,s.sort,s.soil⟩:HKey)) (H:=H) 1 (ty:=0) (gd:=none) (by kernel_rfl) rfl (by kernel_rfl) (BK (by kernel_rfl) (by kernel_rfl)) rfl rfl (by kernel_rfl) rfl b_is (fun d7 a9 e0 a6=>?_));refine DV (M1:=((bX b1 (AV s) 28)::(b_r,Obj.map d7 a9)::[])) (by exact (PR _)) (.none (.wt (.wt (.other (JN a6.1 rfl (BT (⟨s.place,s.sort,s.soil⟩:HKey) H)) (PS _ _ _) (.wt (.wt (.wt (.wt (.wt (.wt (.wt (.wt (.wt (.wt (.wt .nil))))))))))))))) ?_;show OFPX _ _ _ _ _ _ _ _ _ _ ((19,.tuple #[vI (DK (⟨s.place,s.sort,s.soil⟩:HKey) H),vI ↑e0])::_) _ _;refine AF (dpv 20 (vI ↑e0)) ?_;refine ER (AZ (M':=((bX b1 (AV s) 28)::(b_r,Obj.map d7 a9)::F)) (fun w h=>by simpa only [AA,CA,NA,List.append_nil] using h) (nm ?_));refine sS (IC (x:=(.tmp 7)) (y:=(.tmp 20)) (u:=(.tmp 18)) (T:=132) (k:=(⟨s.place,s.sort,s.soil⟩:HKey)) (v:=(DK (⟨s.place,s.sort,s.soil⟩:HKey) H)-s.amt) 1 (ty:=0) (gd:=none) (by kernel_rfl) rfl rfl rfl rfl rfl a6 (fun d8 a7=>(nm (se ?_))));refine rdX (M:=((bX b1 (AV s) 28)::(b_r,Obj.map d8 a9)::[])) (F0:=F) [] 17 [(0,true),(1,true),(2,true),(3,true),(4,true),(5,true),(6,true),(7,true),(8,true),(9,true),(10,true),(11,true),(12,true),(13,true),(14,true),(15,false),(16,true)] (by simp only [AA,CA,NA,List.append_nil];exact PR _) FV ?_;refine AF (dpv 21 (vP b 0)) ?_;refine AF (dpv 22 (vP b 0)) ?_;refine AF (dfa 23 22 134 1 5 0 rfl) ?_;refine AF (dld 24 23 132 (.map (some b_r)) rfl (AW d6 rfl)) ?_;refine AF (dpv 25 (vP b1 4)) ?_;refine AF (dlb 26 0 4 b1 (vI s.to)) ?_;refine AF (dpv 27 (vP b1 5)) ?_;refine AF (dlb 28 0 5 b1 (vI s.sort)) ?_;refine AF (dpv 29 (vP b1 6)) ?_;refine AF (dlb 30 0 6 b1 (.bool s.soil)) ?_;refine AF (dpv 31 (.agg #[vI s.to,vI s.sort,.bool s.soil])) ?_;refine JP (LkPr b_r MU (⟨s.to,s.sort,s.soil⟩:HKey) (vI 0) (vI (DK (⟨s.to,s.sort,s.soil⟩:HKey) (KA (⟨s.place,s.sort,s.soil⟩:HKey) ((DK (⟨s.place,s.sort,s.soil⟩:HKey) H)-s.amt) H)))) (MH a7.1 (BT (⟨s.to,s.sort,s.soil⟩:HKey) (KA (⟨s.place,s.sort,s.soil⟩:HKey) ((DK (⟨s.place,s.sort,s.soil⟩:HKey) H)-s.amt) H))) (PS _ _ _) (FM (x:=(.tmp 24)) (y:=(.tmp 31)) (T:=132) (kt:=136) (et:=3) (k:=(⟨s.to,s.sort,s.soil⟩:HKey)) (z:=vI 0) (d:=32) (ty:=3) (gd:=none) (by kernel_rfl) rfl (by kernel_rfl) (BK (by kernel_rfl) (by kernel_rfl)) rfl rfl (by kernel_rfl)) ?_;refine AF (dpv 33 (vP b1 7)) ?_;refine AF (dlb 34 0 7 b1 (vI s.amt)) ?_;have e3:=(hH.add (k:=⟨s.place,s.sort,s.soil⟩) (d:=-s.amt) (by omega) (by omega)) ⟨s.to,s.sort,s.soil⟩;rw [show PQ ⟨s.place,s.sort,s.soil⟩ (-s.amt) H=KA ⟨s.place,s.sort,s.soil⟩ (DK ⟨s.place,s.sort,s.soil⟩ H-s.amt) H from rfl] at e3;refine AY (da 35 (DK (⟨s.to,s.sort,s.soil⟩:HKey) (KA (⟨s.place,s.sort,s.soil⟩:HKey) ((DK (⟨s.place,s.sort,s.soil⟩:HKey) H)-s.amt) H)) s.amt) ?_;refine CI (Mx:=fun FX=>((bX b1 (AV s) 28)::(b_r,Obj.map d8 a9)::FX)) rfl (fun FX=>by simp only [AA,CA,NA,List.append_nil];exact PR _) (fun FX=>?_);refine id (JV (d:=36) (x:=(.tmp 24)) (y:=(.tmp 31)) (T:=132) (kt:=136) (et:=3) (k:=(⟨s.to,s.sort,s.soil⟩:HKey)) (H:=KA (⟨s.place,s.sort,s.soil⟩:HKey) ((DK (⟨s.place,s.sort,s.soil⟩:HKey) H)-s.amt) H) 1 (ty:=0) (gd:=none) (by kernel_rfl) rfl (by kernel_rfl) (BK (by kernel_rfl) (by kernel_rfl)) rfl rfl (by kernel_rfl) rfl a7 (fun d9 b2 e1 a8=>?_));refine DV (M1:=((bX b1 (AV s) 28)::(b_r,Obj.map d9 b2)::[])) (by exact (PR _)) (.none (.wt (.wt (.other (JN a8.1 rfl (BT (⟨s.to,s.sort,s.soil⟩:HKey) (KA (⟨s.place,s.sort,s.soil⟩:HKey) ((DK (⟨s.place,s.sort,s.soil⟩:HKey) H)-s.amt) H))) (PS _ _ _) (.wt (.wt (.wt (.wt (.wt (.wt (.wt (.wt (.wt (.wt (.wt .nil))))))))))))))) ?_;show OFPX _ _ _ _ _ _ _ _ _ _ ((36,.tuple #[vI (DK (⟨s.to,s.sort,s.soil⟩:HKey) (KA (⟨s.place,s.sort,s.soil⟩:HKey) ((DK (⟨s.place,s.sort,s.soil⟩:HKey) H)-s.amt) H)),vI ↑e1])::_) _ _;refine AF (dpv 37 (vI ↑e1)) ?_;refine ER (AZ (M':=((bX b1 (AV s) 28)::(b_r,Obj.map d9 b2)::F)) (fun w h=>by simpa only [AA,CA,NA,List.append_nil] using h) (nm ?_));refine sS (IC (x:=(.tmp 24)) (y:=(.tmp 37)) (u:=(.tmp 35)) (T:=132) (k:=(⟨s.to,s.sort,s.soil⟩:HKey)) (v:=(DK (⟨s.to,s.sort,s.soil⟩:HKey) (KA (⟨s.place,s.sort,s.soil⟩:HKey) ((DK (⟨s.place,s.sort,s.soil⟩:HKey) H)-s.amt) H))+s.amt) 1 (ty:=0) (gd:=none) (by kernel_rfl) rfl rfl rfl rfl rfl a8 (fun e2 b3=>(nm (ee ?_))));refine ppm (PS _ _ _) ?_;refine FT ([(b_r,Obj.map e2 b2)]) (by kernel_rfl) (TK _ (TC _ (TR _))) (IR _) ?_;exact ⟨_,_,rfl,rfl,b3⟩
noncomputable def c_buse:=cod Tryz.f118
theorem buse_ct (I:Imm) (b:Nat) (b_1 b_2 b_3:Value) (b_r:Nat) (b_es:Array MapEntry) (b_cl:Nat) (L:Lin) (H:Hs) (s:Slip) (b_b:IsBook 134 I b b_1 b_2 b_3 b_r L) (b_is:MapH b_es b_cl H) (hH:Within 1000000 H) (ha:0≤s.amt∧s.amt≤50):Ct Tryz.prog 118 #[vP b 0,.agg #[vI s.num,vI s.hour,vI s.kind,vI s.place,vI s.to,vI s.sort,.bool s.soil,vI s.amt]] I ([(b_r,Obj.map b_es b_cl)]) (fun v I' M'=>∃ b_et:Array MapEntry,∃ b_ct:Nat,v=.tuple #[]∧M'=[(b_r,Obj.map b_et b_ct)]∧MapH b_et b_ct (PQ ⟨s.place,s.sort,true⟩ s.amt (PQ ⟨s.place,s.sort,false⟩ (-s.amt) H))):=by
 obtain ⟨d6,a1,a3,a5⟩:=id b_b;obtain ⟨b4,b6,b5,b9,b0,rfl,b7,b8,c0,c1⟩:=id a1;obtain ⟨c2,c4,c3,c7,rfl,c5,c6,c8⟩:=id a3;obtain ⟨c9,d1,d0,d4,rfl,d2,d3,d5⟩:=id a5;refine fr (args:=[_,_]) (N:=34) Tryz.func118 (fun F=>?_);show Run _ _ (c_buse []) _ _ [(0,_),(1,_)] _ _;refine rnm (rqr ?_);refine sS (sb 3 28 (AV s) (fun b1=>(se (rq ?_))));refine rdX (M:=((bX b1 (AV s) 28)::(b_r,Obj.map b_es b_cl)::[])) (F0:=F) [] 15 [(0,true),(1,true),(2,true),(3,true),(4,true),(5,true),(6,true),(7,true),(8,true),(9,true),(10,true),(11,true),(12,true),(13,false),(14,true)] (by simp only [AA,CA,NA,List.append_nil];exact PR _) FV ?_;refine AF (dpv 4 (vP b 0)) ?_;refine AF (dpv 5 (vP b 0)) ?_;refine AF (dfa 6 5 134 1 5 0 rfl) ?_;refine AF (dld 7 6 132 (.map (some b_r)) rfl (AW d6 rfl)) ?_;refine AF (dpv 8 (vP b1 3)) ?_;refine AF (dlb 9 0 3 b1 (vI s.place)) ?_;refine AF (dpv 10 (vP b1 5)) ?_;refine AF (dlb 11 0 5 b1 (vI s.sort)) ?_;refine AF (dpv 12 (.agg #[vI s.place,vI s.sort,.bool false])) ?_;refine JP (LkPr b_r MU (⟨s.place,s.sort,false⟩:HKey) (vI 0) (vI (DK (⟨s.place,s.sort,false⟩:HKey) H))) (MH b_is.1 (BT (⟨s.place,s.sort,false⟩:HKey) H)) (PS _ _ _) (FM (x:=(.tmp 7)) (y:=(.tmp 12)) (T:=132) (kt:=136) (et:=3) (k:=(⟨s.place,s.sort,false⟩:HKey)) (z:=vI 0) (d:=13) (ty:=3) (gd:=none) (by kernel_rfl) rfl (by kernel_rfl) (BK (by kernel_rfl) (by kernel_rfl)) rfl rfl (by kernel_rfl)) ?_;refine AF (dpv 14 (vP b1 7)) ?_;refine AF (dlb 15 0 7 b1 (vI s.amt)) ?_;have e4:=hH ⟨s.place,s.sort,false⟩;refine AY (dsb 16 (DK (⟨s.place,s.sort,false⟩:HKey) H) s.amt) ?_;refine CI (Mx:=fun FX=>((bX b1 (AV s) 28)::(b_r,Obj.map b_es b_cl)::FX)) rfl (fun FX=>by simp only [AA,CA,NA,List.append_nil];exact PR _) (fun FX=>?_);refine id (JV (d:=17) (x:=(.tmp 7)) (y:=(.tmp 12)) (T:=132) (kt:=136) (et:=3) (k:=(⟨s.place,s.sort,false⟩:HKey)) (H:=H) 1 (ty:=0) (gd:=none) (by kernel_rfl) rfl (by kernel_rfl) (BK (by kernel_rfl) (by kernel_rfl)) rfl rfl (by kernel_rfl) rfl b_is (fun d7 a9 e0 a6=>?_));refine DV (M1:=((bX b1 (AV s) 28)::(b_r,Obj.map d7 a9)::[])) (by exact (PR _)) (.none (.wt (.wt (.other (JN a6.1 rfl (BT (⟨s.place,s.sort,false⟩:HKey) H)) (PS _ _ _) (.wt (.wt (.wt (.wt (.wt (.wt (.wt (.wt (.wt .nil))))))))))))) ?_;show OFPX _ _ _ _ _ _ _ _ _ _ ((17,.tuple #[vI (DK (⟨s.place,s.sort,false⟩:HKey) H),vI ↑e0])::_) _ _;refine AF (dpv 18 (vI ↑e0)) ?_;refine ER (AZ (M':=((bX b1 (AV s) 28)::(b_r,Obj.map d7 a9)::F)) (fun w h=>by simpa only [AA,CA,NA,List.append_nil] using h) (nm ?_));refine sS (IC (x:=(.tmp 7)) (y:=(.tmp 18)) (u:=(.tmp 16)) (T:=132) (k:=(⟨s.place,s.sort,false⟩:HKey)) (v:=(DK (⟨s.place,s.sort,false⟩:HKey) H)-s.amt) 1 (ty:=0) (gd:=none) (by kernel_rfl) rfl rfl rfl rfl rfl a6 (fun d8 a7=>(nm (se ?_))));refine rdX (M:=((bX b1 (AV s) 28)::(b_r,Obj.map d8 a9)::[])) (F0:=F) [] 15 [(0,true),(1,true),(2,true),(3,true),(4,true),(5,true),(6,true),(7,true),(8,true),(9,true),(10,true),(11,true),(12,true),(13,false),(14,true)] (by simp only [AA,CA,NA,List.append_nil];exact PR _) FV ?_;refine AF (dpv 19 (vP b 0)) ?_;refine AF (dpv 20 (vP b 0)) ?_;refine AF (dfa 21 20 134 1 5 0 rfl) ?_;refine AF (dld 22 21 132 (.map (some b_r)) rfl (AW d6 rfl)) ?_;refine AF (dpv 23 (vP b1 3)) ?_;refine AF (dlb 24 0 3 b1 (vI s.place)) ?_;refine AF (dpv 25 (vP b1 5)) ?_;refine AF (dlb 26 0 5 b1 (vI s.sort)) ?_;refine AF (dpv 27 (.agg #[vI s.place,vI s.sort,.bool true])) ?_;refine JP (LkPr b_r MU (⟨s.place,s.sort,true⟩:HKey) (vI 0) (vI (DK (⟨s.place,s.sort,true⟩:HKey) (KA (⟨s.place,s.sort,false⟩:HKey) ((DK (⟨s.place,s.sort,false⟩:HKey) H)-s.amt) H)))) (MH a7.1 (BT (⟨s.place,s.sort,true⟩:HKey) (KA (⟨s.place,s.sort,false⟩:HKey) ((DK (⟨s.place,s.sort,false⟩:HKey) H)-s.amt) H))) (PS _ _ _) (FM (x:=(.tmp 22)) (y:=(.tmp 27)) (T:=132) (kt:=136) (et:=3) (k:=(⟨s.place,s.sort,true⟩:HKey)) (z:=vI 0) (d:=28) (ty:=3) (gd:=none) (by kernel_rfl) rfl (by kernel_rfl) (BK (by kernel_rfl) (by kernel_rfl)) rfl rfl (by kernel_rfl)) ?_;refine AF (dpv 29 (vP b1 7)) ?_;refine AF (dlb 30 0 7 b1 (vI s.amt)) ?_;have e3:=(hH.add (k:=⟨s.place,s.sort,false⟩) (d:=-s.amt) (by omega) (by omega)) ⟨s.place,s.sort,true⟩;rw [show PQ ⟨s.place,s.sort,false⟩ (-s.amt) H=KA ⟨s.place,s.sort,false⟩ (DK ⟨s.place,s.sort,false⟩ H-s.amt) H from rfl] at e3;refine AY (da 31 (DK (⟨s.place,s.sort,true⟩:HKey) (KA (⟨s.place,s.sort,false⟩:HKey) ((DK (⟨s.place,s.sort,false⟩:HKey) H)-s.amt) H)) s.amt) ?_;refine CI (Mx:=fun FX=>((bX b1 (AV s) 28)::(b_r,Obj.map d8 a9)::FX)) rfl (fun FX=>by simp only [AA,CA,NA,List.append_nil];exact PR _) (fun FX=>?_);refine id (JV (d:=32) (x:=(.tmp 22)) (y:=(.tmp 27)) (T:=132) (kt:=136) (et:=3) (k:=(⟨s.place,s.sort,true⟩:HKey)) (H:=KA (⟨s.place,s.sort,false⟩:HKey) ((DK (⟨s.place,s.sort,false⟩:HKey) H)-s.amt) H) 1 (ty:=0) (gd:=none) (by kernel_rfl) rfl (by kernel_rfl) (BK (by kernel_rfl) (by kernel_rfl)) rfl rfl (by kernel_rfl) rfl a7 (fun d9 b2 e1 a8=>?_));refine DV (M1:=((bX b1 (AV s) 28)::(b_r,Obj.map d9 b2)::[])) (by exact (PR _)) (.none (.wt (.wt (.other (JN a8.1 rfl (BT (⟨s.place,s.sort,true⟩:HKey) (KA (⟨s.place,s.sort,false⟩:HKey) ((DK (⟨s.place,s.sort,false⟩:HKey) H)-s.amt) H))) (PS _ _ _) (.wt (.wt (.wt (.wt (.wt (.wt (.wt (.wt (.wt .nil))))))))))))) ?_;show OFPX _ _ _ _ _ _ _ _ _ _ ((32,.tuple #[vI (DK (⟨s.place,s.sort,true⟩:HKey) (KA (⟨s.place,s.sort,false⟩:HKey) ((DK (⟨s.place,s.sort,false⟩:HKey) H)-s.amt) H)),vI ↑e1])::_) _ _;refine AF (dpv 33 (vI ↑e1)) ?_;refine ER (AZ (M':=((bX b1 (AV s) 28)::(b_r,Obj.map d9 b2)::F)) (fun w h=>by simpa only [AA,CA,NA,List.append_nil] using h) (nm ?_));refine sS (IC (x:=(.tmp 22)) (y:=(.tmp 33)) (u:=(.tmp 31)) (T:=132) (k:=(⟨s.place,s.sort,true⟩:HKey)) (v:=(DK (⟨s.place,s.sort,true⟩:HKey) (KA (⟨s.place,s.sort,false⟩:HKey) ((DK (⟨s.place,s.sort,false⟩:HKey) H)-s.amt) H))+s.amt) 1 (ty:=0) (gd:=none) (by kernel_rfl) rfl rfl rfl rfl rfl a8 (fun e2 b3=>(nm (ee ?_))));refine ppm (PS _ _ _) ?_;refine FT ([(b_r,Obj.map e2 b2)]) (by kernel_rfl) (TK _ (TC _ (TR _))) (IR _) ?_;exact ⟨_,_,rfl,rfl,b3⟩
noncomputable def c_bwash:=cod Tryz.f119
theorem bwash_ct (I:Imm) (b:Nat) (b_1 b_2 b_3:Value) (b_r:Nat) (b_es:Array MapEntry) (b_cl:Nat) (L:Lin) (H:Hs) (s:Slip) (b_b:IsBook 134 I b b_1 b_2 b_3 b_r L) (b_is:MapH b_es b_cl H) (hH:Within 1000000 H) (ha:0≤s.amt∧s.amt≤50):Ct Tryz.prog 119 #[vP b 0,.agg #[vI s.num,vI s.hour,vI s.kind,vI s.place,vI s.to,vI s.sort,.bool s.soil,vI s.amt]] I ([(b_r,Obj.map b_es b_cl)]) (fun v I' M'=>∃ b_et:Array MapEntry,∃ b_ct:Nat,v=.tuple #[]∧M'=[(b_r,Obj.map b_et b_ct)]∧MapH b_et b_ct (PQ ⟨s.place,s.sort,false⟩ s.amt (PQ ⟨s.place,s.sort,true⟩ (-s.amt) H))):=by
 obtain ⟨d6,a1,a3,a5⟩:=id b_b;obtain ⟨b4,b6,b5,b9,b0,rfl,b7,b8,c0,c1⟩:=id a1;obtain ⟨c2,c4,c3,c7,rfl,c5,c6,c8⟩:=id a3;obtain ⟨c9,d1,d0,d4,rfl,d2,d3,d5⟩:=id a5;refine fr (args:=[_,_]) (N:=34) Tryz.func119 (fun F=>?_);show Run _ _ (c_bwash []) _ _ [(0,_),(1,_)] _ _;refine rnm (rqr ?_);refine sS (sb 3 28 (AV s) (fun b1=>(se (rq ?_))));refine rdX (M:=((bX b1 (AV s) 28)::(b_r,Obj.map b_es b_cl)::[])) (F0:=F) [] 15 [(0,true),(1,true),(2,true),(3,true),(4,true),(5,true),(6,true),(7,true),(8,true),(9,true),(10,true),(11,true),(12,true),(13,false),(14,true)] (by simp only [AA,CA,NA,List.append_nil];exact PR _) FV ?_;refine AF (dpv 4 (vP b 0)) ?_;refine AF (dpv 5 (vP b 0)) ?_;refine AF (dfa 6 5 134 1 5 0 rfl) ?_;refine AF (dld 7 6 132 (.map (some b_r)) rfl (AW d6 rfl)) ?_;refine AF (dpv 8 (vP b1 3)) ?_;refine AF (dlb 9 0 3 b1 (vI s.place)) ?_;refine AF (dpv 10 (vP b1 5)) ?_;refine AF (dlb 11 0 5 b1 (vI s.sort)) ?_;refine AF (dpv 12 (.agg #[vI s.place,vI s.sort,.bool true])) ?_;refine JP (LkPr b_r MU (⟨s.place,s.sort,true⟩:HKey) (vI 0) (vI (DK (⟨s.place,s.sort,true⟩:HKey) H))) (MH b_is.1 (BT (⟨s.place,s.sort,true⟩:HKey) H)) (PS _ _ _) (FM (x:=(.tmp 7)) (y:=(.tmp 12)) (T:=132) (kt:=136) (et:=3) (k:=(⟨s.place,s.sort,true⟩:HKey)) (z:=vI 0) (d:=13) (ty:=3) (gd:=none) (by kernel_rfl) rfl (by kernel_rfl) (BK (by kernel_rfl) (by kernel_rfl)) rfl rfl (by kernel_rfl)) ?_;refine AF (dpv 14 (vP b1 7)) ?_;refine AF (dlb 15 0 7 b1 (vI s.amt)) ?_;have e4:=hH ⟨s.place,s.sort,true⟩;refine AY (dsb 16 (DK (⟨s.place,s.sort,true⟩:HKey) H) s.amt) ?_;refine CI (Mx:=fun FX=>((bX b1 (AV s) 28)::(b_r,Obj.map b_es b_cl)::FX)) rfl (fun FX=>by simp only [AA,CA,NA,List.append_nil];exact PR _) (fun FX=>?_);refine id (JV (d:=17) (x:=(.tmp 7)) (y:=(.tmp 12)) (T:=132) (kt:=136) (et:=3) (k:=(⟨s.place,s.sort,true⟩:HKey)) (H:=H) 1 (ty:=0) (gd:=none) (by kernel_rfl) rfl (by kernel_rfl) (BK (by kernel_rfl) (by kernel_rfl)) rfl rfl (by kernel_rfl) rfl b_is (fun d7 a9 e0 a6=>?_));refine DV (M1:=((bX b1 (AV s) 28)::(b_r,Obj.map d7 a9)::[])) (by exact (PR _)) (.none (.wt (.wt (.other (JN a6.1 rfl (BT (⟨s.place,s.sort,true⟩:HKey) H)) (PS _ _ _) (.wt (.wt (.wt (.wt (.wt (.wt (.wt (.wt (.wt .nil))))))))))))) ?_;show OFPX _ _ _ _ _ _ _ _ _ _ ((17,.tuple #[vI (DK (⟨s.place,s.sort,true⟩:HKey) H),vI ↑e0])::_) _ _;refine AF (dpv 18 (vI ↑e0)) ?_;refine ER (AZ (M':=((bX b1 (AV s) 28)::(b_r,Obj.map d7 a9)::F)) (fun w h=>by simpa only [AA,CA,NA,List.append_nil] using h) (nm ?_));refine sS (IC (x:=(.tmp 7)) (y:=(.tmp 18)) (u:=(.tmp 16)) (T:=132) (k:=(⟨s.place,s.sort,true⟩:HKey)) (v:=(DK (⟨s.place,s.sort,true⟩:HKey) H)-s.amt) 1 (ty:=0) (gd:=none) (by kernel_rfl) rfl rfl rfl rfl rfl a6 (fun d8 a7=>(nm (se ?_))));refine rdX (M:=((bX b1 (AV s) 28)::(b_r,Obj.map d8 a9)::[])) (F0:=F) [] 15 [(0,true),(1,true),(2,true),(3,true),(4,true),(5,true),(6,true),(7,true),(8,true),(9,true),(10,true),(11,true),(12,true),(13,false),(14,true)] (by simp only [AA,CA,NA,List.append_nil];exact PR _) FV ?_;refine AF (dpv 19 (vP b 0)) ?_;refine AF (dpv 20 (vP b 0)) ?_;refine AF (dfa 21 20 134 1 5 0 rfl) ?_;refine AF (dld 22 21 132 (.map (some b_r)) rfl (AW d6 rfl)) ?_;refine AF (dpv 23 (vP b1 3)) ?_;refine AF (dlb 24 0 3 b1 (vI s.place)) ?_;refine AF (dpv 25 (vP b1 5)) ?_;refine AF (dlb 26 0 5 b1 (vI s.sort)) ?_;refine AF (dpv 27 (.agg #[vI s.place,vI s.sort,.bool false])) ?_;refine JP (LkPr b_r MU (⟨s.place,s.sort,false⟩:HKey) (vI 0) (vI (DK (⟨s.place,s.sort,false⟩:HKey) (KA (⟨s.place,s.sort,true⟩:HKey) ((DK (⟨s.place,s.sort,true⟩:HKey) H)-s.amt) H)))) (MH a7.1 (BT (⟨s.place,s.sort,false⟩:HKey) (KA (⟨s.place,s.sort,true⟩:HKey) ((DK (⟨s.place,s.sort,true⟩:HKey) H)-s.amt) H))) (PS _ _ _) (FM (x:=(.tmp 22)) (y:=(.tmp 27)) (T:=132) (kt:=136) (et:=3) (k:=(⟨s.place,s.sort,false⟩:HKey)) (z:=vI 0) (d:=28) (ty:=3) (gd:=none) (by kernel_rfl) rfl (by kernel_rfl) (BK (by kernel_rfl) (by kernel_rfl)) rfl rfl (by kernel_rfl)) ?_;refine AF (dpv 29 (vP b1 7)) ?_;refine AF (dlb 30 0 7 b1 (vI s.amt)) ?_;have e3:=(hH.add (k:=⟨s.place,s.sort,true⟩) (d:=-s.amt) (by omega) (by omega)) ⟨s.place,s.sort,false⟩;rw [show PQ ⟨s.place,s.sort,true⟩ (-s.amt) H=KA ⟨s.place,s.sort,true⟩ (DK ⟨s.place,s.sort,true⟩ H-s.amt) H from rfl] at e3;refine AY (da 31 (DK (⟨s.place,s.sort,false⟩:HKey) (KA (⟨s.place,s.sort,true⟩:HKey) ((DK (⟨s.place,s.sort,true⟩:HKey) H)-s.amt) H)) s.amt) ?_;refine CI (Mx:=fun FX=>((bX b1 (AV s) 28)::(b_r,Obj.map d8 a9)::FX)) rfl (fun FX=>by simp only [AA,CA,NA,List.append_nil];exact PR _) (fun FX=>?_);refine id (JV (d:=32) (x:=(.tmp 22)) (y:=(.tmp 27)) (T:=132) (kt:=136) (et:=3) (k:=(⟨s.place,s.sort,false⟩:HKey)) (H:=KA (⟨s.place,s.sort,true⟩:HKey) ((DK (⟨s.place,s.sort,true⟩:HKey) H)-s.amt) H) 1 (ty:=0) (gd:=none) (by kernel_rfl) rfl (by kernel_rfl) (BK (by kernel_rfl) (by kernel_rfl)) rfl rfl (by kernel_rfl) rfl a7 (fun d9 b2 e1 a8=>?_));refine DV (M1:=((bX b1 (AV s) 28)::(b_r,Obj.map d9 b2)::[])) (by exact (PR _)) (.none (.wt (.wt (.other (JN a8.1 rfl (BT (⟨s.place,s.sort,false⟩:HKey) (KA (⟨s.place,s.sort,true⟩:HKey) ((DK (⟨s.place,s.sort,true⟩:HKey) H)-s.amt) H))) (PS _ _ _) (.wt (.wt (.wt (.wt (.wt (.wt (.wt (.wt (.wt .nil))))))))))))) ?_;show OFPX _ _ _ _ _ _ _ _ _ _ ((32,.tuple #[vI (DK (⟨s.place,s.sort,false⟩:HKey) (KA (⟨s.place,s.sort,true⟩:HKey) ((DK (⟨s.place,s.sort,true⟩:HKey) H)-s.amt) H)),vI ↑e1])::_) _ _;refine AF (dpv 33 (vI ↑e1)) ?_;refine ER (AZ (M':=((bX b1 (AV s) 28)::(b_r,Obj.map d9 b2)::F)) (fun w h=>by simpa only [AA,CA,NA,List.append_nil] using h) (nm ?_));refine sS (IC (x:=(.tmp 22)) (y:=(.tmp 33)) (u:=(.tmp 31)) (T:=132) (k:=(⟨s.place,s.sort,false⟩:HKey)) (v:=(DK (⟨s.place,s.sort,false⟩:HKey) (KA (⟨s.place,s.sort,true⟩:HKey) ((DK (⟨s.place,s.sort,true⟩:HKey) H)-s.amt) H))+s.amt) 1 (ty:=0) (gd:=none) (by kernel_rfl) rfl rfl rfl rfl rfl a8 (fun e2 b3=>(nm (ee ?_))));refine ppm (PS _ _ _) ?_;refine FT ([(b_r,Obj.map e2 b2)]) (by kernel_rfl) (TK _ (TC _ (TR _))) (IR _) ?_;exact ⟨_,_,rfl,rfl,b3⟩
noncomputable def c_bcount:=cod Tryz.f120
theorem bcount_ct (I:Imm) (b:Nat) (b_1 b_2 b_3:Value) (b_r:Nat) (b_es:Array MapEntry) (b_cl:Nat) (L:Lin) (H:Hs) (s:Slip) (b_b:IsBook 134 I b b_1 b_2 b_3 b_r L) (b_is:MapH b_es b_cl H) (hH:Within 1000000 H) (ha:0≤s.amt∧s.amt≤50):Ct Tryz.prog 120 #[vP b 0,.agg #[vI s.num,vI s.hour,vI s.kind,vI s.place,vI s.to,vI s.sort,.bool s.soil,vI s.amt]] I ([(b_r,Obj.map b_es b_cl)]) (fun v I' M'=>∃ b_et:Array MapEntry,∃ b_ct:Nat,v=.tuple #[]∧M'=[(b_r,Obj.map b_et b_ct)]∧MapH b_et b_ct (KA ⟨s.place,s.sort,s.soil⟩ s.amt H)):=by
 obtain ⟨d1,a1,a3,a5⟩:=id b_b;obtain ⟨a8,b0,a9,b4,a6,rfl,b2,b3,b5,b6⟩:=id a1;obtain ⟨b7,b9,b8,c2,rfl,c0,c1,c3⟩:=id a3;obtain ⟨c4,c6,c5,c9,rfl,c7,c8,d0⟩:=id a5;refine fr (args:=[_,_]) (N:=17) Tryz.func120 (fun F=>?_);show Run _ _ (c_bcount []) _ _ [(0,_),(1,_)] _ _;refine rnm (rqr ?_);refine sS (sb 3 28 (AV s) (fun b1=>(se ?_)));refine rd0 13 (ox 2 [(5,vP b 0)] ?_);refine AD (dfa 6 5 134 1 5 0 rfl) ?_;refine AD (dld 7 6 132 (.map (some b_r)) rfl (AW d1 rfl)) (ox 1 [(8,vP b1 3)] ?_);refine AD (dlb 9 0 3 b1 (vI s.place)) (ox 1 [(10,vP b1 5)] ?_);refine AD (dlb 11 0 5 b1 (vI s.sort)) (ox 1 [(12,vP b1 6)] ?_);refine AD (dlb 13 0 6 b1 (.bool s.soil)) (ox 2 [(15,vP b1 7),(14,.agg #[vI s.place,vI s.sort,.bool s.soil])] ?_);refine AD (dlb 16 0 7 b1 (vI s.amt)) ?_;refine BA (sS (stp_putH (x:=(.tmp 7)) (y:=(.tmp 14)) (u:=(.tmp 16)) (T:=132) (kt:=136) (et:=3) (k:=(⟨s.place,s.sort,s.soil⟩:HKey)) (H:=H) (v:=s.amt) 1 (ty:=0) (gd:=none) (by kernel_rfl) rfl (by kernel_rfl) (BK (by kernel_rfl) (by kernel_rfl)) rfl rfl rfl rfl b_is (fun d3 d2 a7=>(nm (ee ?_)))));refine ppm (PS _ _ _) ?_;refine FT ([(b_r,Obj.map d3 d2)]) (by kernel_rfl) (TK _ (TC _ (TR _))) (IR _) ?_;exact ⟨_,_,rfl,rfl,a7⟩
noncomputable def c_bbuy:=cod Tryz.f121
theorem bbuy_ct (I:Imm) (b:Nat) (b_1 b_2 b_3:Value) (b_r:Nat) (b_es:Array MapEntry) (b_cl:Nat) (L:Lin) (H:Hs) (s:Slip) (b_b:IsBook 134 I b b_1 b_2 b_3 b_r L) (b_is:MapH b_es b_cl H) (hH:Within 1000000 H) (ha:0≤s.amt∧s.amt≤50):Ct Tryz.prog 121 #[vP b 0,.agg #[vI s.num,vI s.hour,vI s.kind,vI s.place,vI s.to,vI s.sort,.bool s.soil,vI s.amt]] I ([(b_r,Obj.map b_es b_cl)]) (fun v I' M'=>∃ b_et:Array MapEntry,∃ b_ct:Nat,v=.tuple #[]∧M'=[(b_r,Obj.map b_et b_ct)]∧MapH b_et b_ct (PQ ⟨s.place,s.sort,false⟩ s.amt H)):=by
 obtain ⟨d5,a1,a3,a5⟩:=id b_b;obtain ⟨b0,b3,b2,b6,a7,rfl,b4,b5,b7,b8⟩:=id a1;obtain ⟨b9,c1,c0,c4,rfl,c2,c3,c5⟩:=id a3;obtain ⟨c6,c8,c7,d1,rfl,c9,d0,d2⟩:=id a5;refine fr (args:=[_,_]) (N:=19) Tryz.func121 (fun F=>?_);show Run _ _ (c_bbuy []) _ _ [(0,_),(1,_)] _ _;refine rnm (rqr ?_);refine sS (sb 3 28 (AV s) (fun b1=>(se ?_)));refine rdX (M:=((bX b1 (AV s) 28)::(b_r,Obj.map b_es b_cl)::[])) (F0:=F) [] 15 [(0,true),(1,true),(2,true),(3,true),(4,true),(5,true),(6,true),(7,true),(8,true),(9,true),(10,true),(11,true),(12,true),(13,false),(14,true)] (by simp only [AA,CA,NA,List.append_nil];exact PR _) FV ?_;refine AF (dpv 4 (vP b 0)) ?_;refine AF (dpv 5 (vP b 0)) ?_;refine AF (dfa 6 5 134 1 5 0 rfl) ?_;refine AF (dld 7 6 132 (.map (some b_r)) rfl (AW d5 rfl)) ?_;refine AF (dpv 8 (vP b1 3)) ?_;refine AF (dlb 9 0 3 b1 (vI s.place)) ?_;refine AF (dpv 10 (vP b1 5)) ?_;refine AF (dlb 11 0 5 b1 (vI s.sort)) ?_;refine AF (dpv 12 (.agg #[vI s.place,vI s.sort,.bool false])) ?_;refine JP (LkPr b_r MU (⟨s.place,s.sort,false⟩:HKey) (vI 0) (vI (DK (⟨s.place,s.sort,false⟩:HKey) H))) (MH b_is.1 (BT (⟨s.place,s.sort,false⟩:HKey) H)) (PS _ _ _) (FM (x:=(.tmp 7)) (y:=(.tmp 12)) (T:=132) (kt:=136) (et:=3) (k:=(⟨s.place,s.sort,false⟩:HKey)) (z:=vI 0) (d:=13) (ty:=3) (gd:=none) (by kernel_rfl) rfl (by kernel_rfl) (BK (by kernel_rfl) (by kernel_rfl)) rfl rfl (by kernel_rfl)) ?_;refine AF (dpv 14 (vP b1 7)) ?_;refine AF (dlb 15 0 7 b1 (vI s.amt)) ?_;have d7:=hH ⟨s.place,s.sort,false⟩;refine AY (da 16 (DK (⟨s.place,s.sort,false⟩:HKey) H) s.amt) ?_;refine CI (Mx:=fun FX=>((bX b1 (AV s) 28)::(b_r,Obj.map b_es b_cl)::FX)) rfl (fun FX=>by simp only [AA,CA,NA,List.append_nil];exact PR _) (fun FX=>?_);refine id (JV (d:=17) (x:=(.tmp 7)) (y:=(.tmp 12)) (T:=132) (kt:=136) (et:=3) (k:=(⟨s.place,s.sort,false⟩:HKey)) (H:=H) 1 (ty:=0) (gd:=none) (by kernel_rfl) rfl (by kernel_rfl) (BK (by kernel_rfl) (by kernel_rfl)) rfl rfl (by kernel_rfl) rfl b_is (fun d3 a8 d4 a6=>?_));refine DV (M1:=((bX b1 (AV s) 28)::(b_r,Obj.map d3 a8)::[])) (by exact (PR _)) (.none (.wt (.wt (.other (JN a6.1 rfl (BT (⟨s.place,s.sort,false⟩:HKey) H)) (PS _ _ _) (.wt (.wt (.wt (.wt (.wt (.wt (.wt (.wt (.wt .nil))))))))))))) ?_;show OFPX _ _ _ _ _ _ _ _ _ _ ((17,.tuple #[vI (DK (⟨s.place,s.sort,false⟩:HKey) H),vI ↑d4])::_) _ _;refine AF (dpv 18 (vI ↑d4)) ?_;refine ER (AZ (M':=((bX b1 (AV s) 28)::(b_r,Obj.map d3 a8)::F)) (fun w h=>by simpa only [AA,CA,NA,List.append_nil] using h) (nm ?_));refine sS (IC (x:=(.tmp 7)) (y:=(.tmp 18)) (u:=(.tmp 16)) (T:=132) (k:=(⟨s.place,s.sort,false⟩:HKey)) (v:=(DK (⟨s.place,s.sort,false⟩:HKey) H)+s.amt) 1 (ty:=0) (gd:=none) (by kernel_rfl) rfl rfl rfl rfl rfl a6 (fun d6 a9=>(nm (ee ?_))));refine ppm (PS _ _ _) ?_;refine FT ([(b_r,Obj.map d6 a8)]) (by kernel_rfl) (TK _ (TC _ (TR _))) (IR _) ?_;exact ⟨_,_,rfl,rfl,a9⟩
noncomputable def c_bscrap:=cod Tryz.f122
theorem bscrap_ct (I:Imm) (b:Nat) (b_1 b_2 b_3:Value) (b_r:Nat) (b_es:Array MapEntry) (b_cl:Nat) (L:Lin) (H:Hs) (s:Slip) (b_b:IsBook 134 I b b_1 b_2 b_3 b_r L) (b_is:MapH b_es b_cl H) (hH:Within 1000000 H) (ha:0≤s.amt∧s.amt≤50):Ct Tryz.prog 122 #[vP b 0,.agg #[vI s.num,vI s.hour,vI s.kind,vI s.place,vI s.to,vI s.sort,.bool s.soil,vI s.amt]] I ([(b_r,Obj.map b_es b_cl)]) (fun v I' M'=>∃ b_et:Array MapEntry,∃ b_ct:Nat,v=.tuple #[]∧M'=[(b_r,Obj.map b_et b_ct)]∧MapH b_et b_ct (PQ ⟨s.place,s.sort,true⟩ (-s.amt) H)):=by
 obtain ⟨d5,a1,a3,a5⟩:=id b_b;obtain ⟨b0,b3,b2,b6,a7,rfl,b4,b5,b7,b8⟩:=id a1;obtain ⟨b9,c1,c0,c4,rfl,c2,c3,c5⟩:=id a3;obtain ⟨c6,c8,c7,d1,rfl,c9,d0,d2⟩:=id a5;refine fr (args:=[_,_]) (N:=19) Tryz.func122 (fun F=>?_);show Run _ _ (c_bscrap []) _ _ [(0,_),(1,_)] _ _;refine rnm (rqr ?_);refine sS (sb 3 28 (AV s) (fun b1=>(se ?_)));refine rdX (M:=((bX b1 (AV s) 28)::(b_r,Obj.map b_es b_cl)::[])) (F0:=F) [] 15 [(0,true),(1,true),(2,true),(3,true),(4,true),(5,true),(6,true),(7,true),(8,true),(9,true),(10,true),(11,true),(12,true),(13,false),(14,true)] (by simp only [AA,CA,NA,List.append_nil];exact PR _) FV ?_;refine AF (dpv 4 (vP b 0)) ?_;refine AF (dpv 5 (vP b 0)) ?_;refine AF (dfa 6 5 134 1 5 0 rfl) ?_;refine AF (dld 7 6 132 (.map (some b_r)) rfl (AW d5 rfl)) ?_;refine AF (dpv 8 (vP b1 3)) ?_;refine AF (dlb 9 0 3 b1 (vI s.place)) ?_;refine AF (dpv 10 (vP b1 5)) ?_;refine AF (dlb 11 0 5 b1 (vI s.sort)) ?_;refine AF (dpv 12 (.agg #[vI s.place,vI s.sort,.bool true])) ?_;refine JP (LkPr b_r MU (⟨s.place,s.sort,true⟩:HKey) (vI 0) (vI (DK (⟨s.place,s.sort,true⟩:HKey) H))) (MH b_is.1 (BT (⟨s.place,s.sort,true⟩:HKey) H)) (PS _ _ _) (FM (x:=(.tmp 7)) (y:=(.tmp 12)) (T:=132) (kt:=136) (et:=3) (k:=(⟨s.place,s.sort,true⟩:HKey)) (z:=vI 0) (d:=13) (ty:=3) (gd:=none) (by kernel_rfl) rfl (by kernel_rfl) (BK (by kernel_rfl) (by kernel_rfl)) rfl rfl (by kernel_rfl)) ?_;refine AF (dpv 14 (vP b1 7)) ?_;refine AF (dlb 15 0 7 b1 (vI s.amt)) ?_;have d7:=hH ⟨s.place,s.sort,true⟩;refine AY (dsb 16 (DK (⟨s.place,s.sort,true⟩:HKey) H) s.amt) ?_;refine CI (Mx:=fun FX=>((bX b1 (AV s) 28)::(b_r,Obj.map b_es b_cl)::FX)) rfl (fun FX=>by simp only [AA,CA,NA,List.append_nil];exact PR _) (fun FX=>?_);refine id (JV (d:=17) (x:=(.tmp 7)) (y:=(.tmp 12)) (T:=132) (kt:=136) (et:=3) (k:=(⟨s.place,s.sort,true⟩:HKey)) (H:=H) 1 (ty:=0) (gd:=none) (by kernel_rfl) rfl (by kernel_rfl) (BK (by kernel_rfl) (by kernel_rfl)) rfl rfl (by kernel_rfl) rfl b_is (fun d3 a8 d4 a6=>?_));refine DV (M1:=((bX b1 (AV s) 28)::(b_r,Obj.map d3 a8)::[])) (by exact (PR _)) (.none (.wt (.wt (.other (JN a6.1 rfl (BT (⟨s.place,s.sort,true⟩:HKey) H)) (PS _ _ _) (.wt (.wt (.wt (.wt (.wt (.wt (.wt (.wt (.wt .nil))))))))))))) ?_;show OFPX _ _ _ _ _ _ _ _ _ _ ((17,.tuple #[vI (DK (⟨s.place,s.sort,true⟩:HKey) H),vI ↑d4])::_) _ _;refine AF (dpv 18 (vI ↑d4)) ?_;refine ER (AZ (M':=((bX b1 (AV s) 28)::(b_r,Obj.map d3 a8)::F)) (fun w h=>by simpa only [AA,CA,NA,List.append_nil] using h) (nm ?_));refine sS (IC (x:=(.tmp 7)) (y:=(.tmp 18)) (u:=(.tmp 16)) (T:=132) (k:=(⟨s.place,s.sort,true⟩:HKey)) (v:=(DK (⟨s.place,s.sort,true⟩:HKey) H)-s.amt) 1 (ty:=0) (gd:=none) (by kernel_rfl) rfl rfl rfl rfl rfl a6 (fun d6 a9=>(nm (ee ?_))));refine ppm (PS _ _ _) ?_;refine FT ([(b_r,Obj.map d6 a8)]) (by kernel_rfl) (TK _ (TC _ (TR _))) (IR _) ?_;exact ⟨_,_,rfl,rfl,a9⟩
noncomputable def c_less:=cod Tryz.f126
theorem less_ct (I:Imm) (b:Nat) (b_1 b_2 b_3:Value) (b_r:Nat) (b_es:Array MapEntry) (b_cl:Nat) (L:Lin) (H:Hs) (b_b:IsBook 134 I b b_1 b_2 b_3 b_r L) (b_is:MapH b_es b_cl H):Ct Tryz.prog 126 #[vP b 0] I ([(b_r,Obj.map b_es b_cl)]) (fun v I' M'=>∃ r:Nat,∃ es:Array MapEntry,∃ cl:Nat,∃ ks:List HKey,v=.map (some r)∧M'=[(b_r,Obj.map b_es b_cl)]++([(r,Obj.map es cl)])∧MapB MU es cl (NH ks)∧Negs ks H):=by
 obtain ⟨e9,a8,b0,b4⟩:=id b_b;obtain ⟨c6,c8,c7,d1,b9,rfl,c9,d0,d2,d3⟩:=id a8;obtain ⟨d4,d6,d5,d9,rfl,d7,d8,e0⟩:=id b0;obtain ⟨e1,e3,e2,e6,rfl,e4,e5,e7⟩:=id b4;refine fr (args:=[_]) (N:=22) Tryz.func126 (fun F=>?_);show Run _ _ (c_less []) _ _ [(0,_)] _ _;refine rnm (rqr ?_);refine sp 1 [(2,.map none)] (sn (sS (LB (d:=6) (T:=155) (ty:=155) (gd:=none) (by kernel_rfl) rfl (fun b1=>(sp 1 [(3,.map (some b1))] (se (rq (rqr (sp 2 [(8,vP b 0)] (sd (dfa 9 8 134 1 5 0 rfl) (sd (dld 10 9 132 (.map (some b_r)) rfl (AW e9 rfl)) (sS (stp_range (d:=11) (x:=(.tmp 10)) (T:=132) (kt:=136) (et:=3) (es:=b_es) (cl:=b_cl) (ty:=0) (gd:=none) (by kernel_rfl) rfl (by kernel_rfl) rfl (.inl (List.mem_of_getElem? (i:=1) rfl)) (fun b3=>(se (rb 0 ?_))))))))))))))));refine rl (fun mz a w=>∃ dn:Hs,∃ td:Hs,∃ ks:List HKey,∃ a2:Array MapEntry,∃ a1:Nat,∃ a4:Array Nat,((dn++td).Perm H)∧(NegP ks dn)∧(MapB MU a2 a1 (NH ks))∧(Go.Sl.Left MU b_es a4 (intV td))∧SD 22 [(2,.map none),(3,.map (some b1)),(11,vP b3 0)] I ((b3,Obj.mapIter (some b_r) b_cl a4 b_cl)::(b1,Obj.map a2 a1)::(b_r,Obj.map b_es b_cl)::F) a w (mz=td.length)) ?_ ?_
 ·intro a w hS hD hW;exact ⟨_,[],H,[],#[],0,#[],PR _,NegP.nil,(show MapB MU #[] 0 (NH []) from MapB.nil _ _),(Left.start b_is.1.1),hS.sub su,hD,hW,rfl⟩
 rintro mz a w ⟨dn,td,ks,a2,a1,a4,c5,c4,a3,a5,hS,hD,hW,rfl⟩
 refine AU hS hD hW ?_;refine rqr (sS (stp_nextH (d:=12) (x:=(.tmp 11)) (todo:=td) 0 (ty:=0) (gd:=none) (by kernel_rfl) rfl rfl rfl (.inl (List.mem_of_getElem? (i:=2) rfl)) b_is.1.2 a5 (fun c3=>?_) (fun b7 a0 b8 e8 a6 b5 c1=>?_)))
 ·
  refine sp 1 [(13,.bool false)] (se (rq (rcf 13 rfl (BR 0 (EP (EP (EB (NX (rqr (sp 2 [(2,.map (some b1))] (se (BD (ppm (((PC _ (PS _ _ _)).trans (PS _ _ _)).trans (PC _ (PS _ _ _))) (DL 2 ([(b_r,Obj.map b_es b_cl)]++([(b1,Obj.map a2 a1)])) rfl (by simp only [AA,NA,CA];exact (TK _ (TK _ (TC _ (TR _))))) (IR _) ?_))))))))))))));exact ⟨_,_,_,_,rfl,rfl,a3,c4.done c5 c3 b_is.2⟩
 show Seq _ _ _ _ _ _ ((12,.tuple #[.bool true,.agg #[vI a0.1.pl,vI a0.1.so,.bool a0.1.soil],vI a0.2])::_) _ _;refine nm ?_;refine sp 1 [(13,.bool true)] (se (rq (rct 13 rfl (AM (NX (rb 1 (rqr (sS (stp_entry (d:=14) (x:=(.tmp 11)) (enc:=MU) (y:=(a0.1,vI a0.2)) (ty:=0) (gd:=none) (by kernel_rfl) rfl rfl (List.mem_of_getElem? (i:=0) rfl) (.inl (List.mem_of_getElem? (i:=2) rfl)) b_is.1.2 c1 ?_)))))))));show Seq _ _ _ _ _ _ ((14,.tuple #[.agg #[vI a0.1.pl,vI a0.1.so,.bool a0.1.soil],vI a0.2])::_) _ _;refine sp 2 [(16,vI a0.2),(15,.agg #[vI a0.1.pl,vI a0.1.so,.bool a0.1.soil])] (sS (sal 4 136 #[vI 0,vI 0,.bool false] (fun b6=>(sS (ss 0 0 b6 [vI a0.1.pl,vI a0.1.so,.bool a0.1.soil] [vI a0.1.pl,vI a0.1.so,.bool a0.1.soil] (_::_::_::_::_) (cs:=[_,_,_]) rfl rfl (sp 1 [(5,vI a0.2)] (sn (sp 2 [(18,.bool (cmp .lss a0.2 0))] (se (rc 18 rfl (fun h1=>?_) (fun h1=>?_)))))))))))
 ·
  have c0:=h1;have h1:=BX h1;refine rr (sp 1 [(19,.map (some b1))] (sd (dnb 20 0 0 b6 [vI a0.1.pl,vI a0.1.so,.bool a0.1.soil]) (sS (stp_setTrue (x:=(.tmp 19)) (y:=(.tmp 20)) (u:=(.const (.bool true))) (T:=155) (kt:=136) (et:=4) (k:=a0.1) (ks:=ks) 2 (ty:=0) (gd:=none) (by kernel_rfl) rfl (by kernel_rfl) (BK (by kernel_rfl) (by kernel_rfl)) rfl rfl rfl rfl a3 (fun f1 f0 c2=>(nm (ee (NB ?_))))))));refine AO ((b7++b8).length) (took_len a6) ?_;intro a w hS hD hW;exact ⟨dn++[a0],b7++b8,_,f1,f0,e8,perm_took c5 a6,c4.add (by omega),c2,b5,hS.sub su,hD,(hW.perm (PR _)).sub (TC _ (TR _)),rfl⟩
 have c0:=h1;have h1:=CF h1;refine AM (NB ?_);refine AO ((b7++b8).length) (took_len a6) ?_;intro a w hS hD hW;exact ⟨dn++[a0],b7++b8,_,a2,a1,e8,perm_took c5 a6,c4.skip (by omega),a3,b5,hS.sub su,hD,(hW.perm (PR _)).sub (TC _ (TR _)),rfl⟩
noncomputable def c_byHour1:=cod Tryz.f150
theorem byHour1_ct (I:Imm) (a:Slip) (b:Slip) (hr:QY a∧QY b):CtV Tryz.prog 150 #[.agg #[vI a.num,vI a.hour,vI a.kind,vI a.place,vI a.to,vI a.sort,.bool a.soil,vI a.amt],.agg #[vI b.num,vI b.hour,vI b.kind,vI b.place,vI b.to,vI b.sort,.bool b.soil,vI b.amt]] I (vI (AC a b)):=by
 refine fr (args:=[_,_]) (N:=20) Tryz.func150 (fun F=>?_);show Run _ _ (c_byHour1 []) _ _ [(0,_),(1,_)] _ _;refine rnm ?_;obtain ⟨⟨hr1,hr2,hr3,hr4⟩,hr5,hr6,hr7,hr8⟩:=hr;refine rqr (sS (sb 2 28 (AV a) (fun b1=>(sS (sb 3 28 (AV b) (fun b3=>(sp 1 [(4,vI 0)] (se (rq (rqr (sp 1 [(5,vP b1 1)] (sd (dlb 6 1 1 b1 (vI a.hour)) (sp 1 [(7,vP b3 1)] (sd (dlb 8 0 1 b3 (vI b.hour)) (sp 1 [(9,.bool (!(cmp .eql a.hour b.hour)))] (se (rc 9 rfl (fun h1=>?_) (fun h1=>?_))))))))))))))))))
 ·
  have a0:=h1;have h1:=BG (BF h1);refine rqr (sp 1 [(10,vP b1 1)] (sd (dlb 11 1 1 b1 (vI a.hour)) (sp 1 [(12,vP b3 1)] (sd (dlb 13 0 1 b3 (vI b.hour)) (sd (dsb 14 a.hour b.hour) (sp 1 [(4,vI (a.hour-b.hour))] (se (BD (RP (DL 4 [] rfl (TC _ (TC _ (TR _))) (IR _) ?_))))))))));exact ⟨congrArg (Value.int .i64) (if_pos h1).symm,rfl⟩
 have a0:=h1;have h1:=BE (BC h1);refine AM (NX (rqr (sp 1 [(15,vP b1 0)] (sd (dlb 16 1 0 b1 (vI a.num)) (sp 1 [(17,vP b3 0)] (sd (dlb 18 0 0 b3 (vI b.num)) (sd (dsb 19 a.num b.num) (sp 1 [(4,vI (a.num-b.num))] (se (BD (DL 4 [] rfl (TC _ (TC _ (TR _))) (IR _) ?_)))))))))));exact ⟨congrArg (Value.int .i64) (if_neg (fun x=>x h1)).symm,rfl⟩
noncomputable def c_insSort:=cod Tryz.f175
theorem insSort_ct (I:Imm) (d:Value) (xs:List Slip) (d_Ms:Seg) (u:Nat) (v:Nat) (d_h:Own 28 8 AX d xs d_Ms) (h0:u=0) (hb:v=xs.length) (hsm:∀ x∈xs,QY x) (hl:xs.length≤1000000):Ct Tryz.prog 175 #[d,vI ↑u,vI ↑v,.func (.func 150) #[] #[]] I d_Ms (fun v I' M'=>∃ d_Mt:Seg,v=.tuple #[]∧M'=d_Mt∧Own 28 8 AX d (AG AC xs) d_Mt):=by
 obtain ⟨a3,a4,rfl,c7⟩:=d_h.shape;refine fr (args:=[_,_,_,_]) (N:=53) Tryz.func175 (fun F=>?_);show Run _ _ (c_insSort []) _ _ [(0,_),(1,_),(2,_),(3,_)] _ _;refine rnm (rqr ?_);refine sp 1 [(10,vI ↑u)] (sd (da 11 ↑u 1) (EE 11 rfl (show (vI (↑u+1):Value)=vI (↑(1:Nat)) from congrArg (Value.int .i64) (by omega)) (sp 1 [(8,vI (↑(1:Nat)))] (se (rb 0 ?_)))));refine rl (fun mz a w=>∃ i:Nat,∃ zs:List Slip,∃ a2:Seg,(1≤i)∧(InsI AC xs zs i)∧(zs.Perm xs)∧(Own 28 8 AX (vS a3 xs.length a4) zs a2)∧SD 53 [(0,(vS a3 xs.length a4)),(8,vI ↑i),(1,vI ↑u),(2,vI ↑v),(3,.func (.func 150) #[] #[])] I (a2++F) a w (mz=xs.length-i)) ?_ ?_
 ·intro a w hS hD hW;exact ⟨_,1,xs,d_Ms,Nat.le_refl _,InsI.start,PR _,d_h,hS.sub su,hD,hW,rfl⟩
 rintro mz a w ⟨i,zs,a2,c8,b1,c5,a8,hS,hD,hW,rfl⟩
 refine AU hS hD hW ?_;have d1:=b1.len;refine rq (rqr (sp 3 [(14,.bool (cmp .lss ↑i ↑v))] (se (rc 14 rfl (fun h1=>?_) (fun h1=>?_)))))
 ·
  have c1:=h1;have h1:=BX h1;refine AM (NX (rq (rb 1 (rqr (sp 2 [(9,vI ↑i)] (se (rb 2 ?_)))))));refine rl (fun mz a w=>∃ j:Nat,∃ ys:List Slip,∃ a0:Seg,(InsAt AC AB xs ys i j)∧(ys.Perm xs)∧(Own 28 8 AX (vS a3 xs.length a4) ys a0)∧SD 53 [(0,(vS a3 xs.length a4)),(9,vI ↑j),(1,vI ↑u),(2,vI ↑v),(3,.func (.func 150) #[] #[]),(8,vI ↑i)] I (a0++F) a w (mz=j+1)) ?_ ?_
  ·intro a w hS hD hW;exact ⟨_,i,zs,a2,b1.into (by omega),c5,a8,hS.sub su,hD,hW,rfl⟩
  rintro mz a w ⟨j,ys,a0,b9,a7,a1,hS,hD,hW,rfl⟩
  refine AU hS hD hW ?_;have d0:=b9.len;have c9:=b9.1;refine rq (rq ?_);refine BV (fun a w=>SE 53 [(0,vS a3 xs.length a4),(1,vI ↑u),(2,vI ↑v),(3,.func (.func 150) #[] #[]),(8,vI ↑i),(9,vI ↑j),(34,.bool ((cmp .gtr ↑j ↑u)&&(cmp .lss (AC (ys.getD j AB) (ys.getD ((↑j-1:Int).toNat) AB)) 0)))] I (a0++F) a w) ?_ ?_
  ·
   refine rd0 14 (ox 4 [(21,.bool (cmp .gtr ↑j ↑u))] ?_);refine IA 21 (fun h2=>?_) (fun h2=>?_)
   ·
    have a5:=h2;have a5:=JY a5;refine ox 3 [(24,vI ↑j),(23,vS a3 xs.length a4),(22,.func (.func 150) #[] #[])] ?_;obtain ⟨d2,b5⟩:=a1.row AB;refine AD (di 25 8 j (fun _=>b5.addr (by omega)) (n:=xs.length)) ?_;refine AD (dn 26 (MM (vals:=CV) (fun _=>rfl) b5 (fun x hx=>by simp [hx]) j (by omega))) (ox 2 [(28,vI ↑j),(27,vS a3 xs.length a4)] ?_);refine AD (dsb 29 ↑j 1) ?_;obtain ⟨d3,b6⟩:=a1.row AB;refine AD (diI 30 8 (↑j-1) (fun _=>b6.addr (by omega)) (n:=xs.length)) ?_;refine AD (dn 31 (MM (vals:=CV) (fun _=>rfl) b6 (fun x hx=>by simp [hx]) ((↑j-1:Int).toNat) (by omega))) ?_;refine BA (sd (dc 32 (fun I' hI=>(byHour1_ct I' (ys.getD j AB) (ys.getD ((↑j-1:Int).toNat) AB) (by exact ⟨hsm _ (a7.subset (BJ (by omega))),hsm _ (a7.subset (BJ (by omega)))⟩) :))) (sp 2 [(34,.bool (cmp .lss (AC (ys.getD j AB) (ys.getD ((↑j-1:Int).toNat) AB)) 0))] (ee ?_)));refine AL (fun a w hS hD hW=>⟨hS.sub (sun 6 (.consE 34 rfl (congrArg Value.bool (by simp only [h2,kk])) (.nil _))),hD,hW⟩)
   have a5:=h2;have a5:=MB a5;refine ox 10 [(31,undef),(26,undef),(22,undef)] ?_;refine BA (sp 3 [(34,.bool false)] (ee ?_));refine AL (fun a w hS hD hW=>⟨hS.sub (sun 6 (.consE 34 rfl (congrArg Value.bool (by simp only [h2,kk])) (.nil _))),hD,hW⟩)
  rintro a w ⟨hS,hD,hW⟩
  refine AU hS hD hW ?_;refine rc 34 rfl (fun h3=>?_) (fun h3=>?_)
  ·
   have c2:=h3;obtain ⟨b3,b0⟩:=LQ h3;have b3:=JY b3;have b0:=BX b0;refine AM (NX (rq (rb 3 ?_)));refine rdX (M:=(a0++[])) (F0:=F) [] 16 [(0,true),(1,true),(2,true),(3,true),(4,true),(5,true),(6,true),(7,true),(8,true),(9,true),(10,true),(11,true),(12,true),(13,true),(14,true),(15,false)] (by simp only [AA,CA,NA,List.append_nil];exact PR _) FV ?_;refine AF (dpv 37 (vS a3 xs.length a4)) ?_;refine AF (dpv 38 (vI ↑j)) ?_;refine AY (dpv 39 (vS a3 xs.length a4)) ?_;refine AY (dpv 40 (vI ↑j)) ?_;refine AY (dsb 41 ↑j 1) ?_;refine AF (dpv 42 (vS a3 xs.length a4)) ?_;refine AF (dpv 43 (vI ↑j)) ?_;refine AF (dsb 44 ↑j 1) ?_;obtain ⟨d4,b7⟩:=a1.row AB;refine AF (diI 45 8 (↑j-1) (fun _=>b7.addr (by omega)) (n:=xs.length)) ?_;refine AF (dn 46 (MM (vals:=CV) (fun _=>rfl) b7 (fun x hx=>by simp [hx]) ((↑j-1:Int).toNat) (by omega))) ?_;refine AF (dpv 47 (vS a3 xs.length a4)) ?_;refine AF (dpv 48 (vI ↑j)) ?_;obtain ⟨d5,b8⟩:=a1.row AB;refine AF (di 49 8 j (fun _=>b8.addr (by omega)) (n:=xs.length)) ?_;refine AF (dn 50 (MM (vals:=CV) (fun _=>rfl) b8 (fun x hx=>by simp [hx]) j (by omega))) ?_;obtain ⟨d6,a9⟩:=a1.row AB;refine AF (di 51 8 j (fun _=>a9.addr (by omega)) (n:=xs.length)) ?_;refine CI (Mx:=fun FX=>(a0++FX)) rfl (fun FX=>by simp only [AA,CA,NA,List.append_nil];exact PR _) (fun FX=>?_);refine id (HB (T:=28) (x:=(.tmp 51)) (y:=(.tmp 46)) (rc:=fun i f=>AX ((ys).getD i AB) f) AB j (ys.getD ((↑j-1:Int).toNat) AB) (ty:=0) (gd:=none) (by kernel_rfl) rfl a1 a9 (by omega) rfl rfl (by kernel_rfl) rfl (ML _) (PR _) (fun b2 b4=>?_));refine DV (M1:=(b2++[])) (by simp only [AA,CA,NA,List.append_nil];exact (PR _)) (.wt (.wt (.wt (.wt (.wt (.wt (.wt (.wt (.wt (.wt (.none (.none (.none (.wt (.wt .nil))))))))))))))) ?_;refine ER (AZ (M':=(b2++F)) (fun w h=>by simpa only [AA,CA,NA,List.append_nil] using h) (nm ?_));obtain ⟨c6,a6⟩:=b4.row AB;simp only [LS] at a6;refine sd (diI 52 8 (↑j-1) (fun _=>a6.addr (by omega)) (n:=xs.length)) (sS (HB (T:=28) (x:=(.tmp 52)) (y:=(.tmp 50)) (rc:=fun i f=>AX ((ys.set j (ys.getD ((↑j-1:Int).toNat) AB)).getD i AB) f) AB ((↑j-1:Int).toNat) (ys.getD j AB) (ty:=0) (gd:=none) (by kernel_rfl) rfl b4 (by simpa only [LS] using a6) (by simp only [LS];omega) rfl rfl (by kernel_rfl) rfl (ML _) (PR _) (fun c0 c3=>(nm (ee (NB (NX (rr ?_))))))));refine sp 1 [(35,vI ↑j)] (sd (dsb 36 ↑j 1) (sp 1 [(9,vI (↑j-1))] (ee ?_)));refine AO ((↑j-1:Int).toNat+1) (by omega) ?_;intro a w hS hD hW;exact ⟨(↑j-1:Int).toNat,(ys.set j (ys.getD ((↑j-1:Int).toNat) AB)).set ((↑j-1:Int).toNat) (ys.getD j AB),c0,b9.step (by omega) b0,(swapG (by omega) (by omega)).trans a7,c3,hS.sub (.consE 0 rfl rfl (.consE 9 rfl (congrArg (Value.int .i64) (by omega)) su)),hD,hW,rfl⟩
  have c2:=h3;refine BR 2 (EP (EP (EB (NB (NX (rr (sp 1 [(15,vI ↑i)] (sd (da 16 ↑i 1) (sp 1 [(8,vI (↑i+1))] (ee ?_))))))))));refine AO (xs.length-(i+1)) (by omega) ?_;intro a w hS hD hW;exact ⟨i+1,ys,a0,by omega,b9.done2 h0 h3,a7,a1,hS.sub su,hD,hW,rfl⟩
 have c1:=h1;have h1:=CF h1;refine BR 0 (EP (EP (EB ?_)));refine FT a2 (by kernel_rfl) (TA (TR _) _) (IR _) ?_;exact ⟨_,rfl,rfl,((b1.done (by omega))▸a8)⟩
noncomputable def c_stable:=cod Tryz.f166
theorem stable_ct (I:Imm) (d:Value) (xs:List Slip) (d_Ms:Seg) (v:Nat) (d_h:Own 28 8 AX d xs d_Ms) (hb:v=xs.length) (hsm:∀ x∈xs,QY x) (hl:xs.length<20):Ct Tryz.prog 166 #[d,vI ↑v,.func (.func 150) #[] #[]] I d_Ms (fun v I' M'=>∃ d_Mt:Seg,v=.tuple #[]∧M'=d_Mt∧Own 28 8 AX d (AG AC xs) d_Mt):=by
 obtain ⟨a1,a2,rfl,b2⟩:=d_h.shape;refine fr (args:=[_,_,_]) (N:=63) Tryz.func166 (fun F=>?_);show Run _ _ (c_stable []) _ _ [(0,_),(1,_),(2,_)] _ _;refine rnm (rqr ?_);refine sp 1 [(6,vI 20)] (sn (sp 3 [(8,vI 20),(7,vI 0)] (se (rq (rb 0 ?_)))));refine rl (fun mz a w=>∃ k:Nat,(k=0)∧SD 63 [(7,vI 0),(8,vI 20),(0,vS a1 xs.length a2),(1,vI ↑v),(2,.func (.func 150) #[] #[]),(6,vI 20)] I (d_Ms++F) a w (mz=k+1)) ?_ ?_
 ·intro a w hS hD hW;exact ⟨_,0,rfl,hS.sub su,hD,hW,rfl⟩
 rintro mz a w ⟨k,b0,hS,hD,hW,rfl⟩
 refine AU hS hD hW ?_;refine rq (rqr (sp 3 [(13,.bool (cmp .leq (↑(20:Nat)) ↑v))] (se (rc 13 rfl (fun h1=>?_) (fun h1=>?_)))))
 ·
  have a3:=h1;have h1:=leq_t h1;omega
 have a3:=h1;have h1:=leq_f h1;refine BR 0 (EP (EP (EB (NX (rqr (sp 4 [(26,.func (.func 150) #[] #[]),(25,vI ↑v),(24,vI (↑(0:Nat))),(23,vS a1 xs.length a2)] (sS (sc (some 27) (F:=(F)) (insSort_ct _ _ _ _ 0 v d_h (by rfl) (by omega) (by exact hsm) (by omega) :) (.refl _) (fun b4 I1 b3 a5 b1=>?_)))))))));obtain ⟨a0,a8,a7,a6⟩:=b1;rw [a8,a7];clear a8 a7;refine nm (se (rb 2 ?_));refine rl (fun mz a w=>∃ k:Nat,(k=0)∧SD 63 [(6,vI 20),(0,vS a1 xs.length a2),(1,vI ↑v),(2,.func (.func 150) #[] #[])] I1 (a0++F) a w (mz=k+1)) ?_ ?_
 ·intro a w hS hD hW;exact ⟨_,0,rfl,hS.sub su,hD,hW,rfl⟩
 rintro mz a w ⟨k,b0,hS,hD,hW,rfl⟩
 refine AU hS hD hW ?_;refine rq (rqr (sp 3 [(30,.bool (cmp .lss (↑(20:Nat)) ↑v))] (se (rc 30 rfl (fun h2=>?_) (fun h2=>?_)))))
 ·
  have a4:=h2;have h2:=BX h2;omega
 have a4:=h2;have h2:=CF h2;refine BR 2 (EP (EP (EB ?_)));refine FT a0 (by kernel_rfl) (TA (TR _) _) a5 ?_;exact ⟨_,rfl,rfl,a6⟩
noncomputable def c_SortStable:=cod Tryz.f149
theorem SortStable_ct (I:Imm) (d:Value) (xs:List Slip) (d_Ms:Seg) (d_h:Own 28 8 AX d xs d_Ms) (hsm:∀ x∈xs,QY x) (hl:xs.length<20):Ct Tryz.prog 149 #[d,.func (.func 150) #[] #[]] I d_Ms (fun v I' M'=>∃ d_Mt:Seg,v=.tuple #[]∧M'=d_Mt∧Own 28 8 AX d (AG AC xs) d_Mt):=by
 obtain ⟨a3,a4,rfl,a9⟩:=d_h.shape;refine fr (args:=[_,_]) (N:=9) Tryz.func149 (fun F=>?_);show Run _ _ (c_SortStable []) _ _ [(0,_),(1,_)] _ _;refine rnm (rr ?_);refine sp 4 [(7,.func (.func 150) #[] #[]),(6,vI (↑(xs.length))),(4,vS a3 xs.length a4)] (sS (sc (some 8) (F:=(F)) (stable_ct _ _ _ _ xs.length d_h (by rfl) (by exact hsm) (by omega) :) (.refl _) (fun b1 I1 b0 a1 a8=>?_)));obtain ⟨a0,a6,a5,a2⟩:=a8;rw [a6,a5];clear a6 a5;refine nm (ee ?_);refine FT a0 (by kernel_rfl) (TA (TR _) _) a1 ?_;exact ⟨_,rfl,rfl,a2⟩
noncomputable def c_CloneSlip:=cod Tryz.f139
theorem JF (I:Imm) (z:Value) (xs:List Slip) (z_f:FY I z xs) (hl:xs.length≤1000000):Ct Tryz.prog 139 #[z] I ([]) (fun v I' M'=>∃ u:Value,∃ Ms:Seg,v=u∧M'=Ms∧Own 28 8 AX u xs Ms):=by
 obtain ⟨a2,a3,b3,b6,rfl,b4,b5,b0⟩:=id z_f;refine fr (args:=[_]) (N:=8) Tryz.func139 (fun F=>?_);show Run _ _ (c_CloneSlip []) _ _ [(0,_)] _ _;refine rnm (rqr ?_);refine sp 1 [(2,vN)] (se (rq (rqr (sp 1 [(3,vS a2 xs.length a3)] (sd (det_eqnil (e:=28) (x:=(.tmp 3)) (y:=(.const vN)) (T:=24) (T':=24) (d:=4) (ty:=4) (gd:=none) (by kernel_rfl) rfl (by kernel_rfl) rfl rfl) (se (rc 4 rfl (fun h1=>?_) (fun h1=>?_))))))))
 ·
  have a0:=h1;refine rqr (sp 1 [(2,vN)] (se (BD (RP ?_))));obtain rfl:=b0.nil h1;refine PB (t:=2) ([]) (by kernel_rfl) rfl (TR _) (IR _) ?_;exact ⟨_,_,rfl,rfl,Own.nil _ _ _⟩
 have a0:=h1;refine AM (NX (rqr (sS (sbs 5 28 0 #[] (fun b1=>(sp 1 [(6,vS a2 xs.length a3)] ?_))))));have a5:Own 28 8 AX (vS (some ⟨b1,0,none⟩) 0 0) ([]:List Slip) [(bX b1 #[] 28)]:=Own.lit rfl rfl;refine sS (sap (d:=7) 5 6 24 28 8 64 (.agg IQ) AX ([]:List Slip) xs [(bX b1 #[] 28)] rfl rfl a5 (PR _) (CD _) z_f.src (fun v4 a4 a1=>?_));rw [NA] at a1;refine nm ?_;obtain ⟨a6,a7,rfl,b2⟩:=a1.shape;refine sp 1 [(2,vS a6 xs.length a7)] (se (BD (DL 2 a4 rfl (TA (TR _) _) (IR _) ?_)));exact ⟨_,_,rfl,rfl,a1⟩
noncomputable def c_sorted:=cod Tryz.f124
theorem sorted_ct (I:Imm) (s:Value) (xs:List Slip) (s_f:FY I s xs) (hsm:∀ x∈xs,QY x) (hl:xs.length<20):Ct Tryz.prog 124 #[s,.func (.func 150) #[] #[]] I ([]) (fun v I' M'=>∃ u:Value,∃ Ms:Seg,v=u∧M'=Ms∧Own 28 8 AX u (AG AC xs) Ms):=by
 obtain ⟨b3,b4,c4,c7,rfl,c5,c6,c8⟩:=id s_f;refine fr (args:=[_,_]) (N:=12) Tryz.func124 (fun F=>?_);show Run _ _ (c_sorted []) _ _ [(0,_),(1,_)] _ _;refine rnm (rqr ?_);refine sp 1 [(4,vN)] (sn (sp 1 [(6,vS b3 xs.length b4)] (sS (sc (some 7) (JF _ _ _ s_f (by omega) :) (.refl _) (fun c3 I1 b6 a7 b5=>?_)))));obtain ⟨u6,c2,b1,b0,b2⟩:=b5;rw [b1,b0];clear b1 b0;obtain ⟨a1,a2,rfl,c0⟩:=b2.shape;refine nm ?_;refine sp 1 [(5,vS a1 xs.length a2)] (sn (sp 2 [(9,.func (.func 150) #[] #[]),(8,vS a1 xs.length a2)] (sS (sc (some 10) (F:=(F)) (SortStable_ct _ _ _ _ b2 (by exact hsm) (by omega) :) (.refl _) (fun b8 c1 b7 a3 a8=>?_)))));obtain ⟨a0,a5,a4,a6⟩:=a8;rw [a5,a4];clear a5 a4;refine nm (sn ?_);refine sp 2 [(4,vS a1 xs.length a2)] (se (BD (DL 4 a0 rfl (TA (TR _) _) (IT a7 a3) ?_)));exact ⟨_,_,rfl,rfl,a6⟩
noncomputable def c_byHour:=cod Tryz.f125
theorem byHour_ct (I:Imm):Ct Tryz.prog 125 #[] I ([]) (fun v I' M'=>v=.agg #[.func (.func 150) #[] #[]]∧M'=[]):=by
 refine fr (args:=[]) (N:=2) Tryz.func125 (fun F=>?_);show Run _ _ (c_byHour []) _ _ [] _ _;refine rnm (rqr ?_);refine sS (sal 0 153 #[.nilFunc] (fun b1=>(sn (sp 1 [(1,.agg #[.func (.func 150) #[] #[]])] (sS (ss 0 0 b1 [.func (.func 150) #[] #[]] [.func (.func 150) #[] #[]] (_::_) (cs:=[_]) rfl rfl (se (BD (ES (t:=0) (T:=153) (n:=1) [] (by kernel_rfl) rfl (by kernel_rfl) rfl (snm [.func (.func 150) #[] #[]] b1 153) (.inl ⟨by kernel_rfl,rfl⟩) (TC _ (TR _)) (IR _) ?_)))))))));exact ⟨rfl,rfl⟩
end Go.Proofs.YtgcemienebmdeaaGreat

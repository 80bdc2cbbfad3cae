/- A part of the proof of the laws of this seat. -/
import Derived.Test.YtgcemienebmdeaaGreatDoorLinenTextsP5
import Derived.Test.YtgcemienebmdeaaGreatDoorP2
import Derived.Test.YtgcemienebmdeaaGreatDoorP1
import Derived.Test.YtgcemienebmdeaaGreatDoorP3
set_option linter.unusedVariables false
set_option linter.unusedSimpArgs false
namespace Go.Proofs.YtgcemienebmdeaaGreatDoor
open Go Go.Sl Go.Sh
set_option maxRecDepth 100000
noncomputable def c_rcheckStart:=cod Tryz.f108
theorem rcheckStart_ct (I:Imm) (l:Value) (L:Lin) (l_f:IsLin I l L):CtV Tryz.prog 108 #[l] I (vI (KQ L)):=by
 obtain ⟨l1,l2,l3,rfl,d1,d3,d5⟩:=id l_f;obtain ⟨a0,a1,d8,e1,d7,rfl,d9,e0,a4,b3⟩:=id d1;obtain ⟨a5,a6,e2,e5,rfl,e3,e4,e6⟩:=id d3;obtain ⟨a7,a8,e7,f0,rfl,e8,e9,f1⟩:=id d5;refine fr (args:=[_]) (N:=65) Tryz.func108 (fun F=>?_);show Run _ _ (c_rcheckStart []) _ _ [(0,_)] _ _;refine rnm (rqr ?_);refine sS (sb 1 26 (AZ L (vS a0 L.start.length a1) (vS a5 L.keeps.length a6) (vS a7 L.slips.length a8)) (fun b1=>(sp 1 [(2,vI 0)] (se (rq (rq ?_))))));refine BC (fun a w=>SE 65 [(1,vP b1 0),(2,vI 0),(15,.bool ((!(inB L.places 1 4))||(!(inB L.sorts 1 2))))] I ((bX b1 (AZ L (vS a0 L.start.length a1) (vS a5 L.keeps.length a6) (vS a7 L.slips.length a8)) 26)::F) a w) ?_ ?_
 ·
  refine rr (sp 1 [(6,vP b1 0)] (sd (dlb 7 0 0 b1 (vI L.places)) (sd (dc 8 (fun I' hI=>(DL I' L.places 1 4 :))) (sp 2 [(10,.bool (!(inB L.places 1 4)))] ?_))));refine AQ 10 rfl (fun h1=>?_) (fun h1=>?_)
  ·
   have a2:=h1;have a2:=BO a2;have a9:=HY a2;refine sp 5 [(15,.bool true)] (ee ?_);refine AG (fun a w hS hD hW=>⟨hS.sub (sun 2 (.consE 15 rfl (congrArg Value.bool (by simp only [h1,kk])) (.nil _))),hD,hW⟩)
  have a2:=h1;have a2:=BK a2;have a9:=DI a2;refine sp 1 [(11,vP b1 1)] (sd (dlb 12 0 1 b1 (vI L.sorts)) (sd (dc 13 (fun I' hI=>(DL I' L.sorts 1 2 :))) (sp 2 [(15,.bool (!(inB L.sorts 1 2)))] (ee ?_))));refine AG (fun a w hS hD hW=>⟨hS.sub (sun 2 (.consE 15 rfl (congrArg Value.bool (by simp only [h1,kk])) (.nil _))),hD,hW⟩)
 rintro a w ⟨hS,hD,hW⟩
 refine AP hS hD hW ?_;refine rc 15 rfl (fun h2=>?_) (fun h2=>?_)
 ·
  have a3:=h2;refine rqr (sp 1 [(2,vI 1)] (se (BF (RP (DY 2 [] rfl (TC _ (TR _)) (IR _) ?_)))));exact ⟨congrArg (Value.int .i64) (RR a3).symm,rfl⟩
 have a3:=h2;obtain ⟨b0,b2⟩:=SW h2;have b0:=BK b0;have c1:=DI b0;have b2:=BK b2;have c2:=DI b2;refine AM (NX (rq (rqr (sp 1 [(16,vP b1 2)] (sd (dlb 17 0 2 b1 (vS a0 L.start.length a1)) (sp 2 [(19,vP b1 0),(18,vI (↑(L.start.length)))] (sd (dlb 20 0 0 b1 (vI L.places)) (sp 1 [(21,.bool (!(cmp .eql (↑(L.start.length)) L.places)))] (se (rc 21 rfl (fun h3=>?_) (fun h3=>?_)))))))))))
 ·
  have c3:=h3;have h3:=BG (BO h3);refine rqr (sp 1 [(2,vI 2)] (se (BF (RP (DY 2 [] rfl (TC _ (TR _)) (IR _) ?_)))));exact ⟨congrArg (Value.int .i64) ((LR a3).trans (startErr_1 (by omega))).symm,rfl⟩
 have c3:=h3;have h3:=BI (BK h3);refine AM (NX (rq (rqr (sp 1 [(3,vI 0)] (se (rb 0 ?_))))));refine rl (fun mz a w=>∃ k:Nat,(k≤L.start.length)∧(∀ r∈L.start.take k,(fun r=>decide ((r.length:Int)=L.sorts)) r=true)∧SD 65 [(3,vI ↑k),(1,vP b1 0)] I ((bX b1 (AZ L (vS a0 L.start.length a1) (vS a5 L.keeps.length a6) (vS a7 L.slips.length a8)) 26)::F) a w (mz=L.start.length-k)) ?_ ?_
 ·intro a w hS hD hW;exact ⟨_,0,Nat.zero_le _,(fun x h=>by simp at h),hS.sub su,hD,hW,rfl⟩
 rintro mz a w ⟨k,hk,ha,hS,hD,hW,rfl⟩
 refine AP hS hD hW ?_;refine rq (rqr (sp 2 [(23,vP b1 2),(22,vI ↑k)] (sd (dlb 24 0 2 b1 (vS a0 L.start.length a1)) (sp 2 [(26,.bool (cmp .lss ↑k (↑(L.start.length))))] (se (rc 26 rfl (fun h4=>?_) (fun h4=>?_)))))))
 ·
  have c4:=h4;have h4:=BW h4;refine AM (NX (rq (rb 1 (rq ?_))));refine rd0 8 (ox 1 [(29,vP b1 2)] ?_);refine AC (dlb 30 0 2 b1 (vS a0 L.start.length a1)) (ox 1 [(31,vI ↑k)] ?_);refine AC (di 32 1 k a4.addr) ?_;have b5:=b3 k (by omega);obtain ⟨f3,f5,f4,f8,b4,f6,f7,f9⟩:=id b5;rw [b4] at b5;refine AC (DC (dl 33 (GX a4 k (by omega))) b4) (ox 2 [(35,vP b1 1),(34,vI (↑((L.start.getD k []).length)))] ?_);refine AC (dlb 36 0 1 b1 (vI L.sorts)) ?_;refine BJ (sp 1 [(37,.bool (!(cmp .eql (↑((L.start.getD k []).length)) L.sorts)))] (se (rc 37 rfl (fun h5=>?_) (fun h5=>?_))))
  ·
   have c5:=h5;have h5:=BG (BO h5);refine rqr (sp 1 [(2,vI 2)] (se (BF (RB (RP (RP (RB (RP (DY 2 [] rfl (TC _ (TR _)) (IR _) ?_)))))))));exact ⟨congrArg (Value.int .i64) ((LR a3).trans (startErr_2 (k:=k) (by omega) (by omega) h5)).symm,rfl⟩
  have c5:=h5;have h5:=BI (BK h5);refine AM (NB (NX (rr (sp 1 [(27,vI ↑k)] (sd (da 28 ↑k 1) (sp 1 [(3,vI (↑k+1))] (ee ?_)))))));refine AN (L.start.length-(k+1)) (by omega) ?_;intro a w hS hD hW;exact ⟨k+1,by omega,NM (d:=[]) ha (by omega) (decide_eq_true h5),hS.sub su,hD,hW,rfl⟩
 have c4:=h4;have h4:=CB h4;refine BX 0 (EP (EP (EB (NX (rq (rq ?_))))));have d6:(L.start.all fun r=>decide ((r.length:Int)=L.sorts))=true:=SQ ha (by omega);refine rr (sp 1 [(4,vI 0)] (se (rb 2 ?_)));refine rl (fun mz a w=>∃ i:Nat,(i≤L.start.length)∧(∀ r∈L.start.take i,(r.all fun n=>inB n 0 50)=true)∧SD 65 [(4,vI ↑i),(1,vP b1 0)] I ((bX b1 (AZ L (vS a0 L.start.length a1) (vS a5 L.keeps.length a6) (vS a7 L.slips.length a8)) 26)::F) a w (mz=L.start.length-i)) ?_ ?_
 ·intro a w hS hD hW;exact ⟨_,0,Nat.zero_le _,(fun x h=>by simp at h),hS.sub su,hD,hW,rfl⟩
 rintro mz a w ⟨i,hi,hb,hS,hD,hW,rfl⟩
 refine AP hS hD hW ?_;refine rq (rqr (sp 2 [(39,vP b1 2),(38,vI ↑i)] (sd (dlb 40 0 2 b1 (vS a0 L.start.length a1)) (sp 2 [(42,.bool (cmp .lss ↑i (↑(L.start.length))))] (se (rc 42 rfl (fun h6=>?_) (fun h6=>?_)))))))
 ·
  have c6:=h6;have h6:=BW h6;refine AM (NX (rq (rb 3 (rqr (sp 1 [(5,vI 0)] (se (rb 4 ?_)))))));refine rl (fun mz a w=>∃ m:Nat,(m≤(L.start.getD i []).length)∧(∀ x∈(L.start.getD i []).take m,(fun n=>inB n 0 50) x=true)∧SD 65 [(5,vI ↑m),(1,vP b1 0),(4,vI ↑i)] I ((bX b1 (AZ L (vS a0 L.start.length a1) (vS a5 L.keeps.length a6) (vS a7 L.slips.length a8)) 26)::F) a w (mz=(L.start.getD i []).length-m)) ?_ ?_
  ·intro a w hS hD hW;exact ⟨_,0,Nat.zero_le _,(fun x h=>by simp at h),hS.sub su,hD,hW,rfl⟩
  rintro mz a w ⟨m,hm,hc,hS,hD,hW,rfl⟩
  refine AP hS hD hW ?_;refine rq (rqr (sp 2 [(46,vP b1 2),(45,vI ↑m)] (sd (dlb 47 0 2 b1 (vS a0 L.start.length a1)) (sp 1 [(48,vI ↑i)] (sd (di 49 1 i a4.addr) ?_)))));have b7:=b3 i (by omega);obtain ⟨g0,g2,g1,g5,b6,g3,g4,g6⟩:=id b7;rw [b6] at b7;refine sd (DC (dl 50 (GX a4 i (by omega))) b6) (sp 2 [(52,.bool (cmp .lss ↑m (↑((L.start.getD i []).length))))] (se (rc 52 rfl (fun h7=>?_) (fun h7=>?_))))
  ·
   have c7:=h7;have h7:=BW h7;refine AM (NX (rq (rb 5 (rqr (sp 1 [(55,vP b1 2)] (sd (dlb 56 0 2 b1 (vS a0 L.start.length a1)) (sp 1 [(57,vI ↑i)] (sd (di 58 1 i a4.addr) ?_))))))));have b9:=b3 i (by omega);obtain ⟨g7,g9,g8,i0,b8,h0,h9,c0⟩:=id b9;rw [b8] at b9;refine sd (DC (dl 59 (GX a4 i (by omega))) b8) (sp 1 [(60,vI ↑m)] (sd (di 61 1 m c0.addr) (sd (dl 62 (BL c0 m (by omega))) (sd (dc 63 (fun I' hI=>(DL I' ((L.start.getD i []).getD m 0) 0 50 :))) (sp 1 [(64,.bool (!(inB ((L.start.getD i []).getD m 0) 0 50)))] (se (rc 64 rfl (fun h8=>?_) (fun h8=>?_))))))))
   ·
    have c9:=h8;have h8:=BO h8;have c8:=HY h8;refine rqr (sp 1 [(2,vI 1)] (se (BF (RB (RP (RP (RB (RB (RP (RP (RB (RP (DY 2 [] rfl (TC _ (TR _)) (IR _) ?_)))))))))))));exact ⟨congrArg (Value.int .i64) ((LR a3).trans (startErr_3r (k:=i) (m:=m) (by omega) d6 (by omega) (by omega) h8)).symm,rfl⟩
   have c9:=h8;have h8:=BK h8;have c8:=DI h8;refine AM (NB (NX (rr (sp 1 [(53,vI ↑m)] (sd (da 54 ↑m 1) (sp 1 [(5,vI (↑m+1))] (ee ?_)))))));refine AN ((L.start.getD i []).length-(m+1)) (by omega) ?_;intro a w hS hD hW;exact ⟨m+1,by omega,NM (d:=0) hc (by omega) h8,hS.sub su,hD,hW,rfl⟩
  have c7:=h7;have h7:=CB h7;refine BX 4 (EP (EP (EB (NB (NX (rr (sp 1 [(43,vI ↑i)] (sd (da 44 ↑i 1) (sp 1 [(4,vI (↑i+1))] (ee ?_))))))))));refine AN (L.start.length-(i+1)) (by omega) ?_;intro a w hS hD hW;exact ⟨i+1,by omega,NM (d:=[]) hb (by omega) (SQ hc (by omega)),hS.sub su,hD,hW,rfl⟩
 have c6:=h6;have h6:=CB h6;refine BX 2 (EP (EP (EB (NX (rqr (sp 1 [(2,vI 0)] (se (BF (DY 2 [] rfl (TC _ (TR _)) (IR _) ?_)))))))));exact ⟨congrArg (Value.int .i64) ((LR a3).trans (startErr_4r (k:=i) (by omega) d6 (by omega) hb)).symm,rfl⟩
noncomputable def c_rcheckKeeps:=cod Tryz.f109
theorem rcheckKeeps_ct (I:Imm) (l:Value) (L:Lin) (l_f:IsLin I l L) (hp:1≤L.places∧L.places≤4):CtV Tryz.prog 109 #[l] I (vI (CW L)):=by
 obtain ⟨l1,l2,l3,rfl,c8,d0,d2⟩:=id l_f;obtain ⟨a4,a5,d7,e0,d6,rfl,d8,d9,e1,e2⟩:=id c8;obtain ⟨a0,a1,b8,b9,rfl,e3,e4,a2⟩:=id d0;obtain ⟨a6,a7,e5,e8,rfl,e6,e7,e9⟩:=id d2;refine fr (args:=[_]) (N:=64) Tryz.func109 (fun F=>?_);show Run _ _ (c_rcheckKeeps []) _ _ [(0,_)] _ _;refine rnm (rqr ?_);refine sS (sb 1 26 (AZ L (vS a4 L.start.length a5) (vS a0 L.keeps.length a1) (vS a6 L.slips.length a7)) (fun b1=>(sp 1 [(2,vI 0)] (se (rq (rqr (sp 1 [(6,vP b1 3)] (sd (dlb 7 0 3 b1 (vS a0 L.keeps.length a1)) (sp 2 [(9,.bool (cmp .gtr (↑(L.keeps.length)) 4))] (se (rc 9 rfl (fun h1=>?_) (fun h1=>?_))))))))))))
 ·
  have c0:=h1;have h1:=JG h1;refine rqr (sp 1 [(2,vI 6)] (se (BF (RP (DY 2 [] rfl (TC _ (TR _)) (IR _) ?_)))));exact ⟨congrArg (Value.int .i64) (PN (by omega)).symm,rfl⟩
 have c0:=h1;have h1:=KC h1;refine AM (NX (rq (rqr (sp 1 [(3,vI 0)] (se (rb 0 ?_))))));refine rl (fun mz a w=>∃ J0:Imm,∃ k:Nat,(I.le J0)∧(k≤L.keeps.length)∧(FP (FD L) k=0)∧SD 64 [(3,vI ↑k),(1,vP b1 0)] J0 ((bX b1 (AZ L (vS a4 L.start.length a5) (vS a0 L.keeps.length a1) (vS a6 L.slips.length a7)) 26)::F) a w (mz=L.keeps.length-k)) ?_ ?_
 ·intro a w hS hD hW;exact ⟨_,I,0,IR _,Nat.zero_le _,rfl,hS.sub su,hD,hW,rfl⟩
 rintro mz a w ⟨J0,k,hJ0,hk,hz,hS,hD,hW,rfl⟩
 refine AP hS hD hW ?_;replace a2:=a2.mono hJ0;refine rq (rqr (sp 2 [(11,vP b1 3),(10,vI ↑k)] (sd (dlb 12 0 3 b1 (vS a0 L.keeps.length a1)) (sp 2 [(14,.bool (cmp .lss ↑k (↑(L.keeps.length))))] (se (rc 14 rfl (fun h2=>?_) (fun h2=>?_)))))))
 ·
  have c1:=h2;have h2:=BW h2;refine AM (NX (rq (rb 1 (rqr (sp 1 [(17,vP b1 3)] (sd (dlb 18 0 3 b1 (vS a0 L.keeps.length a1)) (sp 1 [(19,vI ↑k)] (sd (di 20 3 k a2.addr) (sd (dln 21 20 75 (OQ (L.keeps.getD k AK)) rfl (DR (vals:=IG) (fun _=>rfl) a2 k (by omega))) (sS (sal 4 75 #[vI 0,vI 0,vI 0] (fun b3=>(sS (ss 0 0 b3 (OQ (L.keeps.getD k AK)) (OQ (L.keeps.getD k AK)) (_::_::_) (cs:=[_,_,_]) rfl rfl (se (rq (rqr (sp 1 [(22,vP b3 0)] (sd (dlb 23 0 0 b3 (vI ((L.keeps.getD k AK).place))) (sp 1 [(24,vP b1 0)] (sd (dlb 25 1 0 b1 (vI L.places)) (sd (dsb 26 L.places 1) (sd (dc 27 (fun I' hI=>(DL I' ((L.keeps.getD k AK).place) 0 (L.places-1) :))) (sp 1 [(28,.bool (!(inB ((L.keeps.getD k AK).place) 0 (L.places-1))))] (se (rc 28 rfl (fun h3=>?_) (fun h3=>?_)))))))))))))))))))))))))))
  ·
   have c3:=h3;have h3:=BO h3;have c2:=HY h3;refine rqr (sp 1 [(2,vI 3)] (se (BF (RP (RB (RP (RP (RB (RP (DY 2 [] rfl (TC _ (TC _ (TR _))) hJ0 ?_))))))))));exact ⟨congrArg (Value.int .i64) (GG (by omega) hz (by omega) (keepErr_3 h3) (by decide)).symm,rfl⟩
  have c3:=h3;have h3:=BK h3;have c2:=DI h3;refine AM (NX (rq (rq ?_)));refine BC (fun a w=>SE 64 [(1,vP b1 0),(3,vI ↑k),(4,vP b3 0),(38,.bool ((!(inB ((L.keeps.getD k AK).hour) 0 200))||(!(inB ((L.keeps.getD k AK).who) 1 9))))] J0 ((bX b3 (OC (L.keeps.getD k AK)) 75)::(bX b1 (AZ L (vS a4 L.start.length a5) (vS a0 L.keeps.length a1) (vS a6 L.slips.length a7)) 26)::F) a w) ?_ ?_
  ·
   refine rr (sp 1 [(29,vP b3 1)] (sd (dlb 30 0 1 b3 (vI ((L.keeps.getD k AK).hour))) (sd (dc 31 (fun I' hI=>(DL I' ((L.keeps.getD k AK).hour) 0 200 :))) (sp 2 [(33,.bool (!(inB ((L.keeps.getD k AK).hour) 0 200)))] ?_))));refine AQ 33 rfl (fun h4=>?_) (fun h4=>?_)
   ·
    have a3:=h4;have a3:=BO a3;have a9:=HY a3;refine sp 5 [(38,.bool true)] (ee ?_);refine AG (fun a w hS hD hW=>⟨hS.sub (sun 3 (.consE 38 rfl (congrArg Value.bool (by simp only [h4,kk])) (.nil _))),hD,hW⟩)
   have a3:=h4;have a3:=BK a3;have a9:=DI a3;refine sp 1 [(34,vP b3 2)] (sd (dlb 35 0 2 b3 (vI ((L.keeps.getD k AK).who))) (sd (dc 36 (fun I' hI=>(DL I' ((L.keeps.getD k AK).who) 1 9 :))) (sp 2 [(38,.bool (!(inB ((L.keeps.getD k AK).who) 1 9)))] (ee ?_))));refine AG (fun a w hS hD hW=>⟨hS.sub (sun 3 (.consE 38 rfl (congrArg Value.bool (by simp only [h4,kk])) (.nil _))),hD,hW⟩)
  rintro a w ⟨hS,hD,hW⟩
  refine AP hS hD hW ?_;refine rc 38 rfl (fun h5=>?_) (fun h5=>?_)
  ·
   have b4:=h5;refine rqr (sp 1 [(2,vI 1)] (se (BF (RP (RB (RP (RP (RB (RP (DY 2 [] rfl (TC _ (TC _ (TR _))) hJ0 ?_))))))))));exact ⟨congrArg (Value.int .i64) (GG (by omega) hz (by omega) (keepErr_1r h3 b4) (by decide)).symm,rfl⟩
  have b4:=h5;obtain ⟨b0,b2⟩:=SW h5;have b0:=BK b0;have c4:=DI b0;have b2:=BK b2;have c5:=DI b2;refine AM (NX (rq ?_));have d5:=h3;have d3:=b4;refine rr (sp 1 [(5,vI 0)] (se (rb 2 ?_)));refine rl (fun mz a w=>∃ m:Nat,(m≤k)∧(∀ q,q<m→(cmp .eql (L.keeps.getD q AK).place (L.keeps.getD k AK).place&&cmp .eql (L.keeps.getD q AK).hour (L.keeps.getD k AK).hour)=false)∧SD 64 [(5,vI ↑m),(1,vP b1 0),(3,vI ↑k),(4,vP b3 0)] J0 ((bX b3 (OC (L.keeps.getD k AK)) 75)::(bX b1 (AZ L (vS a4 L.start.length a5) (vS a0 L.keeps.length a1) (vS a6 L.slips.length a7)) 26)::F) a w (mz=k-m)) ?_ ?_
  ·intro a w hS hD hW;exact ⟨_,0,Nat.zero_le _,(fun q hq=>by omega),hS.sub su,hD,hW,rfl⟩
  rintro mz a w ⟨m,hm,d4,hS,hD,hW,rfl⟩
  refine AP hS hD hW ?_;refine rq (rqr (sp 3 [(41,.bool (cmp .lss ↑m ↑k))] (se (rc 41 rfl (fun h6=>?_) (fun h6=>?_)))))
  ·
   have c6:=h6;have h6:=BW h6;refine AM (NX (rq (rb 3 (rq ?_))));refine BC (fun a w=>SE 64 [(1,vP b1 0),(3,vI ↑k),(4,vP b3 0),(5,vI ↑m),(63,.bool ((cmp .eql ((L.keeps.getD m AK).place) ((L.keeps.getD k AK).place))&&(cmp .eql ((L.keeps.getD m AK).hour) ((L.keeps.getD k AK).hour))))] J0 ((bX b3 (OC (L.keeps.getD k AK)) 75)::(bX b1 (AZ L (vS a4 L.start.length a5) (vS a0 L.keeps.length a1) (vS a6 L.slips.length a7)) 26)::F) a w) ?_ ?_
   ·
    refine rd0 18 (ox 1 [(44,vP b1 3)] ?_);refine AC (dlb 45 1 3 b1 (vS a0 L.keeps.length a1)) (ox 1 [(46,vI ↑m)] ?_);refine AC (di 47 3 m a2.addr) (ox 1 [(48,.pointer (some ⟨b8,b9+m*3,none⟩))] ?_);refine AC (dl 49 (MH a2 m (by omega) 0 (by decide) (v:=vI ((L.keeps.getD m AK).place)) rfl)) (ox 1 [(50,vP b3 0)] ?_);refine AC (dlb 51 0 0 b3 (vI ((L.keeps.getD k AK).place))) (ox 2 [(53,.bool (cmp .eql ((L.keeps.getD m AK).place) ((L.keeps.getD k AK).place)))] ?_);refine JV 53 (fun h7=>?_) (fun h7=>?_)
    ·
     have a8:=h7;have a8:=BI a8;refine ox 1 [(54,vP b1 3)] ?_;refine AC (dlb 55 1 3 b1 (vS a0 L.keeps.length a1)) (ox 1 [(56,vI ↑m)] ?_);refine AC (di 57 3 m a2.addr) (ox 1 [(58,.pointer (some ⟨b8,b9+m*3+1,none⟩))] ?_);refine AC (dl 59 (MH a2 m (by omega) 1 (by decide) (v:=vI ((L.keeps.getD m AK).hour)) rfl)) (ox 1 [(60,vP b3 1)] ?_);refine AC (dlb 61 0 1 b3 (vI ((L.keeps.getD k AK).hour))) ?_;refine BJ (sp 2 [(63,.bool (cmp .eql ((L.keeps.getD m AK).hour) ((L.keeps.getD k AK).hour)))] (ee ?_));refine AG (fun a w hS hD hW=>⟨hS.sub (sun 4 (.consE 63 rfl (congrArg Value.bool (by simp only [h7,kk])) (.nil _))),hD,hW⟩)
    have a8:=h7;have a8:=BG a8;refine ox 8 [(61,undef),(59,undef)] ?_;refine BJ (sp 2 [(63,.bool false)] (ee ?_));refine AG (fun a w hS hD hW=>⟨hS.sub (sun 4 (.consE 63 rfl (congrArg Value.bool (by simp only [h7,kk])) (.nil _))),hD,hW⟩)
   rintro a w ⟨hS,hD,hW⟩
   refine AP hS hD hW ?_;refine rc 63 rfl (fun h8=>?_) (fun h8=>?_)
   ·
    have b5:=h8;obtain ⟨b6,b7⟩:=JP h8;have b6:=BI b6;have b7:=BI b7;refine rqr (sp 1 [(2,vI 4)] (se (BF (RB (RP (RP (RB (RB (RP (RP (RB (RP (DY 2 [] rfl (TC _ (TC _ (TR _))) hJ0 ?_)))))))))))));exact ⟨congrArg (Value.int .i64) (GG (by omega) hz (by omega) (keepErr_4r d5 d3 (by omega) (by omega) b5) (by decide)).symm,rfl⟩
   have b5:=h8;refine AM (NB (NX (rr (sp 1 [(42,vI ↑m)] (sd (da 43 ↑m 1) (sp 1 [(5,vI (↑m+1))] (ee ?_)))))));refine AN (k-(m+1)) (by omega) ?_;intro a w hS hD hW;exact ⟨m+1,by omega,LG d4 b5,hS.sub su,hD,hW,rfl⟩
  have c6:=h6;have h6:=CB h6;refine BX 2 (EP (EP (EB (NB (NX (rr (sp 1 [(15,vI ↑k)] (sd (da 16 ↑k 1) (sp 1 [(3,vI (↑k+1))] (ee ?_))))))))));refine AN (L.keeps.length-(k+1)) (by omega) ?_;intro a w hS hD hW;exact ⟨J0,k+1,hJ0,by omega,MB hz (keepErr_0r d5 d3 (fun q hq=>d4 q (by omega))),hS.sub su,hD,(hW.perm (PR _)).sub (TC _ (TR _)),rfl⟩
 have c1:=h2;have h2:=CB h2;refine BX 0 (EP (EP (EB (NX (rqr (sp 1 [(2,vI 0)] (se (BF (DY 2 [] rfl (TC _ (TR _)) hJ0 ?_)))))))));exact ⟨congrArg (Value.int .i64) (PP (by omega) hz (by omega)).symm,rfl⟩
noncomputable def c_rcheckSlip:=cod Tryz.f110
theorem rcheckSlip_ct (I:Imm) (l:Value) (L:Lin) (s:Slip) (l_f:IsLin I l L) (hp:1≤L.places∧L.places≤4) (hq:1≤L.sorts∧L.sorts≤2):CtV Tryz.prog 110 #[l,.agg #[vI s.num,vI s.hour,vI s.kind,vI s.place,vI s.to,vI s.sort,.bool s.soil,vI s.amt]] I (vI (DN L s)):=by
 obtain ⟨l1,l2,l3,rfl,f8,g0,g2⟩:=id l_f;obtain ⟨b8,b9,g6,g9,g5,rfl,g7,g8,h0,i0⟩:=id f8;obtain ⟨c0,c1,i1,i4,rfl,i2,i3,i5⟩:=id g0;obtain ⟨c2,c3,i6,i9,rfl,i7,i8,j0⟩:=id g2;refine fr (args:=[_,_]) (N:=72) Tryz.func110 (fun F=>?_);show Run _ _ (c_rcheckSlip []) _ _ [(0,_),(1,_)] _ _;refine rnm (rqr ?_);refine sS (sb 2 26 (AZ L (vS b8 L.start.length b9) (vS c0 L.keeps.length c1) (vS c2 L.slips.length c3)) (fun b1=>(sS (sb 3 29 (AV s) (fun b3=>(sp 1 [(4,vI 0)] (se (rq (rq ?_)))))))));refine BC (fun a w=>SE 72 [(2,vP b1 0),(3,vP b3 0),(4,vI 0),(15,.bool ((!(inB s.num 1 999))||(!(inB s.hour 0 200))))] I ((bX b3 (AV s) 29)::(bX b1 (AZ L (vS b8 L.start.length b9) (vS c0 L.keeps.length c1) (vS c2 L.slips.length c3)) 26)::F) a w) ?_ ?_
 ·
  refine rr (sp 1 [(6,vP b3 0)] (sd (dlb 7 0 0 b3 (vI s.num)) (sd (dc 8 (fun I' hI=>(DL I' s.num 1 999 :))) (sp 2 [(10,.bool (!(inB s.num 1 999)))] ?_))));refine AQ 10 rfl (fun h1=>?_) (fun h1=>?_)
  ·
   have b7:=h1;have b7:=BO b7;have d4:=HY b7;refine sp 5 [(15,.bool true)] (ee ?_);refine AG (fun a w hS hD hW=>⟨hS.sub (sun 3 (.consE 15 rfl (congrArg Value.bool (by simp only [h1,kk])) (.nil _))),hD,hW⟩)
  have b7:=h1;have b7:=BK b7;have d4:=DI b7;refine sp 1 [(11,vP b3 1)] (sd (dlb 12 0 1 b3 (vI s.hour)) (sd (dc 13 (fun I' hI=>(DL I' s.hour 0 200 :))) (sp 2 [(15,.bool (!(inB s.hour 0 200)))] (ee ?_))));refine AG (fun a w hS hD hW=>⟨hS.sub (sun 3 (.consE 15 rfl (congrArg Value.bool (by simp only [h1,kk])) (.nil _))),hD,hW⟩)
 rintro a w ⟨hS,hD,hW⟩
 refine AP hS hD hW ?_;refine rc 15 rfl (fun h2=>?_) (fun h2=>?_)
 ·
  have a0:=h2;refine rqr (sp 1 [(4,vI 1)] (se (BF (RP (DY 4 [] rfl (TC _ (TC _ (TR _))) (IR _) ?_)))));exact ⟨congrArg (Value.int .i64) (by first | (simp only [EC,JD,a0,cond_true,cond_false];done) | (exfalso;simp only [ Bool.not_true,Bool.and_false,Bool.false_and] at a0;cases a0)),rfl⟩
 have a0:=h2;obtain ⟨d5,d6⟩:=SW h2;have d5:=BK d5;have f0:=DI d5;have d6:=BK d6;have f1:=DI d6;refine AM (NX (rq (rqr (sp 1 [(16,vP b3 2)] (sd (dlb 17 0 2 b3 (vI s.kind)) (sd (dc 18 (fun I' hI=>(DL I' s.kind 1 6 :))) (sp 1 [(19,.bool (!(inB s.kind 1 6)))] (se (rc 19 rfl (fun h3=>?_) (fun h3=>?_))))))))))
 ·
  have a1:=h3;have h3:=BO h3;have f2:=HY h3;refine rqr (sp 1 [(4,vI 8)] (se (BF (RP (DY 4 [] rfl (TC _ (TC _ (TR _))) (IR _) ?_)))));exact ⟨congrArg (Value.int .i64) (by first | (simp only [EC,JD,a0,a1,cond_true,cond_false];done) | (exfalso;simp only [a0,Bool.not_true,Bool.and_false,Bool.false_and] at a1;cases a1)),rfl⟩
 have a1:=h3;have h3:=BK h3;have f2:=DI h3;refine AM (NX (rq (rqr (sp 1 [(20,vP b3 3)] (sd (dlb 21 0 3 b3 (vI s.place)) (sp 1 [(22,vP b1 0)] (sd (dlb 23 1 0 b1 (vI L.places)) (sd (dsb 24 L.places 1) (sd (dc 25 (fun I' hI=>(DL I' s.place 0 (L.places-1) :))) (sp 1 [(26,.bool (!(inB s.place 0 (L.places-1))))] (se (rc 26 rfl (fun h4=>?_) (fun h4=>?_)))))))))))))
 ·
  have a2:=h4;have h4:=BO h4;have f3:=HY h4;refine rqr (sp 1 [(4,vI 3)] (se (BF (RP (DY 4 [] rfl (TC _ (TC _ (TR _))) (IR _) ?_)))));exact ⟨congrArg (Value.int .i64) (by first | (simp only [EC,JD,a0,a1,a2,cond_true,cond_false];done) | (exfalso;simp only [a0,a1,Bool.not_true,Bool.and_false,Bool.false_and] at a2;cases a2)),rfl⟩
 have a2:=h4;have h4:=BK h4;have f3:=DI h4;refine AM (NX (rq (rqr (sp 1 [(27,vP b3 2)] (sd (dlb 28 0 2 b3 (vI s.kind)) (sp 1 [(29,.bool (cmp .eql s.kind 1))] (se (rc 29 rfl (fun h5=>?_) (fun h5=>?_)))))))))
 ·
  have a3:=h5;have h5:=BI h5;refine rq (rqr (sp 1 [(30,vP b3 4)] (sd (dlb 31 0 4 b3 (vI s.to)) (sp 1 [(32,vP b1 0)] (sd (dlb 33 1 0 b1 (vI L.places)) (sd (dsb 34 L.places 1) (sd (dc 35 (fun I' hI=>(DL I' s.to 0 (L.places-1) :))) (sp 1 [(36,.bool (!(inB s.to 0 (L.places-1))))] (se (rc 36 rfl (fun h6=>?_) (fun h6=>?_)))))))))))
  ·
   have a7:=h6;have h6:=BO h6;have f4:=HY h6;refine rqr (sp 1 [(4,vI 3)] (se (BF (RP (RP (DY 4 [] rfl (TC _ (TC _ (TR _))) (IR _) ?_))))));exact ⟨congrArg (Value.int .i64) (by first | (simp only [EC,JD,a0,a1,a2,a3,a7,cond_true,cond_false];done) | (exfalso;simp only [a0,a1,a2,a3,Bool.not_true,Bool.and_false,Bool.false_and] at a7;cases a7)),rfl⟩
  have a7:=h6;have h6:=BK h6;have f4:=DI h6;refine AM (NX (rqr (sp 1 [(37,vP b3 4)] (sd (dlb 38 0 4 b3 (vI s.to)) (sp 1 [(39,vP b3 3)] (sd (dlb 40 0 3 b3 (vI s.place)) (sp 1 [(41,.bool (cmp .eql s.to s.place))] (se (rc 41 rfl (fun h7=>?_) (fun h7=>?_))))))))))
  ·
   have a9:=h7;have h7:=BI h7;refine rqr (sp 1 [(4,vI 4)] (se (BF (RP (DY 4 [] rfl (TC _ (TC _ (TR _))) (IR _) ?_)))));exact ⟨congrArg (Value.int .i64) (by first | (simp only [EC,JD,a0,a1,a2,a3,a7,a9,cond_true,cond_false];done) | (exfalso;simp only [a0,a1,a2,a3,a7,Bool.not_true,Bool.and_false,Bool.false_and] at a9;cases a9)),rfl⟩
  have a9:=h7;have h7:=BG h7;refine AM (NX (rq (rqr (sp 1 [(45,vP b3 5)] (sd (dlb 46 0 5 b3 (vI s.sort)) (sp 1 [(47,vP b1 1)] (sd (dlb 48 1 1 b1 (vI L.sorts)) (sd (dsb 49 L.sorts 1) (sd (dc 50 (fun I' hI=>(DL I' s.sort 0 (L.sorts-1) :))) (sp 1 [(51,.bool (!(inB s.sort 0 (L.sorts-1))))] (se (rc 51 rfl (fun h8=>?_) (fun h8=>?_)))))))))))))
  ·
   have b4:=h8;have h8:=BO h8;have f5:=HY h8;refine rqr (sp 1 [(4,vI 3)] (se (BF (RP (DY 4 [] rfl (TC _ (TC _ (TR _))) (IR _) ?_)))));exact ⟨congrArg (Value.int .i64) (by first | (simp only [EC,JD,a0,a1,a2,a3,a7,a9,b4,cond_true,cond_false];done) | (exfalso;simp only [a0,a1,a2,a3,a7,a9,Bool.not_true,Bool.and_false,Bool.false_and] at b4;cases b4)),rfl⟩
  have b4:=h8;have h8:=BK h8;have f5:=DI h8;refine AM (NX (rq (rq ?_)));refine BC (fun a w=>SE 72 [(3,vP b3 0),(4,vI 0),(63,.bool ((s.soil)&&((!(cmp .eql s.kind 1))&&(!(cmp .eql s.kind 4)))))] I ((bX b3 (AV s) 29)::(bX b1 (AZ L (vS b8 L.start.length b9) (vS c0 L.keeps.length c1) (vS c2 L.slips.length c3)) 26)::F) a w) ?_ ?_
  ·
   refine rr (sp 1 [(52,vP b3 6)] (sd (dlb 53 0 6 b3 (.bool s.soil)) (sp 1 [(54,.bool s.soil)] ?_)));refine AQ 54 rfl (fun h9=>?_) (fun h9=>?_)
   ·
    have f6:=h9;refine sp 1 [(55,vP b3 2)] (sd (dlb 56 0 2 b3 (vI s.kind)) (sp 3 [(59,.bool (!(cmp .eql s.kind 1)))] ?_));refine AQ 59 rfl (fun d8=>?_) (fun d8=>?_)
    ·
     have b5:=d8;have b5:=BG (BO b5);refine sp 1 [(60,vP b3 2)] (sd (dlb 61 0 2 b3 (vI s.kind)) (sp 2 [(63,.bool (!(cmp .eql s.kind 4)))] (ee ?_)));refine AG (fun a w hS hD hW=>⟨hS.sub (sun 2 (.consE 63 rfl (congrArg Value.bool (by simp only [h9,d8,kk])) (.nil _))),hD,hW⟩)
    have b5:=d8;have b5:=BI (BK b5);refine sp 4 [(63,.bool false)] (ee ?_);refine AG (fun a w hS hD hW=>⟨hS.sub (sun 2 (.consE 63 rfl (congrArg Value.bool (by simp only [h9,d8,kk])) (.nil _))),hD,hW⟩)
   have f6:=h9;refine sp 9 [(63,.bool false)] (ee ?_);refine AG (fun a w hS hD hW=>⟨hS.sub (sun 2 (.consE 63 rfl (congrArg Value.bool (by simp only [h9,kk])) (.nil _))),hD,hW⟩)
  rintro a w ⟨hS,hD,hW⟩
  refine AP hS hD hW ?_;refine rc 63 rfl (fun e8=>?_) (fun e8=>?_)
  ·
   have a8:=e8;obtain ⟨g3,d9⟩:=JP e8;obtain ⟨c4,c5⟩:=JP d9;have c4:=BG (BO c4);have c5:=BG (BO c5);refine rqr (sp 1 [(4,vI 1)] (se (BF (RP (DY 4 [] rfl (TC _ (TC _ (TR _))) (IR _) ?_)))));exact ⟨congrArg (Value.int .i64) (by first | (simp only [EC,JD,a0,a1,a2,a3,a7,a9,b4,a8,cond_true,cond_false];done) | (exfalso;simp only [a0,a1,a2,a3,a7,a9,b4,Bool.not_true,Bool.and_false,Bool.false_and] at a8;cases a8)),rfl⟩
  have a8:=e8;refine AM (NX (rqr (sp 1 [(5,vI 1)] (se (rq ?_)))));refine BC (fun a w=>SE 72 [(3,vP b3 0),(4,vI 0),(5,vI (if s.kind=4 then 0 else 1))] I ((bX b3 (AV s) 29)::(bX b1 (AZ L (vS b8 L.start.length b9) (vS c0 L.keeps.length c1) (vS c2 L.slips.length c3)) 26)::F) a w) ?_ ?_
  ·
   refine rqr (sp 1 [(64,vP b3 2)] (sd (dlb 65 0 2 b3 (vI s.kind)) (sp 1 [(66,.bool (cmp .eql s.kind 4))] (se (rc 66 rfl (fun c8=>?_) (fun c8=>?_))))))
   ·
    have e0:=c8;have c8:=BI c8;refine rr (sp 1 [(5,vI 0)] (ee ?_));exact AG (fun a w hS hD hW=>⟨hS.sub (sun 2 (.consE 5 rfl (least_t c8) (.nil _))),hD,hW⟩)
   have e0:=c8;have c8:=BG c8;refine AM ?_;exact AG (fun a w hS hD hW=>⟨hS.sub (sun 2 (.consE 5 rfl (least_f c8) (.nil _))),hD,hW⟩)
  rintro a w ⟨hS,hD,hW⟩
  refine AP hS hD hW ?_;refine rq (rqr (sp 1 [(67,vP b3 7)] (sd (dlb 68 0 7 b3 (vI s.amt)) (sp 1 [(69,vI (if s.kind=4 then 0 else 1))] (sd (dc 70 (fun I' hI=>(DL I' s.amt (if s.kind=4 then 0 else 1) 50 :))) (sp 1 [(71,.bool (!(inB s.amt (if s.kind=4 then 0 else 1) 50)))] (se (rc 71 rfl (fun c9=>?_) (fun c9=>?_)))))))))
  ·
   have b0:=c9;have c9:=BO c9;have e1:=HY c9;refine rqr (sp 1 [(4,vI 1)] (se (BF (RP (DY 4 [] rfl (TC _ (TC _ (TR _))) (IR _) ?_)))));exact ⟨congrArg (Value.int .i64) (by first | (simp only [EC,JD,a0,a1,a2,a3,a7,a9,b4,a8,b0,cond_true,cond_false];done) | (exfalso;simp only [a0,a1,a2,a3,a7,a9,b4,a8,Bool.not_true,Bool.and_false,Bool.false_and] at b0;cases b0)),rfl⟩
  have b0:=c9;have c9:=BK c9;have e1:=DI c9;refine AM (NX (rqr (sp 1 [(4,vI 0)] (se (BF (DY 4 [] rfl (TC _ (TC _ (TR _))) (IR _) ?_))))));exact ⟨congrArg (Value.int .i64) (by first | (simp only [EC,JD,a0,a1,a2,a3,a7,a9,b4,a8,b0,cond_true,cond_false];done) | (exfalso;simp only [a0,a1,a2,a3,a7,a9,b4,a8,Bool.not_true,Bool.and_false,Bool.false_and] at b0;cases b0)),rfl⟩
 have a3:=h5;have h5:=BG h5;refine rqr (sp 1 [(42,vP b3 4)] (sd (dlb 43 0 4 b3 (vI s.to)) (sp 1 [(44,.bool (!(cmp .eql s.to 0)))] (se (rc 44 rfl (fun d3=>?_) (fun d3=>?_))))))
 ·
  have a4:=d3;have d3:=BG (BO d3);refine rqr (sp 1 [(4,vI 1)] (se (BF (RP (DY 4 [] rfl (TC _ (TC _ (TR _))) (IR _) ?_)))));exact ⟨congrArg (Value.int .i64) (by first | (simp only [EC,JD,a0,a1,a2,a3,a4,cond_true,cond_false];done) | (exfalso;simp only [a0,a1,a2,a3,Bool.not_true,Bool.and_false,Bool.false_and] at a4;cases a4)),rfl⟩
 have a4:=d3;have d3:=BI (BK d3);refine AM (NX (rq (rqr (sp 1 [(45,vP b3 5)] (sd (dlb 46 0 5 b3 (vI s.sort)) (sp 1 [(47,vP b1 1)] (sd (dlb 48 1 1 b1 (vI L.sorts)) (sd (dsb 49 L.sorts 1) (sd (dc 50 (fun I' hI=>(DL I' s.sort 0 (L.sorts-1) :))) (sp 1 [(51,.bool (!(inB s.sort 0 (L.sorts-1))))] (se (rc 51 rfl (fun d0=>?_) (fun d0=>?_)))))))))))))
 ·
  have a6:=d0;have d0:=BO d0;have e2:=HY d0;refine rqr (sp 1 [(4,vI 3)] (se (BF (RP (DY 4 [] rfl (TC _ (TC _ (TR _))) (IR _) ?_)))));exact ⟨congrArg (Value.int .i64) (by first | (simp only [EC,JD,a0,a1,a2,a3,a4,a6,cond_true,cond_false];done) | (exfalso;simp only [a0,a1,a2,a3,a4,Bool.not_true,Bool.and_false,Bool.false_and] at a6;cases a6)),rfl⟩
 have a6:=d0;have d0:=BK d0;have e2:=DI d0;refine AM (NX (rq (rq ?_)));refine BC (fun a w=>SE 72 [(3,vP b3 0),(4,vI 0),(63,.bool ((s.soil)&&((!(cmp .eql s.kind 1))&&(!(cmp .eql s.kind 4)))))] I ((bX b3 (AV s) 29)::(bX b1 (AZ L (vS b8 L.start.length b9) (vS c0 L.keeps.length c1) (vS c2 L.slips.length c3)) 26)::F) a w) ?_ ?_
 ·
  refine rr (sp 1 [(52,vP b3 6)] (sd (dlb 53 0 6 b3 (.bool s.soil)) (sp 1 [(54,.bool s.soil)] ?_)));refine AQ 54 rfl (fun d7=>?_) (fun d7=>?_)
  ·
   have e3:=d7;refine sp 1 [(55,vP b3 2)] (sd (dlb 56 0 2 b3 (vI s.kind)) (sp 3 [(59,.bool (!(cmp .eql s.kind 1)))] ?_));refine AQ 59 rfl (fun e4=>?_) (fun e4=>?_)
   ·
    have b6:=e4;have b6:=BG (BO b6);refine sp 1 [(60,vP b3 2)] (sd (dlb 61 0 2 b3 (vI s.kind)) (sp 2 [(63,.bool (!(cmp .eql s.kind 4)))] (ee ?_)));refine AG (fun a w hS hD hW=>⟨hS.sub (sun 2 (.consE 63 rfl (congrArg Value.bool (by simp only [d7,e4,kk])) (.nil _))),hD,hW⟩)
   have b6:=e4;have b6:=BI (BK b6);refine sp 4 [(63,.bool false)] (ee ?_);refine AG (fun a w hS hD hW=>⟨hS.sub (sun 2 (.consE 63 rfl (congrArg Value.bool (by simp only [d7,e4,kk])) (.nil _))),hD,hW⟩)
  have e3:=d7;refine sp 9 [(63,.bool false)] (ee ?_);refine AG (fun a w hS hD hW=>⟨hS.sub (sun 2 (.consE 63 rfl (congrArg Value.bool (by simp only [d7,kk])) (.nil _))),hD,hW⟩)
 rintro a w ⟨hS,hD,hW⟩
 refine AP hS hD hW ?_;refine rc 63 rfl (fun e9=>?_) (fun e9=>?_)
 ·
  have a5:=e9;obtain ⟨g4,e5⟩:=JP e9;obtain ⟨c6,c7⟩:=JP e5;have c6:=BG (BO c6);have c7:=BG (BO c7);refine rqr (sp 1 [(4,vI 1)] (se (BF (RP (DY 4 [] rfl (TC _ (TC _ (TR _))) (IR _) ?_)))));simp only [a3,Bool.not_false,Bool.and_true,Bool.true_and] at a5;exact ⟨congrArg (Value.int .i64) (by first | (simp only [EC,JD,a0,a1,a2,a3,a4,a6,a5,cond_true,cond_false];done) | (exfalso;simp only [a0,a1,a2,a3,a4,a6,Bool.not_true,Bool.and_false,Bool.false_and] at a5;cases a5)),rfl⟩
 have a5:=e9;refine AM (NX (rqr (sp 1 [(5,vI 1)] (se (rq ?_)))));refine BC (fun a w=>SE 72 [(3,vP b3 0),(4,vI 0),(5,vI (if s.kind=4 then 0 else 1))] I ((bX b3 (AV s) 29)::(bX b1 (AZ L (vS b8 L.start.length b9) (vS c0 L.keeps.length c1) (vS c2 L.slips.length c3)) 26)::F) a w) ?_ ?_
 ·
  refine rqr (sp 1 [(64,vP b3 2)] (sd (dlb 65 0 2 b3 (vI s.kind)) (sp 1 [(66,.bool (cmp .eql s.kind 4))] (se (rc 66 rfl (fun d1=>?_) (fun d1=>?_))))))
  ·
   have e6:=d1;have d1:=BI d1;refine rr (sp 1 [(5,vI 0)] (ee ?_));exact AG (fun a w hS hD hW=>⟨hS.sub (sun 2 (.consE 5 rfl (least_t d1) (.nil _))),hD,hW⟩)
  have e6:=d1;have d1:=BG d1;refine AM ?_;exact AG (fun a w hS hD hW=>⟨hS.sub (sun 2 (.consE 5 rfl (least_f d1) (.nil _))),hD,hW⟩)
 rintro a w ⟨hS,hD,hW⟩
 refine AP hS hD hW ?_;refine rq (rqr (sp 1 [(67,vP b3 7)] (sd (dlb 68 0 7 b3 (vI s.amt)) (sp 1 [(69,vI (if s.kind=4 then 0 else 1))] (sd (dc 70 (fun I' hI=>(DL I' s.amt (if s.kind=4 then 0 else 1) 50 :))) (sp 1 [(71,.bool (!(inB s.amt (if s.kind=4 then 0 else 1) 50)))] (se (rc 71 rfl (fun d2=>?_) (fun d2=>?_)))))))))
 ·
  have b2:=d2;have d2:=BO d2;have e7:=HY d2;refine rqr (sp 1 [(4,vI 1)] (se (BF (RP (DY 4 [] rfl (TC _ (TC _ (TR _))) (IR _) ?_)))));simp only [a3,Bool.not_false,Bool.and_true,Bool.true_and] at a5;exact ⟨congrArg (Value.int .i64) (by first | (simp only [EC,JD,a0,a1,a2,a3,a4,a6,a5,b2,cond_true,cond_false];done) | (exfalso;simp only [a0,a1,a2,a3,a4,a6,a5,Bool.not_true,Bool.and_false,Bool.false_and] at b2;cases b2)),rfl⟩
 have b2:=d2;have d2:=BK d2;have e7:=DI d2;refine AM (NX (rqr (sp 1 [(4,vI 0)] (se (BF (DY 4 [] rfl (TC _ (TC _ (TR _))) (IR _) ?_))))));simp only [a3,Bool.not_false,Bool.and_true,Bool.true_and] at a5;exact ⟨congrArg (Value.int .i64) (by first | (simp only [EC,JD,a0,a1,a2,a3,a4,a6,a5,b2,cond_true,cond_false];done) | (exfalso;simp only [a0,a1,a2,a3,a4,a6,a5,Bool.not_true,Bool.and_false,Bool.false_and] at b2;cases b2)),rfl⟩
noncomputable def c_rCheck:=cod Tryz.f75
theorem rCheck_ct (I:Imm) (l:Value) (L:Lin) (l_f:IsLin I l L):CtV Tryz.prog 75 #[l] I (vI (AY L)):=by
 obtain ⟨l1,l2,l3,rfl,a5,a8,a2⟩:=id l_f;obtain ⟨a3,a4,c5,c8,c4,rfl,c6,c7,c9,d0⟩:=id a5;obtain ⟨a6,a7,d1,d4,rfl,d2,d3,d5⟩:=id a8;obtain ⟨a0,a1,c1,c3,rfl,d6,d7,a9⟩:=id a2;refine fr (args:=[_]) (N:=50) Tryz.func75 (fun F=>?_);show Run _ _ (c_rCheck []) _ _ [(0,_)] _ _;refine rnm (rqr ?_);refine sS (sb 1 26 (AZ L (vS a3 L.start.length a4) (vS a6 L.keeps.length a7) (vS a0 L.slips.length a1)) (fun b1=>(sp 1 [(2,vI 0)] (se (rq (rqr (sd (dnb 7 0 0 b1 (FW L (vS a3 L.start.length a4) (vS a6 L.keeps.length a7) (vS a0 L.slips.length a1))) (sd (dc 8 (fun I' hI=>(rcheckStart_ct I' _ L ((EM a5 a8 a2).mono hI) :))) (sp 1 [(3,vI (KQ L))] (sn (sp 2 [(10,.bool (!(cmp .eql (KQ L) 0)))] (se (rc 10 rfl (fun h1=>?_) (fun h1=>?_))))))))))))))
 ·
  have b4:=h1;have h1:=BG (BO h1);refine rqr (sp 2 [(2,vI (KQ L))] (se (BF (RP (DY 2 [] rfl (TC _ (TR _)) (IR _) ?_)))));exact ⟨congrArg (Value.int .i64) (linErr_r1 h1).symm,rfl⟩
 have b4:=h1;have h1:=BI (BK h1);refine AM (NX (rq (rq ?_)));obtain ⟨_,_,hp,hq⟩:=NZ h1;refine rr (sd (dnb 12 0 0 b1 (FW L (vS a3 L.start.length a4) (vS a6 L.keeps.length a7) (vS a0 L.slips.length a1))) (sd (dc 13 (fun I' hI=>(rcheckKeeps_ct I' _ L ((EM a5 a8 a2).mono hI) (by omega) :))) (sp 1 [(4,vI (CW L))] (sn (sp 2 [(15,.bool (!(cmp .eql (CW L) 0)))] (se (rc 15 rfl (fun h2=>?_) (fun h2=>?_))))))))
 ·
  have b5:=h2;have h2:=BG (BO h2);refine rqr (sp 2 [(2,vI (CW L))] (se (BF (RP (DY 2 [] rfl (TC _ (TR _)) (IR _) ?_)))));exact ⟨congrArg (Value.int .i64) (linErr_r2 h1 h2).symm,rfl⟩
 have b5:=h2;have h2:=BI (BK h2);refine AM (NX (rq (rqr (sp 1 [(17,vP b1 4)] (sd (dlb 18 0 4 b1 (vS a0 L.slips.length a1)) (sp 2 [(20,.bool (cmp .gtr (↑(L.slips.length)) 8))] (se (rc 20 rfl (fun h3=>?_) (fun h3=>?_)))))))))
 ·
  have b6:=h3;have h3:=JG h3;refine rqr (sp 1 [(2,vI 6)] (se (BF (RP (DY 2 [] rfl (TC _ (TR _)) (IR _) ?_)))));exact ⟨congrArg (Value.int .i64) (linErr_r3 h1 h2 (by omega)).symm,rfl⟩
 have b6:=h3;have h3:=KC h3;refine AM (NX (rq (rqr (sp 1 [(5,vI 0)] (se (rb 0 ?_))))));refine rl (fun mz a w=>∃ J0:Imm,∃ k:Nat,(I.le J0)∧(k≤L.slips.length)∧(FP (DV L) k=0)∧SD 50 [(5,vI ↑k),(1,vP b1 0)] J0 ((bX b1 (AZ L (vS a3 L.start.length a4) (vS a6 L.keeps.length a7) (vS a0 L.slips.length a1)) 26)::F) a w (mz=L.slips.length-k)) ?_ ?_
 ·intro a w hS hD hW;exact ⟨_,I,0,IR _,Nat.zero_le _,rfl,hS.sub su,hD,hW,rfl⟩
 rintro mz a w ⟨J0,k,hJ0,hk,hz,hS,hD,hW,rfl⟩
 refine AP hS hD hW ?_;replace a5:=a5.mono hJ0;replace a8:=a8.mono hJ0;replace a2:=a2.mono hJ0;replace a9:=a9.mono hJ0;refine rq (rqr (sp 2 [(22,vP b1 4),(21,vI ↑k)] (sd (dlb 23 0 4 b1 (vS a0 L.slips.length a1)) (sp 2 [(25,.bool (cmp .lss ↑k (↑(L.slips.length))))] (se (rc 25 rfl (fun h4=>?_) (fun h4=>?_)))))))
 ·
  have b7:=h4;have h4:=BW h4;refine AM (NX (rq (rb 1 (rq (rq ?_)))));refine rd0 6 ?_;refine AC (dnb 28 0 0 b1 (FW L (vS a3 L.start.length a4) (vS a6 L.keeps.length a7) (vS a0 L.slips.length a1))) (ox 1 [(29,vP b1 4)] ?_);refine AC (dlb 30 0 4 b1 (vS a0 L.slips.length a1)) (ox 1 [(31,vI ↑k)] ?_);refine AC (di 32 8 k a9.addr) ?_;refine AC (dln 33 32 29 (GI (L.slips.getD k AB)) rfl (DR (vals:=EH) (fun _=>rfl) a9 k (by omega))) ?_;refine BJ (sd (dc 34 (fun I' hI=>(rcheckSlip_ct I' _ L (L.slips.getD k AB) ((EM a5 a8 a2).mono hI) (by omega) (by omega) :))) (sp 1 [(6,vI (DN L (L.slips.getD k AB)))] (sn (sp 2 [(36,.bool (!(cmp .eql (DN L (L.slips.getD k AB)) 0)))] (se (rc 36 rfl (fun h5=>?_) (fun h5=>?_)))))))
  ·
   have b8:=h5;have h5:=BG (BO h5);refine rqr (sp 2 [(2,vI (DN L (L.slips.getD k AB)))] (se (BF (RP (RB (RP (RP (RB (RP (DY 2 [] rfl (TC _ (TR _)) hJ0 ?_))))))))));exact ⟨congrArg (Value.int .i64) (linErr_r4 h1 h2 (by omega) (QN hz (by omega) (slipAt_bad h5) h5)).symm,rfl⟩
  have b8:=h5;have h5:=BI (BK h5);refine AM (NX (rq ?_));refine rd0 10 (ox 1 [(38,vP b1 4)] ?_);refine AC (dlb 39 0 4 b1 (vS a0 L.slips.length a1)) (ox 1 [(40,vI ↑k)] ?_);have b2:=a2.cutHi k (by omega);obtain ⟨d9,e1,e0,e4,b3,e2,e3,e5⟩:=id b2;rw [b3] at b2;refine AC (DC (EN (x:=(.tmp 39)) (lo:=none) (hi:=(some (.tmp 40))) (T:=24) (e:=29) (sz:=8) 0 k (d:=41) (ty:=24) (gd:=none) (by kernel_rfl) rfl (by kernel_rfl) (by kernel_rfl) rfl (.inl ⟨rfl,rfl⟩) (.inr ⟨_,.i64,rfl,rfl⟩) (by omega) (by omega)) b3) (ox 1 [(42,vP b1 4)] ?_);refine AC (dlb 43 0 4 b1 (vS a0 L.slips.length a1)) (ox 1 [(44,vI ↑k)] ?_);refine AC (di 45 8 k a9.addr) (ox 1 [(46,.pointer (some ⟨c1,c3+k*8,none⟩))] ?_);refine AC (dl 47 (MH a9 k (by omega) 0 (by decide) (v:=vI ((L.slips.getD k AB).num)) rfl)) ?_;refine BJ (sd (dc 48 (fun I' hI=>(there_ct I' _ _ ((L.slips.getD k AB).num) (b2.mono hI) :))) (sp 1 [(49,.bool (cmp .geq (OV (fun x:Slip=>decide (x.num=((L.slips.getD k AB).num))) (L.slips.take k)) 0))] (se (rc 49 rfl (fun h6=>?_) (fun h6=>?_)))))
  ·
   have b0:=h6;have h6:=geq_t h6;refine rqr (sp 1 [(2,vI 4)] (se (BF (RB (RP (RP (RB (RP (DY 2 [] rfl (TC _ (TR _)) hJ0 ?_)))))))));exact ⟨congrArg (Value.int .i64) (linErr_r4 h1 h2 (by omega) (QN hz (by omega) (slipAt_dup h5 (idxF_any.symm.trans b0)) (by decide))).symm,rfl⟩
  have b0:=h6;have h6:=geq_f h6;refine AM (NB (NX (rr (sp 1 [(26,vI ↑k)] (sd (da 27 ↑k 1) (sp 1 [(5,vI (↑k+1))] (ee ?_)))))));refine AN (L.slips.length-(k+1)) (by omega) ?_;intro a w hS hD hW;exact ⟨J0,k+1,hJ0,by omega,MB hz (slipAt_ok h5 (idxF_any.symm.trans b0)),hS.sub su,hD,hW,rfl⟩
 have b7:=h4;have h4:=CB h4;refine BX 0 (EP (EP (EB (NX (rqr (sp 1 [(2,vI 0)] (se (BF (DY 2 [] rfl (TC _ (TR _)) hJ0 ?_)))))))));exact ⟨congrArg (Value.int .i64) (linErr_r4 h1 h2 (by omega) ((show k=L.slips.length by omega)▸hz)).symm,rfl⟩
noncomputable def c_ReadR:=cod Tryz.f34
set_option maxHeartbeats 2000000 in
theorem ReadR_ct (I:Imm) (tx:List UInt8):Ct Tryz.prog 34 #[sV tx] I ([]) (fun v I' M'=>∃ u0:Value,v=.tuple #[u0,vI ((AU tx).2.1),vI ((AU tx).2.2)]∧M'=[]∧IsLin I' u0 ((AU tx).1)):=by
 refine fr (args:=[_]) (N:=95) Tryz.func34 (fun F=>?_);show Run _ _ (c_ReadR []) _ _ [(0,_)] _ _;refine rnm (rqr ?_);refine sS (sal 2 26 AR (fun b1=>(sp 2 [(4,vI 0),(3,vI 0)] (se (rq (rqr (sp 3 [(16,.bool (cmp .gtr (↑(tx).length) 400))] (se (rc 16 rfl (fun h1=>?_) (fun h1=>?_))))))))))
 ·
  have p1:=h1;have h1:=JG h1;refine rqr (sp 1 [(17,.agg AR)] (sS (ss 0 0 b1 HH HH (_::_) (cs:=[_,_,_,_,_]) rfl rfl (sp 2 [(4,vI 10),(3,vI 0)] (se (BF (RP ?_)))))));have c0:=readLE_long (t:=tx) (by omega);refine ED (t:=2) (u:=3) (r:=4) (T:=26) (n:=5) [] (by kernel_rfl) rfl (by kernel_rfl) rfl (CU (n:=5) (cs:=AR) (b:=b1) (off:=0) (T:=26) (fz:=(0,0)) (vs:=HH) (by simp) rfl) (.inl ⟨by kernel_rfl,rfl⟩) rfl rfl (TC _ (TR _)) (IR _) ?_;exact ⟨_,(congrArg (fun p:Int × Int=>Value.tuple #[_,vI p.1,vI p.2]) (show _=(AU tx).2 from (congrArg Prod.snd c0).symm)),rfl,((show JH=(AU tx).1 from (congrArg Prod.fst c0).symm)▸(EM (IsRows.nil _) (IsSl.nil _) (IsSl.nil _)))⟩
 have p1:=h1;have h1:=KC h1;have i1:tx.length≤400:=by omega
 have x0:=cutL_len_le (b:=10) (s:=tx);have x2:1≤(cutL 10 tx).length:=List.length_pos_iff.2 (cutL_ne 10 tx);refine AM (NX (rqr (sp 1 [(18,sV tx)] ?_)));have k0:=cutR_ct I tx (10:UInt8) (by omega);refine sS (sc (some 19) (k0 :) (.refl _) (fun u6 I3 u2 e4 t6=>?_));obtain ⟨u8,s1,s0,u1⟩:=t6;rw [s1,s0];clear s1 s0;have r7:=u1;obtain ⟨g6,g7,v2,v5,rfl,v3,v4,b8⟩:=id r7;refine nm ?_;refine sp 1 [(5,vS g6 (cutL (10:UInt8) tx).length g7)] (sn (sS (sal 6 26 AR (fun e2=>(sn (sp 1 [(7,vI 0)] (se (rq (rqr (sp 1 [(8,vI 0)] (se (rb 0 ?_))))))))))));refine rl (fun mz a w=>∃ J0:Imm,∃ i:Nat,∃ nw:Int,∃ bb:Int,∃ L:Lin,∃ c7:Value,∃ b0:Seg,∃ a6:List Value,∃ c8:Value,∃ a9:Seg,∃ c9:Value,∃ a8:Seg,(I3.le J0)∧(i≤(cutL 10 tx).length-1)∧(IZ tx i L bb)∧(LLen L i)∧(RB i bb nw)∧(RowsV J0 a6 L.start)∧(Own 33 1 DG c7 a6 b0)∧(Own 75 3 GB c8 L.keeps a9)∧(Own 29 8 BE c9 L.slips a8)∧SD 95 [(7,vI nw),(8,vI ↑i),(2,vP b1 0),(5,vS g6 (cutL (10:UInt8) tx).length g7),(6,vP e2 0)] J0 ((bX e2 (AZ L c7 c8 c9) 26)::(bX b1 AR 26)::(b0++(a9++(a8++F)))) a w (mz=(cutL 10 tx).length-i)) ?_ ?_
 ·intro a w hS hD hW;exact ⟨_,I3,0,0,0,JH,(vN),[],[],(vN),[],(vN),[],IR _,Nat.zero_le _,readW_start tx,⟨Nat.le_refl _,Nat.le_refl _,Nat.le_refl _⟩,RB.start,(RowsV.nil _),(Own.nil _ _ _),(Own.nil _ _ _),(Own.nil _ _ _),hS.sub su,hD,hW,rfl⟩
 rintro mz a w ⟨J0,i,nw,bb,L,c7,b0,a6,c8,a9,c9,a8,hJ0,hi,i0,l9,h0,a7,b2,b3,b4,hS,hD,hW,rfl⟩
 refine AP hS hD hW ?_;replace b8:=b8.mono hJ0;obtain ⟨a0,a1,rfl,j0⟩:=b2.shape;have d5:=a7.1
 try simp only [LS,LA,LC,LN,LK] at d5
 obtain ⟨a2,a3,rfl,j1⟩:=b3.shape;obtain ⟨a4,a5,rfl,j2⟩:=b4.shape;have x5:=l9.1;have x6:=l9.2.1;have x7:=l9.2.2;have x3:=h0.bounds;refine rq (rqr (sp 3 [(22,vI (↑((cutL (10:UInt8) tx).length))),(20,vI ↑i)] (sd (dsb 23 (↑((cutL (10:UInt8) tx).length)) 1) (sp 1 [(24,.bool (cmp .lss ↑i ((↑((cutL (10:UInt8) tx).length))-1)))] (se (rc 24 rfl (fun h2=>?_) (fun h2=>?_)))))))
 ·
  have p2:=h2;have h2:=BW h2;refine AM (NX (rq (rb 1 (rq ?_))));have t7:=lineL_le i1 (i:=i) (by omega);have t9:=wordsL_le t7;have x4:=t9.1;refine rr (sp 2 [(28,vI ↑i),(27,vS g6 (cutL (10:UInt8) tx).length g7)] (sd (di 29 1 i b8.addr) (sd (dl 30 (DF b8 i (by omega))) ?_)));have k1:=cutR_ct J0 ((cutL (10:UInt8) tx).getD i []) (59:UInt8) (by omega);refine sS (sc (some 31) (k1 :) (.refl _) (fun u7 m0 u3 b7 q2=>?_));obtain ⟨x8,k8,k4,r0⟩:=q2;rw [k8,k4];clear k8 k4;replace b8:=b8.mono b7;replace a7:=a7.mono b7;have e1:=r0;obtain ⟨d9,e0,s9,t2,rfl,t0,t1,f0⟩:=id e1;refine nm ?_;refine sp 1 [(9,vS d9 (cutL (59:UInt8) ((cutL (10:UInt8) tx).getD i [])).length e0)] (se (rq (rqr (sp 2 [(33,.bool (cmp .eql ↑i 0))] (se (rc 33 rfl (fun h3=>?_) (fun h3=>?_)))))))
  ·
   have p3:=h3;have h3:=BI h3;have p9:i=0:=by omega
   have p8:=h0.zero p9;have v9:((cutL 59 ((cutL 10 tx).getD i [])).drop 1).length=(cutL 59 ((cutL 10 tx).getD i [])).length-1:=LD ..;refine rqr (sp 1 [(35,vS d9 (cutL (59:UInt8) ((cutL (10:UInt8) tx).getD i [])).length e0)] ?_);have g5:=e1.cutLo 1 (by omega);obtain ⟨s2,s4,s3,s7,i3,s5,s6,s8⟩:=id g5;rw [i3] at g5;refine sd (DC (EN (x:=(.tmp 35)) (lo:=(some (.const (vI 1)))) (hi:=none) (T:=68) (e:=9) (sz:=1) 1 ((cutL (59:UInt8) ((cutL (10:UInt8) tx).getD i [])).length) (d:=36) (ty:=68) (gd:=none) (by kernel_rfl) rfl (by kernel_rfl) (by kernel_rfl) rfl (.inr ⟨_,.i64,rfl,rfl⟩) (.inl ⟨rfl,rfl⟩) (by omega) (by omega)) i3) ?_;have k2:=MF m0 _ _ g5 (by omega);refine sS (sc (some 37) (k2 :) (.refl _) (fun u9 r8 u4 d0 q3=>?_));obtain ⟨v1,k9,k5,r1⟩:=q3;rw [k9,k5];clear k9 k5;replace b8:=b8.mono d0;replace a7:=a7.mono d0;replace e1:=e1.mono d0;replace f0:=f0.mono d0;have j4:=r1;obtain ⟨d6,d7,r2,r5,rfl,r3,r4,d8⟩:=id j4;refine nm ?_;refine sp 5 [(11,.bool (BV ((cutL (59:UInt8) ((cutL (10:UInt8) tx).getD i [])).drop 1))),(10,vS d6 (AF ((cutL (59:UInt8) ((cutL (10:UInt8) tx).getD i [])).drop 1)).length d7)] (se (rq (rq ?_)));refine BC (fun a w=>SE 95 [(2,vP b1 0),(5,vS g6 (cutL (10:UInt8) tx).length g7),(6,vP e2 0),(7,vI nw),(8,vI ↑i),(9,vS d9 (cutL (59:UInt8) ((cutL (10:UInt8) tx).getD i [])).length e0),(10,vS d6 (AF ((cutL (59:UInt8) ((cutL (10:UInt8) tx).getD i [])).drop 1)).length d7),(52,.bool ((!(decide ((cutL (59:UInt8) ((cutL (10:UInt8) tx).getD i [])).getD 0 []=([108,105,110,101,110]:List UInt8))))||((!(BV ((cutL (59:UInt8) ((cutL (10:UInt8) tx).getD i [])).drop 1)))||(!(cmp .eql (↑((AF ((cutL (59:UInt8) ((cutL (10:UInt8) tx).getD i [])).drop 1)).length)) 2)))))] r8 ((bX e2 (AZ L (vS a0 a6.length a1) (vS a2 L.keeps.length a3) (vS a4 L.slips.length a5)) 26)::(bX b1 AR 26)::(b0++(a9++(a8++F)))) a w) ?_ ?_
   ·
    refine rr (sp 1 [(40,vS d9 (cutL (59:UInt8) ((cutL (10:UInt8) tx).getD i [])).length e0)] (sd (di 41 1 0 f0.addr) (sd (dl 42 (DF f0 0 (by omega))) (sd (IE (x:=(.tmp 42)) (y:=(.const (.string { data:=#[108,105,110,101,110] }))) (T:=9) (T':=9) (d:=43) (ty:=4) (gd:=none) (by kernel_rfl) rfl rfl rfl) (sp 1 [(44,.bool (!(decide ((cutL (59:UInt8) ((cutL (10:UInt8) tx).getD i [])).getD 0 []=([108,105,110,101,110]:List UInt8)))))] ?_)))));refine AQ 44 rfl (fun h4=>?_) (fun h4=>?_)
    ·
     have f3:=h4;have f3:=HV (BO f3);refine sp 8 [(52,.bool true)] (ee ?_);refine AG (fun a w hS hD hW=>⟨hS.sub (sun 7 (.consE 52 rfl (congrArg Value.bool (by simp only [h4,kk])) (.nil _))),hD,hW⟩)
    have f3:=h4;have f3:=HF (BK f3);refine sp 4 [(48,.bool (!(BV ((cutL (59:UInt8) ((cutL (10:UInt8) tx).getD i [])).drop 1))))] ?_;refine AQ 48 rfl (fun h5=>?_) (fun h5=>?_)
    ·
     have f4:=h5;have f4:=BO f4;refine sp 4 [(52,.bool true)] (ee ?_);refine AG (fun a w hS hD hW=>⟨hS.sub (sun 7 (.consE 52 rfl (congrArg Value.bool (by simp only [h4,h5,kk])) (.nil _))),hD,hW⟩)
    have f4:=h5;have f4:=BK f4;refine sp 4 [(52,.bool (!(cmp .eql (↑((AF ((cutL (59:UInt8) ((cutL (10:UInt8) tx).getD i [])).drop 1)).length)) 2)))] (ee ?_);refine AG (fun a w hS hD hW=>⟨hS.sub (sun 7 (.consE 52 rfl (congrArg Value.bool (by simp only [h4,h5,kk])) (.nil _))),hD,hW⟩)
   rintro a w ⟨hS,hD,hW⟩
   refine AP hS hD hW ?_;refine rc 52 rfl (fun h6=>?_) (fun h6=>?_)
   ·
    have i8:=h6;have j5:¬ BN (cutL 59 ((cutL 10 tx).getD i []))=1:=by (have hq:=i8;rw [head_cond] at hq;simpa using hq)
    have q1:=ok0_no' p9 p8.1 j5;refine rqr (sp 1 [(53,.agg AR)] (sS (ss 1 0 b1 HH HH (_::_::_) (cs:=[_,_,_,_,_]) rfl rfl (sp 2 [(4,vI 2),(3,vI 1)] (se (BF (RP (RP (RB (RP (RP (RB (RP ?_)))))))))))));have c0:=(show AU tx=(JH,1,2) from JL i1 (by rw [SX (by omega) q1 i0];show (i:Int)+1=1;omega) (by decide));refine ED (t:=2) (u:=3) (r:=4) (T:=26) (n:=5) [] (by kernel_rfl) rfl (by kernel_rfl) rfl (CU (n:=5) (cs:=AR) (b:=b1) (off:=0) (T:=26) (fz:=(0,0)) (vs:=HH) (by simp) rfl) (.inl ⟨by kernel_rfl,rfl⟩) rfl rfl (TC _ (TC _ (TT (TT (TT (TR _) (TB _ _)) (TB _ _)) (TB _ _)))) (IT (IT (IT e4 hJ0) b7) d0) ?_;exact ⟨_,(congrArg (fun p:Int × Int=>Value.tuple #[_,vI p.1,vI p.2]) (show _=(AU tx).2 from (congrArg Prod.snd c0).symm)),rfl,((show JH=(AU tx).1 from (congrArg Prod.fst c0).symm)▸(EM (IsRows.nil _) (IsSl.nil _) (IsSl.nil _)))⟩
   have i8:=h6;obtain ⟨j9,p4⟩:=SW h6;have j9:=HF (BK j9);obtain ⟨f5,f6⟩:=SW p4;have f5:=BK f5;have f6:=BI (BK f6);have j5:BN (cutL 59 ((cutL 10 tx).getD i []))=1:=by (have hq:=i8;rw [head_cond] at hq;simpa using hq)
   have q1:=ok0_yes' p9 p8.1 j5;have t8:=takeK_one j5;have x1:=HN t8.2.1;refine AM (NX (rq ?_));refine rd0 6 (ox 1 [(54,vS d6 (AF ((cutL (59:UInt8) ((cutL (10:UInt8) tx).getD i [])).drop 1)).length d7)] ?_);refine AC (di 55 1 0 d8.addr) ?_;refine AC (dl 56 (BL d8 0 (by omega))) (ox 1 [(57,vS d6 (AF ((cutL (59:UInt8) ((cutL (10:UInt8) tx).getD i [])).drop 1)).length d7)] ?_);refine AC (di 58 1 1 d8.addr) ?_;refine AC (dl 59 (BL d8 1 (by omega))) ?_;refine BJ (sp 1 [(60,vP e2 0)] (sS (ss 0 0 e2 [vI ((AF ((cutL (59:UInt8) ((cutL (10:UInt8) tx).getD i [])).drop 1)).getD 0 0)] [vI ((AF ((cutL (59:UInt8) ((cutL (10:UInt8) tx).getD i [])).drop 1)).getD 0 0),vI L.sorts,vS a0 a6.length a1,vS a2 L.keeps.length a3,vS a4 L.slips.length a5] (_::_::_) (cs:=[_,_,_,_,_]) rfl rfl (sp 1 [(61,vP e2 1)] (sS (ss 0 1 e2 [vI ((AF ((cutL (59:UInt8) ((cutL (10:UInt8) tx).getD i [])).drop 1)).getD 1 0)] [vI ((AF ((cutL (59:UInt8) ((cutL (10:UInt8) tx).getD i [])).drop 1)).getD 0 0),vI ((AF ((cutL (59:UInt8) ((cutL (10:UInt8) tx).getD i [])).drop 1)).getD 1 0),vS a0 a6.length a1,vS a2 L.keeps.length a3,vS a4 L.slips.length a5] (_::_::_) (cs:=[_,_,_,_,_]) rfl rfl (se (BX 1 (EP (EB (NX (rr (sp 1 [(25,vI ↑i)] (sd (da 26 ↑i 1) (sp 1 [(8,vI (↑i+1))] (ee ?_))))))))))))))));refine AN ((cutL 10 tx).length-(i+1)) (by omega) ?_;intro a w hS hD hW;exact ⟨r8,i+1,0,1,(⟨lnum (cutL 59 ((cutL 10 tx).getD i [])) 0,lnum (cutL 59 ((cutL 10 tx).getD i [])) 1,L.start,L.keeps,L.slips⟩:Lin),vS a0 a6.length a1,b0,a6,vS a2 L.keeps.length a3,a9,vS a4 L.slips.length a5,a8,(IT (IT hJ0 b7) d0),by omega,(by (have hg:=readW_go (by omega) q1 i0;rw [y_head j5,j5] at hg;exact hg)),⟨by (show L.start.length≤i+1;omega),by (show L.keeps.length≤i+1;omega),by (show L.slips.length≤i+1;omega)⟩,(.inr ⟨by omega,by decide,by decide,rfl⟩),a7,b2,b3,b4,hS.sub (.consE 7 rfl (congrArg (Value.int .i64) p8.2) su),hD,hW,rfl⟩
  have p3:=h3;have h3:=BG h3;have l8:¬ i=0:=by omega
  refine AM (NX (rqr (sp 1 [(12,vI 0)] (se (rq (rqr (sp 2 [(63,.bool (cmp .lss nw 4))] (se (rc 63 rfl (fun h7=>?_) (fun h7=>?_))))))))))
  ·
   have p5:=h7;have h7:=BW h7;refine rr (sp 1 [(64,vS d9 (cutL (59:UInt8) ((cutL (10:UInt8) tx).getD i [])).length e0)] ?_);have k3:=takeR_ct m0 e2 _ _ _ _ _ _ _ L _ _ b2 b3 b4 a7 e1 (by omega) (by omega);refine sS (sc (some 65) (F:=((bX b1 AR 26)::F)) (k3 :) (by simpa only [AA,CA,NA] using (PC _ ((PM.symm).trans (PA _ ((PM.symm).trans (PA _ PM.symm)))))) (fun v0 t3 u5 e8 q4=>?_));obtain ⟨q8,q9,q5,q6,q7,d4,d1,d2,d3,l0,k6,l4,l5,g2,g3,g4,i2⟩:=q4;rw [l0,k6];clear l0 k6;replace b8:=b8.mono e8;replace a7:=a7.mono e8;cases l4;cases l5;have f1:=i2.1
   try simp only [LS,LA,LC,LN,LK] at f1
   obtain ⟨c1,c2,rfl,l1⟩:=g2.shape;obtain ⟨c3,c4,rfl,l2⟩:=g3.shape;obtain ⟨c5,c6,rfl,l3⟩:=g4.shape;refine AW (M':=((bX e2 (AZ (GC L (cutL (59:UInt8) ((cutL (10:UInt8) tx).getD i []))) (vS c1 d4.length c2) (vS c3 ((GC L (cutL (59:UInt8) ((cutL (10:UInt8) tx).getD i []))).keeps).length c4) (vS c5 ((GC L (cutL (59:UInt8) ((cutL (10:UInt8) tx).getD i []))).slips).length c6)) 26)::(d1++(d2++(d3++(bX b1 AR 26)::F))))) (fun w h=>by simpa only [AA,CA,NA] using h) (pm (M':=((bX e2 (AZ (GC L (cutL (59:UInt8) ((cutL (10:UInt8) tx).getD i []))) (vS c1 d4.length c2) (vS c3 ((GC L (cutL (59:UInt8) ((cutL (10:UInt8) tx).getD i []))).keeps).length c4) (vS c5 ((GC L (cutL (59:UInt8) ((cutL (10:UInt8) tx).getD i []))).slips).length c6)) 26)::(bX b1 AR 26)::(d1++(d2++(d3++F))))) (PC _ ((PA _ ((PA _ PM).trans PM)).trans PM)) (sp 1 [(12,vI (KR (cutL (59:UInt8) ((cutL (10:UInt8) tx).getD i []))))] (se (rq (rqr (sp 4 [(69,.bool (cmp .lss (KR (cutL (59:UInt8) ((cutL (10:UInt8) tx).getD i []))) (if (nw:Int)<(1:Int) then 1 else nw)))] (se (rc 69 rfl (fun h8=>?_) (fun h8=>?_)))))))))
   ·
    have p6:=h8;have h8:=BW h8;have q0:okM (cutL 59 ((cutL 10 tx).getD i [])) i bb=false:=ok_no h0 l8 (by (have hq:=h8;split at hq <;> omega));refine rqr (sp 2 [(71,vI ↑i),(70,.agg AR)] (sd (da 72 ↑i 1) (sS (ss 1 0 b1 HH HH (_::_::_) (cs:=[_,_,_,_,_]) rfl rfl (sp 2 [(4,vI 2),(3,vI (↑i+1))] (se (BF (RP (RB (RP (RP (RB (RP ?_)))))))))))));have c0:=JL i1 (congrArg Prod.snd (SX (by omega) q0 i0)) (show (i:Int)+1≠0 by omega);refine ED (t:=2) (u:=3) (r:=4) (T:=26) (n:=5) [] (by kernel_rfl) rfl (by kernel_rfl) rfl (CU (n:=5) (cs:=AR) (b:=b1) (off:=0) (T:=26) (fz:=(0,0)) (vs:=HH) (by simp) rfl) (.inl ⟨by kernel_rfl,rfl⟩) rfl rfl (TC _ (TC _ (TT (TT (TT (TR _) (TB _ _)) (TB _ _)) (TB _ _)))) (IT (IT (IT e4 hJ0) b7) e8) ?_;exact ⟨_,(congrArg (fun p:Int × Int=>Value.tuple #[_,vI p.1,vI p.2]) (show _=(AU tx).2 from (congrArg Prod.snd c0).symm)),rfl,((show JH=(AU tx).1 from (congrArg Prod.fst c0).symm)▸(EM (IsRows.nil _) (IsSl.nil _) (IsSl.nil _)))⟩
   have p6:=h8;have h8:=CB h8;have t5:1≤(if (nw:Int)<(1:Int) then 1 else nw):=by split <;> omega
   have t4:nw≤(if (nw:Int)<(1:Int) then 1 else nw):=by split <;> omega
   first | (have k7:=ok_yes (L:=L) (W:=(cutL 59 ((cutL 10 tx).getD i []))) h0 l8 (by omega) (by omega) (by omega)) | skip
   refine AM (NX (rr (sp 2 [(7,vI (KR (cutL (59:UInt8) ((cutL (10:UInt8) tx).getD i []))))] (ee (NB (NX (rr (sp 1 [(25,vI ↑i)] (sd (da 26 ↑i 1) (sp 1 [(8,vI (↑i+1))] (ee ?_)))))))))));refine AN ((cutL 10 tx).length-(i+1)) (by omega) ?_;intro a w hS hD hW;exact ⟨t3,i+1,KR (cutL 59 ((cutL 10 tx).getD i [])),BN (cutL 59 ((cutL 10 tx).getD i [])),GC L (cutL 59 ((cutL 10 tx).getD i [])),vS c1 d4.length c2,d1,d4,vS c3 ((GC L (cutL (59:UInt8) ((cutL (10:UInt8) tx).getD i []))).keeps).length c4,d2,vS c5 ((GC L (cutL (59:UInt8) ((cutL (10:UInt8) tx).getD i []))).slips).length c6,d3,(IT (IT hJ0 b7) e8),by omega,(by rw [k7.2.1];exact readW_go (by omega) k7.1 i0),(by rw [k7.2.1];exact l9.take _),k7.2.2,i2,g2,g3,g4,hS.sub su,hD,hW,rfl⟩
  have p5:=h7;have h7:=CB h7;refine AM (NX (rq (rqr (sp 4 [(69,.bool (cmp .lss 0 (if (nw:Int)<(1:Int) then 1 else nw)))] (se (rc 69 rfl (fun h9=>?_) (fun h9=>?_)))))))
  ·
   have p7:=h9;have h9:=BW h9;have q0:okM (cutL 59 ((cutL 10 tx).getD i [])) i bb=false:=ok_no h0 l8 (by (have hq:=h9;split at hq <;> omega));refine rqr (sp 2 [(71,vI ↑i),(70,.agg AR)] (sd (da 72 ↑i 1) (sS (ss 1 0 b1 HH HH (_::_::_) (cs:=[_,_,_,_,_]) rfl rfl (sp 2 [(4,vI 2),(3,vI (↑i+1))] (se (BF (RP (RB (RP (RP (RB (RP ?_)))))))))))));have c0:=JL i1 (congrArg Prod.snd (SX (by omega) q0 i0)) (show (i:Int)+1≠0 by omega);refine ED (t:=2) (u:=3) (r:=4) (T:=26) (n:=5) [] (by kernel_rfl) rfl (by kernel_rfl) rfl (CU (n:=5) (cs:=AR) (b:=b1) (off:=0) (T:=26) (fz:=(0,0)) (vs:=HH) (by simp) rfl) (.inl ⟨by kernel_rfl,rfl⟩) rfl rfl (TC _ (TC _ (TT (TT (TT (TR _) (TB _ _)) (TB _ _)) (TB _ _)))) (IT (IT e4 hJ0) b7) ?_;exact ⟨_,(congrArg (fun p:Int × Int=>Value.tuple #[_,vI p.1,vI p.2]) (show _=(AU tx).2 from (congrArg Prod.snd c0).symm)),rfl,((show JH=(AU tx).1 from (congrArg Prod.fst c0).symm)▸(EM (IsRows.nil _) (IsSl.nil _) (IsSl.nil _)))⟩
  have p7:=h9;have h9:=CB h9;have t5:1≤(if (nw:Int)<(1:Int) then 1 else nw):=by split <;> omega
  have t4:nw≤(if (nw:Int)<(1:Int) then 1 else nw):=by split <;> omega
  first | (have k7:=ok_yes (L:=L) (W:=(cutL 59 ((cutL 10 tx).getD i []))) h0 l8 (by omega) (by omega) (by omega)) | skip
  refine AM (NX (rr (sp 2 [(7,vI 0)] (ee (NB (NX (rr (sp 1 [(25,vI ↑i)] (sd (da 26 ↑i 1) (sp 1 [(8,vI (↑i+1))] (ee ?_)))))))))));refine AN ((cutL 10 tx).length-(i+1)) (by omega) ?_;intro a w hS hD hW;exact ⟨m0,i+1,0,0,L,vS a0 a6.length a1,b0,a6,vS a2 L.keeps.length a3,a9,vS a4 L.slips.length a5,a8,(IT hJ0 b7),by omega,(by exfalso;omega),(by exfalso;omega),(by exfalso;omega),a7,b2,b3,b4,hS.sub su,hD,hW,rfl⟩
 have p2:=h2;have h2:=CB h2;refine BX 0 (EP (EP (EB (NX (rq (rqr (sp 3 [(76,.bool (!(cmp .eql nw 4)))] ?_)))))));refine AQ 76 rfl (fun p0=>?_) (fun p0=>?_)
 ·
  have b6:=p0;have b6:=BG (BO b6);refine sp 8 [(84,.bool true)] (se (rct 84 rfl (rqr (sp 3 [(87,vI (↑((cutL (10:UInt8) tx).length))),(85,.agg AR)] (sS (ss 1 0 b1 HH HH (_::_::_) (cs:=[_,_,_,_,_]) rfl rfl (sp 2 [(4,vI 2),(3,vI (↑((cutL (10:UInt8) tx).length)))] (se (BF (RP ?_))))))))));have c0:=(show AU tx=(JH,↑(cutL 10 tx).length,2) from JL i1 (by rw [QG (by omega) i0 (.inl (h0.not5 b6))];show (i:Int)+1=↑(cutL 10 tx).length;omega) (by omega));refine ED (t:=2) (u:=3) (r:=4) (T:=26) (n:=5) [] (by kernel_rfl) rfl (by kernel_rfl) rfl (CU (n:=5) (cs:=AR) (b:=b1) (off:=0) (T:=26) (fz:=(0,0)) (vs:=HH) (by simp) rfl) (.inl ⟨by kernel_rfl,rfl⟩) rfl rfl (TC _ (TC _ (TT (TT (TT (TR _) (TB _ _)) (TB _ _)) (TB _ _)))) (IT e4 hJ0) ?_;exact ⟨_,(congrArg (fun p:Int × Int=>Value.tuple #[_,vI p.1,vI p.2]) (show _=(AU tx).2 from (congrArg Prod.snd c0).symm)),rfl,((show JH=(AU tx).1 from (congrArg Prod.fst c0).symm)▸(EM (IsRows.nil _) (IsSl.nil _) (IsSl.nil _)))⟩
 have b6:=p0;have b6:=BI (BK b6);refine sp 3 [(79,vI (↑((cutL (10:UInt8) tx).length))),(77,vS g6 (cutL (10:UInt8) tx).length g7)] (sd (dsb 80 (↑((cutL (10:UInt8) tx).length)) 1) (CE 80 rfl (show (vI ((↑((cutL (10:UInt8) tx).length))-1):Value)=vI (↑((cutL 10 tx).length-1)) from congrArg (Value.int .i64) (by omega)) (sd (di 81 1 ((cutL 10 tx).length-1) b8.addr) (sd (dl 82 (DF b8 ((cutL 10 tx).length-1) (by omega))) (sd (IE (x:=(.tmp 82)) (y:=(.const (.string { data:=#[] }))) (T:=9) (T':=9) (d:=83) (ty:=4) (gd:=(some (2,false))) (by kernel_rfl) (by kernel_rfl) rfl rfl) (sp 1 [(84,.bool (!(decide ((cutL (10:UInt8) tx).getD ((cutL 10 tx).length-1) []=([]:List UInt8)))))] (se (rc 84 rfl (fun g8=>?_) (fun g8=>?_)))))))))
 ·
  have j7:=g8;have g8:=HV (BO g8);refine rqr (sp 3 [(87,vI (↑((cutL (10:UInt8) tx).length))),(85,.agg AR)] (sS (ss 1 0 b1 HH HH (_::_::_) (cs:=[_,_,_,_,_]) rfl rfl (sp 2 [(4,vI 2),(3,vI (↑((cutL (10:UInt8) tx).length)))] (se (BF (RP ?_)))))));have c0:=(show AU tx=(JH,↑(cutL 10 tx).length,2) from JL i1 (by rw [QG (by omega) i0 (.inr g8)];show (i:Int)+1=↑(cutL 10 tx).length;omega) (by omega));refine ED (t:=2) (u:=3) (r:=4) (T:=26) (n:=5) [] (by kernel_rfl) rfl (by kernel_rfl) rfl (CU (n:=5) (cs:=AR) (b:=b1) (off:=0) (T:=26) (fz:=(0,0)) (vs:=HH) (by simp) rfl) (.inl ⟨by kernel_rfl,rfl⟩) rfl rfl (TC _ (TC _ (TT (TT (TT (TR _) (TB _ _)) (TB _ _)) (TB _ _)))) (IT e4 hJ0) ?_;exact ⟨_,(congrArg (fun p:Int × Int=>Value.tuple #[_,vI p.1,vI p.2]) (show _=(AU tx).2 from (congrArg Prod.snd c0).symm)),rfl,((show JH=(AU tx).1 from (congrArg Prod.fst c0).symm)▸(EM (IsRows.nil _) (IsSl.nil _) (IsSl.nil _)))⟩
 have j7:=g8;have g8:=HF (BK g8);have r9:lastT tx=[]:=g8;refine AM (NX (rq (rqr (sd (dnb 88 0 0 e2 (FW L (vS a0 a6.length a1) (vS a2 L.keeps.length a3) (vS a4 L.slips.length a5))) (sfz (A:=((bX e2 (AZ L (vS a0 a6.length a1) (vS a2 L.keeps.length a3) (vS a4 L.slips.length a5)) 26)::(bX b1 AR 26)::(a9++(a8++F)))) undef b2 (PU PM.symm) (fun v6 f7 f2=>?_))))));replace a7:=a7.mono f7;obtain ⟨m9,n1,n0,n4,i5,n2,n3,n5⟩:=id f2;cases i5;have b5:=a7.isRows f2;have j6:=a7.1;obtain ⟨m1,m3,m2,m6,l7,i4,m4,m5,m7,m8⟩:=id b5
 injection i4 with fr62_e1 fr62_e2 fr62_e3;subst fr62_e1;subst fr62_e3
 refine sfz (A:=((bX e2 (AZ L (vS a0 a6.length a1) (vS a2 L.keeps.length a3) (vS a4 L.slips.length a5)) 26)::(bX b1 AR 26)::(a8++F))) AK b3 (PU PM.symm) (fun v7 f8 b9=>?_);replace b5:=b5.mono f8;obtain ⟨n6,n8,n7,o1,i6,n9,o0,o2⟩:=id b9;cases i6;refine sfz (A:=((bX e2 (AZ L (vS a0 a6.length a1) (vS a2 L.keeps.length a3) (vS a4 L.slips.length a5)) 26)::(bX b1 AR 26)::F)) AB b4 (PU PM.symm) (fun v8 e9 e3=>?_);replace b5:=b5.mono e9;replace b9:=b9.mono e9;obtain ⟨o3,o5,o4,o8,i7,o6,o7,o9⟩:=id e3;cases i7;refine sd (dc 89 (fun I' hI=>(rCheck_ct I' _ L ((EM b5 b9 e3).mono hI) :))) (sp 1 [(13,vI (AY L))] (sn (sp 2 [(91,.bool (!(cmp .eql (AY L) 0)))] (se (rc 91 rfl (fun g9=>?_) (fun g9=>?_))))))
 ·
  have j8:=g9;have g9:=BG (BO g9);refine rqr (sp 2 [(93,vI (AY L)),(92,.agg AR)] (sS (ss 1 0 b1 HH HH (_::_::_) (cs:=[_,_,_,_,_]) rfl rfl (sp 2 [(4,vI (AY L)),(3,vI 0)] (se (BF (RP ?_)))))));have i9:BR tx=(L,0):=RK (by omega) i0 (h0.is5 b6) r9;have c0:=(show AU tx=(JH,0,AY L) from by (have hz:=readLE_err i1 (by rw [i9]) (by rw [i9];exact g9);rw [i9] at hz;exact hz));refine ED (t:=2) (u:=3) (r:=4) (T:=26) (n:=5) [] (by kernel_rfl) rfl (by kernel_rfl) rfl (CU (n:=5) (cs:=AR) (b:=b1) (off:=0) (T:=26) (fz:=(0,0)) (vs:=HH) (by simp) rfl) (.inl ⟨by kernel_rfl,rfl⟩) rfl rfl (TC _ (TC _ (TR _))) (IT (IT (IT (IT e4 hJ0) f7) f8) e9) ?_;exact ⟨_,(congrArg (fun p:Int × Int=>Value.tuple #[_,vI p.1,vI p.2]) (show _=(AU tx).2 from (congrArg Prod.snd c0).symm)),rfl,((show JH=(AU tx).1 from (congrArg Prod.fst c0).symm)▸(EM (IsRows.nil _) (IsSl.nil _) (IsSl.nil _)))⟩
 have j8:=g9;have g9:=BI (BK g9);refine AM (NX (rqr (sd (dnb 94 0 0 e2 (FW L (vS a0 a6.length a1) (vS a2 L.keeps.length a3) (vS a4 L.slips.length a5))) (sS (ss 1 0 b1 (FW L (vS a0 a6.length a1) (vS a2 L.keeps.length a3) (vS a4 L.slips.length a5)) (FW L (vS a0 a6.length a1) (vS a2 L.keeps.length a3) (vS a4 L.slips.length a5)) (_::_::_) (cs:=[_,_,_,_,_]) rfl rfl (sp 2 [(4,vI 0),(3,vI 0)] (se (BF ?_))))))));have i9:BR tx=(L,0):=RK (by omega) i0 (h0.is5 b6) r9;have c0:=(show AU tx=(L,0,0) from by (have hz:=readLE_fine i1 (by rw [i9]) (by rw [i9];exact g9);rw [i9] at hz;exact hz));refine ED (t:=2) (u:=3) (r:=4) (T:=26) (n:=5) [] (by kernel_rfl) rfl (by kernel_rfl) rfl (CU (n:=5) (cs:=(AZ L (vS a0 a6.length a1) (vS a2 L.keeps.length a3) (vS a4 L.slips.length a5))) (b:=b1) (off:=0) (T:=26) (fz:=(0,0)) (vs:=(FW L (vS a0 a6.length a1) (vS a2 L.keeps.length a3) (vS a4 L.slips.length a5))) (by simp) rfl) (.inl ⟨by kernel_rfl,rfl⟩) rfl rfl (TC _ (TC _ (TR _))) (IT (IT (IT (IT e4 hJ0) f7) f8) e9) ?_;exact ⟨_,(congrArg (fun p:Int × Int=>Value.tuple #[_,vI p.1,vI p.2]) (show _=(AU tx).2 from (congrArg Prod.snd c0).symm)),rfl,((show L=(AU tx).1 from (congrArg Prod.fst c0).symm)▸(EM b5 b9 e3))⟩
noncomputable def c_WriteR:=cod Tryz.f31
set_option maxHeartbeats 1000000 in
theorem WriteR_ct (I:Imm) (l:Value) (L:Lin) (l_f:IsLin I l L) (hG:TextG I):Ct Tryz.prog 31 #[l] I ([]) (fun v I' M'=>v=.tuple #[sV ((DP L).1),vI ((DP L).2)]∧M'=[]):=by
 obtain ⟨l1,l2,l3,rfl,c8,c9,d0⟩:=id l_f;obtain ⟨a3,a4,i1,i4,g6,rfl,i2,i3,b6,b9⟩:=id c8;obtain ⟨a1,a2,c4,c5,rfl,i5,i6,a8⟩:=id c9;obtain ⟨a5,a6,i7,j0,rfl,i8,i9,a9⟩:=id d0;refine fr (args:=[_]) (N:=135) Tryz.func31 (fun F=>?_);show Run _ _ (c_WriteR []) _ _ [(0,_)] _ _;refine rnm (rqr ?_);refine sS (sb 1 26 (AZ L (vS a3 L.start.length a4) (vS a1 L.keeps.length a2) (vS a5 L.slips.length a6)) (fun b1=>(sp 2 [(3,vI 0),(2,sV ([]:List UInt8))] (se (rq (rqr (sd (dnb 10 0 0 b1 (FW L (vS a3 L.start.length a4) (vS a1 L.keeps.length a2) (vS a5 L.slips.length a6))) (sd (dc 11 (fun I' hI=>(rCheck_ct I' _ L ((EM c8 c9 d0).mono hI) :))) (sp 1 [(4,vI (AY L))] (sn (sp 2 [(13,.bool (!(cmp .eql (AY L) 0)))] (se (rc 13 rfl (fun h1=>?_) (fun h1=>?_))))))))))))))
 ·
  have e0:=h1;have h1:=BG (BO h1);refine rqr (sp 3 [(3,vI (AY L)),(2,sV ([]:List UInt8))] (se (BF (RP (rt2s 2 3 [] rfl rfl (TC _ (TR _)) (IR _) ?_)))));exact ⟨(congrArg (fun p:List UInt8 × Int=>Value.tuple #[sV p.1,vI p.2]) (OU h1).symm),rfl⟩
 have e0:=h1;have h1:=BI (BK h1);have hz:AY L=0:=by omega
 have hg:GoodL L:=MD hz;have k0:=hg.start;have k1:=hg.places;have k2:=hg.sorts;have k3:=hg.keeps;have k4:=hg.slips;refine AM (NX (rqr (sp 1 [(15,vP b1 0)] (sd (dlb 16 0 0 b1 (vI L.places)) (sp 1 [(17,vP b1 1)] (sd (dlb 18 0 1 b1 (vI L.sorts)) (sS (sbs 19 3 2 #[vI L.places,vI L.sorts] (fun b3=>(pm (M':=((bX b1 (AZ L (vS a3 L.start.length a4) (vS a1 L.keeps.length a2) (vS a5 L.slips.length a6)) 26)::([(bX b3 #[vI L.places,vI L.sorts] 3)]++F))) (PS _ _ _) ?_))))))))));have i0:Own 3 1 AO (vS (some ⟨b3,0,none⟩) 2 2) ([(L.places:Int),(L.sorts:Int)]:List Int) [(bX b3 #[vI L.places,vI L.sorts] 3)]:=Own.lit rfl rfl;refine sfz (A:=((bX b1 (AZ L (vS a3 L.start.length a4) (vS a1 L.keeps.length a2) (vS a5 L.slips.length a6)) 26)::F)) 0 i0 PM.symm (fun I6 b5 c1=>?_);replace b6:=b6.mono b5;replace b9:=fun i hi=>(b9 i hi).mono b5
 replace a8:=a8.mono b5;replace a9:=a9.mono b5;replace hG:=hG.mono b5;obtain ⟨f3,f5,f4,f8,c7,f6,f7,f9⟩:=id c1;cases c7;refine sd (dc 20 (fun I' hI=>(rowR_ct I' ([108,105,110,101,110]:List UInt8) _ _ (c1.mono hI) (by first | assumption | exact TextG.mono (by assumption) hI) (by exact hg.threeHead) (by exact ⟨by first | omega | decide,by first | omega | simp⟩) :))) (sp 1 [(5,sV (jn ([108,105,110,101,110]:List UInt8) ([(L.places:Int),(L.sorts:Int)]:List Int)++[10]))] (CE 5 rfl (show (sV (jn ([108,105,110,101,110]:List UInt8) ([(L.places:Int),(L.sorts:Int)]:List Int)++[10]):Value)=sV (BP (EX L 0)) from congrArg sV (headLine L)) (se (rq (rqr (sp 1 [(6,vI 0)] (se (rb 0 ?_))))))));refine rl (fun mz a w=>∃ J0:Imm,∃ k:Nat,(I6.le J0)∧(k≤L.start.length)∧SD 135 [(5,sV (BP (EX L k))),(6,vI ↑k),(1,vP b1 0),(2,sV ([]:List UInt8)),(3,vI 0)] J0 ((bX b1 (AZ L (vS a3 L.start.length a4) (vS a1 L.keeps.length a2) (vS a5 L.slips.length a6)) 26)::F) a w (mz=L.start.length-k)) ?_ ?_
 ·intro a w hS hD hW;exact ⟨_,I6,0,IR _,Nat.zero_le _,hS.sub su,hD,hW,rfl⟩
 rintro mz a w ⟨J0,k,hJ0,hk,hS,hD,hW,rfl⟩
 refine AP hS hD hW ?_;clear hS hD hW a w;replace b6:=b6.mono hJ0;replace b9:=fun i hi=>(b9 i hi).mono hJ0
 replace a8:=a8.mono hJ0;replace a9:=a9.mono hJ0;replace hG:=hG.mono hJ0;have k8:=hg.startsLe hk;refine rq (rqr (sp 2 [(22,vP b1 2),(21,vI ↑k)] (sd (dlb 23 0 2 b1 (vS a3 L.start.length a4)) (sp 2 [(25,.bool (cmp .lss ↑k (↑(L.start.length))))] (se (rc 25 rfl (fun h2=>?_) (fun h2=>?_)))))))
 ·
  have e1:=h2;have h2:=BW h2;refine AM (NX (rq (rb 1 ?_)));have g4:=BM (d:=[]) (xs:=L.start) (k:=k) (by omega);have g3:=hg.threeRow g4;have k6:=hg.rows _ g4;have e7:=RD (w:=[115,116,97,114,116]) g3;simp only [LC,LN] at e7;refine rr (sp 2 [(29,vP b1 2),(28,sV (BP (EX L k)))] (sd (dlb 30 0 2 b1 (vS a3 L.start.length a4)) (sp 1 [(31,vI ↑k)] (sd (di 32 1 k b6.addr) ?_))));have c6:=b9 k (by omega);obtain ⟨j2,j4,j3,j7,d1,j5,j6,j8⟩:=id c6;rw [d1] at c6;refine sd (DC (dl 33 (GX b6 k (by omega))) d1) (sd (dc 34 (fun I' hI=>(rowR_ct I' ([115,116,97,114,116]:List UInt8) _ _ (c6.mono hI) (by first | assumption | exact TextG.mono (by assumption) hI) (by exact g3) (by exact ⟨by first | omega | decide,by first | omega | simp⟩) :))) (sd (dct 35 (.tmp 28) (.tmp 34) 9 rfl rfl) (sp 1 [(5,sV ((BP (EX L k))++(jn ([115,116,97,114,116]:List UInt8) (L.start.getD k [])++[10])))] (ee (NB (NX (rr (sp 1 [(26,vI ↑k)] (sd (da 27 ↑k 1) (sp 1 [(6,vI (↑k+1))] (ee ?_)))))))))));refine AN (L.start.length-(k+1)) (by omega) ?_;intro a w hS hD hW;exact ⟨J0,k+1,hJ0,by omega,hS.sub (.consE 5 rfl (congrArg sV (startLine (by omega))) su),hD,hW,rfl⟩
 have e1:=h2;have h2:=CB h2;refine BX 0 (EP (EP (EB (NX (rq (rqr (sp 1 [(7,vI 0)] (CE 5 rfl (show (sV (BP (EX L k)):Value)=sV (BP (EW L 0)) from congrArg (fun x=>sV (BP x)) (starts_done (by omega))) (se (rb 2 ?_))))))))));refine rl (fun mz a w=>∃ J1:Imm,∃ i:Nat,(J0.le J1)∧(i≤L.keeps.length)∧SD 135 [(5,sV (BP (EW L i))),(7,vI ↑i),(1,vP b1 0),(2,sV ([]:List UInt8)),(3,vI 0)] J1 ((bX b1 (AZ L (vS a3 L.start.length a4) (vS a1 L.keeps.length a2) (vS a5 L.slips.length a6)) 26)::F) a w (mz=L.keeps.length-i)) ?_ ?_
 ·intro a w hS hD hW;exact ⟨_,J0,0,IR _,Nat.zero_le _,hS.sub su,hD,hW,rfl⟩
 rintro mz a w ⟨J1,i,hJ1,hi,hS,hD,hW,rfl⟩
 refine AP hS hD hW ?_;clear hS hD hW a w;replace a8:=a8.mono hJ1;replace a9:=a9.mono hJ1;replace hG:=hG.mono hJ1;have j9:=hg.keepsLe hi;refine rq (rqr (sp 2 [(37,vP b1 3),(36,vI ↑i)] (sd (dlb 38 0 3 b1 (vS a1 L.keeps.length a2)) (sp 2 [(40,.bool (cmp .lss ↑i (↑(L.keeps.length))))] (se (rc 40 rfl (fun h3=>?_) (fun h3=>?_)))))))
 ·
  have e2:=h3;have h3:=BW h3;refine AM (NX (rq (rb 3 ?_)));have g0:=hg.threeKeep (BM (d:=AK) (xs:=L.keeps) (k:=i) (by omega));have e7:=RD (w:=[107,101,101,112]) g0;simp only [LC,LN] at e7;refine rd 21 [(0,true),(1,true),(2,true),(3,true),(4,true),(5,true),(6,true),(7,true),(8,true),(9,true),(10,true),(11,true),(12,true),(13,true),(14,true),(15,true),(16,true),(17,true),(18,true),(19,false),(20,true)] ((bX b1 (AZ L (vS a3 L.start.length a4) (vS a1 L.keeps.length a2) (vS a5 L.slips.length a6)) 26)::[]) F (ox 2 [(44,vP b1 3),(43,sV (BP (EW L i)))] ?_);refine AC (dlb 45 0 3 b1 (vS a1 L.keeps.length a2)) (ox 1 [(46,vI ↑i)] ?_);refine AC (di 47 3 i a8.addr) (ox 1 [(48,.pointer (some ⟨c4,c5+i*3,none⟩))] ?_);refine AC (dl 49 (MH a8 i (by omega) 0 (by decide) (v:=vI ((L.keeps.getD i AK).place)) rfl)) (ox 1 [(50,vP b1 3)] ?_);refine AC (dlb 51 0 3 b1 (vS a1 L.keeps.length a2)) (ox 1 [(52,vI ↑i)] ?_);refine AC (di 53 3 i a8.addr) (ox 1 [(54,.pointer (some ⟨c4,c5+i*3+1,none⟩))] ?_);refine AC (dl 55 (MH a8 i (by omega) 1 (by decide) (v:=vI ((L.keeps.getD i AK).hour)) rfl)) (ox 1 [(56,vP b1 3)] ?_);refine AC (dlb 57 0 3 b1 (vS a1 L.keeps.length a2)) (ox 1 [(58,vI ↑i)] ?_);refine AC (di 59 3 i a8.addr) (ox 1 [(60,.pointer (some ⟨c4,c5+i*3+2,none⟩))] ?_);refine AC (dl 61 (MH a8 i (by omega) 2 (by decide) (v:=vI ((L.keeps.getD i AK).who)) rfl)) ?_;refine ofp_stpH (sbs 62 3 3 (OC (L.keeps.getD i AK)) (fun d2=>?_));refine hk_mem (M':=((bX b1 (AZ L (vS a3 L.start.length a4) (vS a1 L.keeps.length a2) (vS a5 L.slips.length a6)) 26)::([(bX d2 (OC (L.keeps.getD i AK)) 3)]++F))) (fun w h=>h.perm (PS _ _ _)) ?_;have e9:Own 3 1 AO (vS (some ⟨d2,0,none⟩) 3 3) ([((L.keeps.getD i AK).place:Int),((L.keeps.getD i AK).hour:Int),((L.keeps.getD i AK).who:Int)]:List Int) [(bX d2 (OC (L.keeps.getD i AK)) 3)]:=Own.lit rfl rfl;refine MV (B:=((bX b1 (AZ L (vS a3 L.start.length a4) (vS a1 L.keeps.length a2) (vS a5 L.slips.length a6)) 26)::F)) 0 e9 (by first | omega | (simp only [LS,LC,LN,LA,LK,LD] <;> omega) | decide) PM.symm (PR _) (fun g7 b8 b7=>?_);replace a9:=a9.mono b8;replace hG:=hG.mono b8;obtain ⟨d3,d5,d4,d8,c2,d6,d7,d9⟩:=id b7;cases c2;refine hk_done ?_;refine BB (S':=(F)) (PR _) ?_;refine AC (dc 63 (fun I' hI=>(rowR_ct I' ([107,101,101,112]:List UInt8) _ _ (b7.mono hI) (by first | assumption | exact TextG.mono (by assumption) hI) (by exact g0) (by exact ⟨by first | omega | decide,by first | omega | simp⟩) :))) ?_;refine ER (nm (nm ?_));refine sd (dct 64 (.tmp 43) (.tmp 63) 9 rfl rfl) (sp 1 [(5,sV ((BP (EW L i))++(jn ([107,101,101,112]:List UInt8) ([((L.keeps.getD i AK).place:Int),((L.keeps.getD i AK).hour:Int),((L.keeps.getD i AK).who:Int)]:List Int)++[10])))] (ee (NB (NX (rr (sp 1 [(41,vI ↑i)] (sd (da 42 ↑i 1) (sp 1 [(7,vI (↑i+1))] (ee ?_)))))))));refine AN (L.keeps.length-(i+1)) (by omega) ?_;intro a w hS hD hW;exact ⟨g7,i+1,(IT hJ1 b8),by omega,hS.sub (.consE 5 rfl (congrArg sV (keepLine (by omega))) su),hD,hW,rfl⟩
 have e2:=h3;have h3:=CB h3;refine BX 2 (EP (EP (EB (NX (rq (rqr (sp 1 [(8,vI 0)] (CE 5 rfl (show (sV (BP (EW L i)):Value)=sV (BP (BS L 0)) from congrArg (fun x=>sV (BP x)) (keepsT_done (by omega))) (se (rb 4 ?_))))))))));refine rl (fun mz a w=>∃ J2:Imm,∃ j:Nat,(J1.le J2)∧(j≤L.slips.length)∧SD 135 [(5,sV (BP (BS L j))),(8,vI ↑j),(1,vP b1 0),(2,sV ([]:List UInt8)),(3,vI 0)] J2 ((bX b1 (AZ L (vS a3 L.start.length a4) (vS a1 L.keeps.length a2) (vS a5 L.slips.length a6)) 26)::F) a w (mz=L.slips.length-j)) ?_ ?_
 ·intro a w hS hD hW;exact ⟨_,J1,0,IR _,Nat.zero_le _,hS.sub su,hD,hW,rfl⟩
 rintro mz a w ⟨J2,j,hJ2,hj,hS,hD,hW,rfl⟩
 refine AP hS hD hW ?_;clear hS hD hW a w;replace a9:=a9.mono hJ2;replace hG:=hG.mono hJ2;have k5:=hg.slipsLe hj;refine rq (rqr (sp 2 [(66,vP b1 4),(65,vI ↑j)] (sd (dlb 67 0 4 b1 (vS a5 L.slips.length a6)) (sp 2 [(69,.bool (cmp .lss ↑j (↑(L.slips.length))))] (se (rc 69 rfl (fun h4=>?_) (fun h4=>?_)))))))
 ·
  have e3:=h4;have h4:=BW h4;refine AM (NX (rq (rb 5 (rq ?_))));have g5:=BM (d:=AB) (xs:=L.slips) (k:=j) (by omega);have c0:=hg.threeS g5;have k7:=(LQ (hg.slipOf g5)).2.2.1;have q0:=c0.num;have n0:(Lib.itoa (L.slips.getD j AB).num).length≤3:=FQ q0;have q1:=c0.hour;have n1:(Lib.itoa (L.slips.getD j AB).hour).length≤3:=FQ q1;have q2:=c0.place;have n2:(Lib.itoa (L.slips.getD j AB).place).length≤3:=FQ q2;have q3:=c0.to;have n3:(Lib.itoa (L.slips.getD j AB).to).length≤3:=FQ q3;have q4:=c0.sort;have n4:(Lib.itoa (L.slips.getD j AB).sort).length≤3:=FQ q4;have q5:=c0.amt;have n5:(Lib.itoa (L.slips.getD j AB).amt).length≤3:=FQ q5;have hLa:=sxA_le c0;have hLb:=sxB_le c0;have hLc:=sxC_le c0;have hLd:=sxD_le c0;have k9:=SZ (L.slips.getD j AB).kind;refine rr (sp 1 [(72,vP b1 4)] (sd (dlb 73 0 4 b1 (vS a5 L.slips.length a6)) (sp 1 [(74,vI ↑j)] (sd (di 75 8 j a9.addr) (sd (dln 76 75 29 (GI (L.slips.getD j AB)) rfl (DR (vals:=EH) (fun _=>rfl) a9 j (by omega))) (sS (sal 9 29 DU (fun a7=>(sS (ss 0 0 a7 (GI (L.slips.getD j AB)) (GI (L.slips.getD j AB)) (_::_::_) (cs:=[_,_,_,_,_,_,_,_]) rfl rfl (se (rq ?_))))))))))));refine rd0 19 (ox 2 [(78,vP a7 2),(77,sV (BP (BS L j)))] ?_);refine AC (dlb 79 0 2 a7 (vI ((L.slips.getD j AB).kind))) ?_;refine AC (dc 80 (fun I' hI=>(word_ct I' ((L.slips.getD j AB).kind) (by omega) :))) ?_;refine AC (dct 81 (.tmp 77) (.tmp 80) 9 rfl rfl) ?_;refine AC (dct 82 (.tmp 81) (.const (.string { data:=#[59] })) 9 rfl rfl) (ox 1 [(83,vP a7 0)] ?_);refine AC (dlb 84 0 0 a7 (vI ((L.slips.getD j AB).num))) ?_;refine AC (dc 85 (fun I' hI=>(LX I' ((L.slips.getD j AB).num) (by first | assumption | exact TextG.mono (by assumption) hI) (by omega) :))) ?_;refine AC (dct 86 (.tmp 82) (.tmp 85) 9 rfl rfl) ?_;refine AC (dct 87 (.tmp 86) (.const (.string { data:=#[59] })) 9 rfl rfl) (ox 1 [(88,vP a7 1)] ?_);refine AC (dlb 89 0 1 a7 (vI ((L.slips.getD j AB).hour))) ?_;refine AC (dc 90 (fun I' hI=>(LX I' ((L.slips.getD j AB).hour) (by first | assumption | exact TextG.mono (by assumption) hI) (by omega) :))) ?_;refine AC (dct 91 (.tmp 87) (.tmp 90) 9 rfl rfl) ?_;refine AC (dct 92 (.tmp 91) (.const (.string { data:=#[59] })) 9 rfl rfl) (ox 1 [(93,vP a7 3)] ?_);refine AC (dlb 94 0 3 a7 (vI ((L.slips.getD j AB).place))) ?_;refine AC (dc 95 (fun I' hI=>(LX I' ((L.slips.getD j AB).place) (by first | assumption | exact TextG.mono (by assumption) hI) (by omega) :))) ?_;refine BJ (sd (dct 96 (.tmp 92) (.tmp 95) 9 rfl rfl) (sp 1 [(5,sV ((((((((BP (BS L j))++(JA ((L.slips.getD j AB).kind)))++([59]:List UInt8))++(num ((L.slips.getD j AB).num)))++([59]:List UInt8))++(num ((L.slips.getD j AB).hour)))++([59]:List UInt8))++(num ((L.slips.getD j AB).place))))] (CE 5 rfl (show (sV ((((((((BP (BS L j))++(JA ((L.slips.getD j AB).kind)))++([59]:List UInt8))++(num ((L.slips.getD j AB).num)))++([59]:List UInt8))++(num ((L.slips.getD j AB).hour)))++([59]:List UInt8))++(num ((L.slips.getD j AB).place))):Value)=sV (BP (BS L j)++sxA (L.slips.getD j AB)) from congrArg sV (slipLineA _ _)) (se (rq ?_)))));refine BC (fun a w=>∃ a0:Imm,(J2.le a0)∧SE 135 [(1,vP b1 0),(2,sV ([]:List UInt8)),(3,vI 0),(5,sV (BP (BS L j)++sxB (L.slips.getD j AB))),(8,vI ↑j),(9,vP a7 0)] a0 ((bX a7 (AV (L.slips.getD j AB)) 29)::(bX b1 (AZ L (vS a3 L.start.length a4) (vS a1 L.keeps.length a2) (vS a5 L.slips.length a6)) 26)::F) a w) ?_ ?_
  ·
   refine rqr (sp 1 [(97,vP a7 2)] (sd (dlb 98 0 2 a7 (vI ((L.slips.getD j AB).kind))) (sp 1 [(99,.bool (cmp .eql ((L.slips.getD j AB).kind) 1))] (se (rc 99 rfl (fun h5=>?_) (fun h5=>?_))))))
   ·
    have e4:=h5;have h5:=BI h5;refine rr (sp 1 [(100,sV (BP (BS L j)++sxA (L.slips.getD j AB)))] (sd (dct 101 (.tmp 100) (.const (.string { data:=#[59] })) 9 rfl rfl) (sp 1 [(102,vP a7 4)] (sd (dlb 103 0 4 a7 (vI ((L.slips.getD j AB).to))) (sd (dc 104 (fun I' hI=>(LX I' ((L.slips.getD j AB).to) (by first | assumption | exact TextG.mono (by assumption) hI) (by omega) :))) (sd (dct 105 (.tmp 101) (.tmp 104) 9 rfl rfl) (sp 1 [(5,sV (((BP (BS L j)++sxA (L.slips.getD j AB))++([59]:List UInt8))++(num ((L.slips.getD j AB).to))))] (ee ?_))))))));exact AG (fun a w hS hD hW=>⟨J2,(IR _),hS.sub (sun 3 (.consE 5 rfl (congrArg sV (slipLineB h5)) su)),hD,hW⟩)
   have e4:=h5;have h5:=BG h5;refine AM ?_;exact AG (fun a w hS hD hW=>⟨J2,(IR _),hS.sub (sun 3 (.consE 5 rfl (congrArg sV (slipLineBn h5)) su)),hD,hW⟩)
  rintro a w ⟨a0,b2,hS,hD,hW⟩
  refine AP hS hD hW ?_;clear hS hD hW a w;replace hG:=hG.mono b2;refine rqr (sp 1 [(106,sV (BP (BS L j)++sxB (L.slips.getD j AB)))] (sd (dct 107 (.tmp 106) (.const (.string { data:=#[59] })) 9 rfl rfl) (sp 1 [(108,vP a7 5)] (sd (dlb 109 0 5 a7 (vI ((L.slips.getD j AB).sort))) (sd (dc 110 (fun I' hI=>(LX I' ((L.slips.getD j AB).sort) (by first | assumption | exact TextG.mono (by assumption) hI) (by omega) :))) (sd (dct 111 (.tmp 107) (.tmp 110) 9 rfl rfl) (sp 1 [(5,sV (((BP (BS L j)++sxB (L.slips.getD j AB))++([59]:List UInt8))++(num ((L.slips.getD j AB).sort))))] (CE 5 rfl (show (sV (((BP (BS L j)++sxB (L.slips.getD j AB))++([59]:List UInt8))++(num ((L.slips.getD j AB).sort))):Value)=sV (BP (BS L j)++sxC (L.slips.getD j AB)) from congrArg sV (slipLineC _ _)) (se (rq ?_))))))))));refine BC (fun a w=>∃ b0:Imm,(a0.le b0)∧SE 135 [(1,vP b1 0),(2,sV ([]:List UInt8)),(3,vI 0),(5,sV (BP (BS L j)++sxD (L.slips.getD j AB))),(8,vI ↑j),(9,vP a7 0)] b0 ((bX a7 (AV (L.slips.getD j AB)) 29)::(bX b1 (AZ L (vS a3 L.start.length a4) (vS a1 L.keeps.length a2) (vS a5 L.slips.length a6)) 26)::F) a w) ?_ ?_
  ·
   refine rq ?_;refine BC (fun a w=>SE 135 [(1,vP b1 0),(2,sV ([]:List UInt8)),(3,vI 0),(5,sV (BP (BS L j)++sxC (L.slips.getD j AB))),(8,vI ↑j),(9,vP a7 0),(118,.bool ((CR ((L.slips.getD j AB).kind))&&((L.slips.getD j AB).soil)))] a0 ((bX a7 (AV (L.slips.getD j AB)) 29)::(bX b1 (AZ L (vS a3 L.start.length a4) (vS a1 L.keeps.length a2) (vS a5 L.slips.length a6)) 26)::F) a w) ?_ ?_
   ·
    refine rr (sp 1 [(112,vP a7 2)] (sd (dlb 113 0 2 a7 (vI ((L.slips.getD j AB).kind))) (sd (dc 114 (fun I' hI=>(QA I' ((L.slips.getD j AB).kind) :))) (sp 1 [(115,.bool (CR ((L.slips.getD j AB).kind)))] ?_))));refine AQ 115 rfl (fun h6=>?_) (fun h6=>?_)
    ·
     have e5:=h6;refine sp 1 [(116,vP a7 6)] (sd (dlb 117 0 6 a7 (.bool ((L.slips.getD j AB).soil))) (sp 1 [(118,.bool ((L.slips.getD j AB).soil))] (ee ?_)));refine AG (fun a w hS hD hW=>⟨hS.sub (sun 6 (.consE 118 rfl (congrArg Value.bool (by simp only [h6,kk])) (.nil _))),hD,hW⟩)
    have e5:=h6;refine sp 3 [(118,.bool false)] (ee ?_);refine AG (fun a w hS hD hW=>⟨hS.sub (sun 6 (.consE 118 rfl (congrArg Value.bool (by simp only [h6,kk])) (.nil _))),hD,hW⟩)
   rintro a w ⟨hS,hD,hW⟩
   refine AP hS hD hW ?_;clear hS hD hW a w;refine rc 118 rfl (fun h7=>?_) (fun h7=>?_)
   ·
    have c3:=h7;obtain ⟨g8,g9⟩:=JP h7;have g1:CR (L.slips.getD j AB).kind=true∧(L.slips.getD j AB).soil=true:=by simpa using c3
    refine rr (sp 1 [(119,sV (BP (BS L j)++sxC (L.slips.getD j AB)))] (sd (dct 120 (.tmp 119) (.const (.string { data:=#[59,115] })) 9 rfl rfl) (sp 1 [(5,sV ((BP (BS L j)++sxC (L.slips.getD j AB))++([59,115]:List UInt8)))] (ee ?_))));exact AG (fun a w hS hD hW=>⟨a0,(IR _),hS.sub (sun 3 (.consE 5 rfl (congrArg sV (slipLineD1 g1.1 g1.2)) su)),hD,hW⟩)
   have c3:=h7;have h0:¬ (CR (L.slips.getD j AB).kind=true∧(L.slips.getD j AB).soil=true):=by (have hq:=c3;intro hh;rw [hh.1,hh.2] at hq;exact absurd hq (by decide))
   refine rqr (sp 1 [(121,vP a7 2)] (sd (dlb 122 0 2 a7 (vI ((L.slips.getD j AB).kind))) (sd (dc 123 (fun I' hI=>(QA I' ((L.slips.getD j AB).kind) :))) (se (rc 123 rfl (fun h8=>?_) (fun h8=>?_))))))
   ·
    have e6:=h8;have g2:CR (L.slips.getD j AB).kind=true:=h8;have e8:(L.slips.getD j AB).soil=false:=by (cases hso:(L.slips.getD j AB).soil with | false=>rfl | true=>exact absurd ⟨g2,hso⟩ h0)
    refine rr (sp 1 [(124,sV (BP (BS L j)++sxC (L.slips.getD j AB)))] (sd (dct 125 (.tmp 124) (.const (.string { data:=#[59,99] })) 9 rfl rfl) (sp 1 [(5,sV ((BP (BS L j)++sxC (L.slips.getD j AB))++([59,99]:List UInt8)))] (ee ?_))));exact AG (fun a w hS hD hW=>⟨a0,(IR _),hS.sub (sun 3 (.consE 5 rfl (congrArg sV (slipLineD2 g2 e8)) su)),hD,hW⟩)
   have e6:=h8;have h9:CR (L.slips.getD j AB).kind=false:=h8;refine AM ?_;exact AG (fun a w hS hD hW=>⟨a0,(IR _),hS.sub (sun 3 (.consE 5 rfl (congrArg sV (slipLineD3 h9)) su)),hD,hW⟩)
  rintro a w ⟨b0,b4,hS,hD,hW⟩
  refine AP hS hD hW ?_;clear hS hD hW a w;replace hG:=hG.mono b4;refine rr (sp 1 [(126,sV (BP (BS L j)++sxD (L.slips.getD j AB)))] (sd (dct 127 (.tmp 126) (.const (.string { data:=#[59] })) 9 rfl rfl) (sp 1 [(128,vP a7 7)] (sd (dlb 129 0 7 a7 (vI ((L.slips.getD j AB).amt))) (sd (dc 130 (fun I' hI=>(LX I' ((L.slips.getD j AB).amt) (by first | assumption | exact TextG.mono (by assumption) hI) (by omega) :))) (sd (dct 131 (.tmp 127) (.tmp 130) 9 rfl rfl) (sd (dct 132 (.tmp 131) (.const (.string { data:=#[10] })) 9 rfl rfl) (sp 1 [(5,sV ((((BP (BS L j)++sxD (L.slips.getD j AB))++([59]:List UInt8))++(num ((L.slips.getD j AB).amt)))++([10]:List UInt8)))] (ee (NB (NX (rr (sp 1 [(70,vI ↑j)] (sd (da 71 ↑j 1) (sp 1 [(8,vI (↑j+1))] (ee ?_))))))))))))))));refine AN (L.slips.length-(j+1)) (by omega) ?_;intro a w hS hD hW;exact ⟨b0,j+1,(IT (IT hJ2 b2) b4),by omega,hS.sub (.consE 5 rfl (congrArg sV (slipLineE (by omega))) su),hD,(hW.perm (PR _)).sub (TC _ (TR _)),rfl⟩
 have e3:=h4;have h4:=CB h4;refine BX 4 (EP (EP (EB (NX (rqr (sp 1 [(133,sV (BP (BS L j)))] (sd (dct 134 (.tmp 133) (.const (.string { data:=#[99,111,117,110,116,101,100,10] })) 9 rfl rfl) (sp 2 [(3,vI 0),(2,sV ((BP (BS L j))++([99,111,117,110,116,101,100,10]:List UInt8)))] (se (BF ?_))))))))));have hw:=RU hz;refine DQ (t:=2) (u:=3) [] (by kernel_rfl) rfl rfl (TC _ (TR _)) (IT (IT (IT b5 hJ0) hJ1) hJ2) ?_;exact ⟨(congrArg (fun p:List UInt8 × Int=>Value.tuple #[sV p.1,vI p.2]) (show (BP (BS L j)++[99,111,117,110,116,101,100,10],(0:Int))=DP L from by rw [hw,allLine (by omega)])),rfl⟩
end Go.Proofs.YtgcemienebmdeaaGreatDoor
namespace Go.Sh
open Go Go.Sl
def gAt (cs:List Car) (i:Nat):Int:=(cs.getD i noCar).grp
structure CarsInv (cs:List Car) (g l:Int):Prop where
  ok:∀ c∈cs,carErr c=0∧c.len≤3
  le:∀ i,i<cs.length→gAt cs i≤g
  run:∀ i j,i≤j→j<cs.length→gAt cs i=gAt cs j→gAt cs i≠0→∀ m,i≤m→m≤j→gAt cs m=gAt cs i
  g0:0≤g∧g≤3
  l0:0≤l∧l≤2
  last:0<l→1≤g∧(0<cs.length→gAt cs (cs.length-1)=g∨∀ i,i<cs.length→gAt cs i<g)
theorem CarsInv.nil:CarsInv [] 0 0:=⟨fun c h=>by simp at h,fun i h=>by simp at h,fun i j _ h=>by simp at h,by omega,by omega,fun h=>by omega⟩
structure Placed (cs:List Car) (T k a:Nat) (ts:List (List Int)):Prop where
  len:ts.length=T
  a0:a<T
  perm:ts.flatten.Perm (ES k)
  ex:∃ tr:Nat→Nat,(∀ i,i<T→ts.getD i []=(ES k).filter fun c=>decide (tr c.toNat=i))∧(∀ c,c<k→tr c<T)∧(∀ c,c+1<k→gAt cs (c+1)≠0→gAt cs (c+1)=gAt cs c→tr (c+1)=tr c)∧(0<k→tr (k-1)=a)
theorem mem_wholeL {n:Nat} {c:Int}:c∈ES n↔0≤c∧c<n:=by
  unfold ES;simp only [List.mem_map,List.mem_range]
  constructor
  · rintro ⟨i,hi,rfl⟩;omega
  · intro h;exact ⟨c.toNat,by omega,by omega⟩
theorem Placed.start {cs:List Car} {T:Nat} (hT:0<T):Placed cs T 0 0 (List.replicate T []):=by
  refine ⟨by simp,hT,by simp [ES],fun _=>0,fun i hi=>?_,fun c h=>by omega,fun c h=>by omega,fun h=>by omega⟩;simp [ES,List.getD,hi]
theorem sorted_prev {l:List Int} (hs:l.Pairwise (·<·)) {j:Nat} (hj:j<l.length) (hm:l.getD j 0-1∈l):0<j∧l.getD (j-1) 0=l.getD j 0-1:=by
  obtain ⟨m,hm1,hm2⟩:=List.mem_iff_getElem.1 hm;have hlt:∀ (x y:Nat) (hx:x<l.length) (hy:y<l.length),x<y→l.getD x 0<l.getD y 0:=fun x y hx hy h=>by
    have:=List.pairwise_iff_getElem.1 hs x y hx hy h
    simpa [List.getD,hx,hy] using this
  have e:l.getD m 0=l.getD j 0-1:=by simpa [List.getD,hm1] using hm2
  have h1:m<j:=by
    rcases Nat.lt_trichotomy m j with h | h | h
    · exact h
    · subst h;omega
    · have:=hlt j m hj hm1 h;omega
  rcases Nat.lt_or_ge m (j-1) with h2 | h2
  · have a:=hlt m (j-1) hm1 (by omega) h2
    have b:=hlt (j-1) j (by omega) hj (by omega);omega
  · have:m=j-1:=by omega
    subst this;exact ⟨by omega,e⟩
theorem wholeL_sorted (n:Nat):(ES n).Pairwise (·<·):=by
  unfold ES;rw [List.pairwise_map];exact List.pairwise_lt_range.imp fun h=>by omega
theorem Placed.groups {cs:List Car} {T a:Nat} {ts:List (List Int)} {g l:Int} (h:Placed cs T cs.length a ts) (hc:CarsInv cs g l):GrpFrom cs ts []:=by
  obtain ⟨tr,t1,t2,t3,t4⟩:=h.ex;have hmem:∀ i,i<T→∀ c,c∈ts.getD i []↔(0≤c∧c<cs.length)∧tr c.toNat=i:=fun i hi c=>by
    rw [t1 i hi,List.mem_filter,mem_wholeL,decide_eq_true_eq]
  have hgrp:∀ c:Int,grp cs c=gAt cs c.toNat:=fun c=>rfl
  have hrun:∀ n x:Nat,x+n<cs.length→gAt cs x≠0→gAt cs x=gAt cs (x+n)→tr (x+n)=tr x:=by
    intro n
    induction n with
    | zero=>intro x _ _ _;rfl
    | succ n ih=>
      intro x hx h0 e;have e1:gAt cs (x+n)=gAt cs x:=hc.run x (x+(n+1)) (by omega) hx e h0 (x+n) (by omega) (by omega);have:=ih x (by omega) h0 e1.symm;rw [← this];exact t3 (x+n) (by omega) (by rw [show x+n+1=x+(n+1) by omega,← e];exact h0) (by rw [show x+n+1=x+(n+1) by omega,← e,e1])
  have hrun2:∀ x y:Nat,x<cs.length→y<cs.length→gAt cs x≠0→gAt cs x=gAt cs y→tr x=tr y:=fun x y hx hy h0 e=>by
    rcases Nat.le_total x y with hxy | hxy
    · have:=hrun (y-x) x (by omega) h0 (by rw [show x+(y-x)=y by omega];exact e)
      rw [show x+(y-x)=y by omega] at this;exact this.symm
    · have:=hrun (x-y) y (by omega) (by rw [← e];exact h0) (by rw [show y+(x-y)=x by omega];exact e.symm)
      rw [show y+(x-y)=x by omega] at this;exact this
  intro i j hi hj h0 hm;rw [h.len] at hi;have hcm:(ts.getD i []).getD j 0∈ts.getD i []:=BM hj;obtain ⟨⟨c0,c1⟩,c2⟩:=(hmem i hi _).1 hcm
  generalize hcc:(ts.getD i []).getD j 0=c at hcm c0 c1 c2 h0 hm
  rcases hm with hm | ⟨c',hc',e⟩
  · simp at hm
  · rw [hgrp,hgrp] at e
    rw [hgrp] at h0;have hs:(ts.getD i []).Pairwise (·<·):=by rw [t1 i hi];exact (wholeL_sorted _).sublist List.filter_sublist
    have hc2:(0≤c'∧c'<cs.length)∧(tr c'.toNat<i∨c'∈(ts.getD i []).take j):=by
      rcases List.mem_append.1 hc' with hx | hx
      · obtain ⟨t,ht,hx⟩:=List.mem_flatten.1 hx
        obtain ⟨m,hm1,hm2⟩:=List.mem_iff_getElem.1 ht;have hm3:m<i∧m<ts.length:=by rw [List.length_take] at hm1;omega
        have e3:ts.getD m []=t:=by rw [← hm2];simp [List.getD,hm3.2]
        rw [← e3] at hx;obtain ⟨hb,ht2⟩:=(hmem m (by rw [← h.len];exact hm3.2) _).1 hx;exact ⟨hb,.inl (by omega)⟩
      · exact ⟨((hmem i hi _).1 (List.mem_of_mem_take hx)).1,.inr hx⟩
    obtain ⟨⟨d0,d1⟩,hd⟩:=hc2;have htr:=hrun2 c.toNat c'.toNat (by omega) (by omega) (by omega) e.symm;rcases hd with hd | hd
    · omega
    · obtain ⟨m,hm1,hm2⟩:=List.mem_iff_getElem.1 hd
      have hm3:m<j∧m<(ts.getD i []).length:=by rw [List.length_take] at hm1;omega
      have hlt:c'<c:=by
        have h1:=List.pairwise_iff_getElem.1 hs m j hm3.2 hj hm3.1;have e1:c'=(ts.getD i [])[m]:=by rw [← hm2];simp
        have e2:c=(ts.getD i [])[j]:=by rw [← hcc,List.getD,List.getElem?_eq_getElem hj];rfl
        rw [e1,e2];exact h1
      have e4:gAt cs (c.toNat-1)=gAt cs c'.toNat:=hc.run c'.toNat c.toNat (by omega) (by omega) e (by omega) (c.toNat-1) (by omega) (by omega);have e5:tr (c.toNat-1)=i:=by
        have:=hrun2 (c.toNat-1) c.toNat (by omega) (by omega) (by omega) (by omega);omega
      have hin:c-1∈ts.getD i []:=(hmem i hi _).2 ⟨by omega,by rw [show (c-1).toNat=c.toNat-1 by omega];exact e5⟩;have hp:=sorted_prev hs hj (by rw [hcc];exact hin);rw [hcc] at hp;unfold ON;have e6:((j:Int)-1).toNat=j-1:=by omega
      rw [show (↑j:Int).toNat=j by omega,e6,hp.2,hcc];have e7:inB ↑j 1 (↑(ts.getD i []).length-1)=true:=by simp only [inB,Bool.and_eq_true,decide_eq_true_eq];omega
      rw [e7];have e8:(carAt cs c).grp=(carAt cs (c-1)).grp:=by
        show gAt cs c.toNat=gAt cs (c-1).toNat;rw [show (c-1).toNat=c.toNat-1 by omega];omega
      rw [decide_eq_true (show 0<(carAt cs c).grp from h0),decide_eq_true e8];rfl
structure Roomy (cs:List Car) (ts:List (List Int)) (k:Nat) (rm:List Int):Prop where
  len:rm.length=k
  ok:∀ n∈rm,0≤n∧n≤20
  fits:∀ i,i<k→lenOf cs (ts.getD i [])≤rm.getD i 0
theorem Roomy.nil (cs:List Car) (ts:List (List Int)):Roomy cs ts 0 []:=⟨rfl,fun n h=>by simp at h,fun i h=>by omega⟩
theorem Placed.tracks {cs:List Car} {T k a:Nat} {ts:List (List Int)} (h:Placed cs T k a ts):ts.flatten.length=k:=by rw [h.perm.length_eq,FO]
structure Blk (cs:List Car) (bl:List (List Int)):Prop where
  one:∀ b∈bl,∀ x∈b,∀ y∈b,grp cs x=grp cs y
  apart:bl.Pairwise fun b c=>∀ x∈b,∀ y∈c,0<grp cs x→grp cs x≠grp cs y
theorem Blk.perm {cs:List Car} {bl bl':List (List Int)} (h:Blk cs bl) (p:bl.Perm bl'):Blk cs bl':=
  ⟨fun b hb=>h.one b (p.mem_iff.2 hb),(p.pairwise_iff (fun {b c} hbc x hx y hy h0 e=>hbc y hy x hx (by omega) e.symm)).1 h.apart⟩
section
variable {Y:Yard} {k:Nat}
end
section
variable {Y:Yard} {s:Shift} {k:Nat}
end
section
variable {Y:Yard} {goal:Yard→Bool} {d k:Nat} {ds:List Shift}
end
theorem deal_put {n k:Nat} (hk:k<n):(ES k++List.replicate (n-k) (0:Int)).set k (k:Int)=ES (k+1)++List.replicate (n-(k+1)) 0:=by
  rw [List.set_append_right _ _ (by rw [FO];omega),FO,Nat.sub_self,show n-k=(n-(k+1))+1 by omega,List.replicate_succ,List.set_cons_zero,wholeL_succ];simp
theorem swap_perm {l:List Int} {i j:Nat} (hi:i<l.length) (hj:j<l.length):((l.set i (l.getD j 0)).set j (l.getD i 0)).Perm l:=by
  have e1:l.getD i 0=l[i]:=by simp [List.getD,hi]
  have e2:l.getD j 0=l[j]:=by simp [List.getD,hj]
  rw [e1,e2];exact List.set_set_perm hi hj
end Go.Sh
namespace Go.Sl
open Go
theorem own_val_int {E:TypeId} {v:Value} {M:Seg} {vs:List Value} {ys:List Int} (h:Own E 1 DG v vs M) (he:vs=ys.map fun n=>Value.int .i64 n):Own E 1 AO v ys M:=by
  have e1:CS 1 DG vs=CS 1 AO ys:=by
    rw [he,encL_vals];simp only [CS,AO,List.range_one,List.map_cons,List.map_nil];exact List.map_eq_flatMap
  have e2:vs.length=ys.length:=by rw [he,List.length_map]
  rcases h with ⟨hv,hx,hM⟩ | ⟨b,c,sp,hv,hc,hM,hl⟩
  · refine .inl ⟨hv,?_,hM⟩
    rw [hx] at e2;exact List.length_eq_zero_iff.1 e2.symm
  · exact .inr ⟨b,c,sp,by rw [hv,e2],by rw [← e2];exact hc,by rw [← e1];exact hM,by rw [← e1];exact hl⟩
end Go.Sl
namespace Go.Sh
open Go Go.Sl
def yvD:Value × Value × Value:=(undef,undef,undef)
def YardsV (I:Imm) (xs:List (Value × Value × Value)) (Ys:List Yard):Prop:=xs.length=Ys.length∧∀ i,i<xs.length→IsYard I (.agg #[(xs.getD i yvD).1,(xs.getD i yvD).2.1,(xs.getD i yvD).2.2]) (Ys.getD i noYard)
theorem YardsV.nil (I:Imm):YardsV I [] []:=⟨rfl,fun i hi=>by simp at hi⟩
theorem YardsV.at {I : Imm} {xs : List (Value × Value × Value)} {Ys : List Yard} (h : YardsV I xs Ys) {i : Nat} (hi : i < xs.length) :
    ∃ a b c,xs.getD i yvD=(a,b,c)∧IsCars I a (Ys.getD i noYard).cars∧CP I b (Ys.getD i noYard).room∧IsRows I c (Ys.getD i noYard).tracks:=by
  obtain ⟨v1,v2,v3,h1,h2,h3,h4⟩:=h.2 i hi;simp only [Value.agg.injEq] at h1;have e:=congrArg Array.toList h1;simp only [List.cons.injEq,and_true] at e;refine ⟨v1,v2,v3,?_,h2,h3,h4⟩;rw [← e.1,← e.2.1,← e.2.2]
def RowsS (I:Imm) (vs:List Value) (Ls:List (List Shift)):Prop:=vs.length=Ls.length∧∀ i,i<Ls.length→IsShifts I (vs.getD i undef) (Ls.getD i [])
theorem RowsS.nil (I:Imm):RowsS I [] []:=⟨rfl,fun i hi=>by simp at hi⟩
end Go.Sh
namespace Go.Sl
open Go
end Go.Sl
namespace Go.Sh
open Go Go.Sl
end Go.Sh
namespace Go.Sl
open Go
section
variable {P:Program} {N:Nat} {ops:Array Oper} {i d:Nat} {l:Sl} {I:Imm} {R:Seg} {ty:TypeId} {gd:Option (Nat × Bool)}
theorem det_remT {x y : Operand} {T T' : TypeId} {k : IntKind} {a b : Int} (hop : FM ops N i = some (some d, .binOp .rem T x y T', ty, gd)) (hg : FJ ops l gd = some true)
    (hx:CC l x=some (.int k a)) (hy:CC l y=some (.int k b)) (hb:1≤b):Det P N ops i l I R d (.int k (a.tmod b)):=
  det_bin hop hg hx hy fun I' M'=>by
    have hne:b≠0:=by omega
    simp only [binOp,Op.intDiv,ne_eq,not_true_eq_false,if_false,if_neg hne];exact ⟨rfl,rfl⟩
end
theorem tmod_bounds {x:Int} {n:Nat} (hn:2≤n):-(n:Int)<x.tmod n∧x.tmod n<n:=
  ⟨by have:=Int.lt_tmod_of_pos x (show (0:Int)<n by omega);omega,Int.tmod_lt_of_pos x (by omega)⟩
theorem fold_nat {x:Int} {n:Nat} (hn:2≤n):∃ r:Nat,(x.tmod n+n)%(n:Int)=↑r∧r<n:=by
  have h1:=Int.emod_nonneg (x.tmod n+n) (show (n:Int)≠0 by omega);have h2:=Int.emod_lt_of_pos (x.tmod n+n) (show (0:Int)<n by omega);exact ⟨((x.tmod n+n)%(n:Int)).toNat,by omega,by omega⟩
end Go.Sl
namespace Go.Sh
open Go Go.Sl
end Go.Sh
namespace Go.Proofs.YtgcemienebmdeaaGreatDoor
open Go Go.Sl Go.Sh
set_option maxRecDepth 100000
noncomputable def c_Deal:=cod Tryz.f71
theorem Deal_ct (I:Imm) (p:Nat) (p_s:Int) (n:Nat) (hn:n≤1000):Ct Tryz.prog 71 #[vP p 0,vI ↑n] I ([(bX p #[.int .u64 p_s] 132)]) (fun v I' M'=>∃ p_t:Int,∃ l:List Int,∃ u:Value,∃ Ms:Seg,v=u∧M'=[(bX p #[.int .u64 p_t] 132)]++(Ms)∧(l.Perm (ES n))∧Own 3 1 AO u l Ms):=by
 refine fr (args:=[_,_]) (N:=45) Tryz.func71 (fun F=>?_);show Run _ _ (c_Deal []) _ _ [(0,_),(1,_)] _ _;refine rnm (rqr ?_);refine sp 1 [(4,vN)] (sn (sp 2 [(10,vI (if (↑n:Int)<(0:Int) then 0 else ↑n))] (CE 10 rfl (show (vI (if (↑n:Int)<(0:Int) then 0 else ↑n):Value)=vI ↑n from congrArg (Value.int .i64) (by split <;> omega)) (sS (QO (d:=11) (x:=(.tmp 10)) (T:=33) (E:=3) (bs:=8) (n:=n) (z:=vI 0) (zv:=vI 0) (ty:=33) (gd:=none) (by kernel_rfl) rfl (by kernel_rfl) (by kernel_rfl) (by kernel_rfl) rfl (by kernel_rfl) (by decide) rfl (by omega) (fun b1=>?_))))));have d5:Own 3 1 DG (vS (some ⟨b1,0,none⟩) n n) (List.replicate n (vI 0)) [(b1,Obj.cells (List.replicate n (vI 0)).toArray 3 (0,0))]:=Own.made _;obtain ⟨mS4,hmS4⟩:∃ X:Seg,X=[(b1,Obj.cells (List.replicate n (vI 0)).toArray 3 (0,0))]:=⟨_,rfl⟩;rw [← hmS4] at d5;refine AW (I':=I) (M':=(mS4++(bX p #[.int .u64 p_s] 132)::F)) (fun w h=>by rw [hmS4];exact h) (pm (M':=((bX p #[.int .u64 p_s] 132)::(mS4++F))) PM ?_);have d1:=own_val_int (ys:=List.replicate n (0:Int)) d5 (by rw [List.map_replicate]);refine sp 1 [(5,vS (some ⟨b1,0,none⟩) n n)] (se (rq (rqr (sp 1 [(6,vI 0)] (se (rb 0 ?_))))));refine rl (fun mz a w=>∃ k:Nat,∃ b2:Value,∃ a7:Seg,(k≤n)∧(Own 3 1 AO b2 (ES k++List.replicate (n-k) (0:Int)) a7)∧SD 45 [(5,b2),(6,vI ↑k),(0,vP p 0),(1,vI ↑n),(4,vN)] I ((bX p #[.int .u64 p_s] 132)::(a7++F)) a w (mz=n-k)) ?_ ?_
 ·intro a w hS hD hW;exact ⟨_,0,vS (some ⟨b1,0,none⟩) n n,mS4,Nat.zero_le _,(show Own _ _ _ _ (ES 0++List.replicate (n-0) (0:Int)) _ from d1),hS.sub su,hD,hW,rfl⟩
 rintro mz a w ⟨k,b2,a7,hk,a8,hS,hD,hW,rfl⟩
 refine AP hS hD hW ?_;obtain ⟨a5,a6,rfl,c6⟩:=a8.shape;have d7:=FO k;have e6:(ES k++List.replicate (n-k) (0:Int)).length=n:=by rw [LA,d7,List.length_replicate];omega
 refine rq (rqr (sp 3 [(14,.bool (cmp .lss ↑k ↑n))] (se (rc 14 rfl (fun h1=>?_) (fun h1=>?_)))))
 ·
  have c8:=h1;have h1:=BW h1;refine AM (NX (rq (rb 1 (rr (sp 3 [(19,vI ↑k),(18,vI ↑k),(17,vS a5 (ES k++List.replicate (n-k) (0:Int)).length a6)] ?_)))));obtain ⟨e7,c5⟩:=a8.row 0;refine sd (di 20 1 k c5.addr) (sS (BT (T:=3) (x:=(.tmp 20)) (y:=(.tmp 19)) (rc:=fun i f=>AO ((ES k++List.replicate (n-k) (0:Int)).getD i 0) f) 0 k 0 ↑k (ty:=0) (gd:=none) (by kernel_rfl) rfl a8 c5 (by omega) (by decide) rfl rfl (by kernel_rfl) rfl rfl (by intro f hf;match f,hf with | 0,_=>rfl) PM.symm (fun d4 d6=>(pm (M':=((bX p #[.int .u64 p_s] 132)::(d4++F))) PM (ee (NB (NX (rr (sp 1 [(15,vI ↑k)] (sd (da 16 ↑k 1) (sp 1 [(6,vI (↑k+1))] (ee ?_))))))))))));refine AN (n-(k+1)) (by omega) ?_;intro a w hS hD hW;exact ⟨k+1,vS a5 (ES k++List.replicate (n-k) (0:Int)).length a6,d4,by omega,(by rw [← deal_put (by omega)];exact d6),hS.sub su,hD,hW,rfl⟩
 have c8:=h1;have h1:=CB h1;refine BX 0 (EP (EP (EB (NX (rq (rqr (sp 1 [(21,vI ↑n)] (sd (dsb 22 ↑n 1) (sp 1 [(7,vI (↑n-1))] (se (rb 2 ?_)))))))))));refine rl (fun mz a w=>∃ J1:Imm,∃ k:Nat,∃ zs:List Int,∃ s:Int,∃ b3:Value,∃ a2:Seg,(I.le J1)∧(k≤n)∧(zs.Perm (ES n))∧(Own 3 1 AO b3 zs a2)∧SD 45 [(5,b3),(7,vI (↑k-1)),(0,vP p 0),(4,vN)] J1 ((bX p #[.int .u64 s] 132)::(a2++F)) a w (mz=k+1)) ?_ ?_
 ·intro a w hS hD hW;exact ⟨_,I,n,(ES n),p_s,vS a5 (ES k++List.replicate (n-k) (0:Int)).length a6,a7,IR _,Nat.le_refl _,PR _,((show (ES k++List.replicate (n-k) (0:Int))=ES n from by rw [show k=n by omega,Nat.sub_self,List.replicate_zero,List.append_nil])▸a8),hS.sub su,hD,hW,rfl⟩
 rintro mz a w ⟨J1,k,zs,s,b3,a2,hJ1,hk,d3,a3,hS,hD,hW,rfl⟩
 refine AP hS hD hW ?_;obtain ⟨a0,a1,rfl,c7⟩:=a3.shape;have d8:=d3.length_eq;rw [FO] at d8;refine rq (rqr (sp 2 [(24,.bool (cmp .gtr (↑k-1) 0))] (se (rc 24 rfl (fun h2=>?_) (fun h2=>?_)))))
 ·
  have c9:=h2;have h2:=JG h2;refine AM (NX (rq (rb 3 (rqr (sp 2 [(28,vI (↑k-1)),(27,vP p 0)] (sS (sc (some 29) (F:=(a2++F)) (SM _ p s (↑k-1) (by omega) :) (.refl _) (fun e5 I9 e4 c1 d2=>?_))))))));obtain ⟨a4,a9,c4,c2,e3⟩:=d2;rw [c4,c2];clear c4 c2;refine nm ?_;refine sp 1 [(8,vI ↑a9)] (se ?_);refine rdX (M:=((bX p #[.int .u64 a4] 132)::(a2++[]))) (F0:=F) [] 14 [(0,true),(1,true),(2,true),(3,true),(4,true),(5,true),(6,true),(7,true),(8,true),(9,true),(10,true),(11,true),(12,true),(13,false)] (by simp only [AA,CA,NA,List.append_nil];exact PR _) IK ?_;refine AJ (dpv 30 (vS a0 zs.length a1)) ?_;refine AJ (dpv 31 (vI (↑k-1))) ?_;refine BH (dpv 32 (vS a0 zs.length a1)) ?_;refine BH (dpv 33 (vI ↑a9)) ?_;refine AJ (dpv 34 (vS a0 zs.length a1)) ?_;refine AJ (dpv 35 (vI ↑a9)) ?_;obtain ⟨d9,b6⟩:=a3.row 0;refine AJ (di 36 1 a9 b6.addr) ?_;refine AJ (dl 37 (b6.get a9 (by omega) 0 (by decide) _ _ (fun x hx=>by simp [hx]))) ?_;refine AJ (dpv 38 (vS a0 zs.length a1)) ?_;refine AJ (dpv 39 (vI (↑k-1))) ?_;obtain ⟨e0,b7⟩:=a3.row 0;refine AJ (diI 40 1 (↑k-1) b7.addr) ?_;refine AJ (dl 41 (b7.get ((↑k-1:Int).toNat) (by omega) 0 (by decide) _ _ (fun x hx=>by simp [hx]))) ?_;obtain ⟨e1,b8⟩:=a3.row 0;refine AJ (diI 42 1 (↑k-1) b8.addr) ?_;refine EY (Mx:=fun FX=>((bX p #[.int .u64 a4] 132)::(a2++FX))) rfl (fun FX=>by simp only [AA,CA,NA,List.append_nil];exact PR _) (fun FX=>?_);refine id (BT (T:=3) (x:=(.tmp 42)) (y:=(.tmp 37)) (rc:=fun i f=>AO ((zs).getD i 0) f) 0 ((↑k-1:Int).toNat) 0 (zs.getD a9 0) (ty:=0) (gd:=none) (by kernel_rfl) rfl a3 b8 (by omega) (by decide) rfl rfl (by kernel_rfl) rfl rfl (by intro f hf;match f,hf with | 0,_=>rfl) PM.symm (fun b9 c3=>?_));refine GQ (M1:=((bX p #[.int .u64 a4] 132)::(b9++[]))) (by simp only [AA,CA,NA,List.append_nil];exact PM) (.wt (.wt (.wt (.wt (.wt (.wt (.wt (.wt (.wt (.none (.none (.wt (.wt .nil))))))))))))) ?_;refine GN (AW (M':=((bX p #[.int .u64 a4] 132)::(b9++F))) (fun w h=>by simpa only [AA,CA,NA,List.append_nil] using h) (nm ?_));obtain ⟨e2,b0⟩:=c3.row 0;simp only [LS] at b0;refine sd (di 43 1 a9 (fun _=>b0.addr (by omega)) (n:=zs.length)) (sS (BT (T:=3) (x:=(.tmp 43)) (y:=(.tmp 41)) (rc:=fun i f=>AO ((zs.set ((↑k-1:Int).toNat) (zs.getD a9 0)).getD i 0) f) 0 a9 0 (zs.getD ((↑k-1:Int).toNat) 0) (ty:=0) (gd:=none) (by kernel_rfl) rfl c3 (by simpa only [LS] using b0) (by simp only [LS];omega) (by decide) rfl rfl (by kernel_rfl) rfl rfl (by intro f hf;match f,hf with | 0,_=>rfl) PM.symm (fun c0 d0=>(pm (M':=((bX p #[.int .u64 a4] 132)::(c0++F))) PM (ee (NB (NX (rr (sp 1 [(25,vI (↑k-1))] (sd (dsb 26 (↑k-1) 1) (sp 1 [(7,vI ((↑k-1)-1))] (ee ?_))))))))))));refine AN (k-1+1) (by omega) ?_;intro a w hS hD hW;exact ⟨I9,k-1,(zs.set ((↑k-1:Int).toNat) (zs.getD a9 0)).set a9 (zs.getD ((↑k-1:Int).toNat) 0),a4,vS a0 zs.length a1,c0,(IT hJ1 c1),by omega,(swap_perm (by omega) (by omega)).trans d3,d0,hS.sub (.consE 5 rfl rfl (.consE 7 rfl (congrArg (Value.int .i64) (by omega)) su)),hD,hW,rfl⟩
 have c9:=h2;have h2:=KC h2;refine BX 2 (EP (EP (EB (NX (rqr (sp 2 [(4,vS a0 zs.length a1)] (se (BF (DY 4 ([(bX p #[.int .u64 s] 132)]++(a2)) rfl (by simp only [AA,NA,CA];exact (TK _ (TA (TR _) _))) hJ1 ?_)))))))));exact ⟨_,_,_,_,rfl,rfl,d3,a3⟩
end Go.Proofs.YtgcemienebmdeaaGreatDoor
namespace Go.Sh
open Go Go.Sl
def KeepsOf (P:Int) (r:Int) (ks:List Keep):Prop:=ks.length≤4∧∀ j,j<ks.length→let k:=ks.getD j AK;(0≤k.place∧k.place≤P-1)∧(7*(r-j)≤k.hour∧k.hour≤7*(r-j)+6)∧(1≤k.who∧k.who≤9)
theorem KeepsOf.nil {P r:Int}:KeepsOf P r []:=⟨Nat.zero_le _,fun j hj=>absurd hj (Nat.not_lt_zero _)⟩
theorem KeepsOf.snoc {P r:Int} {ks:List Keep} {k:Keep} (h:KeepsOf P r ks) (hl:ks.length<4) (hp:0≤k.place∧k.place≤P-1) (hh:7*(r-ks.length)≤k.hour∧k.hour≤7*(r-ks.length)+6) (hw:1≤k.who∧k.who≤9):KeepsOf P r (ks++[k]):=by
  refine ⟨by simp;omega,fun j hj=>?_⟩;rcases Nat.lt_or_ge j ks.length with h1 | h1
  · have:=h.2 j h1
    simpa only [List.getD,List.getElem?_append_left h1] using this
  · have e:j=ks.length:=by simp at hj;omega
    subst e;have:(ks++[k]).getD ks.length AK=k:=by simp [List.getD]
    rw [this];exact ⟨hp,hh,hw⟩
def SlipsOf (P Q:Int) (dl:List Int) (i:Nat) (sl:List Slip):Prop:=sl.length≤i∧(∀ s∈sl,∀ L:Lin,L.places=P→L.sorts=Q→DN L s=0)∧(sl.map (·.num)).Nodup∧∀ s∈sl,∃ j,j<i∧s.num=1+dl.getD j 0
theorem SlipsOf.nil {P Q:Int} {dl:List Int}:SlipsOf P Q dl 0 []:=⟨Nat.le_refl _,fun s hs=>absurd hs List.not_mem_nil,List.nodup_nil,fun s hs=>absurd hs List.not_mem_nil⟩
theorem SlipsOf.skip {P Q:Int} {dl:List Int} {i:Nat} {sl:List Slip} (h:SlipsOf P Q dl i sl):SlipsOf P Q dl (i+1) sl:=⟨by have:=h.1;omega,h.2.1,h.2.2.1,fun s hs=>by obtain ⟨j,h1,h2⟩:=h.2.2.2 s hs;exact ⟨j,by omega,h2⟩⟩
theorem SlipsOf.snoc {P Q:Int} {dl:List Int} {i:Nat} {sl:List Slip} {s:Slip} (h:SlipsOf P Q dl i sl) (hd:dl.Nodup) (hi:i<dl.length) (hn:s.num=1+dl.getD i 0) (hs:∀ L:Lin,L.places=P→L.sorts=Q→DN L s=0):SlipsOf P Q dl (i+1) (sl++[s]):=by
  refine ⟨by have:=h.1;simp;omega,fun t ht=>?_,?_,fun t ht=>?_⟩
  · rcases List.mem_append.1 ht with ht | ht
    · exact h.2.1 t ht
    · simp only [List.mem_singleton] at ht;subst ht;exact hs
  · rw [List.map_append,List.map_cons,List.map_nil]
    refine List.nodup_append.2 ⟨h.2.2.1,by simp,fun a ha b hb=>?_⟩;simp only [List.mem_singleton] at hb;obtain ⟨t,ht,rfl⟩:=List.mem_map.1 ha;obtain ⟨j,hj,e⟩:=h.2.2.2 t ht;intro e2;rw [hb,hn] at e2;have e3:dl.getD j 0=dl.getD i 0:=by omega
    have hj2:j<dl.length:=by omega
    have:j=i:=(List.getElem_inj (h₀:=hj2) (h₁:=hi) hd).1 (by simpa [List.getD,hj2,hi] using e3);omega
  · rcases List.mem_append.1 ht with ht | ht
    · obtain ⟨j,h1,h2⟩:=h.2.2.2 t ht;exact ⟨j,by omega,h2⟩
    · simp only [List.mem_singleton] at ht;subst ht;exact ⟨i,by omega,hn⟩
theorem JY {P Q:Int} {s:Slip} (h1:1≤s.num∧s.num≤999) (h2:0≤s.hour∧s.hour≤200) (h3:1≤s.kind∧s.kind≤6) (h4:0≤s.place∧s.place≤P-1) (h5:s.kind=1→(0≤s.to∧s.to≤P-1)∧s.to≠s.place) (h6:s.kind≠1→s.to=0) (h7:0≤s.sort∧s.sort≤Q-1) (h8:s.soil=true→s.kind=1∨s.kind=4) (h9:s.kind=4∨1≤s.amt) (h10:0≤s.amt∧s.amt≤50):∀ L:Lin,L.places=P→L.sorts=Q→DN L s=0:=by
  intro L hP hQ;have t:∀ {n lo hi:Int},lo≤n∧n≤hi→¬ inB n lo hi=false:=fun h e=>by
    rw [show inB _ _ _=true from by simpa [inB] using h] at e;cases e
  unfold DN
  rw [hP,hQ,if_neg (t h1),if_neg (t h2),if_neg (t h3),if_neg (t h4),if_neg (fun e=>t (h5 e.1).1 e.2),if_neg (fun e=>(h5 e.1).2 e.2),if_neg (fun e=>e.2 (h6 e.1)),if_neg (t h7),
    if_neg (fun e=>(h8 e.1).elim e.2.1 e.2.2),if_neg (t (by split <;> omega))]
def RowsB (B:Int) (n:Nat) (xss:List (List Int)):Prop:=∀ r∈xss,r.length=n∧∀ x∈r,0≤x∧x≤B
theorem RowsB.nil {B:Int} {n:Nat}:RowsB B n []:=fun r hr=>by cases hr
theorem RowsB.snoc {B:Int} {n:Nat} {xss:List (List Int)} {r:List Int} (h:RowsB B n xss) (hl:r.length=n) (hr:∀ x∈r,0≤x∧x≤B):RowsB B n (xss++[r]):=fun q hq=>by
  rcases List.mem_append.1 hq with hq | hq
  · exact h q hq
  · simp only [List.mem_singleton] at hq;subst hq;exact ⟨hl,hr⟩
theorem RowsB.mono {B B':Int} {n:Nat} {xss:List (List Int)} (h:RowsB B n xss) (hb:B≤B'):RowsB B' n xss:=fun r hr=>⟨(h r hr).1,fun x hx=>by have:=(h r hr).2 x hx;omega⟩
theorem RowsB.set {B:Int} {n p i:Nat} {xss:List (List Int)} {v:Int} (h:RowsB B n xss) (hp:p<xss.length) (hv:0≤v∧v≤B):RowsB B n (xss.set p ((xss.getD p []).set i v)):=fun r hr=>by
  rcases List.mem_or_eq_of_mem_set hr with hr | rfl
  · exact h r hr
  · have h1:=h _ (BM (xs:=xss) (d:=[]) hp)
    refine ⟨by rw [List.length_set];exact h1.1,fun x hx=>?_⟩;rcases List.mem_or_eq_of_mem_set hx with hx | rfl
    · exact h1.2 x hx
    · exact hv
theorem RowsB.at {B:Int} {n p i:Nat} {xss:List (List Int)} (h:RowsB B n xss) (hp:p<xss.length) (hi:i<n):(xss.getD p []).length=n∧0≤(xss.getD p []).getD i 0∧(xss.getD p []).getD i 0≤B:=by
  have h1:=h _ (BM (xs:=xss) (d:=[]) hp);exact ⟨h1.1,h1.2 _ (BM (xs:=xss.getD p []) (d:=0) (by rw [h1.1];exact hi))⟩
theorem drawn_book {P Q:Int} {n:Nat} {st:List (List Int)} {ks:List Keep} {sl:List Slip} {r:Int} {dl:List Int} {i:Nat} (hP:1≤P∧P≤4) (hQ:1≤Q∧Q≤2) (hn:(n:Int)=Q) (hs:(st.length:Int)=P) (hr:RowsB 50 n st) (hr4:0≤r∧r≤4) (hkr:(ks.length:Int)≤r) (hk:KeepsOf P r ks) (hsl:SlipsOf P Q dl i sl) (hi:i≤8):GoodL ⟨P,Q,st,ks,sl⟩:=by
  have t:∀ {n lo hi:Int},lo≤n∧n≤hi→¬ inB n lo hi=false:=fun h e=>by
    rw [show inB _ _ _=true from by simpa [inB] using h] at e;cases e
  refine ⟨hP,hQ,hs,fun q hq=>by rw [(hr q hq).1,hn],fun q hq x hx=>(hr q hq).2 x hx,hk.1,fun k hk2=>?_,Nat.le_trans hsl.1 hi,fun k hk2=>?_⟩
  · obtain ⟨h1,h2,h3⟩:=hk.2 k hk2
    unfold FD;simp only;have hk3:(k:Int)<ks.length:=by exact_mod_cast hk2
    rw [if_neg (t h1),if_neg (t (by omega)),if_neg (t h3),if_neg];intro e;obtain ⟨x,hx,hx2⟩:=List.any_eq_true.1 e;obtain ⟨j,hj,rfl⟩:=List.mem_take_iff_getElem.1 hx;have hj2:j<ks.length:=by omega
    have h4:=(hk.2 j hj2).2.1;simp only [Bool.and_eq_true,decide_eq_true_eq] at hx2;have e4:(ks.getD j AK)=ks[j]:=by simp [List.getD,hj2]
    rw [e4,hx2.2] at h4;have:j<k:=by omega
    omega
  · have h1:=hsl.2.1 _ (BM (xs:=sl) (d:=AB) hk2) ⟨P,Q,st,ks,sl⟩ rfl rfl
    unfold DV;rw [if_neg (fun h=>h h1),if_neg];intro e;unfold hasNum at e;obtain ⟨x,hx,hx2⟩:=List.any_eq_true.1 e;obtain ⟨j,hj,rfl⟩:=List.mem_take_iff_getElem.1 hx;have hj':j<min k sl.length:=hj;have hj2:j<sl.length:=by omega
    have hnd:=hsl.2.2.1;simp only [decide_eq_true_eq] at hx2;have:j=k:=(List.getElem_inj (h₀:=by simpa using hj2) (h₁:=by simpa using hk2) hnd).1 (by simpa [List.getD,hk2] using hx2);omega
end Go.Sh
namespace Go.Sl
open Go
theorem QJ {α:Type} {d:α}:∀ (vs:List α) (i:Nat),vs.set i (vs.getD i d)=vs
  | [],_=>rfl
  | _::_,0=>rfl
  | v::vs,i+1=>by
    show v::vs.set i (vs.getD i d)=v::vs;rw [QJ vs i]
theorem OwnEach.same {E:TypeId} {vs:List Value} {i:Nat} {v':Value} {xss:List (List Int)} {M:Seg} (h:OwnEach E (vs.set i v') xss M) (e:vs.getD i undef=v'):OwnEach E vs xss M:=by
  subst e;rwa [QJ] at h
theorem fold_mod {x:Int} {n:Nat}:(x.tmod n+n)%(n:Int)=x%n:=by
  rw [Int.add_emod_right,Int.tmod_def,Int.sub_eq_add_neg,← Int.mul_neg,Int.add_mul_emod_self_left]
end Go.Sl
namespace Go.Sh
open Go Go.Sl
theorem inb_snoc {B:Int} {l:List Int} {x:Int} (h:∀ x∈l,0≤x∧x≤B) (hx:0≤x∧x≤B):∀ y∈l++[x],0≤y∧y≤B:=fun y hy=>by
  rcases List.mem_append.1 hy with hy | hy
  · exact h y hy
  · simp only [List.mem_singleton] at hy;subst hy;exact hx
theorem inb_snoc2 {B:Int} {l:List Int} {x y:Int} (h:∀ x∈l,0≤x∧x≤B) (hx:0≤x∧x≤B) (hy:0≤y∧y≤B):∀ z∈l++[x,y],0≤z∧z≤B:=fun z hz=>by
  rcases List.mem_append.1 hz with hz | hz
  · exact h z hz
  · simp only [List.mem_cons,List.not_mem_nil,or_false] at hz
    rcases hz with rfl | rfl
    · exact hx
    · exact hy
theorem HU {l:List Int} {n:Nat} (h:l.Perm (ES n)):l.Nodup:=by
  exact h.nodup_iff.2 (List.Pairwise.map (fun i:Nat=>(i:Int)) (fun a b hab e=>hab (by exact_mod_cast e)) List.nodup_range)
theorem deal_at {l:List Int} {n t:Nat} (h:l.Perm (ES n)) (ht:t<l.length):0≤l.getD t 0∧l.getD t 0<n:=by
  have h1:=h.mem_iff.1 (BM (xs:=l) (d:=0) ht);unfold ES at h1;obtain ⟨a,ha,e⟩:=List.mem_map.1 h1;have:=List.mem_range.1 ha;omega
def RowB (B:Int) (n:Nat) (r:List Int):Prop:=r.length=n∧∀ x∈r,0≤x∧x≤B
theorem RowB.set {B:Int} {n i:Nat} {r:List Int} {v:Int} (h:RowB B n r) (hv:0≤v∧v≤B):RowB B n (r.set i v):=⟨by rw [List.length_set];exact h.1,fun x hx=>by
  rcases List.mem_or_eq_of_mem_set hx with hx | rfl
  · exact h.2 x hx
  · exact hv⟩
theorem RowB.at {B:Int} {n i:Nat} {r:List Int} (h:RowB B n r) (hi:i<n):r.length=n∧0≤r.getD i 0∧r.getD i 0≤B:=⟨h.1,h.2 _ (BM (xs:=r) (d:=0) (by rw [h.1];exact hi))⟩
theorem RowsB.row {B:Int} {n p:Nat} {xss:List (List Int)} (h:RowsB B n xss) (hp:p<xss.length):RowB B n (xss.getD p []):=h _ (BM (xs:=xss) (d:=[]) hp)
theorem RowsB.put {B:Int} {n p:Nat} {xss:List (List Int)} {r:List Int} (h:RowsB B n xss) (hr:RowB B n r):RowsB B n (xss.set p r):=fun q hq=>by
  rcases List.mem_or_eq_of_mem_set hq with hq | rfl
  · exact h q hq
  · exact hr
theorem ix_yes {so:Bool} {k:Int} (h:(so||(cmp .eql k 3||cmp .eql k 6))=true) (hs:so=true→k=1∨k=4):k≠2:=by
  intro e;subst e;cases so
  · simp [cmp] at h
  · have:=hs rfl;omega
theorem ix_no {so:Bool} {k:Int} (h:(so||(cmp .eql k 3||cmp .eql k 6))=false):k≠3:=by
  intro e;subst e;cases so <;> simp [cmp] at h
theorem other_place {p r n:Nat} {f:Int} (hp:p<n) (hf:1≤f∧f≤n-1) (hr:(r:Int)=(p+f)%n):r≠p:=by
  intro e;subst e;have h1:((r:Int)+f)/n=0∨((r:Int)+f)/n=1:=by
    have h2:0≤((r:Int)+f)/n:=Int.ediv_nonneg (by omega) (by omega);have h3:((r:Int)+f)/n<2:=Int.ediv_lt_of_lt_mul (by omega) (by omega);omega
  have h4:=Int.emod_add_mul_ediv ((r:Int)+f) n;rcases h1 with h1 | h1 <;> rw [h1] at h4 <;> omega
theorem small_nums {P Q:Int} {dl:List Int} {i:Nat} {sl:List Slip} (h:SlipsOf P Q dl i sl) (hd:dl.Perm (ES 20)) (hi:i≤20):∀ s∈sl,s.num≤20:=fun s hs=>by
  obtain ⟨j,h1,h2⟩:=h.2.2.2 s hs;have h3:=hd.length_eq;rw [FO] at h3;have:=deal_at hd (t:=j) (by omega);omega
end Go.Sh

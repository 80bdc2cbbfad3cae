/- A part of the proof of the laws of this seat. -/
import Derived.Test.YtgcemienebmdeaaGreatDoorP3
import Derived.Test.YtgcemienebmdeaaGreatDoorP2
import Derived.Test.YtgcemienebmdeaaGreatDoorProg
import Derived.WalkKit
import Derived.LaidEql
import Derived.Stop.Asserts
import Derived.RowKitTokens
import Derived.Test.YtgcemienebmdeaaGreatDoorP0
import Derived.Test.YtgcemienebmdeaaGreatDoorTie
import Derived.Test.YtgcemienebmdeaaGreatDoorCards
import Derived.ChangeVars
import Derived.JoinedOf
import Derived.RowKit
import Derived.LaidLaws
import Derived.LaidHandle
import Derived.Stop.Joined
import Derived.SevenTiedAt
import Derived.WideKeyArgs
import Derived.ProofKit
import Derived.SizedLaws
set_option linter.unusedVariables false
set_option linter.unusedSimpArgs false
namespace Go.Proofs.YtgcemienebmdeaaGreatDoor
open Go Go.Sl Go.Sh
set_option maxRecDepth 100000
noncomputable def c_take:=cod Tryz.f114
set_option maxHeartbeats 1000000 in
theorem take_ct (I:Imm) (l:Nat) (l_1 l_2 l_3:Value) (l_ws:List Value) (l_M1 l_M2 l_M3:Seg) (L:Lin) (v:Value) (W:List (List UInt8)) (l_1h:Own 33 1 DG l_1 l_ws l_M1) (l_2h:Own 75 3 GB l_2 L.keeps l_M2) (l_3h:Own 29 8 BE l_3 L.slips l_M3) (l_1r:RowsV I l_ws L.start) (v_f:MS I v W) (hG:TextG I) (hW:1≤W.length∧W.length≤1000) (hWs:∀ x∈W,x.length≤1000) (hL:L.start.length≤1000∧L.keeps.length≤1000∧L.slips.length≤1000):Ct Tryz.prog 114 #[vP l 0,v] I ([(bX l #[vI L.places,vI L.sorts,l_1,l_2,l_3] 26)]++(l_M1++(l_M2++(l_M3)))) (fun v I' M'=>∃ l_pt:Int,∃ l_st:Int,∃ l_1t:Value,∃ l_2t:Value,∃ l_3t:Value,∃ l_wt:List Value,∃ l_M1t:Seg,∃ l_M2t:Seg,∃ l_M3t:Seg,v=vI (BN W)∧M'=[(bX l #[vI l_pt,vI l_st,l_1t,l_2t,l_3t] 26)]++(l_M1t++(l_M2t++(l_M3t)))∧l_pt=(DB L W).places∧l_st=(DB L W).sorts∧Own 33 1 DG l_1t l_wt l_M1t∧Own 75 3 GB l_2t (DB L W).keeps l_M2t∧Own 29 8 BE l_3t (DB L W).slips l_M3t∧RowsV I' l_wt (DB L W).start):=by
 obtain ⟨a0,a1,rfl,i5⟩:=l_1h.shape;obtain ⟨a2,a3,rfl,i6⟩:=l_2h.shape;obtain ⟨a4,a5,rfl,i7⟩:=l_3h.shape;have b8:=l_1r.1
 try simp only [LS,LA,LC,LN,LK] at b8
 obtain ⟨c7,c8,l5,l8,rfl,l6,l7,b4⟩:=id v_f;refine fr (args:=[_,_]) (N:=109) Tryz.func114 (fun F=>?_);show Run _ _ (c_take []) _ _ [(0,_),(1,_)] _ _;refine rmA (M':=((bX l (AZ L (vS a0 l_ws.length a1) (vS a2 L.keeps.length a3) (vS a4 L.slips.length a5)) 26)::(l_M1++(l_M2++(l_M3++F))))) (rnm (rqr ?_));refine sp 1 [(4,vI 0)] (se (rq (rq ?_)));refine BC (fun a w=>SE 109 [(0,vP l 0),(1,vS c7 W.length c8),(4,vI 0),(17,.bool ((decide (W.getD 0 []=([99,111,117,110,116,101,100]:List UInt8)))&&(cmp .eql (↑(W.length)) 1)))] I ((bX l (AZ L (vS a0 l_ws.length a1) (vS a2 L.keeps.length a3) (vS a4 L.slips.length a5)) 26)::(l_M1++(l_M2++(l_M3++F)))) a w) ?_ ?_
 ·
  refine rr (sp 1 [(9,vS c7 W.length c8)] (sd (di 10 1 0 b4.addr) (sd (dl 11 (DF b4 0 (by omega))) (sd (GW (x:=(.tmp 11)) (y:=(.const (.string { data:=#[99,111,117,110,116,101,100] }))) (T:=9) (T':=9) (d:=12) (ty:=4) (gd:=none) (by kernel_rfl) rfl rfl rfl) (sp 1 [(13,.bool (decide (W.getD 0 []=([99,111,117,110,116,101,100]:List UInt8))))] ?_)))));refine AQ 13 rfl (fun h1=>?_) (fun h1=>?_)
  ·
   have b5:=h1;have b5:=HF b5;refine sp 4 [(17,.bool (cmp .eql (↑(W.length)) 1))] (ee ?_);refine AG (fun a w hS hD hW=>⟨hS.sub (sun 3 (.consE 17 rfl (congrArg Value.bool (by simp only [h1,kk])) (.nil _))),hD,hW⟩)
  have b5:=h1;have b5:=HV b5;refine sp 4 [(17,.bool false)] (ee ?_);refine AG (fun a w hS hD hW=>⟨hS.sub (sun 3 (.consE 17 rfl (congrArg Value.bool (by simp only [h1,kk])) (.nil _))),hD,hW⟩)
 rintro a w ⟨hS,hD,hW⟩
 refine AP hS hD hW ?_;clear hS hD hW a w;refine rc 17 rfl (fun h2=>?_) (fun h2=>?_)
 ·
  have d3:=h2;obtain ⟨e2,e3⟩:=JP h2;have e2:=HF e2;have e3:=BI e3;have hf:KB W=true:=by (have hq:=d3;rw [fin_cond] at hq;exact hq)
  have b2:=takeK_fin hf;refine rqr (sp 1 [(4,vI 5)] (se (BF (RP ?_))));have a9:=y_no (L:=L) (.inr b2);refine HP (t:=4) ([(bX l (AZ L (vS a0 l_ws.length a1) (vS a2 L.keeps.length a3) (vS a4 L.slips.length a5)) 26)]++(l_M1++(l_M2++(l_M3)))) (by kernel_rfl) rfl (by simp only [AA,NA,CA];exact (TK _ (TA (TA (TA (TR _) _) _) _))) (IR _) ?_;exact ⟨_,_,_,_,_,_,_,_,_,(congrArg (Value.int .i64) b2.symm),rfl,(congrArg Lin.places a9).symm,(congrArg Lin.sorts a9).symm,l_1h,((congrArg Lin.keeps a9).symm▸l_2h),((congrArg Lin.slips a9).symm▸l_3h),((congrArg Lin.start a9).symm▸l_1r)⟩
 have d3:=h2;have hf:KB W=false:=by (have hq:=d3;rw [fin_cond] at hq;exact hq)
 refine AM (NX (rq (rqr (sp 1 [(19,vS c7 W.length c8)] ?_))));have e8:=slip_ct I _ _ v_f (by first | assumption | exact TextG.mono (by assumption) hI) (by omega) (by assumption);refine sS (sc (some 20) (e8 :) (.refl _) (fun l1 I1 l0 b1 j5=>?_));obtain ⟨s6,i4,i2,k1⟩:=j5;rw [i4,i2];clear i4 i2;replace l_1r:=l_1r.mono b1;replace v_f:=v_f.mono b1;replace b4:=b4.mono b1;replace hG:=hG.mono b1;refine nm ?_;have j6:=k1;refine sp 3 [(22,.bool (CF W)),(21,.agg (AV s6))] (sS (sal 5 29 DU (fun b3=>(sS (ss 0 0 b3 (GI s6) (GI s6) (_::_::_) (cs:=[_,_,_,_,_,_,_,_]) rfl rfl (sp 1 [(6,.bool (CF W))] (sn (sp 1 [(23,.bool (CF W))] (se (rc 23 rfl (fun h3=>?_) (fun h3=>?_)))))))))))
 ·
  have g2:=h3;have i3:CF W=true:=h3;have j7:=j6 i3;have b2:=takeK_slip hf i3;refine rq ?_;refine rd 8 [(0,true),(1,true),(2,true),(3,true),(4,true),(5,true),(6,false),(7,false)] ((bX b3 (AV s6) 29)::(bX l (AZ L (vS a0 l_ws.length a1) (vS a2 L.keeps.length a3) (vS a4 L.slips.length a5)) 26)::[]) (l_M1++(l_M2++(l_M3++F))) (ox 4 [(27,vP l 4),(24,vP l 0)] ?_);refine AC (dlb 28 1 4 l (vS a4 L.slips.length a5)) ?_;refine AC (dnb 29 0 0 b3 (GI s6)) ?_;refine CO (sbs 30 29 1 (AV s6) (fun e0=>?_));refine BB (S':=((bX e0 (AV s6) 29)::(l_M1++(l_M2++(l_M3++F))))) ((PS _ _ _).trans (PC _ (PS _ _ _))) ?_;refine CO (sap (d:=31) 28 30 24 29 8 64 (.agg DU) BE L.slips [s6] l_M3 rfl rfl l_3h (show List.Perm ((bX b3 (AV s6) 29)::(bX l (AZ L (vS a0 l_ws.length a1) (vS a2 L.keeps.length a3) (vS a4 L.slips.length a5)) 26)::(bX e0 (AV s6) 29)::(l_M1++(l_M2++(l_M3++F)))) (l_M3++(bX b3 (AV s6) 29)::(bX l (AZ L (vS a0 l_ws.length a1) (vS a2 L.keeps.length a3) (vS a4 L.slips.length a5)) 26)::(bX e0 (AV s6) 29)::(l_M1++(l_M2++F))) from (PU (PU (PU (PV (PO _ _ _)))))) (EK _) (CK 2 rfl rfl) (fun l2 d0 f1=>?_));refine BB (S':=((bX e0 (AV s6) 29)::(d0++(l_M1++(l_M2++F))))) (PW (PW PM)) ?_;obtain ⟨b9,c1,rfl,j8⟩:=f1.shape;show OFP _ _ _ _ _ _ ((31,vS b9 (L.slips++([s6])).length c1)::_) _ _;refine ER (nm (nm ?_));refine sp 2 [(33,vP l 4)] (sS (ss 1 4 l [vS b9 (L.slips++([s6])).length c1] (FW L (vS a0 l_ws.length a1) (vS a2 L.keeps.length a3) (vS b9 (L.slips++([s6])).length c1)) (_::_::_::_) (cs:=[_,_,_,_,_]) rfl rfl (sn (sp 1 [(4,vI 4)] (se (BF (RP ?_)))))));have a9:=y_slip (L:=L) b2;rw [← j7] at a9;refine ppm (M':=((bX l (AZ L (vS a0 l_ws.length a1) (vS a2 L.keeps.length a3) (vS b9 (L.slips++([s6])).length c1)) 26)::(l_M1++(l_M2++(d0++(bX b3 (AV s6) 29)::(bX e0 (AV s6) 29)::F))))) ((PS _ _ _).trans (PC _ ((PU (PU (PO _ _ _))).trans (PA _ ((PU (PU (PO _ _ _))).trans (PA _ (PU PM.symm))))))) (DY 4 ([(bX l (AZ L (vS a0 l_ws.length a1) (vS a2 L.keeps.length a3) (vS b9 (L.slips++([s6])).length c1)) 26)]++(l_M1++(l_M2++(d0)))) rfl (by simp only [AA,NA,CA];exact (TK _ (TA (TA (TA (TC _ (TC _ (TR _))) _) _) _))) b1 ?_);exact ⟨_,_,_,_,_,_,_,_,_,(congrArg (Value.int .i64) b2.symm),rfl,(congrArg Lin.places a9).symm,(congrArg Lin.sorts a9).symm,l_1h,((congrArg Lin.keeps a9).symm▸l_2h),((congrArg Lin.slips a9).symm▸f1),((congrArg Lin.start a9).symm▸l_1r)⟩
 have g2:=h3;have f4:CF W=false:=h3;refine AM (NX (rqr (sp 1 [(35,vS c7 W.length c8)] ?_)));have c3:=v_f.cutLo 1 (by omega);obtain ⟨i8,j0,i9,j3,c9,j1,j2,j4⟩:=id c3;rw [c9] at c3;refine sd (DC (EN (x:=(.tmp 35)) (lo:=(some (.const (vI 1)))) (hi:=none) (T:=68) (e:=9) (sz:=1) 1 W.length (d:=36) (ty:=68) (gd:=none) (by kernel_rfl) rfl (by kernel_rfl) (by kernel_rfl) rfl (.inr ⟨_,.i64,rfl,rfl⟩) (.inl ⟨rfl,rfl⟩) (by omega) (by omega)) c9) ?_;have e9:=numbers_ct I1 _ _ c3 (by first | assumption | exact TextG.mono (by assumption) hI) (by simp only [LD];omega) (by exact fun x hx=>hWs x (List.mem_of_mem_drop hx));refine sS (sc (some 37) (e9 :) (.refl _) (fun k3 i1 k2 b0 g3=>?_));obtain ⟨k4,f5,f0,g7⟩:=g3;rw [f5,f0];clear f5 f0;replace l_1r:=l_1r.mono b0;replace b4:=b4.mono b0;have c4:=g7;obtain ⟨a6,a7,g8,i0,rfl,g9,h0,a8⟩:=id c4;refine nm ?_;refine sp 5 [(8,.bool (BV (W.drop 1))),(7,vS a6 (AF (W.drop 1)).length a7)] (se (rq (rb 0 (rqr (sp 3 [(40,.bool (!(BV (W.drop 1))))] (se (rc 40 rfl (fun h4=>?_) (fun h4=>?_))))))))
 ·
  have d4:=h4;have h4:=BO h4;have b2:=tk0n hf f4 (by simpa using d4);refine AM (NB (NX (rqr (sp 1 [(4,vI 0)] (se (BF ?_))))));have a9:=y_no (L:=L) (.inl b2);refine ppm (M':=((bX l (AZ L (vS a0 l_ws.length a1) (vS a2 L.keeps.length a3) (vS a4 L.slips.length a5)) 26)::(l_M1++(l_M2++(l_M3++(bX b3 (AV s6) 29)::F))))) ((PS _ _ _).trans (PC _ ((PM.symm).trans (PA _ ((PM.symm).trans (PA _ PM.symm)))))) (DY 4 ([(bX l (AZ L (vS a0 l_ws.length a1) (vS a2 L.keeps.length a3) (vS a4 L.slips.length a5)) 26)]++(l_M1++(l_M2++(l_M3)))) rfl (by simp only [AA,NA,CA];exact (TK _ (TA (TA (TA (TC _ (TR _)) _) _) _))) (IT b1 b0) ?_);exact ⟨_,_,_,_,_,_,_,_,_,(congrArg (Value.int .i64) b2.symm),rfl,(congrArg Lin.places a9).symm,(congrArg Lin.sorts a9).symm,l_1h,((congrArg Lin.keeps a9).symm▸l_2h),((congrArg Lin.slips a9).symm▸l_3h),((congrArg Lin.start a9).symm▸l_1r)⟩
 have d4:=h4;have h4:=BK h4;have d8:BV (W.drop 1)=true:=by simpa using d4
 have k9:=HN d8;refine rq ?_;refine BC (fun a w=>SE 109 [(0,vP l 0),(1,vS c7 W.length c8),(4,vI 0),(7,vS a6 (AF (W.drop 1)).length a7),(43,.bool ((decide (W.getD 0 []=([108,105,110,101,110]:List UInt8)))&&(cmp .eql (↑((AF (W.drop 1)).length)) 2)))] i1 ((bX b3 (AV s6) 29)::(bX l (AZ L (vS a0 l_ws.length a1) (vS a2 L.keeps.length a3) (vS a4 L.slips.length a5)) 26)::(l_M1++(l_M2++(l_M3++F)))) a w) ?_ ?_
 ·
  refine rr (sp 1 [(44,vS c7 W.length c8)] (sd (di 45 1 0 b4.addr) (sd (dl 46 (DF b4 0 (by omega))) (sd (GW (x:=(.tmp 46)) (y:=(.const (.string { data:=#[108,105,110,101,110] }))) (T:=9) (T':=9) (d:=47) (ty:=4) (gd:=none) (by kernel_rfl) rfl rfl rfl) (sp 1 [(48,.bool (decide (W.getD 0 []=([108,105,110,101,110]:List UInt8))))] ?_)))));refine AQ 48 rfl (fun h5=>?_) (fun h5=>?_)
  ·
   have b6:=h5;have b6:=HF b6;refine sp 5 [(43,.bool (cmp .eql (↑((AF (W.drop 1)).length)) 2))] (ee ?_);refine AG (fun a w hS hD hW=>⟨hS.sub (sun 4 (.consE 43 rfl (congrArg Value.bool (by simp only [h5,kk])) (.nil _))),hD,hW⟩)
  have b6:=h5;have b6:=HV b6;refine sp 5 [(43,.bool false)] (ee ?_);refine AG (fun a w hS hD hW=>⟨hS.sub (sun 4 (.consE 43 rfl (congrArg Value.bool (by simp only [h5,kk])) (.nil _))),hD,hW⟩)
 rintro a w ⟨hS,hD,hW⟩
 refine AP hS hD hW ?_;clear hS hD hW a w;refine rc 43 rfl (fun h6=>?_) (fun h6=>?_)
 ·
  have d5:=h6;obtain ⟨e4,e5⟩:=JP h6;have e4:=HF e4;have e5:=BI e5;have hh:GP W=true:=by (have hq:=d5;rw [head_cond2 d8] at hq;exact hq)
  have b2:=tk1 hf f4 hh;have k7:=headIs_len hh;refine rq ?_;refine rpm (PR _) ?_;refine rd 11 [(0,true),(1,true),(2,true),(3,true),(4,true),(5,true),(6,true),(7,true),(8,true),(9,true),(10,false)] ((bX b3 (AV s6) 29)::[]) ((bX l (AZ L (vS a0 l_ws.length a1) (vS a2 L.keeps.length a3) (vS a4 L.slips.length a5)) 26)::(l_M1++(l_M2++(l_M3++F)))) (ox 3 [(55,vS a6 (AF (W.drop 1)).length a7),(54,vP l 0),(53,vP l 0)] ?_);refine AC (di 56 1 0 a8.addr) ?_;refine AC (dl 57 (BL a8 0 (by omega))) (ox 1 [(58,vS a6 (AF (W.drop 1)).length a7)] ?_);refine AC (di 59 1 1 a8.addr) ?_;refine AC (dl 60 (BL a8 1 (by omega))) (ox 2 [(62,vP l 0)] ?_);refine CO (ss 1 0 l [vI ((AF (W.drop 1)).getD 0 0)] [vI ((AF (W.drop 1)).getD 0 0),vI L.sorts,vS a0 l_ws.length a1,vS a2 L.keeps.length a3,vS a4 L.slips.length a5] (_::_::_) (cs:=[_,_,_,_,_]) rfl rfl ?_);refine BB (S':=((bX l #[vI ((AF (W.drop 1)).getD 0 0),vI L.sorts,vS a0 l_ws.length a1,vS a2 L.keeps.length a3,vS a4 L.slips.length a5] 26)::(l_M1++(l_M2++(l_M3++F))))) (PR _) ?_;refine ER (nm (nm ?_));refine sp 2 [(64,vP l 1)] (sS (ss 1 1 l [vI ((AF (W.drop 1)).getD 1 0)] [vI ((AF (W.drop 1)).getD 0 0),vI ((AF (W.drop 1)).getD 1 0),vS a0 l_ws.length a1,vS a2 L.keeps.length a3,vS a4 L.slips.length a5] (_::_::_) (cs:=[_,_,_,_,_]) rfl rfl (sn (sp 1 [(4,vI 1)] (se (BF (RB (RP ?_))))))));have a9:=y_head (L:=L) b2;refine ppm (M':=((bX l #[vI ((AF (W.drop 1)).getD 0 0),vI ((AF (W.drop 1)).getD 1 0),vS a0 l_ws.length a1,vS a2 L.keeps.length a3,vS a4 L.slips.length a5] 26)::(l_M1++(l_M2++(l_M3++(bX b3 (AV s6) 29)::F))))) ((PS _ _ _).trans (PC _ ((PM.symm).trans (PA _ ((PM.symm).trans (PA _ PM.symm)))))) (DY 4 ([(bX l #[vI ((AF (W.drop 1)).getD 0 0),vI ((AF (W.drop 1)).getD 1 0),vS a0 l_ws.length a1,vS a2 L.keeps.length a3,vS a4 L.slips.length a5] 26)]++(l_M1++(l_M2++(l_M3)))) rfl (by simp only [AA,NA,CA];exact (TK _ (TA (TA (TA (TC _ (TR _)) _) _) _))) (IT b1 b0) ?_);exact ⟨_,_,_,_,_,_,_,_,_,(congrArg (Value.int .i64) b2.symm),rfl,(congrArg Lin.places a9).symm,(congrArg Lin.sorts a9).symm,l_1h,((congrArg Lin.keeps a9).symm▸l_2h),((congrArg Lin.slips a9).symm▸l_3h),((congrArg Lin.start a9).symm▸l_1r)⟩
 have d5:=h6;have hh:GP W=false:=by (have hq:=d5;rw [head_cond2 d8] at hq;exact hq)
 refine rqr (sp 1 [(66,vS c7 W.length c8)] (sd (di 67 1 0 b4.addr) (sd (dl 68 (DF b4 0 (by omega))) (sd (GW (x:=(.tmp 68)) (y:=(.const (.string { data:=#[115,116,97,114,116] }))) (T:=9) (T':=9) (d:=69) (ty:=4) (gd:=none) (by kernel_rfl) rfl rfl rfl) (sp 1 [(65,.bool (decide (W.getD 0 []=([115,116,97,114,116]:List UInt8))))] (se (rc 65 rfl (fun h7=>?_) (fun h7=>?_))))))))
 ·
  have d6:=h7;have h7:=HF h7;have g1:GA W=true:=by (have hq:=d6;rw [start_cond2 d8] at hq;exact hq)
  have b2:=tk2 hf f4 hh g1;refine rqr (sp 4 [(73,vP l 2),(70,vP l 0)] (sd (dlb 74 1 2 l (vS a0 l_ws.length a1)) (sp 1 [(75,vS a6 (AF (W.drop 1)).length a7)] (sS (sbs 76 33 1 #[vS a6 (AF (W.drop 1)).length a7] (fun k6=>(sS (HE (d:=77) (x:=(.tmp 74)) (y:=(.tmp 76)) (T:=22) (T':=22) (E:=33) (E':=33) (sz:=1) (bs:=24) (z:=vN) (cell:=DG) (xs:=l_ws) (ys:=[(vS a6 (AF (W.drop 1)).length a7:Value)]) (Ms:=l_M1) (ty:=22) (gd:=none) (by kernel_rfl) rfl (by kernel_rfl) (by kernel_rfl) (by kernel_rfl) (by kernel_rfl) (by kernel_rfl) (by decide) (by kernel_rfl) rfl rfl l_1h (PU (PU PM.symm)) (JW rfl) (CK 0 rfl rfl) (by first | omega | (have hq:=l_1r.1;simp only [LC,LN,LA,LK,LD] at hq ⊢;omega)) (fun l3 d1 f2=>(AW (M':=((bX b3 (AV s6) 29)::(bX l (AZ L (vS a0 l_ws.length a1) (vS a2 L.keeps.length a3) (vS a4 L.slips.length a5)) 26)::(d1++(l_M2++(l_M3++F))))) (fun w h=>(h.perm (PW (PW PM))).sub (TC _ (TR _))) ?_))))))))));obtain ⟨c5,c6,rfl,j9⟩:=f2.shape;have f9:=(l_1r).snoc c4;refine sp 2 [(79,vP l 2)] (sS (ss 1 2 l [vS c5 (l_ws++([(vS a6 (AF (W.drop 1)).length a7:Value)])).length c6] (FW L (vS c5 (l_ws++([(vS a6 (AF (W.drop 1)).length a7:Value)])).length c6) (vS a2 L.keeps.length a3) (vS a4 L.slips.length a5)) (_::_::_) (cs:=[_,_,_,_,_]) rfl rfl (sn (sp 1 [(4,vI 2)] (se (BF (RB (RP ?_))))))));have a9:=y_start (L:=L) b2;refine ppm (M':=((bX l (AZ L (vS c5 (l_ws++([(vS a6 (AF (W.drop 1)).length a7:Value)])).length c6) (vS a2 L.keeps.length a3) (vS a4 L.slips.length a5)) 26)::(d1++(l_M2++(l_M3++(bX b3 (AV s6) 29)::F))))) ((PS _ _ _).trans (PC _ ((PM.symm).trans (PA _ ((PM.symm).trans (PA _ PM.symm)))))) (DY 4 ([(bX l (AZ L (vS c5 (l_ws++([(vS a6 (AF (W.drop 1)).length a7:Value)])).length c6) (vS a2 L.keeps.length a3) (vS a4 L.slips.length a5)) 26)]++(d1++(l_M2++(l_M3)))) rfl (by simp only [AA,NA,CA];exact (TK _ (TA (TA (TA (TC _ (TR _)) _) _) _))) (IT b1 b0) ?_);exact ⟨_,_,_,_,_,_,_,_,_,(congrArg (Value.int .i64) b2.symm),rfl,(congrArg Lin.places a9).symm,(congrArg Lin.sorts a9).symm,f2,((congrArg Lin.keeps a9).symm▸l_2h),((congrArg Lin.slips a9).symm▸l_3h),((congrArg Lin.start a9).symm▸f9)⟩
 have d6:=h7;have h7:=HV h7;have g1:GA W=false:=by (have hq:=d6;rw [start_cond2 d8] at hq;exact hq)
 refine rq ?_;refine BC (fun a w=>SE 109 [(0,vP l 0),(4,vI 0),(7,vS a6 (AF (W.drop 1)).length a7),(80,.bool ((decide (W.getD 0 []=([107,101,101,112]:List UInt8)))&&(cmp .eql (↑((AF (W.drop 1)).length)) 3)))] i1 ((bX b3 (AV s6) 29)::(bX l (AZ L (vS a0 l_ws.length a1) (vS a2 L.keeps.length a3) (vS a4 L.slips.length a5)) 26)::(l_M1++(l_M2++(l_M3++F)))) a w) ?_ ?_
 ·
  refine rr (sp 1 [(81,vS c7 W.length c8)] (sd (di 82 1 0 b4.addr) (sd (dl 83 (DF b4 0 (by omega))) (sd (GW (x:=(.tmp 83)) (y:=(.const (.string { data:=#[107,101,101,112] }))) (T:=9) (T':=9) (d:=84) (ty:=4) (gd:=none) (by kernel_rfl) rfl rfl rfl) (sp 1 [(85,.bool (decide (W.getD 0 []=([107,101,101,112]:List UInt8))))] ?_)))));refine AQ 85 rfl (fun h8=>?_) (fun h8=>?_)
  ·
   have b7:=h8;have b7:=HF b7;refine sp 5 [(80,.bool (cmp .eql (↑((AF (W.drop 1)).length)) 3))] (ee ?_);refine AG (fun a w hS hD hW=>⟨hS.sub (sun 3 (.consE 80 rfl (congrArg Value.bool (by simp only [h8,kk])) (.nil _))),hD,hW⟩)
  have b7:=h8;have b7:=HV b7;refine sp 5 [(80,.bool false)] (ee ?_);refine AG (fun a w hS hD hW=>⟨hS.sub (sun 3 (.consE 80 rfl (congrArg Value.bool (by simp only [h8,kk])) (.nil _))),hD,hW⟩)
 rintro a w ⟨hS,hD,hW⟩
 refine AP hS hD hW ?_;clear hS hD hW a w;refine rc 80 rfl (fun h9=>?_) (fun h9=>?_)
 ·
  have d7:=h9;obtain ⟨e6,e7⟩:=JP h9;have e6:=HF e6;have e7:=BI e7;have g0:HJ W=true:=by (have hq:=d7;rw [keep_cond2 d8] at hq;exact hq)
  have b2:=tk3 hf f4 hh g1 g0;have k8:=keepIs_len g0;refine rq ?_;refine rd 17 [(0,true),(1,true),(2,true),(3,true),(4,true),(5,true),(6,true),(7,true),(8,true),(9,true),(10,true),(11,true),(12,true),(13,true),(14,true),(15,false),(16,false)] ((bX b3 (AV s6) 29)::(bX l (AZ L (vS a0 l_ws.length a1) (vS a2 L.keeps.length a3) (vS a4 L.slips.length a5)) 26)::[]) (l_M1++(l_M2++(l_M3++F))) (ox 4 [(93,vP l 3),(90,vP l 0)] ?_);refine AC (dlb 94 1 3 l (vS a2 L.keeps.length a3)) (ox 1 [(95,vS a6 (AF (W.drop 1)).length a7)] ?_);refine AC (di 96 1 0 a8.addr) ?_;refine AC (dl 97 (BL a8 0 (by omega))) (ox 1 [(98,vS a6 (AF (W.drop 1)).length a7)] ?_);refine AC (di 99 1 1 a8.addr) ?_;refine AC (dl 100 (BL a8 1 (by omega))) (ox 1 [(101,vS a6 (AF (W.drop 1)).length a7)] ?_);refine AC (di 102 1 2 a8.addr) ?_;refine AC (dl 103 (BL a8 2 (by omega))) (ox 1 [(104,.agg #[vI ((AF (W.drop 1)).getD 0 0),vI ((AF (W.drop 1)).getD 1 0),vI ((AF (W.drop 1)).getD 2 0)])] ?_);refine CO (sbs 105 75 1 #[vI ((AF (W.drop 1)).getD 0 0),vI ((AF (W.drop 1)).getD 1 0),vI ((AF (W.drop 1)).getD 2 0)] (fun e1=>?_));refine BB (S':=((bX e1 #[vI ((AF (W.drop 1)).getD 0 0),vI ((AF (W.drop 1)).getD 1 0),vI ((AF (W.drop 1)).getD 2 0)] 75)::(l_M1++(l_M2++(l_M3++F))))) ((PS _ _ _).trans (PC _ (PS _ _ _))) ?_;refine CO (sap (d:=106) 94 105 23 75 3 24 (.agg #[vI 0,vI 0,vI 0]) GB L.keeps [(⟨(AF (W.drop 1)).getD 0 0,(AF (W.drop 1)).getD 1 0,(AF (W.drop 1)).getD 2 0⟩:Keep)] l_M2 rfl rfl l_2h (show List.Perm ((bX b3 (AV s6) 29)::(bX l (AZ L (vS a0 l_ws.length a1) (vS a2 L.keeps.length a3) (vS a4 L.slips.length a5)) 26)::(bX e1 #[vI ((AF (W.drop 1)).getD 0 0),vI ((AF (W.drop 1)).getD 1 0),vI ((AF (W.drop 1)).getD 2 0)] 75)::(l_M1++(l_M2++(l_M3++F)))) (l_M2++(bX b3 (AV s6) 29)::(bX l (AZ L (vS a0 l_ws.length a1) (vS a2 L.keeps.length a3) (vS a4 L.slips.length a5)) 26)::(bX e1 #[vI ((AF (W.drop 1)).getD 0 0),vI ((AF (W.drop 1)).getD 1 0),vI ((AF (W.drop 1)).getD 2 0)] 75)::(l_M1++(l_M3++F))) from (PU (PU (PU (PO _ _ _))))) (NF _) (CK 2 rfl rfl) (fun l4 d2 f3=>?_));refine BB (S':=((bX e1 #[vI ((AF (W.drop 1)).getD 0 0),vI ((AF (W.drop 1)).getD 1 0),vI ((AF (W.drop 1)).getD 2 0)] 75)::(d2++(l_M1++(l_M3++F))))) (PW (PW PM)) ?_;obtain ⟨c0,c2,rfl,k0⟩:=f3.shape;show OFP _ _ _ _ _ _ ((106,vS c0 (L.keeps++([(⟨(AF (W.drop 1)).getD 0 0,(AF (W.drop 1)).getD 1 0,(AF (W.drop 1)).getD 2 0⟩:Keep)])).length c2)::_) _ _;refine ER (nm (nm ?_));refine sp 2 [(108,vP l 3)] (sS (ss 1 3 l [vS c0 (L.keeps++([(⟨(AF (W.drop 1)).getD 0 0,(AF (W.drop 1)).getD 1 0,(AF (W.drop 1)).getD 2 0⟩:Keep)])).length c2] (FW L (vS a0 l_ws.length a1) (vS c0 (L.keeps++([(⟨(AF (W.drop 1)).getD 0 0,(AF (W.drop 1)).getD 1 0,(AF (W.drop 1)).getD 2 0⟩:Keep)])).length c2) (vS a4 L.slips.length a5)) (_::_::_::_) (cs:=[_,_,_,_,_]) rfl rfl (sn (sp 1 [(4,vI 3)] (se (BF (RB (RP ?_))))))));have a9:=y_keep (L:=L) b2;refine ppm (M':=((bX l (AZ L (vS a0 l_ws.length a1) (vS c0 (L.keeps++([(⟨(AF (W.drop 1)).getD 0 0,(AF (W.drop 1)).getD 1 0,(AF (W.drop 1)).getD 2 0⟩:Keep)])).length c2) (vS a4 L.slips.length a5)) 26)::(l_M1++(d2++(l_M3++(bX b3 (AV s6) 29)::(bX e1 #[vI ((AF (W.drop 1)).getD 0 0),vI ((AF (W.drop 1)).getD 1 0),vI ((AF (W.drop 1)).getD 2 0)] 75)::F))))) ((PS _ _ _).trans (PC _ ((PU (PU (PO _ _ _))).trans (PA _ ((PU PM.symm).trans (PA _ (PU PM.symm))))))) (DY 4 ([(bX l (AZ L (vS a0 l_ws.length a1) (vS c0 (L.keeps++([(⟨(AF (W.drop 1)).getD 0 0,(AF (W.drop 1)).getD 1 0,(AF (W.drop 1)).getD 2 0⟩:Keep)])).length c2) (vS a4 L.slips.length a5)) 26)]++(l_M1++(d2++(l_M3)))) rfl (by simp only [AA,NA,CA];exact (TK _ (TA (TA (TA (TC _ (TC _ (TR _))) _) _) _))) (IT b1 b0) ?_);exact ⟨_,_,_,_,_,_,_,_,_,(congrArg (Value.int .i64) b2.symm),rfl,(congrArg Lin.places a9).symm,(congrArg Lin.sorts a9).symm,l_1h,((congrArg Lin.keeps a9).symm▸f3),((congrArg Lin.slips a9).symm▸l_3h),((congrArg Lin.start a9).symm▸l_1r)⟩
 have d7:=h9;have g0:HJ W=false:=by (have hq:=d7;rw [keep_cond2 d8] at hq;exact hq)
 have b2:=tk0 hf f4 hh g1 g0;refine AM (NB (NX (rqr (sp 1 [(4,vI 0)] (se (BF ?_))))));have a9:=y_no (L:=L) (.inl b2);refine ppm (M':=((bX l (AZ L (vS a0 l_ws.length a1) (vS a2 L.keeps.length a3) (vS a4 L.slips.length a5)) 26)::(l_M1++(l_M2++(l_M3++(bX b3 (AV s6) 29)::F))))) ((PS _ _ _).trans (PC _ ((PM.symm).trans (PA _ ((PM.symm).trans (PA _ PM.symm)))))) (DY 4 ([(bX l (AZ L (vS a0 l_ws.length a1) (vS a2 L.keeps.length a3) (vS a4 L.slips.length a5)) 26)]++(l_M1++(l_M2++(l_M3)))) rfl (by simp only [AA,NA,CA];exact (TK _ (TA (TA (TA (TC _ (TR _)) _) _) _))) (IT b1 b0) ?_);exact ⟨_,_,_,_,_,_,_,_,_,(congrArg (Value.int .i64) b2.symm),rfl,(congrArg Lin.places a9).symm,(congrArg Lin.sorts a9).symm,l_1h,((congrArg Lin.keeps a9).symm▸l_2h),((congrArg Lin.slips a9).symm▸l_3h),((congrArg Lin.start a9).symm▸l_1r)⟩
end Go.Proofs.YtgcemienebmdeaaGreatDoor
set_option maxRecDepth 100000
namespace Go.Proofs.YtgcemienebmdeaaGreatDoor
open Go.RowKit Go.Extern.Stop Go.Stop Go.Extern
theorem as_nil (t : Value) (w : World) :
    Calls Tryz.prog 81 #[.nilIface,t] w fun e w'=>e=.returned (.bool false)∧w'=w:=by
  go_enter Tryz.func81,Tryz.ntmps81
  go_wp2
  go_ret
  exact ⟨rfl,rfl⟩
theorem As.valueOf27 (t : Addr) (w : World) : (ReflectliteValue.unpack (.iface 145 (.pointer (some t)))).run Tryz.prog w
   =.ok (.agg #[.pointer (some ⟨9,145,none⟩),.pointer (some ⟨w.heap.size,0,none⟩),.int .u64 150]) (w.alloc (.cells #[.pointer (some t)] 145)):=by kernel_rfl
theorem As.type27 (a : Addr) (w : World) : (ReflectliteValue.methodAny (ReflectliteValue.valueError "reflectlite.Value.Type" 0) (fun t _ _ _ => ReflectliteType.toType t) #[.agg #[.pointer (some ⟨9, 145, none⟩), .pointer (some a), .int .u64 150]]).run Tryz.prog w
   =.ok (.iface 223 (.agg #[.pointer (some ⟨9,145,none⟩)])) w:=by kernel_rfl
theorem As.methodKind (h:Value) (w:World):(Go.method 418 223 (.agg #[h]) "Kind").run Tryz.prog w=.ok (226,h) w:=by kernel_rfl
theorem As.kind27 (w:World):((ReflectliteType.abiMethod fun t=>(fun a:Nat=>Value.int IntKind.u8 (a:Int)) <$> Rtype.kind t) #[.pointer (some ⟨9,145,none⟩)]).run Tryz.prog w=.ok (.int .u8 22) w:=by kernel_rfl
theorem As.kind25 (w:World):((ReflectliteType.abiMethod fun t=>(fun a:Nat=>Value.int IntKind.u8 (a:Int)) <$> Rtype.kind t) #[.pointer (some ⟨9,143,none⟩)]).run Tryz.prog w=.ok (.int .u8 25) w:=by kernel_rfl
theorem rlm (z : Sem Value) (f : TypeId → Addr → Nat → Nat → Sem Value) (v : Value) :
    ReflectliteValue.method z f #[v]=(do match ← ReflectliteValue.parts v with | none=>z | some (t,a,fl)=>f t a fl (fl%32)):=rfl
theorem As.parts27 (a:Addr) (w:World):(ReflectliteValue.parts (.agg #[.pointer (some ⟨9,145,none⟩),.pointer (some a),.int .u64 150])).run Tryz.prog w=.ok (some (145,a,150)) w:=by kernel_rfl
theorem As.isNil27 (a p : Addr) (W : World) (ha : W.cell? a = some (.pointer (some p))) :
    (ReflectliteValue.method (ReflectliteValue.valueError "reflectlite.Value.IsNil" 0) ReflectliteValue.isNil #[.agg #[.pointer (some ⟨9,145,none⟩),.pointer (some a),.int .u64 150]]).run Tryz.prog W=.ok (.bool false) W:=by
  rw [rlm]
  simp only [Sem.run_bind,As.parts27,Result.andThen]
  simp [ReflectliteValue.isNil,loadVar,isAgg,underlying,Tryz.underlying145,ha,Result.andThen]
theorem As.methodElem (h:Value) (w:World):(Go.method 418 223 (.agg #[h]) "Elem").run Tryz.prog w=.ok (238,.agg #[h]) w:=by kernel_rfl
theorem As.methodImplements (h:Value) (w:World):(Go.method 418 223 (.agg #[h]) "Implements").run Tryz.prog w=.ok (239,.agg #[h]) w:=by kernel_rfl
theorem As.methodAssignableTo (h:Value) (w:World):(Go.method 418 223 (.agg #[h]) "AssignableTo").run Tryz.prog w=.ok (236,.agg #[h]) w:=by kernel_rfl
theorem As.elem27 (w:World):(ReflectliteType.method ReflectliteType.elem #[.agg #[.pointer (some ⟨9,145,none⟩)]]).run Tryz.prog w=.ok (.iface 223 (.agg #[.pointer (some ⟨9,143,none⟩)])) w:=by kernel_rfl
theorem As.implements25 (w:World):(ReflectliteType.relation "Implements" ReflectliteType.implements_ #[.agg #[.pointer (some ⟨9,143,none⟩)],.iface 223 (.agg #[.pointer (some ⟨9,139,none⟩)])]).run Tryz.prog w=.ok (.bool true) w:=by kernel_rfl
theorem As.typeOf25 (v:Value) (w:World):(ReflectliteType.typeOf #[.iface 143 v]).run Tryz.prog w=.ok (.iface 223 (.agg #[.pointer (some ⟨9,143,none⟩)])) w:=by kernel_rfl
theorem As.assignable25 (w:World):(ReflectliteType.relation "AssignableTo" ReflectliteType.assignableTo #[.agg #[.pointer (some ⟨9,143,none⟩)],.iface 223 (.agg #[.pointer (some ⟨9,143,none⟩)])]).run Tryz.prog w=.ok (.bool true) w:=by kernel_rfl
theorem As.valueOf25 (e : Int) (w : World) : (ReflectliteValue.unpack (.iface 143 (.agg #[.int .i64 e]))).run Tryz.prog w
   =.ok (.agg #[.pointer (some ⟨9,143,none⟩),.pointer (some ⟨w.heap.size,0,none⟩),.int .u64 153]) (w.alloc (.cells #[.int .i64 e] 143)):=by kernel_rfl
theorem As.elemOf27 (w:World):(Rtype.elem? 145).run Tryz.prog w=.ok (some 143) w:=by kernel_rfl
theorem As.mk25 (p:Addr) (w:World):(ReflectliteValue.mk 143 p ReflectliteValue.flagAddr).run Tryz.prog w=.ok (.agg #[.pointer (some ⟨9,143,none⟩),.pointer (some p),.int .u64 409]) w:=by kernel_rfl
theorem As.elemV27 (a p : Addr) (W : World) (ha : W.cell? a = some (.pointer (some p))) :
    (ReflectliteValue.method (ReflectliteValue.valueError "reflectlite.Value.Elem" 0) ReflectliteValue.elem #[.agg #[.pointer (some ⟨9,145,none⟩),.pointer (some a),.int .u64 150]]).run Tryz.prog W
     =.ok (.agg #[.pointer (some ⟨9,143,none⟩),.pointer (some p),.int .u64 409]) W:=by
  rw [rlm]
  simp only [Sem.run_bind,As.parts27,Result.andThen]
  simp [ReflectliteValue.elem,loadVar,isAgg,underlying,Tryz.underlying145,ha,Result.andThen,As.elemOf27,As.mk25]
theorem rls (v x : Value) : ReflectliteValue.set #[v, x] = (do
    let (some (dst,a,fl),some (src,b,_)):=(← ReflectliteValue.parts v,← ReflectliteValue.parts x)
      | unsupported (.noEntry "extern/(internal/reflectlite.Value).Set.zeroValue")
    if fl/ReflectliteValue.flagAddr%2 == 0 then unsupported (.noEntry "extern/(internal/reflectlite.Value).Set.unaddressable")
    let val ← loadVar src b
    if ← Rtype.directlyAssignable dst src then storeVar dst a val
    else if ← Rtype.implements dst src then
      if (← Rtype.kind src) == 20 then
        match val with
        | .nilIface=>unsupported (.noEntry "extern/reflectlite: a nil value of one interface type handed on as a value of another")
        | _=>storeVar dst a val
      else storeVar dst a (.iface src val)
    else panicString ("reflectlite.Set: value of type "++(← Rtype.spelt src)++" is not assignable to type "++(← Rtype.spelt dst))
    pure (.tuple #[])):=rfl
theorem As.parts25a (a:Addr) (w:World):(ReflectliteValue.parts (.agg #[.pointer (some ⟨9,143,none⟩),.pointer (some a),.int .u64 409])).run Tryz.prog w=.ok (some (143,a,409)) w:=by kernel_rfl
theorem As.parts25 (a:Addr) (w:World):(ReflectliteValue.parts (.agg #[.pointer (some ⟨9,143,none⟩),.pointer (some a),.int .u64 153])).run Tryz.prog w=.ok (some (143,a,153)) w:=by kernel_rfl
theorem As.direct25 (w:World):(Rtype.directlyAssignable 143 143).run Tryz.prog w=.ok true w:=by kernel_rfl
theorem As.size25 (w:World):(sizeOf 143).run Tryz.prog w=.ok 1 w:=by kernel_rfl
theorem As.loadV (b:Addr) (e:Int) (W:World) (hb:W.cell? b=some (.int .i64 e)):(loadVar 143 b).run Tryz.prog W=.ok (.agg #[.int .i64 e]) W:=by
  have hs:=As.size25 W
  unfold loadVar
  rw [Sem.run_bind,show (isAgg 143).run Tryz.prog W=.ok true W from by kernel_rfl]
  show (do pure (Value.agg (← loadCells b (← sizeOf 143))):Sem Value).run Tryz.prog W=_
  rw [Sem.run_bind,hs]
  show (loadCells b 1 >>= fun x=>pure (Value.agg x)).run Tryz.prog W=_
  rw [Sem.run_bind]
  have hl:(loadCells b 1).run Tryz.prog W=.ok #[.int .i64 e] W:=by
    show (Sem.load Mode.plain (Addr.add b 0) Sem.pure >>= fun v=>loadCellsFrom b 1 0 (#[].push v)).run Tryz.prog W=_
    rw [Sem.run_bind]
    have hb':W.cell? (Addr.add b 0)=some (.int .i64 e):=by rw [show Addr.add b 0=b from by cases b;rfl];exact hb
    simp only [Sem.run,hb',Result.andThen]
    rfl
  rw [hl];rfl
theorem As.storeV (a:Addr) (e:Int) (old:Value) (W:World) (ht:W.cell? a=some old) (hf:W.frozen? a=false):(storeVar 143 a (.agg #[.int .i64 e])).run Tryz.prog W=.ok () (W.setCell a (.int .i64 e)):=by
  unfold storeVar
  rw [Sem.run_bind,As.size25]
  show (storeCells a [.int .i64 e]).run Tryz.prog W=_
  have ha:Addr.add a 0=a:=by cases a;rfl
  show (store (Addr.add a 0) (.int .i64 e) >>= fun _=>storeCells a [] 1).run Tryz.prog W=_
  rw [Sem.run_bind,ha,run_store Tryz.prog W a _ _ (by rfl)]
  simp only [ht,hf]
  rfl
theorem As.set25 (ta b : Addr) (e : Int) (old : Value) (W : World) (hb : W.cell? b = some (.int .i64 e)) (ht : W.cell? ta = some old) (hf : W.frozen? ta = false) :
    (ReflectliteValue.set #[.agg #[.pointer (some ⟨9,143,none⟩),.pointer (some ta),.int .u64 409],.agg #[.pointer (some ⟨9,143,none⟩),.pointer (some b),.int .u64 153]]).run Tryz.prog W
     =.ok (.tuple #[]) (W.setCell ta (.int .i64 e)):=by
  rw [rls]
  simp only [Sem.run_bind,As.parts25a,As.parts25,Result.andThen]
  simp [ReflectliteValue.flagAddr,As.loadV b e W hb,Result.andThen,As.direct25,As.storeV ta e old W ht hf]
set_option maxHeartbeats 4000000 in
theorem as_hit (e : Int) (t : Addr) (old : Value) (w : World) (hg : w.cell? ⟨0, 0, none⟩ = some (.iface 223 (.agg #[.pointer (some ⟨9, 139, none⟩)]))) (ht0 : w.cell? t = some old) (hf0 : w.frozen? t = false) :
    Calls Tryz.prog 81 #[.iface 143 (.agg #[.int .i64 e]),.iface 145 (.pointer (some t))] w fun ev w'=>ev=.returned (.bool true)∧w'=((((w.alloc (.cells #[.pointer (some t)] 145)).alloc (.cells #[.pointer (some ⟨9,145,none⟩),.pointer (some ⟨w.heap.size,0,none⟩),.int .u64 150] 185)).alloc (.cells #[.pointer (some ⟨9,145,none⟩),.pointer (some ⟨w.heap.size,0,none⟩),.int .u64 150] 185)).alloc (.cells #[.int .i64 e] 143)).setCell t (.int .i64 e):=by
  have h6:=@run_callFunc_extern Tryz.prog 115 _ (fun args=>ReflectliteValue.unpack (args.getD 0 (.tuple #[]))) Tryz.func115 (by kernel_rfl) (by kernel_rfl) (by kernel_rfl) (by kernel_rfl)
  have h7:=@run_callFunc_extern Tryz.prog 116 _ (ReflectliteValue.methodAny (ReflectliteValue.valueError "reflectlite.Value.Type" 0) (fun t _ _ _=>ReflectliteType.toType t)) Tryz.func116 (by kernel_rfl) (by kernel_rfl) (by kernel_rfl) (by kernel_rfl)
  have h8:=@run_callFunc_extern Tryz.prog 117 _ (ReflectliteValue.method (ReflectliteValue.valueError "reflectlite.Value.IsNil" 0) ReflectliteValue.isNil) Tryz.func117 (by kernel_rfl) (by kernel_rfl) (by kernel_rfl) (by kernel_rfl)
  have h27:=@run_callFunc_extern Tryz.prog 226 _ (ReflectliteType.abiMethod fun t=>do pure (.int .u8 (← Rtype.kind t))) Tryz.func226 (by kernel_rfl) (by kernel_rfl) (by kernel_rfl) (by kernel_rfl)
  have h37:=@run_callFunc_extern Tryz.prog 238 _ (ReflectliteType.method ReflectliteType.elem) Tryz.func238 (by kernel_rfl) (by kernel_rfl) (by kernel_rfl) (by kernel_rfl)
  have h38:=@run_callFunc_extern Tryz.prog 239 _ (ReflectliteType.relation "Implements" ReflectliteType.implements_) Tryz.func239 (by kernel_rfl) (by kernel_rfl) (by kernel_rfl) (by kernel_rfl)
  have h10:=@run_callFunc_extern Tryz.prog 152 _ ReflectliteType.typeOf Tryz.func152 (by kernel_rfl) (by kernel_rfl) (by kernel_rfl) (by kernel_rfl)
  have h35:=@run_callFunc_extern Tryz.prog 236 _ (ReflectliteType.relation "AssignableTo" ReflectliteType.assignableTo) Tryz.func236 (by kernel_rfl) (by kernel_rfl) (by kernel_rfl) (by kernel_rfl)
  have h11:=@run_callFunc_extern Tryz.prog 153 _ (ReflectliteValue.method (ReflectliteValue.valueError "reflectlite.Value.Elem" 0) ReflectliteValue.elem) Tryz.func153 (by kernel_rfl) (by kernel_rfl) (by kernel_rfl) (by kernel_rfl)
  have h12:=@run_callFunc_extern Tryz.prog 154 _ ReflectliteValue.set Tryz.func154 (by kernel_rfl) (by kernel_rfl) (by kernel_rfl) (by kernel_rfl)
  have tO:=As.typeOf25
  have mA:=As.methodAssignableTo
  have a25:=As.assignable25
  have v25:=As.valueOf25
  have f6:=As.valueOf27
  have f7:=As.type27
  have mK:=As.methodKind
  have mE:=As.methodElem
  have mI:=As.methodImplements
  have k27:=As.kind27
  have k25:=As.kind25
  have e27:=As.elem27
  have i25:=As.implements25
  have n8:=As.isNil27 ⟨w.heap.size,0,none⟩ t ((w.alloc (.cells #[.pointer (some t)] 145)).alloc (.cells #[.pointer (some ⟨9,145,none⟩),.pointer (some ⟨w.heap.size,0,none⟩),.int .u64 150] 185)) (by simp)
  have hlt:0<w.heap.size:=by
    rcases Nat.eq_zero_or_pos w.heap.size with h0 | h
    · simp [World.cell?,h0] at hg
    · exact h
  have hg2:((w.alloc (.cells #[.pointer (some t)] 145)).alloc (.cells #[.pointer (some ⟨9,145,none⟩),.pointer (some ⟨w.heap.size,0,none⟩),.int .u64 150] 185)).cell? ⟨0,0,none⟩=some (.iface 223 (.agg #[.pointer (some ⟨9,139,none⟩)])):=by
    rw [World.cell?_alloc_lt _ _ ⟨0,0,none⟩ (by simp),World.cell?_alloc_lt _ _ ⟨0,0,none⟩ hlt];exact hg
  have htl:t.block<w.heap.size:=by
    rcases Nat.lt_or_ge t.block w.heap.size with h | h
    · exact h
    · simp [World.cell?,Array.getElem?_eq_none h] at ht0
  have el:=As.elemV27 ⟨w.heap.size,0,none⟩ t (((w.alloc (.cells #[.pointer (some t)] 145)).alloc (.cells #[.pointer (some ⟨9,145,none⟩),.pointer (some ⟨w.heap.size,0,none⟩),.int .u64 150] 185)).alloc (.cells #[.pointer (some ⟨9,145,none⟩),.pointer (some ⟨w.heap.size,0,none⟩),.int .u64 150] 185)) (by rw [World.cell?_alloc_lt _ _ ⟨w.heap.size,0,none⟩ (by simp;omega)];simp)
  have st:=As.set25 t ⟨w.heap.size+1+1+1,0,none⟩ e old ((((w.alloc (.cells #[.pointer (some t)] 145)).alloc (.cells #[.pointer (some ⟨9,145,none⟩),.pointer (some ⟨w.heap.size,0,none⟩),.int .u64 150] 185)).alloc (.cells #[.pointer (some ⟨9,145,none⟩),.pointer (some ⟨w.heap.size,0,none⟩),.int .u64 150] 185)).alloc (.cells #[.int .i64 e] 143))
    (by rw [World.cell?_alloc_at _ _ _ _ (by simp)];rfl)
    (by rw [World.cell?_alloc_lt _ _ t (by simp;omega),World.cell?_alloc_lt _ _ t (by simp;omega),World.cell?_alloc_lt _ _ t (by simp;omega),World.cell?_alloc_lt _ _ t htl];exact ht0)
    (by rw [World.frozen?_alloc_old _ _ t (by simp;omega),World.frozen?_alloc_old _ _ t (by simp;omega),World.frozen?_alloc_old _ _ t (by simp;omega),World.frozen?_alloc_old _ _ t (Nat.ne_of_lt htl)];exact hf0)
  go_enter Tryz.func81,Tryz.ntmps81
  go_wp2
  refine wp_loop_rounds 1 ?_
  rw [rounds_succ]
  go_wp2
  go_ret
  exact ⟨rfl,rfl⟩
open Go Go.Sl Go.Sh
set_option maxRecDepth 100000
def errV (e:Int):Value:=if e=0 then .nilIface else .iface 143 (.agg #[vI e])
def Glob (I:Imm):Prop:=∃ cs T fz,I.blk 0=some (.cells cs T fz)∧cs[0]?=some (.iface 223 (.agg #[vP 9 139]))
theorem Glob.mono {I J:Imm} (h:Glob I) (le:I.le J):Glob J:=by
 obtain ⟨cs,T,fz,h1,h2⟩:=h;exact ⟨cs,T,fz,le.blk _ _ h1,h2⟩
theorem As_ct (I:Imm) (e:Int) (p:Nat) (p_s:Int) (hG:Glob I) (h0:p_s=0):Ct Tryz.prog 81 #[errV e,.iface 145 (vP p 0)] I [(bX p #[vI p_s] 143)]
  (fun v I' M'=>v=.bool (decide (e≠0))∧M'=[(bX p #[vI e] 143)]):=by
 subst h0;intro F w st
 by_cases he:e=0
 ·subst he;refine (as_nil _ w).mono fun ev w' ⟨h1,h2⟩=>?_
  subst h1 h2;exact ⟨_,I,_,rfl,IR I,⟨rfl,rfl⟩,st⟩
 have hE:errV e=.iface 143 (.agg #[vI e]):=if_neg he;have a0:(bX p #[vI 0] 143)∈[(bX p #[vI 0] 143)]++F:=by simp
 have hh:=st.mem _ _ a0;have hg:w.cell? ⟨0,0,none⟩=some (.iface 223 (.agg #[vP 9 139])):=by
  obtain ⟨cs,T,fz,h1,h2⟩:=hG;have:=st.imm _ _ h1;simp [World.cell?,this,h2]
 have ht:w.cell? ⟨p,0,none⟩=some (vI 0):=by simp [World.cell?,hh]
 have hf:w.frozen? ⟨p,0,none⟩=false:=by simp [World.frozen?,hh]
 rw [hE];refine (as_hit e ⟨p,0,none⟩ _ w hg ht hf).mono fun ev w' ⟨h1,h2⟩=>?_
 subst h1;have a1:=(((st.more (.cells #[vP p 0] 145)).more (.cells #[vP 9 145,.pointer (some ⟨w.heap.size,0,none⟩),.int .u64 150] 185)).more (.cells #[vP 9 145,.pointer (some ⟨w.heap.size,0,none⟩),.int .u64 150] 185)).more (.cells #[vI e] 143);refine ⟨_,I,_,rfl,IR I,⟨by simp [he],rfl⟩,?_⟩;subst h2;refine a1.put (i:=0) (r:=p) (o:=.cells #[vI e] 143 (0,0)) (o':=.cells #[vI 0] 143 (0,0)) rfl rfl rfl rfl ?_ (fun b hb=>Go.RowKit.Below.heap_setCell _ _ _ _ hb);have h4:=a1.mem _ _ a0;simp only [World.setCell,Array.getElem?_modify,if_true,h4,Option.map_some];simp
open Go Go.ChangeShapes Go.WideShapes Go.RowKit Go.Sl
theorem Row.own:ownKnob Tryz.prog.godebug=none:=by kernel_rfl
theorem Row.laidOut:laidOutB Tryz.prog=true:=by kernel_rfl
theorem Row.et:Tryz.prog.globalNamed "errors.errorType"=some 0:=by kernel_rfl
theorem Row.oneRow:((List.range 318).filter fun t=>Tryz.prog.rowNamed t [101,114,114,111,114])=[139]:=by kernel_rfl
theorem Row.size:Tryz.prog.types.size=318:=by kernel_rfl
theorem Row.cells:Tryz.prog.cellsOf 3=1:=by kernel_rfl
theorem handle_of_laid {W:World} (h:laidMetH Tryz.prog [("errors.errorType",Rows.laid_errors_errorType)] W):Glob (MC W):=by
  have h':laidMet Tryz.prog [] W∧handlesMet Tryz.prog [("errors.errorType",Rows.laid_errors_errorType)] W:=h
  obtain ⟨name,u,ty,e1,e2,e3,e4,e5⟩:=h'.2 _ (List.mem_singleton.2 rfl)
  have en:name=[101,114,114,111,114]:=(Option.some.inj e1).symm
  subst en
  obtain rfl:u=223:=Option.some.inj (e2.symm.trans (by kernel_rfl))
  have hm:ty∈(List.range 318).filter fun t=>Tryz.prog.rowNamed t [101,114,114,111,114]:=List.mem_filter.2 ⟨List.mem_range.2 (by rw [← Row.size];exact e3),e4⟩
  rw [Row.oneRow] at hm
  obtain rfl:=List.mem_singleton.1 hm
  have hh:typeHandle Tryz.prog 139=.pointer (some ⟨9,139,none⟩):=by kernel_rfl
  rw [hh] at e5
  have hc:W.cell? ⟨0,0,none⟩=some (.iface 223 (.agg #[.pointer (some ⟨9,139,none⟩)])):=by simpa using World.var?_cell Row.et e5 0
  obtain ⟨_,cs,T,fz,hb,hv⟩:=KP hc
  exact ⟨cs,T,fz,hb,hv⟩
noncomputable def laidWorld (os:Os):World:=
  let w0:=World.holding Tryz.prog os ⟨#[],#[],[]⟩
  { w0 with heap := w0.heap.modify 0 fun
      | .cells _ t frozen=>.cells #[.iface 223 (.agg #[.pointer (some ⟨9,139,none⟩)])] t frozen
      | o=>o }
theorem Row.lifts:(false == Tryz.pinned.checked.prog.liftsFinal)=true:=by kernel_rfl
theorem Row.make:(Tryz.pinned.checked.prog.make == some Make.cut)=true:=by kernel_rfl
theorem Row.looks:true=Tryz.pinned.checked.prog.looks []:=by kernel_rfl
end Go.Proofs.YtgcemienebmdeaaGreatDoor

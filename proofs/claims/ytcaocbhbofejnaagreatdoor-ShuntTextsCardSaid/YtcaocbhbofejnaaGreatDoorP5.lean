/- A part of the proof of the laws of this seat. -/
import Derived.Test.YtcaocbhbofejnaaGreatDoorP4
import Derived.Test.YtcaocbhbofejnaaGreatDoorP1
import Derived.Test.YtcaocbhbofejnaaGreatDoorP2
import Derived.Test.YtcaocbhbofejnaaGreatDoorP0
import Derived.Test.YtcaocbhbofejnaaGreatDoorTie
import Derived.Test.YtcaocbhbofejnaaGreatDoorCards
import Derived.Test.YtcaocbhbofejnaaGreatDoorProg
import Derived.ChangeVars
import Derived.JoinedOf
import Derived.RowKit
import Derived.RowKitTokens
import Derived.LaidLaws
import Derived.LaidHandle
import Derived.Stop.Joined
import Derived.SevenTiedAt
import Derived.WideKeyArgs
import Derived.ProofKit
import Derived.SizedLaws
set_option linter.unusedVariables false
set_option linter.unusedSimpArgs false
namespace Go.Proofs.YtcaocbhbofejnaaGreatDoor
open Go Go.Sl Go.Sh
set_option maxRecDepth 100000
noncomputable def c_YardOf (p:List Nat):Code:=sub (AU Tryz.f21) p
set_option maxHeartbeats 1000000 in
theorem YardOf_ct (I:Imm) (p:Nat) (p_s:Int) (c:Nat) (s:Nat) (hc:c≤1000) (hs:s≤1000):Ct Tryz.prog 21 #[vP p 0,vI ↑c,vI ↑s] I ([(bX p #[.int .u64 (p_s)] 95)]) (fun v I' M'=>∃ p_t:Int,∃ Y:Yard,∃ u_0:Value,∃ Ms_0:Seg,∃ u_1:Value,∃ Ms_1:Seg,∃ u_2:Value,∃ ws_2:List Value,∃ Ms_2:Seg,v=.agg #[u_0,u_1,u_2]∧M'=[(bX p #[.int .u64 (p_t)] 95)]++(Ms_0++(Ms_1++(Ms_2)))∧(Valid Y)∧(Y.cars.length≤c)∧Own 56 6 CV u_0 ((Y).cars) Ms_0∧Own 3 1 BA u_1 ((Y).room) Ms_1∧Own 23 1 AO u_2 ws_2 Ms_2∧RowsV I' ws_2 ((Y).tracks)):=by
 refine fr (args:=[_,_,_]) (N:=179) Tryz.func21 (fun F=>?_);show Run _ _ (c_YardOf []) _ _ [(0,vP p 0),(1,vI (↑c)),(2,vI (↑s))] _ _;refine rnm (rqr ?_);refine sS (sal 6 26 #[vN,vN,vN] (fun b1=>(sn (sS (sal 7 26 #[vN,vN,vN] (fun b3=>(sn (sp 3 [(20,vI ((if (5:Int)<(↑c:Int) then 5 else ↑c))),(18,vP p 0)] ?_))))))));have v9:=Up_ct I (p) (p_s) ((if (5:Int)<(↑c:Int) then 5 else ↑c)) (by omega);refine sS (sc (some 21) (F:=((bX b3 #[vN,vN,vN] 26)::(bX b1 #[vN,vN,vN] 26)::F)) (v9 :) ((PC _ (PS _ _ _)).trans (PS _ _ _)) (fun X1 I5 W3 K4 V7=>?_));obtain ⟨B9,e0,P3,P1,M3⟩:=V7;rw [P3,P1];clear P3 P1;refine nm ?_;refine sp 1 [(8,vI (↑e0))] ?_;have hn5:e0≤5∧e0≤c:=by
  have hq:=M3
  split at hq <;> omega
 refine sn (sp 2 [(10,vI (0)),(9,vI (0))] (se (rq (rqr (sp 1 [(11,vI (0))] (se (rb 0 ?_)))))));refine rl (fun mz a w=>∃ J0:Imm,∃ k:Nat,∃ cs:List Car,∃ g:Int,∃ l:Int,∃ bs:Int,∃ d7:Value,∃ a4:Seg,(I5.le J0)∧(k≤e0)∧(cs.length=k)∧(CarsInv cs g l)∧(Own 56 6 CV d7 (cs) a4)∧Slots 179 [(9,vI g),(10,vI l),(11,vI ↑k),(0,vP p 0),(2,vI (↑s)),(6,vP b1 0),(7,vP b3 0),(8,vI (↑e0))] a∧a.defers=[]∧St J0 ((bX p #[.int .u64 (bs)] 95)::(bX b3 #[d7,vN,vN] 26)::(bX b1 #[vN,vN,vN] 26)::(a4++F)) w∧mz=e0-k) ?_ ?_
 ·intro a w hS hD hW;exact ⟨_,I5,0,[],0,0,B9,(vN),[],IR _,Nat.zero_le _,rfl,CarsInv.nil,(Own.nil _ _ _),hS.sub (.cons 9 rfl (.cons 10 rfl (.cons 11 rfl (.cons 0 rfl (.cons 2 rfl (.cons 6 rfl (.cons 7 rfl (.cons 8 rfl (.nil _))))))))),hD,hW,rfl⟩
 rintro mz a w ⟨J0,k,cs,g,l,bs,d7,a4,hJ0,hk,Z6,d9,a9,hS,hD,hW,rfl⟩
 refine AX hS hD hW ?_;clear hS hD hW a w;obtain ⟨a1,a3,f5,u0⟩:=a9.shape;subst f5;have Z7:=d9.g0;have Z8:=d9.l0;refine rq (rqr (sp 3 [(24,.bool (cmp .lss (↑k) (↑e0)))] (se (rc 24 rfl (fun h1=>?_) (fun h1=>?_)))))
 ·
  have J6:=h1;have h1:=BZ h1;refine AH (NX (rq (rb 1 (rqr (sp 2 [(28,vP p 0),(27,vP p 0)] ?_)))));have x0:=From_ct J0 (p) (bs) (1) (3) (by omega) (by omega);refine sS (sc (some 29) (F:=((bX b3 #[vS a1 cs.length a3,vN,vN] 26)::(bX b1 #[vN,vN,vN] 26)::(a4++F))) (x0 :) (.refl _) (fun X2 Z2 W4 d0 K6=>?_));obtain ⟨m6,G0,z5,x7,V9⟩:=K6;rw [z5,x7];clear z5 x7;refine nm ?_;refine sS (sbs 30 3 3 #[vI (1),vI (1),vI ((G0))] (fun G5=>(pm (M':=((bX p #[.int .u64 (m6)] 95)::(bX b3 #[vS a1 cs.length a3,vN,vN] 26)::(bX b1 #[vN,vN,vN] 26)::([(bX G5 #[vI (1),vI (1),vI ((G0))] 3)]++(a4++F)))) ((PS _ _ _).trans (PC _ ((PS _ _ _).trans (PC _ (PS _ _ _))))) ?_)));have K5:Own 3 1 BA (vS (some ⟨G5,0,none⟩) 3 3) ([(1:Int),(1:Int),((G0):Int)]:List Int) [(bX G5 #[vI (1),vI (1),vI ((G0))] 3)]:=Own.lit rfl rfl;refine sfz (A:=((bX p #[.int .u64 (m6)] 95)::(bX b3 #[vS a1 cs.length a3,vN,vN] 26)::(bX b1 #[vN,vN,vN] 26)::(a4++F))) 0 K5 (PU (PU (PM.symm))) (fun T8 d1 i5=>?_);obtain ⟨G6,G8,G7,J4,r9,G9,J3,J5⟩:=id i5;cases r9;have x1:=One_ct T8 (p) (m6) _ _ i5 (by simp);refine sS (sc (some 31) (F:=((bX b3 #[vS a1 cs.length a3,vN,vN] 26)::(bX b1 #[vN,vN,vN] 26)::(a4++F))) (x1 :) (.refl _) (fun X3 T9 W5 d2 K7=>?_));obtain ⟨C0,b0,z6,x8,M4⟩:=K7;rw [z6,x8];clear z6 x8;refine nm ?_;have hl3:1≤(b0)∧(b0)≤3:=by
   have hq:=M4;simp only [List.mem_cons,List.not_mem_nil,or_false] at hq;omega
  refine sp 1 [(32,vP p 0)] ?_;have x2:=From_ct T9 (p) (C0) (5) (60) (by omega) (by omega);refine sS (sc (some 33) (F:=((bX b3 #[vS a1 cs.length a3,vN,vN] 26)::(bX b1 #[vN,vN,vN] 26)::(a4++F))) (x2 :) (.refl _) (fun X4 U0 W6 d3 K8=>?_));obtain ⟨C1,b2,z7,x9,W0⟩:=K8;rw [z7,x9];clear z7 x9;refine nm ?_;refine sp 1 [(34,vP p 0)] ?_;have x3:=Chance_ct U0 (p) (C1) (2) (3) (by omega);refine sS (sc (some 35) (F:=((bX b3 #[vS a1 cs.length a3,vN,vN] 26)::(bX b1 #[vN,vN,vN] 26)::(a4++F))) (x3 :) (.refl _) (fun X5 U1 W7 d4 K9=>?_));obtain ⟨C2,b4,z8,y0⟩:=K9;rw [z8,y0];clear z8 y0;refine nm ?_;refine sp 1 [(36,vP p 0)] ?_;have x4:=Chance_ct U1 (p) (C2) (2) (3) (by omega);refine sS (sc (some 37) (F:=((bX b3 #[vS a1 cs.length a3,vN,vN] 26)::(bX b1 #[vN,vN,vN] 26)::(a4++F))) (x4 :) (.refl _) (fun X6 U2 W8 d5 M0=>?_));obtain ⟨C3,b5,z9,y1⟩:=M0;rw [z9,y1];clear z9 y1;refine nm ?_;refine sp 1 [(38,.agg #[vI ((b0)),vI ((b2)),vI (0),vI (0),.bool (b4),.bool (b5)])] (sS (sal 12 56 #[vI (0),vI (0),vI (0),vI (0),.bool (false),.bool (false)] (fun c6=>(sS (ss 0 0 c6 [vI ((b0)),vI ((b2)),vI (0),vI (0),.bool (b4),.bool (b5)] [vI ((b0)),vI ((b2)),vI (0),vI (0),.bool (b4),.bool (b5)] (_::_::_::_::_) (cs:=[_,_,_,_,_,_]) rfl rfl (sn (sp 2 [(40,vP c6 1),(39,vP p 0)] (sd (dlb 41 0 1 c6 (vI ((b2)))) ?_))))))));have x5:=Up_ct U2 (p) (C3) ((b2)) (by omega);refine sS (sc (some 42) (F:=((bX c6 #[vI ((b0)),vI ((b2)),vI (0),vI (0),.bool (b4),.bool (b5)] 56)::(bX b3 #[vS a1 cs.length a3,vN,vN] 26)::(bX b1 #[vN,vN,vN] 26)::(a4++F))) (x5 :) (PS _ _ _) (fun X7 u6 W9 d6 M1=>?_));obtain ⟨c8,b6,A0,y2,W1⟩:=M1;rw [A0,y2];clear A0 y2;refine nm ?_;refine sp 1 [(43,vP c6 2)] (sS (ss 1 2 c6 [vI (↑b6)] [vI ((b0)),vI ((b2)),vI (↑b6),vI (0),.bool (b4),.bool (b5)] (_::_::_::_::_) (cs:=[_,_,_,_,_,_]) rfl rfl (se (rq (rqr (sp 3 [(46,.bool (cmp .eql (l) (0)))] ?_))))));refine AY 46 rfl (fun h2=>?_) (fun h2=>?_)
  ·
   have i6:=h2;have i6:=DF i6;refine sp 4 [(50,.bool (cmp .lss (g) (3)))] ?_;refine AY 50 rfl (fun h3=>?_) (fun h3=>?_)
   ·
    have i7:=h3;have i7:=BZ i7;refine sp 1 [(51,vP p 0)] ?_;have x6:=Chance_ct u6 (p) (c8) (1) (4) (by omega);refine sS (sc (some 52) (F:=((bX c6 #[vI ((b0)),vI ((b2)),vI (↑b6),vI (0),.bool (b4),.bool (b5)] 56)::(bX b3 #[vS a1 cs.length a3,vN,vN] 26)::(bX b1 #[vN,vN,vN] 26)::(a4++F))) (x6 :) (.refl _) (fun X8 G4 X0 i1 M2=>?_));obtain ⟨f1,W2,A1,y3⟩:=M2;rw [A1,y3];clear A1 y3;refine nm ?_;refine sp 1 [(53,.bool (W2))] (se (rc 53 rfl (fun h4=>?_) (fun h4=>?_)))
    ·
     have J7:=h4;refine rr (sp 1 [(54,vI (g))] (sd (da 55 (g) (1)) (sp 1 [(56,vP p 0)] ?_)));have s3:=From_ct G4 (p) (f1) (1) (2) (by omega) (by omega);refine sS (sc (some 57) (F:=((bX c6 #[vI ((b0)),vI ((b2)),vI (↑b6),vI (0),.bool (b4),.bool (b5)] 56)::(bX b3 #[vS a1 cs.length a3,vN,vN] 26)::(bX b1 #[vN,vN,vN] 26)::(a4++F))) (s3 :) (.refl _) (fun T1 O9 R5 p0 y8=>?_));obtain ⟨e5,f2,r0,p1,R2⟩:=y8;rw [r0,p1];clear r0 p1;refine nm ?_;refine sp 2 [(10,vI ((f2))),(9,vI (g+1))] (se (rq (rqr (sp 2 [(59,.bool (cmp .gtr ((f2)) (0)))] (se (rc 59 rfl (fun h5=>?_) (fun h5=>?_)))))))
     ·
      have J8:=h5;have h5:=HU h5;refine rr (sp 2 [(61,vI ((f2))),(60,vI (g+1))] (sd (dsb 62 ((f2)) (1)) (sp 1 [(63,vP c6 3)] (sS (ss 1 3 c6 [vI (g+1)] [vI ((b0)),vI ((b2)),vI (↑b6),vI (g+1),.bool (b4),.bool (b5)] (_::_::_::_::_) (cs:=[_,_,_,_,_,_]) rfl rfl (sp 1 [(10,vI (((f2))-1))] (se (rr (sp 1 [(64,vP b3 0)] (sd (dlb 65 2 0 b3 (vS a1 cs.length a3)) (sd (dnb 66 1 0 c6 [vI ((b0)),vI ((b2)),vI (↑b6),vI (g+1),.bool (b4),.bool (b5)]) (sS (sbs 67 56 1 #[vI ((b0)),vI ((b2)),vI (↑b6),vI (g+1),.bool (b4),.bool (b5)] (fun U3=>(sS (AN (d:=68) (x:=(.tmp 65)) (y:=(.tmp 67)) (T:=22) (T':=22) (E:=56) (E':=56) (sz:=6) (bs:=40) (z:=.agg #[vI (0),vI (0),vI (0),vI (0),.bool (false),.bool (false)]) (cell:=CV) (xs:=cs) (ys:=[(⟨(b0),(b2),↑b6,g+1,b4,b5⟩:Car)]) (Ms:=a4) (ty:=22) (gd:=none) (by kernel_rfl) rfl (by kernel_rfl) (by kernel_rfl) (by kernel_rfl) (by kernel_rfl) (by kernel_rfl) (by decide) (by kernel_rfl) rfl rfl (a9) (PU (PU (PU (PU (PM.symm))))) (ED _) (CI 0 rfl rfl) (by first | omega | (simp only [LC,LN,LA,LK,LD];omega)) (fun Y0 n8 p7=>(AR (M':=((bX p #[.int .u64 (e5)] 95)::(bX c6 #[vI ((b0)),vI ((b2)),vI (↑b6),vI (g+1),.bool (b4),.bool (b5)] 56)::(bX b3 #[vS a1 cs.length a3,vN,vN] 26)::(bX b1 #[vN,vN,vN] 26)::(n8++F))) (fun w h=>(h.perm (PW (PW (PW (PW PM))))).sub (TC _ (TR _))) ?_))))))))))))))))));obtain ⟨j0,k2,A7,Q0⟩:=p7.shape;subst A7;refine sp 1 [(69,vP b3 0)] (sS (ss 2 0 b3 [vS j0 (cs++([(⟨(b0),(b2),↑b6,g+1,b4,b5⟩:Car)])).length k2] [vS j0 (cs++([(⟨(b0),(b2),↑b6,g+1,b4,b5⟩:Car)])).length k2,vN,vN] (_::_::_::_::_) (cs:=[_,_,_]) rfl rfl (ee (NB (NX (rr (sp 1 [(25,vI (↑k))] (sd (da 26 (↑k) (1)) (sp 1 [(11,vI (↑k+1))] (ee ?_))))))))));refine AG (e0-(k+1)) (by omega) ?_;intro a w hS hD hW;exact ⟨O9,k+1,cs++[(⟨(b0),(b2),↑b6,g+1,b4,b5⟩:Car)],g+1,((f2))-1,e5,vS j0 (cs++([(⟨(b0),(b2),↑b6,g+1,b4,b5⟩:Car)])).length k2,n8,(IT (IT (IT (IT (IT (IT (IT (IT (IT hJ0 d0) d1) d2) d3) d4) d5) d6) i1) p0),by omega,by simp only [LA,LC,LN];omega,(by have hh:=CarsInv.snoc (d9.group (by omega) (by omega)) (c:=(⟨(b0),(b2),↑b6,g+1,b4,b5⟩:Car)) (HO (by omega) (by omega) (by omega) (by have t2:=d9.g0;omega)) ⟨fun _=>rfl,fun hh=>absurd h5 hh⟩;rw [if_pos h5] at hh;exact hh),p7,hS.sub (.consE 9 rfl rfl (.consE 10 rfl rfl (.consE 11 rfl rfl (.cons 0 rfl (.cons 2 rfl (.cons 6 rfl (.cons 7 rfl (.cons 8 rfl (.nil _))))))))),hD,(hW.perm (PS _ _ _)).sub (TC _ (TR _)),rfl⟩
     have J8:=h5;have h5:=HG h5;refine AH (NX (rr (sp 1 [(64,vP b3 0)] (sd (dlb 65 2 0 b3 (vS a1 cs.length a3)) (sd (dnb 66 1 0 c6 [vI ((b0)),vI ((b2)),vI (↑b6),vI (0),.bool (b4),.bool (b5)]) (sS (sbs 67 56 1 #[vI ((b0)),vI ((b2)),vI (↑b6),vI (0),.bool (b4),.bool (b5)] (fun U4=>(sS (AN (d:=68) (x:=(.tmp 65)) (y:=(.tmp 67)) (T:=22) (T':=22) (E:=56) (E':=56) (sz:=6) (bs:=40) (z:=.agg #[vI (0),vI (0),vI (0),vI (0),.bool (false),.bool (false)]) (cell:=CV) (xs:=cs) (ys:=[(⟨(b0),(b2),↑b6,0,b4,b5⟩:Car)]) (Ms:=a4) (ty:=22) (gd:=none) (by kernel_rfl) rfl (by kernel_rfl) (by kernel_rfl) (by kernel_rfl) (by kernel_rfl) (by kernel_rfl) (by decide) (by kernel_rfl) rfl rfl (a9) (PU (PU (PU (PU (PM.symm))))) (ED _) (CI 0 rfl rfl) (by first | omega | (simp only [LC,LN,LA,LK,LD];omega)) (fun Y1 n9 p8=>(AR (M':=((bX p #[.int .u64 (e5)] 95)::(bX c6 #[vI ((b0)),vI ((b2)),vI (↑b6),vI (0),.bool (b4),.bool (b5)] 56)::(bX b3 #[vS a1 cs.length a3,vN,vN] 26)::(bX b1 #[vN,vN,vN] 26)::(n9++F))) (fun w h=>(h.perm (PW (PW (PW (PW PM))))).sub (TC _ (TR _))) ?_))))))))))));obtain ⟨j1,k3,A8,Q1⟩:=p8.shape;subst A8;refine sp 1 [(69,vP b3 0)] (sS (ss 2 0 b3 [vS j1 (cs++([(⟨(b0),(b2),↑b6,0,b4,b5⟩:Car)])).length k3] [vS j1 (cs++([(⟨(b0),(b2),↑b6,0,b4,b5⟩:Car)])).length k3,vN,vN] (_::_::_::_::_) (cs:=[_,_,_]) rfl rfl (ee (NB (NX (rr (sp 1 [(25,vI (↑k))] (sd (da 26 (↑k) (1)) (sp 1 [(11,vI (↑k+1))] (ee ?_))))))))));refine AG (e0-(k+1)) (by omega) ?_;intro a w hS hD hW;exact ⟨O9,k+1,cs++[(⟨(b0),(b2),↑b6,0,b4,b5⟩:Car)],g+1,(f2),e5,vS j1 (cs++([(⟨(b0),(b2),↑b6,0,b4,b5⟩:Car)])).length k3,n9,(IT (IT (IT (IT (IT (IT (IT (IT (IT hJ0 d0) d1) d2) d3) d4) d5) d6) i1) p0),by omega,by simp only [LA,LC,LN];omega,(by have hh:=CarsInv.snoc (d9.group (by omega) (by omega)) (c:=(⟨(b0),(b2),↑b6,0,b4,b5⟩:Car)) (HO (by omega) (by omega) (by omega) (by have t2:=d9.g0;omega)) ⟨fun hh=>absurd hh (by omega),fun _=>rfl⟩;rw [if_neg (show ¬ (0<(f2)) by omega)] at hh;exact hh),p8,hS.sub (.consE 9 rfl rfl (.consE 10 rfl rfl (.consE 11 rfl rfl (.cons 0 rfl (.cons 2 rfl (.cons 6 rfl (.cons 7 rfl (.cons 8 rfl (.nil _))))))))),hD,(hW.perm (PS _ _ _)).sub (TC _ (TR _)),rfl⟩
    have J7:=h4;refine AH (NX (rq (rqr (sp 2 [(59,.bool (cmp .gtr (l) (0)))] (se (rc 59 rfl (fun h6=>?_) (fun h6=>?_)))))))
    ·
     have J9:=h6;have h6:=HU h6;refine rr (sp 2 [(61,vI (l)),(60,vI (g))] (sd (dsb 62 (l) (1)) (sp 1 [(63,vP c6 3)] (sS (ss 1 3 c6 [vI (g)] [vI ((b0)),vI ((b2)),vI (↑b6),vI (g),.bool (b4),.bool (b5)] (_::_::_::_::_) (cs:=[_,_,_,_,_,_]) rfl rfl (sp 1 [(10,vI (l-1))] (se (rr (sp 1 [(64,vP b3 0)] (sd (dlb 65 2 0 b3 (vS a1 cs.length a3)) (sd (dnb 66 1 0 c6 [vI ((b0)),vI ((b2)),vI (↑b6),vI (g),.bool (b4),.bool (b5)]) (sS (sbs 67 56 1 #[vI ((b0)),vI ((b2)),vI (↑b6),vI (g),.bool (b4),.bool (b5)] (fun U5=>(sS (AN (d:=68) (x:=(.tmp 65)) (y:=(.tmp 67)) (T:=22) (T':=22) (E:=56) (E':=56) (sz:=6) (bs:=40) (z:=.agg #[vI (0),vI (0),vI (0),vI (0),.bool (false),.bool (false)]) (cell:=CV) (xs:=cs) (ys:=[(⟨(b0),(b2),↑b6,g,b4,b5⟩:Car)]) (Ms:=a4) (ty:=22) (gd:=none) (by kernel_rfl) rfl (by kernel_rfl) (by kernel_rfl) (by kernel_rfl) (by kernel_rfl) (by kernel_rfl) (by decide) (by kernel_rfl) rfl rfl (a9) (PU (PU (PU (PU (PM.symm))))) (ED _) (CI 0 rfl rfl) (by first | omega | (simp only [LC,LN,LA,LK,LD];omega)) (fun Y2 o0 p9=>(AR (M':=((bX p #[.int .u64 (f1)] 95)::(bX c6 #[vI ((b0)),vI ((b2)),vI (↑b6),vI (g),.bool (b4),.bool (b5)] 56)::(bX b3 #[vS a1 cs.length a3,vN,vN] 26)::(bX b1 #[vN,vN,vN] 26)::(o0++F))) (fun w h=>(h.perm (PW (PW (PW (PW PM))))).sub (TC _ (TR _))) ?_))))))))))))))))));obtain ⟨j2,k4,A9,Q2⟩:=p9.shape;subst A9;refine sp 1 [(69,vP b3 0)] (sS (ss 2 0 b3 [vS j2 (cs++([(⟨(b0),(b2),↑b6,g,b4,b5⟩:Car)])).length k4] [vS j2 (cs++([(⟨(b0),(b2),↑b6,g,b4,b5⟩:Car)])).length k4,vN,vN] (_::_::_::_::_) (cs:=[_,_,_]) rfl rfl (ee (NB (NX (rr (sp 1 [(25,vI (↑k))] (sd (da 26 (↑k) (1)) (sp 1 [(11,vI (↑k+1))] (ee ?_))))))))));refine AG (e0-(k+1)) (by omega) ?_;intro a w hS hD hW;exact ⟨G4,k+1,cs++[(⟨(b0),(b2),↑b6,g,b4,b5⟩:Car)],g,l-1,f1,vS j2 (cs++([(⟨(b0),(b2),↑b6,g,b4,b5⟩:Car)])).length k4,o0,(IT (IT (IT (IT (IT (IT (IT (IT hJ0 d0) d1) d2) d3) d4) d5) d6) i1),by omega,by simp only [LA,LC,LN];omega,(by have hh:=CarsInv.snoc (d9) (c:=(⟨(b0),(b2),↑b6,g,b4,b5⟩:Car)) (HO (by omega) (by omega) (by omega) (by have t2:=d9.g0;omega)) ⟨fun _=>rfl,fun hh=>absurd h6 hh⟩;rw [if_pos h6] at hh;exact hh),p9,hS.sub (.consE 9 rfl rfl (.consE 10 rfl rfl (.consE 11 rfl rfl (.cons 0 rfl (.cons 2 rfl (.cons 6 rfl (.cons 7 rfl (.cons 8 rfl (.nil _))))))))),hD,(hW.perm (PS _ _ _)).sub (TC _ (TR _)),rfl⟩
    have J9:=h6;have h6:=HG h6;refine AH (NX (rr (sp 1 [(64,vP b3 0)] (sd (dlb 65 2 0 b3 (vS a1 cs.length a3)) (sd (dnb 66 1 0 c6 [vI ((b0)),vI ((b2)),vI (↑b6),vI (0),.bool (b4),.bool (b5)]) (sS (sbs 67 56 1 #[vI ((b0)),vI ((b2)),vI (↑b6),vI (0),.bool (b4),.bool (b5)] (fun U6=>(sS (AN (d:=68) (x:=(.tmp 65)) (y:=(.tmp 67)) (T:=22) (T':=22) (E:=56) (E':=56) (sz:=6) (bs:=40) (z:=.agg #[vI (0),vI (0),vI (0),vI (0),.bool (false),.bool (false)]) (cell:=CV) (xs:=cs) (ys:=[(⟨(b0),(b2),↑b6,0,b4,b5⟩:Car)]) (Ms:=a4) (ty:=22) (gd:=none) (by kernel_rfl) rfl (by kernel_rfl) (by kernel_rfl) (by kernel_rfl) (by kernel_rfl) (by kernel_rfl) (by decide) (by kernel_rfl) rfl rfl (a9) (PU (PU (PU (PU (PM.symm))))) (ED _) (CI 0 rfl rfl) (by first | omega | (simp only [LC,LN,LA,LK,LD];omega)) (fun Y3 o1 q0=>(AR (M':=((bX p #[.int .u64 (f1)] 95)::(bX c6 #[vI ((b0)),vI ((b2)),vI (↑b6),vI (0),.bool (b4),.bool (b5)] 56)::(bX b3 #[vS a1 cs.length a3,vN,vN] 26)::(bX b1 #[vN,vN,vN] 26)::(o1++F))) (fun w h=>(h.perm (PW (PW (PW (PW PM))))).sub (TC _ (TR _))) ?_))))))))))));obtain ⟨j3,k5,B0,Q3⟩:=q0.shape;subst B0;refine sp 1 [(69,vP b3 0)] (sS (ss 2 0 b3 [vS j3 (cs++([(⟨(b0),(b2),↑b6,0,b4,b5⟩:Car)])).length k5] [vS j3 (cs++([(⟨(b0),(b2),↑b6,0,b4,b5⟩:Car)])).length k5,vN,vN] (_::_::_::_::_) (cs:=[_,_,_]) rfl rfl (ee (NB (NX (rr (sp 1 [(25,vI (↑k))] (sd (da 26 (↑k) (1)) (sp 1 [(11,vI (↑k+1))] (ee ?_))))))))));refine AG (e0-(k+1)) (by omega) ?_;intro a w hS hD hW;exact ⟨G4,k+1,cs++[(⟨(b0),(b2),↑b6,0,b4,b5⟩:Car)],g,l,f1,vS j3 (cs++([(⟨(b0),(b2),↑b6,0,b4,b5⟩:Car)])).length k5,o1,(IT (IT (IT (IT (IT (IT (IT (IT hJ0 d0) d1) d2) d3) d4) d5) d6) i1),by omega,by simp only [LA,LC,LN];omega,(by have hh:=CarsInv.snoc (d9) (c:=(⟨(b0),(b2),↑b6,0,b4,b5⟩:Car)) (HO (by omega) (by omega) (by omega) (by have t2:=d9.g0;omega)) ⟨fun hh=>absurd hh (by omega),fun _=>rfl⟩;rw [if_neg (show ¬ (0<l) by omega)] at hh;exact hh),q0,hS.sub (.consE 9 rfl rfl (.consE 10 rfl rfl (.consE 11 rfl rfl (.cons 0 rfl (.cons 2 rfl (.cons 6 rfl (.cons 7 rfl (.cons 8 rfl (.nil _))))))))),hD,(hW.perm (PS _ _ _)).sub (TC _ (TR _)),rfl⟩
   have i7:=h3;have i7:=BX i7;refine sp 3 [(53,.bool (false))] (se (rcf 53 rfl (AH (NX (rq (rqr (sp 2 [(59,.bool (cmp .gtr (l) (0)))] (se (rc 59 rfl (fun h7=>?_) (fun h7=>?_))))))))))
   ·
    have K0:=h7;have h7:=HU h7;refine rr (sp 2 [(61,vI (l)),(60,vI (g))] (sd (dsb 62 (l) (1)) (sp 1 [(63,vP c6 3)] (sS (ss 1 3 c6 [vI (g)] [vI ((b0)),vI ((b2)),vI (↑b6),vI (g),.bool (b4),.bool (b5)] (_::_::_::_::_) (cs:=[_,_,_,_,_,_]) rfl rfl (sp 1 [(10,vI (l-1))] (se (rr (sp 1 [(64,vP b3 0)] (sd (dlb 65 2 0 b3 (vS a1 cs.length a3)) (sd (dnb 66 1 0 c6 [vI ((b0)),vI ((b2)),vI (↑b6),vI (g),.bool (b4),.bool (b5)]) (sS (sbs 67 56 1 #[vI ((b0)),vI ((b2)),vI (↑b6),vI (g),.bool (b4),.bool (b5)] (fun U7=>(sS (AN (d:=68) (x:=(.tmp 65)) (y:=(.tmp 67)) (T:=22) (T':=22) (E:=56) (E':=56) (sz:=6) (bs:=40) (z:=.agg #[vI (0),vI (0),vI (0),vI (0),.bool (false),.bool (false)]) (cell:=CV) (xs:=cs) (ys:=[(⟨(b0),(b2),↑b6,g,b4,b5⟩:Car)]) (Ms:=a4) (ty:=22) (gd:=none) (by kernel_rfl) rfl (by kernel_rfl) (by kernel_rfl) (by kernel_rfl) (by kernel_rfl) (by kernel_rfl) (by decide) (by kernel_rfl) rfl rfl (a9) (PU (PU (PU (PU (PM.symm))))) (ED _) (CI 0 rfl rfl) (by first | omega | (simp only [LC,LN,LA,LK,LD];omega)) (fun Y4 o2 q1=>(AR (M':=((bX p #[.int .u64 (c8)] 95)::(bX c6 #[vI ((b0)),vI ((b2)),vI (↑b6),vI (g),.bool (b4),.bool (b5)] 56)::(bX b3 #[vS a1 cs.length a3,vN,vN] 26)::(bX b1 #[vN,vN,vN] 26)::(o2++F))) (fun w h=>(h.perm (PW (PW (PW (PW PM))))).sub (TC _ (TR _))) ?_))))))))))))))))));obtain ⟨j4,k6,B1,Q4⟩:=q1.shape;subst B1;refine sp 1 [(69,vP b3 0)] (sS (ss 2 0 b3 [vS j4 (cs++([(⟨(b0),(b2),↑b6,g,b4,b5⟩:Car)])).length k6] [vS j4 (cs++([(⟨(b0),(b2),↑b6,g,b4,b5⟩:Car)])).length k6,vN,vN] (_::_::_::_::_) (cs:=[_,_,_]) rfl rfl (ee (NB (NX (rr (sp 1 [(25,vI (↑k))] (sd (da 26 (↑k) (1)) (sp 1 [(11,vI (↑k+1))] (ee ?_))))))))));refine AG (e0-(k+1)) (by omega) ?_;intro a w hS hD hW;exact ⟨u6,k+1,cs++[(⟨(b0),(b2),↑b6,g,b4,b5⟩:Car)],g,l-1,c8,vS j4 (cs++([(⟨(b0),(b2),↑b6,g,b4,b5⟩:Car)])).length k6,o2,(IT (IT (IT (IT (IT (IT (IT hJ0 d0) d1) d2) d3) d4) d5) d6),by omega,by simp only [LA,LC,LN];omega,(by have hh:=CarsInv.snoc (d9) (c:=(⟨(b0),(b2),↑b6,g,b4,b5⟩:Car)) (HO (by omega) (by omega) (by omega) (by have t2:=d9.g0;omega)) ⟨fun _=>rfl,fun hh=>absurd h7 hh⟩;rw [if_pos h7] at hh;exact hh),q1,hS.sub (.consE 9 rfl rfl (.consE 10 rfl rfl (.consE 11 rfl rfl (.cons 0 rfl (.cons 2 rfl (.cons 6 rfl (.cons 7 rfl (.cons 8 rfl (.nil _))))))))),hD,(hW.perm (PS _ _ _)).sub (TC _ (TR _)),rfl⟩
   have K0:=h7;have h7:=HG h7;refine AH (NX (rr (sp 1 [(64,vP b3 0)] (sd (dlb 65 2 0 b3 (vS a1 cs.length a3)) (sd (dnb 66 1 0 c6 [vI ((b0)),vI ((b2)),vI (↑b6),vI (0),.bool (b4),.bool (b5)]) (sS (sbs 67 56 1 #[vI ((b0)),vI ((b2)),vI (↑b6),vI (0),.bool (b4),.bool (b5)] (fun U8=>(sS (AN (d:=68) (x:=(.tmp 65)) (y:=(.tmp 67)) (T:=22) (T':=22) (E:=56) (E':=56) (sz:=6) (bs:=40) (z:=.agg #[vI (0),vI (0),vI (0),vI (0),.bool (false),.bool (false)]) (cell:=CV) (xs:=cs) (ys:=[(⟨(b0),(b2),↑b6,0,b4,b5⟩:Car)]) (Ms:=a4) (ty:=22) (gd:=none) (by kernel_rfl) rfl (by kernel_rfl) (by kernel_rfl) (by kernel_rfl) (by kernel_rfl) (by kernel_rfl) (by decide) (by kernel_rfl) rfl rfl (a9) (PU (PU (PU (PU (PM.symm))))) (ED _) (CI 0 rfl rfl) (by first | omega | (simp only [LC,LN,LA,LK,LD];omega)) (fun Y5 o3 q2=>(AR (M':=((bX p #[.int .u64 (c8)] 95)::(bX c6 #[vI ((b0)),vI ((b2)),vI (↑b6),vI (0),.bool (b4),.bool (b5)] 56)::(bX b3 #[vS a1 cs.length a3,vN,vN] 26)::(bX b1 #[vN,vN,vN] 26)::(o3++F))) (fun w h=>(h.perm (PW (PW (PW (PW PM))))).sub (TC _ (TR _))) ?_))))))))))));obtain ⟨j5,k7,B2,Q5⟩:=q2.shape;subst B2;refine sp 1 [(69,vP b3 0)] (sS (ss 2 0 b3 [vS j5 (cs++([(⟨(b0),(b2),↑b6,0,b4,b5⟩:Car)])).length k7] [vS j5 (cs++([(⟨(b0),(b2),↑b6,0,b4,b5⟩:Car)])).length k7,vN,vN] (_::_::_::_::_) (cs:=[_,_,_]) rfl rfl (ee (NB (NX (rr (sp 1 [(25,vI (↑k))] (sd (da 26 (↑k) (1)) (sp 1 [(11,vI (↑k+1))] (ee ?_))))))))));refine AG (e0-(k+1)) (by omega) ?_;intro a w hS hD hW;exact ⟨u6,k+1,cs++[(⟨(b0),(b2),↑b6,0,b4,b5⟩:Car)],g,l,c8,vS j5 (cs++([(⟨(b0),(b2),↑b6,0,b4,b5⟩:Car)])).length k7,o3,(IT (IT (IT (IT (IT (IT (IT hJ0 d0) d1) d2) d3) d4) d5) d6),by omega,by simp only [LA,LC,LN];omega,(by have hh:=CarsInv.snoc (d9) (c:=(⟨(b0),(b2),↑b6,0,b4,b5⟩:Car)) (HO (by omega) (by omega) (by omega) (by have t2:=d9.g0;omega)) ⟨fun hh=>absurd hh (by omega),fun _=>rfl⟩;rw [if_neg (show ¬ (0<l) by omega)] at hh;exact hh),q2,hS.sub (.consE 9 rfl rfl (.consE 10 rfl rfl (.consE 11 rfl rfl (.cons 0 rfl (.cons 2 rfl (.cons 6 rfl (.cons 7 rfl (.cons 8 rfl (.nil _))))))))),hD,(hW.perm (PS _ _ _)).sub (TC _ (TR _)),rfl⟩
  have i6:=h2;have i6:=DE i6;refine sp 7 [(53,.bool (false))] (se (rcf 53 rfl (AH (NX (rq (rqr (sp 2 [(59,.bool (cmp .gtr (l) (0)))] (se (rc 59 rfl (fun h8=>?_) (fun h8=>?_))))))))))
  ·
   have K1:=h8;have h8:=HU h8;refine rr (sp 2 [(61,vI (l)),(60,vI (g))] (sd (dsb 62 (l) (1)) (sp 1 [(63,vP c6 3)] (sS (ss 1 3 c6 [vI (g)] [vI ((b0)),vI ((b2)),vI (↑b6),vI (g),.bool (b4),.bool (b5)] (_::_::_::_::_) (cs:=[_,_,_,_,_,_]) rfl rfl (sp 1 [(10,vI (l-1))] (se (rr (sp 1 [(64,vP b3 0)] (sd (dlb 65 2 0 b3 (vS a1 cs.length a3)) (sd (dnb 66 1 0 c6 [vI ((b0)),vI ((b2)),vI (↑b6),vI (g),.bool (b4),.bool (b5)]) (sS (sbs 67 56 1 #[vI ((b0)),vI ((b2)),vI (↑b6),vI (g),.bool (b4),.bool (b5)] (fun U9=>(sS (AN (d:=68) (x:=(.tmp 65)) (y:=(.tmp 67)) (T:=22) (T':=22) (E:=56) (E':=56) (sz:=6) (bs:=40) (z:=.agg #[vI (0),vI (0),vI (0),vI (0),.bool (false),.bool (false)]) (cell:=CV) (xs:=cs) (ys:=[(⟨(b0),(b2),↑b6,g,b4,b5⟩:Car)]) (Ms:=a4) (ty:=22) (gd:=none) (by kernel_rfl) rfl (by kernel_rfl) (by kernel_rfl) (by kernel_rfl) (by kernel_rfl) (by kernel_rfl) (by decide) (by kernel_rfl) rfl rfl (a9) (PU (PU (PU (PU (PM.symm))))) (ED _) (CI 0 rfl rfl) (by first | omega | (simp only [LC,LN,LA,LK,LD];omega)) (fun Y6 o4 q3=>(AR (M':=((bX p #[.int .u64 (c8)] 95)::(bX c6 #[vI ((b0)),vI ((b2)),vI (↑b6),vI (g),.bool (b4),.bool (b5)] 56)::(bX b3 #[vS a1 cs.length a3,vN,vN] 26)::(bX b1 #[vN,vN,vN] 26)::(o4++F))) (fun w h=>(h.perm (PW (PW (PW (PW PM))))).sub (TC _ (TR _))) ?_))))))))))))))))));obtain ⟨j6,k8,B3,Q6⟩:=q3.shape;subst B3;refine sp 1 [(69,vP b3 0)] (sS (ss 2 0 b3 [vS j6 (cs++([(⟨(b0),(b2),↑b6,g,b4,b5⟩:Car)])).length k8] [vS j6 (cs++([(⟨(b0),(b2),↑b6,g,b4,b5⟩:Car)])).length k8,vN,vN] (_::_::_::_::_) (cs:=[_,_,_]) rfl rfl (ee (NB (NX (rr (sp 1 [(25,vI (↑k))] (sd (da 26 (↑k) (1)) (sp 1 [(11,vI (↑k+1))] (ee ?_))))))))));refine AG (e0-(k+1)) (by omega) ?_;intro a w hS hD hW;exact ⟨u6,k+1,cs++[(⟨(b0),(b2),↑b6,g,b4,b5⟩:Car)],g,l-1,c8,vS j6 (cs++([(⟨(b0),(b2),↑b6,g,b4,b5⟩:Car)])).length k8,o4,(IT (IT (IT (IT (IT (IT (IT hJ0 d0) d1) d2) d3) d4) d5) d6),by omega,by simp only [LA,LC,LN];omega,(by have hh:=CarsInv.snoc (d9) (c:=(⟨(b0),(b2),↑b6,g,b4,b5⟩:Car)) (HO (by omega) (by omega) (by omega) (by have t2:=d9.g0;omega)) ⟨fun _=>rfl,fun hh=>absurd h8 hh⟩;rw [if_pos h8] at hh;exact hh),q3,hS.sub (.consE 9 rfl rfl (.consE 10 rfl rfl (.consE 11 rfl rfl (.cons 0 rfl (.cons 2 rfl (.cons 6 rfl (.cons 7 rfl (.cons 8 rfl (.nil _))))))))),hD,(hW.perm (PS _ _ _)).sub (TC _ (TR _)),rfl⟩
  have K1:=h8;have h8:=HG h8;refine AH (NX (rr (sp 1 [(64,vP b3 0)] (sd (dlb 65 2 0 b3 (vS a1 cs.length a3)) (sd (dnb 66 1 0 c6 [vI ((b0)),vI ((b2)),vI (↑b6),vI (0),.bool (b4),.bool (b5)]) (sS (sbs 67 56 1 #[vI ((b0)),vI ((b2)),vI (↑b6),vI (0),.bool (b4),.bool (b5)] (fun V0=>(sS (AN (d:=68) (x:=(.tmp 65)) (y:=(.tmp 67)) (T:=22) (T':=22) (E:=56) (E':=56) (sz:=6) (bs:=40) (z:=.agg #[vI (0),vI (0),vI (0),vI (0),.bool (false),.bool (false)]) (cell:=CV) (xs:=cs) (ys:=[(⟨(b0),(b2),↑b6,0,b4,b5⟩:Car)]) (Ms:=a4) (ty:=22) (gd:=none) (by kernel_rfl) rfl (by kernel_rfl) (by kernel_rfl) (by kernel_rfl) (by kernel_rfl) (by kernel_rfl) (by decide) (by kernel_rfl) rfl rfl (a9) (PU (PU (PU (PU (PM.symm))))) (ED _) (CI 0 rfl rfl) (by first | omega | (simp only [LC,LN,LA,LK,LD];omega)) (fun Y7 o5 q4=>(AR (M':=((bX p #[.int .u64 (c8)] 95)::(bX c6 #[vI ((b0)),vI ((b2)),vI (↑b6),vI (0),.bool (b4),.bool (b5)] 56)::(bX b3 #[vS a1 cs.length a3,vN,vN] 26)::(bX b1 #[vN,vN,vN] 26)::(o5++F))) (fun w h=>(h.perm (PW (PW (PW (PW PM))))).sub (TC _ (TR _))) ?_))))))))))));obtain ⟨j7,k9,B4,Q7⟩:=q4.shape;subst B4;refine sp 1 [(69,vP b3 0)] (sS (ss 2 0 b3 [vS j7 (cs++([(⟨(b0),(b2),↑b6,0,b4,b5⟩:Car)])).length k9] [vS j7 (cs++([(⟨(b0),(b2),↑b6,0,b4,b5⟩:Car)])).length k9,vN,vN] (_::_::_::_::_) (cs:=[_,_,_]) rfl rfl (ee (NB (NX (rr (sp 1 [(25,vI (↑k))] (sd (da 26 (↑k) (1)) (sp 1 [(11,vI (↑k+1))] (ee ?_))))))))));refine AG (e0-(k+1)) (by omega) ?_;intro a w hS hD hW;exact ⟨u6,k+1,cs++[(⟨(b0),(b2),↑b6,0,b4,b5⟩:Car)],g,l,c8,vS j7 (cs++([(⟨(b0),(b2),↑b6,0,b4,b5⟩:Car)])).length k9,o5,(IT (IT (IT (IT (IT (IT (IT hJ0 d0) d1) d2) d3) d4) d5) d6),by omega,by simp only [LA,LC,LN];omega,(by have hh:=CarsInv.snoc (d9) (c:=(⟨(b0),(b2),↑b6,0,b4,b5⟩:Car)) (HO (by omega) (by omega) (by omega) (by have t2:=d9.g0;omega)) ⟨fun hh=>absurd hh (by omega),fun _=>rfl⟩;rw [if_neg (show ¬ (0<l) by omega)] at hh;exact hh),q4,hS.sub (.consE 9 rfl rfl (.consE 10 rfl rfl (.consE 11 rfl rfl (.cons 0 rfl (.cons 2 rfl (.cons 6 rfl (.cons 7 rfl (.cons 8 rfl (.nil _))))))))),hD,(hW.perm (PS _ _ _)).sub (TC _ (TR _)),rfl⟩
 have J6:=h1;have h1:=BX h1;refine CC 0 ((EP (EP (EB (NX (rqr (sp 3 [(72,vI ((if (2:Int)<(↑s:Int) then 2 else ↑s))),(70,vP p 0)] ?_)))))));have s4:=Up_ct J0 (p) (bs) ((if (2:Int)<(↑s:Int) then 2 else ↑s)) (by omega);refine sS (sc (some 73) (F:=((bX b3 #[vS a1 cs.length a3,vN,vN] 26)::(bX b1 #[vN,vN,vN] 26)::(a4++F))) (s4 :) (.refl _) (fun T2 r6 R6 t3 y9=>?_));obtain ⟨f7,b8,r1,p2,C4⟩:=y9;rw [r1,p2];clear r1 p2;refine nm ?_;have hT3:1+b8≤3:=by
  have hq:=C4
  split at hq <;> omega
 refine sd (da 74 (1) (↑b8)) (DN 74 rfl (show (vI (1+↑b8):Value)=vI (↑(1+b8)) from congrArg (Value.int .i64) (by omega)) (sS (stp_makeSlice (d:=75) (x:=(.tmp 74)) (T:=24) (E:=23) (bs:=24) (n:=1+b8) (z:=vN) (zv:=vN) (ty:=24) (gd:=none) (by kernel_rfl) rfl (by kernel_rfl) (by kernel_rfl) (by kernel_rfl) rfl (by kernel_rfl) (by decide) rfl (by omega) (fun i2=>?_))));have q5:Own 23 1 AO (vS (some ⟨i2,0,none⟩) (1+b8) (1+b8)) (List.replicate (1+b8) (vN)) [(i2,Obj.cells (List.replicate (1+b8) (vN)).toArray 23 (0,0))]:=Own.made _;obtain ⟨mS147,hmS147⟩:∃ X:Seg,X=[(i2,Obj.cells (List.replicate (1+b8) (vN)).toArray 23 (0,0))]:=⟨_,rfl⟩;rw [← hmS147] at q5;refine AR (I':=r6) (M':=((mS147++(bX p #[.int .u64 (f7)] 95)::(bX b3 #[vS a1 cs.length a3,vN,vN] 26)::(bX b1 #[vN,vN,vN] 26)::(a4++F)))) (fun w h=>by rw [hmS147];exact h) (pm (M':=((bX p #[.int .u64 (f7)] 95)::(bX b3 #[vS a1 cs.length a3,vN,vN] 26)::(bX b1 #[vN,vN,vN] 26)::(mS147++(a4++F)))) (PW (PW PM)) ?_);have s9:=OwnEach.nils 3 (1+b8);refine sp 1 [(76,vP b3 2)] (sS (ss 1 2 b3 [vS (some ⟨i2,0,none⟩) (1+b8) (1+b8)] [vS a1 cs.length a3,vN,vS (some ⟨i2,0,none⟩) (1+b8) (1+b8)] (_::_::_::_) (cs:=[_,_,_]) rfl rfl (sn (sp 1 [(13,vI (0))] (se (rq (rqr (sp 1 [(14,vI (0))] (se (rb 2 ?_))))))))));refine rl (fun mz a w=>∃ J1:Imm,∃ j:Nat,∃ aa:Nat,∃ ts:List (List Int),∃ tv:Value,∃ vs:List Value,∃ tM:Seg,∃ eM:Seg,∃ e8:Int,(r6.le J1)∧(j≤e0)∧(Placed cs (1+b8) j aa ts)∧(Own 23 1 AO tv vs tM)∧(OwnEach 3 vs ts eM)∧Slots 179 [(13,vI ↑aa),(14,vI ↑j),(0,vP p 0),(6,vP b1 0),(7,vP b3 0),(8,vI (↑e0))] a∧a.defers=[]∧St J1 ((bX p #[.int .u64 (e8)] 95)::(bX b3 #[vS a1 cs.length a3,vN,tv] 26)::(bX b1 #[vN,vN,vN] 26)::(tM++(a4++(eM++F)))) w∧mz=e0-j) ?_ ?_
 ·intro a w hS hD hW;exact ⟨_,r6,0,0,(List.replicate (1+b8) []),(vS (some ⟨i2,0,none⟩) (1+b8) (1+b8)),(List.replicate (1+b8) (vN)),mS147,[],f7,IR _,Nat.zero_le _,Placed.start (by omega),q5,s9,hS.sub (.cons 13 rfl (.cons 14 rfl (.cons 0 rfl (.cons 6 rfl (.cons 7 rfl (.cons 8 rfl (.nil _))))))),hD,hW,rfl⟩
 rintro mz a w ⟨J1,j,aa,ts,tv,vs,tM,eM,e8,hJ1,hj,t8,n3,E8,hS,hD,hW,rfl⟩
 refine AX hS hD hW ?_;clear hS hD hW a w;obtain ⟨a7,a8,O8,X9⟩:=n3.shape;subst O8;have hvl:=E8.length;have hpt:=t8.len;have hpa:=t8.a0;refine rq (rqr (sp 3 [(79,.bool (cmp .lss (↑j) (↑e0)))] (se (rc 79 rfl (fun h9=>?_) (fun h9=>?_)))))
 ·
  have K2:=h9;have h9:=BZ h9;refine AH (NX (rq (rb 3 (rq (rq ?_)))));refine DQ (fun a w=>Slots 179 [(0,vP p 0),(6,vP b1 0),(7,vP b3 0),(8,vI (↑e0)),(13,vI (↑aa)),(14,vI (↑j)),(108,.bool ((cmp .eql (↑j) (0))||((cmp .eql ((cs.getD (j) AD).grp) (0))||(!(cmp .eql ((cs.getD (j) AD).grp) ((cs.getD ((↑j-1:Int).toNat) AD).grp))))))] a∧a.defers=[]∧St J1 ((bX p #[.int .u64 (e8)] 95)::(bX b3 #[vS a1 cs.length a3,vN,vS a7 vs.length a8] 26)::(bX b1 #[vN,vN,vN] 26)::(tM++(a4++(eM++F)))) w) ?_ ?_
  ·
   refine rd0 25 (ox 3 [(84,.bool (cmp .eql (↑j) (0)))] ?_);refine JY 84 (fun u2=>?_) (fun u2=>?_)
   ·
    have e9:=u2;have e9:=DF e9;refine ox 22 [(106,undef),(99,undef),(93,.bool (true))] ?_;refine BT (sp 2 [(108,.bool (true))] (ee ?_));refine AL (fun a w hS hD hW=>⟨hS.sub (.cons 0 rfl (.cons 6 rfl (.cons 7 rfl (.cons 8 rfl (.cons 13 rfl (.cons 14 rfl (.consE 108 rfl (congrArg Value.bool (by simp only [u2,kA,kB,kC,kD,kE,kF,kG,kH,kI,kJ])) (.nil _)))))))),hD,hW⟩)
   have e9:=u2;have e9:=DE e9;refine ox 1 [(85,vP b3 0)] ?_;refine AB (dlb 86 1 0 b3 (vS a1 cs.length a3)) (ox 1 [(87,vI (↑j))] ?_);obtain ⟨A3,l6⟩:=a9.row AD;refine AB (di 88 6 (j) l6.addr) (ox 1 [(89,.pointer (some ⟨A3,0+j*6+3,none⟩))] ?_);refine AB (dl 90 (l6.get (j) (by omega) 3 (by decide) _ _ (fun x hx=>by simp [hx]))) (ox 3 [(93,.bool (cmp .eql ((cs.getD (j) AD).grp) (0)))] ?_);refine JY 93 (fun v4=>?_) (fun v4=>?_)
   ·
    have f0:=v4;have f0:=DF f0;refine ox 13 [(106,undef),(99,undef)] ?_;refine BT (sp 2 [(108,.bool (true))] (ee ?_));refine AL (fun a w hS hD hW=>⟨hS.sub (.cons 0 rfl (.cons 6 rfl (.cons 7 rfl (.cons 8 rfl (.cons 13 rfl (.cons 14 rfl (.consE 108 rfl (congrArg Value.bool (by simp only [u2,v4,kA,kB,kC,kD,kE,kF,kG,kH,kI,kJ])) (.nil _)))))))),hD,hW⟩)
   have f0:=v4;have f0:=DE f0;refine ox 1 [(94,vP b3 0)] ?_;refine AB (dlb 95 1 0 b3 (vS a1 cs.length a3)) (ox 1 [(96,vI (↑j))] ?_);obtain ⟨A4,l7⟩:=a9.row AD;refine AB (di 97 6 (j) l7.addr) (ox 1 [(98,.pointer (some ⟨A4,0+j*6+3,none⟩))] ?_);refine AB (dl 99 (l7.get (j) (by omega) 3 (by decide) _ _ (fun x hx=>by simp [hx]))) (ox 1 [(100,vP b3 0)] ?_);refine AB (dlb 101 1 0 b3 (vS a1 cs.length a3)) (ox 1 [(102,vI (↑j))] ?_);refine AB (dsb 103 (↑j) (1)) ?_;obtain ⟨A5,l8⟩:=a9.row AD;refine AB (diI 104 6 (↑j-1) l8.addr) (ox 1 [(105,.pointer (some ⟨A5,0+((↑j-1:Int).toNat)*6+3,none⟩))] ?_);refine AB (dl 106 (l8.get ((↑j-1:Int).toNat) (by omega) 3 (by decide) _ _ (fun x hx=>by simp [hx]))) ?_;refine BT (sp 2 [(108,.bool (!(cmp .eql ((cs.getD (j) AD).grp) ((cs.getD ((↑j-1:Int).toNat) AD).grp))))] (ee ?_));refine AL (fun a w hS hD hW=>⟨hS.sub (.cons 0 rfl (.cons 6 rfl (.cons 7 rfl (.cons 8 rfl (.cons 13 rfl (.cons 14 rfl (.consE 108 rfl (congrArg Value.bool (by simp only [u2,v4,kA,kB,kC,kD,kE,kF,kG,kH,kI,kJ])) (.nil _)))))))),hD,hW⟩)
  rintro a w ⟨hS,hD,hW⟩
  refine AX hS hD hW ?_;clear hS hD hW a w;refine rc 108 rfl (fun E7=>?_) (fun E7=>?_)
  ·
   have o9:=E7;refine rr (sp 3 [(111,vP b3 2),(110,vP p 0),(109,vP p 0)] (sd (dlb 112 1 2 b3 (vS a7 vs.length a8)) (sp 1 [(113,vI (↑(vs.length)))] (sd (dsb 114 (↑(vs.length)) (1)) ?_))));have s5:=Up_ct J1 (p) (e8) ((↑(vs.length))-1) (by omega);refine sS (sc (some 115) (F:=((bX b3 #[vS a1 cs.length a3,vN,vS a7 vs.length a8] 26)::(bX b1 #[vN,vN,vN] 26)::(tM++(a4++(eM++F))))) (s5 :) (.refl _) (fun T3 T7 R7 t4 z0=>?_));obtain ⟨f8,n6,r2,p3,R3⟩:=z0;rw [r2,p3];clear r2 p3;refine nm ?_;refine sS (sbs 116 3 4 #[vI (0),vI (0),vI (0),vI (↑n6)] (fun r7=>(pm (M':=((bX p #[.int .u64 (f8)] 95)::(bX b3 #[vS a1 cs.length a3,vN,vS a7 vs.length a8] 26)::(bX b1 #[vN,vN,vN] 26)::([(bX r7 #[vI (0),vI (0),vI (0),vI (↑n6)] 3)]++(tM++(a4++(eM++F)))))) ((PS _ _ _).trans (PC _ ((PS _ _ _).trans (PC _ (PS _ _ _))))) ?_)));have y4:Own 3 1 BA (vS (some ⟨r7,0,none⟩) 4 4) ([(0:Int),(0:Int),(0:Int),(↑n6:Int)]:List Int) [(bX r7 #[vI (0),vI (0),vI (0),vI (↑n6)] 3)]:=Own.lit rfl rfl;refine sfz (A:=((bX p #[.int .u64 (f8)] 95)::(bX b3 #[vS a1 cs.length a3,vN,vS a7 vs.length a8] 26)::(bX b1 #[vN,vN,vN] 26)::(tM++(a4++(eM++F))))) 0 y4 (PU (PU (PM.symm))) (fun G1 t5 g8=>?_);obtain ⟨D3,D5,D4,D8,n4,D6,D7,D9⟩:=id g8;cases n4;have s6:=One_ct G1 (p) (f8) _ _ g8 (by simp);refine sS (sc (some 117) (F:=((bX b3 #[vS a1 cs.length a3,vN,vS a7 vs.length a8] 26)::(bX b1 #[vN,vN,vN] 26)::(tM++(a4++(eM++F))))) (s6 :) (.refl _) (fun T4 u3 R8 t6 z1=>?_));obtain ⟨c0,n7,r3,p4,C5⟩:=z1;rw [r3,p4];clear r3 p4;refine nm ?_;refine sp 1 [(13,vI ((n7)))] ?_;obtain ⟨a2,ha2,ha3⟩:∃ a2:Nat,(n7)=↑a2∧a2<1+b8:=by
    have hq:=C5;simp only [List.mem_cons,List.not_mem_nil,or_false] at hq;exact ⟨((n7)).toNat,by omega,by omega⟩
   refine DN 13 rfl (show (vI ((n7)):Value)=vI (↑a2) from congrArg (Value.int .i64) ha2) (se ?_);have z4:j≠0→gAt cs j≠0→gAt cs j=gAt cs (j-1)→a2=aa:=fun e1 e2 e3=>by
    exfalso
    have hh:=o9;have e4:((↑j:Int)-1).toNat=j-1:=by omega
    unfold gAt at e2 e3;rw [e4] at hh;simp only [cmp_eql,cmp_neq,Bool.or_eq_true,decide_eq_true_eq,Bool.not_eq_true',decide_eq_false_iff_not] at hh;omega
   obtain ⟨c1,c3,i3,v0,u8⟩:=OwnEach.pull E8 (a2) (by omega);obtain ⟨C7,C8,g6,C9⟩:=i3.shape;rw [g6] at i3;refine rn_mem (M':=((c1++(c3++(bX p #[.int .u64 (c0)] 95)::(bX b3 #[vS a1 cs.length a3,vN,vS a7 vs.length a8] 26)::(bX b1 #[vN,vN,vN] 26)::(tM++(a4++F)))))) (fun w h=>?_) ?_
   ·have h2:=h.perm (PU (PU (PU (PV (PO _ _ _)))));have h3:=St.permL (A':=c1++c3) (A:=eM) (by simpa only [AA,List.append_nil] using v0) (by simpa only [AA] using h2)
    simpa only [AA] using h3
   refine rn_mem (M':=((bX p #[.int .u64 (c0)] 95)::(bX b3 #[vS a1 cs.length a3,vN,vS a7 vs.length a8] 26)::(bX b1 #[vN,vN,vN] 26)::(c1++(c3++(tM++(a4++F)))))) (fun w h=>h.perm (((PA _ PM).trans PM).trans (PC _ (((PA _ PM).trans PM).trans (PC _ ((PA _ PM).trans PM)))))) ?_;have V3:=t8.tlen a2;refine rpm (M':=((bX p #[.int .u64 (c0)] 95)::(bX b3 #[vS a1 cs.length a3,vN,vS a7 vs.length a8] 26)::(bX b1 #[vN,vN,vN] 26)::(tM++(c1++(c3++(a4++F)))))) (PC _ (PC _ (PC _ (PV (PO _ _ _))))) ?_;refine rd 11 [(0,true),(1,true),(2,true),(3,true),(4,true),(5,true),(6,true),(7,true),(8,true),(9,false),(10,false)] ((bX p #[.int .u64 (c0)] 95)::(bX b3 #[vS a1 cs.length a3,vN,vS a7 vs.length a8] 26)::(bX b1 #[vN,vN,vN] 26)::tM) ((c1++(c3++(a4++F)))) (ox 1 [(118,vP b3 2)] ?_);refine AB (dlb 119 1 2 b3 (vS a7 vs.length a8)) (ox 2 [(121,vP b3 2),(120,vI (↑a2))] ?_);refine AB (dlb 122 1 2 b3 (vS a7 vs.length a8)) (ox 1 [(123,vI (↑a2))] ?_);obtain ⟨P4,l9⟩:=n3.row undef;refine AB (di 124 1 (a2) l9.addr) ?_;refine AB (BL (dl 125 (l9.get (a2) (by omega) 0 (by decide) _ _ (fun x hx=>by simp [hx]))) g6) (ox 1 [(126,vI (↑j))] ?_);refine CK (sbs 127 3 1 #[vI (↑j)] (fun e6=>?_));refine AW (S':=((bX e6 #[vI (↑j)] 3)::(c1++(c3++(a4++F))))) ((PS _ _ _).trans (PC _ ((PS _ _ _).trans (PC _ ((PS _ _ _).trans (PC _ (PM.symm))))))) ?_;refine CK (AN (d:=128) (x:=(.tmp 125)) (y:=(.tmp 127)) (T:=23) (T':=23) (E:=3) (E':=3) (sz:=1) (bs:=8) (z:=vI (0)) (cell:=BA) (xs:=ts.getD (a2) []) (ys:=[(↑j:Int)]) (Ms:=c1) (ty:=23) (gd:=none) (by kernel_rfl) rfl (by kernel_rfl) (by kernel_rfl) (by kernel_rfl) (by kernel_rfl) (by kernel_rfl) (by decide) (by kernel_rfl) rfl rfl (i3) (show List.Perm ((bX p #[.int .u64 (c0)] 95)::(bX b3 #[vS a1 cs.length a3,vN,vS a7 vs.length a8] 26)::(bX b1 #[vN,vN,vN] 26)::(tM++(bX e6 #[vI (↑j)] 3)::(c1++(c3++(a4++F))))) ((c1++(bX p #[.int .u64 (c0)] 95)::(bX b3 #[vS a1 cs.length a3,vN,vS a7 vs.length a8] 26)::(bX b1 #[vN,vN,vN] 26)::(bX e6 #[vI (↑j)] 3)::(tM++(c3++(a4++F))))) from ((PU (PU (PU (PV (PM.symm))))).trans (PA _ (PC _ (PC _ (PC _ PM)))))) (CH _) (CI 3 rfl rfl) (by first | omega | (simp only [LC,LN,LA,LK,LD];omega)) (fun Y8 f9 q6=>?_));refine AW (S':=((bX e6 #[vI (↑j)] 3)::(f9++(c3++(a4++F))))) (PW (PW (PW ((PV (PM.symm)).trans (PA _ PM))))) ?_;obtain ⟨j8,l1,B5,Q8⟩:=q6.shape;subst B5;show OFP _ _ _ _ _ _ ((128,vS j8 ((ts.getD (a2) [])++([(↑j:Int)])).length l1)::_) _ _;refine FB (nm ?_);refine pm (M':=((bX p #[.int .u64 (c0)] 95)::(bX b3 #[vS a1 cs.length a3,vN,vS a7 vs.length a8] 26)::(bX b1 #[vN,vN,vN] 26)::(bX e6 #[vI (↑j)] 3)::(tM++(f9++(c3++(a4++F)))))) (PC _ (PC _ (PC _ PM))) ?_;obtain ⟨P5,m0⟩:=n3.row undef;refine sd (di 129 1 (a2) m0.addr) (sS (FA (T:=23) (x:=(.tmp 129)) (y:=(.tmp 128)) (rc:=fun i f=>AO ((vs).getD i undef) f) undef (a2) 0 ((vS j8 ((ts.getD (a2) [])++([(↑j:Int)])).length l1:Value)) (ty:=0) (gd:=none) (by kernel_rfl) rfl n3 m0 (by omega) (by decide) rfl rfl (by kernel_rfl) rfl rfl (by intro f hf;match f,hf with | 0,_=>rfl) (PU (PU (PU (PM.symm)))) (fun g1 y5=>(pm (M':=((bX p #[.int .u64 (c0)] 95)::(bX b3 #[vS a1 cs.length a3,vN,vS a7 vs.length a8] 26)::(bX b1 #[vN,vN,vN] 26)::(bX e6 #[vI (↑j)] 3)::(g1++(f9++(c3++(a4++F)))))) (PW (PW (PW PM))) ?_))));obtain ⟨g4,t0,v1⟩:=u8 _ _ _ q6;refine AR (I':=u3) (M':=((g4++(bX p #[.int .u64 (c0)] 95)::(bX b3 #[vS a1 cs.length a3,vN,vS a7 vs.length a8] 26)::(bX b1 #[vN,vN,vN] 26)::(bX e6 #[vI (↑j)] 3)::(g1++(a4++F))))) (fun w h=>?_) ?_
   ·have h2:=h.perm ((PU (PU (PU (PU (PO _ _ _))))).trans (PA _ (PU (PU (PU (PU (PO _ _ _)))))));simp only [← AA] at h2;have h3:=St.permL (A':=g4) (A:=f9++c3) (by simpa only [AA,List.append_nil] using v1.symm) (by simpa only [AA] using h2)
    simpa only [AA] using h3
   refine pm (M':=((bX p #[.int .u64 (c0)] 95)::(bX b3 #[vS a1 cs.length a3,vN,vS a7 vs.length a8] 26)::(bX b1 #[vN,vN,vN] 26)::(bX e6 #[vI (↑j)] 3)::(g4++(g1++(a4++F))))) (PW (PW (PW PM))) (ee (NB (NX (rr (sp 1 [(80,vI (↑j))] (sd (da 81 (↑j) (1)) (sp 1 [(14,vI (↑j+1))] (ee ?_))))))));refine AG (e0-(j+1)) (by omega) ?_;intro a w hS hD hW;exact ⟨u3,j+1,a2,ts.set (a2) ((ts.getD (a2) [])++([(↑j:Int)])),(vS a7 vs.length a8),vs.set (a2) ((vS j8 ((ts.getD (a2) [])++([(↑j:Int)])).length l1:Value)),g1,g4,c0,(IT (IT (IT hJ1 t4) t5) t6),by omega,(t8.put (by omega) (fun e1 e2 e3=>z4 e1 e2 e3)),y5,t0,hS.sub (.consE 13 rfl rfl (.consE 14 rfl rfl (.cons 0 rfl (.cons 6 rfl (.cons 7 rfl (.cons 8 rfl (.nil _))))))),hD,(hW.perm (((PC _ ((PC _ (PS _ _ _)).trans (PS _ _ _))).trans (PS _ _ _)).trans (PC _ (PC _ (PC _ (PC _ ((PO _ _ _).trans (PA _ (PO _ _ _))))))))).sub (TC _ (TR _)),rfl⟩
  have o9:=E7;obtain ⟨o8,v5⟩:=or_f E7;have o8:=DE o8;obtain ⟨h0,i0⟩:=or_f v5;have h0:=DE h0;have i0:=DF (BW i0);refine AH (NX ?_);obtain ⟨c2,c4,i4,v2,u9⟩:=OwnEach.pull E8 (aa) (by omega);obtain ⟨D0,D1,g7,D2⟩:=i4.shape;rw [g7] at i4;refine rn_mem (M':=((c2++(c4++(bX p #[.int .u64 (e8)] 95)::(bX b3 #[vS a1 cs.length a3,vN,vS a7 vs.length a8] 26)::(bX b1 #[vN,vN,vN] 26)::(tM++(a4++F)))))) (fun w h=>?_) ?_
  ·have h2:=h.perm (PU (PU (PU (PV (PO _ _ _)))));have h3:=St.permL (A':=c2++c4) (A:=eM) (by simpa only [AA,List.append_nil] using v2) (by simpa only [AA] using h2)
   simpa only [AA] using h3
  refine rn_mem (M':=((bX p #[.int .u64 (e8)] 95)::(bX b3 #[vS a1 cs.length a3,vN,vS a7 vs.length a8] 26)::(bX b1 #[vN,vN,vN] 26)::(c2++(c4++(tM++(a4++F)))))) (fun w h=>h.perm (((PA _ PM).trans PM).trans (PC _ (((PA _ PM).trans PM).trans (PC _ ((PA _ PM).trans PM)))))) ?_;have V3:=t8.tlen aa;refine rpm (M':=((bX p #[.int .u64 (e8)] 95)::(bX b3 #[vS a1 cs.length a3,vN,vS a7 vs.length a8] 26)::(bX b1 #[vN,vN,vN] 26)::(tM++(c2++(c4++(a4++F)))))) (PC _ (PC _ (PC _ (PV (PO _ _ _))))) ?_;refine rd 11 [(0,true),(1,true),(2,true),(3,true),(4,true),(5,true),(6,true),(7,true),(8,true),(9,false),(10,false)] ((bX p #[.int .u64 (e8)] 95)::(bX b3 #[vS a1 cs.length a3,vN,vS a7 vs.length a8] 26)::(bX b1 #[vN,vN,vN] 26)::tM) ((c2++(c4++(a4++F)))) (ox 1 [(118,vP b3 2)] ?_);refine AB (dlb 119 1 2 b3 (vS a7 vs.length a8)) (ox 2 [(121,vP b3 2),(120,vI (↑aa))] ?_);refine AB (dlb 122 1 2 b3 (vS a7 vs.length a8)) (ox 1 [(123,vI (↑aa))] ?_);obtain ⟨P6,m1⟩:=n3.row undef;refine AB (di 124 1 (aa) m1.addr) ?_;refine AB (BL (dl 125 (m1.get (aa) (by omega) 0 (by decide) _ _ (fun x hx=>by simp [hx]))) g7) (ox 1 [(126,vI (↑j))] ?_);refine CK (sbs 127 3 1 #[vI (↑j)] (fun e7=>?_));refine AW (S':=((bX e7 #[vI (↑j)] 3)::(c2++(c4++(a4++F))))) ((PS _ _ _).trans (PC _ ((PS _ _ _).trans (PC _ ((PS _ _ _).trans (PC _ (PM.symm))))))) ?_;refine CK (AN (d:=128) (x:=(.tmp 125)) (y:=(.tmp 127)) (T:=23) (T':=23) (E:=3) (E':=3) (sz:=1) (bs:=8) (z:=vI (0)) (cell:=BA) (xs:=ts.getD (aa) []) (ys:=[(↑j:Int)]) (Ms:=c2) (ty:=23) (gd:=none) (by kernel_rfl) rfl (by kernel_rfl) (by kernel_rfl) (by kernel_rfl) (by kernel_rfl) (by kernel_rfl) (by decide) (by kernel_rfl) rfl rfl (i4) (show List.Perm ((bX p #[.int .u64 (e8)] 95)::(bX b3 #[vS a1 cs.length a3,vN,vS a7 vs.length a8] 26)::(bX b1 #[vN,vN,vN] 26)::(tM++(bX e7 #[vI (↑j)] 3)::(c2++(c4++(a4++F))))) ((c2++(bX p #[.int .u64 (e8)] 95)::(bX b3 #[vS a1 cs.length a3,vN,vS a7 vs.length a8] 26)::(bX b1 #[vN,vN,vN] 26)::(bX e7 #[vI (↑j)] 3)::(tM++(c4++(a4++F))))) from ((PU (PU (PU (PV (PM.symm))))).trans (PA _ (PC _ (PC _ (PC _ PM)))))) (CH _) (CI 3 rfl rfl) (by first | omega | (simp only [LC,LN,LA,LK,LD];omega)) (fun Y9 g2 q7=>?_));refine AW (S':=((bX e7 #[vI (↑j)] 3)::(g2++(c4++(a4++F))))) (PW (PW (PW ((PV (PM.symm)).trans (PA _ PM))))) ?_;obtain ⟨j9,l3,B6,Q9⟩:=q7.shape;subst B6;show OFP _ _ _ _ _ _ ((128,vS j9 ((ts.getD (aa) [])++([(↑j:Int)])).length l3)::_) _ _;refine FB (nm ?_);refine pm (M':=((bX p #[.int .u64 (e8)] 95)::(bX b3 #[vS a1 cs.length a3,vN,vS a7 vs.length a8] 26)::(bX b1 #[vN,vN,vN] 26)::(bX e7 #[vI (↑j)] 3)::(tM++(g2++(c4++(a4++F)))))) (PC _ (PC _ (PC _ PM))) ?_;obtain ⟨P7,m2⟩:=n3.row undef;refine sd (di 129 1 (aa) m2.addr) (sS (FA (T:=23) (x:=(.tmp 129)) (y:=(.tmp 128)) (rc:=fun i f=>AO ((vs).getD i undef) f) undef (aa) 0 ((vS j9 ((ts.getD (aa) [])++([(↑j:Int)])).length l3:Value)) (ty:=0) (gd:=none) (by kernel_rfl) rfl n3 m2 (by omega) (by decide) rfl rfl (by kernel_rfl) rfl rfl (by intro f hf;match f,hf with | 0,_=>rfl) (PU (PU (PU (PM.symm)))) (fun g3 y6=>(pm (M':=((bX p #[.int .u64 (e8)] 95)::(bX b3 #[vS a1 cs.length a3,vN,vS a7 vs.length a8] 26)::(bX b1 #[vN,vN,vN] 26)::(bX e7 #[vI (↑j)] 3)::(g3++(g2++(c4++(a4++F)))))) (PW (PW (PW PM))) ?_))));obtain ⟨g5,t1,v3⟩:=u9 _ _ _ q7;refine AR (I':=J1) (M':=((g5++(bX p #[.int .u64 (e8)] 95)::(bX b3 #[vS a1 cs.length a3,vN,vS a7 vs.length a8] 26)::(bX b1 #[vN,vN,vN] 26)::(bX e7 #[vI (↑j)] 3)::(g3++(a4++F))))) (fun w h=>?_) ?_
  ·have h2:=h.perm ((PU (PU (PU (PU (PO _ _ _))))).trans (PA _ (PU (PU (PU (PU (PO _ _ _)))))));simp only [← AA] at h2;have h3:=St.permL (A':=g5) (A:=g2++c4) (by simpa only [AA,List.append_nil] using v3.symm) (by simpa only [AA] using h2)
   simpa only [AA] using h3
  refine pm (M':=((bX p #[.int .u64 (e8)] 95)::(bX b3 #[vS a1 cs.length a3,vN,vS a7 vs.length a8] 26)::(bX b1 #[vN,vN,vN] 26)::(bX e7 #[vI (↑j)] 3)::(g5++(g3++(a4++F))))) (PW (PW (PW PM))) (ee (NB (NX (rr (sp 1 [(80,vI (↑j))] (sd (da 81 (↑j) (1)) (sp 1 [(14,vI (↑j+1))] (ee ?_))))))));refine AG (e0-(j+1)) (by omega) ?_;intro a w hS hD hW;exact ⟨J1,j+1,aa,ts.set (aa) ((ts.getD (aa) [])++([(↑j:Int)])),(vS a7 vs.length a8),vs.set (aa) ((vS j9 ((ts.getD (aa) [])++([(↑j:Int)])).length l3:Value)),g3,g5,e8,hJ1,by omega,(t8.put (by omega) (fun _ _ _=>rfl)),y6,t1,hS.sub (.consE 13 rfl rfl (.consE 14 rfl rfl (.cons 0 rfl (.cons 6 rfl (.cons 7 rfl (.cons 8 rfl (.nil _))))))),hD,(hW.perm (((PC _ ((PC _ (PS _ _ _)).trans (PS _ _ _))).trans (PS _ _ _)).trans (PC _ (PC _ (PC _ (PC _ ((PO _ _ _).trans (PA _ (PO _ _ _))))))))).sub (TC _ (TR _)),rfl⟩
 have K2:=h9;have h9:=BX h9;refine CC 2 ((EP (EP (EB (NX (rq (rq ?_)))))));have V4:j=cs.length:=by omega
 have t9:Placed cs (1+b8) cs.length aa ts:=V4▸t8;have V6:=t9.okAll;have P2:=t9.tl;refine NY (B:=((bX p #[.int .u64 (e8)] 95)::(bX b3 #[vS a1 cs.length a3,vN,vS a7 vs.length a8] 26)::(bX b1 #[vN,vN,vN] 26)::(tM++(a4++F)))) E8 (by intro xs hx;have:=P2 xs hx;omega) (PU (PU (PU (PV (PO _ _ _))))) (PR _) (fun u4 t7 b9=>?_);have f4:=b9.1
 try simp only [LS,LA,LC,LN,LK] at f4
 refine rr (sp 1 [(15,vI (0))] (se (rb 4 ?_)));refine rl (fun mz a w=>∃ J2:Imm,∃ t:Nat,∃ rm:List Int,∃ u7:Int,∃ d8:Value,∃ b7:Seg,(u4.le J2)∧(t≤1+b8)∧(Sh.Roomy cs ts t rm)∧(Own 3 1 BA d8 (rm) b7)∧Slots 179 [(15,vI ↑t),(0,vP p 0),(6,vP b1 0),(7,vP b3 0)] a∧a.defers=[]∧St J2 ((bX p #[.int .u64 (u7)] 95)::(bX b3 #[vS a1 cs.length a3,d8,vS a7 vs.length a8] 26)::(bX b1 #[vN,vN,vN] 26)::(tM++(a4++(b7++F)))) w∧mz=1+b8-t) ?_ ?_
 ·intro a w hS hD hW;exact ⟨_,u4,0,[],e8,(vN),[],IR _,Nat.zero_le _,Sh.Roomy.nil _ _,(Own.nil _ _ _),hS.sub (.cons 15 rfl (.cons 0 rfl (.cons 6 rfl (.cons 7 rfl (.nil _))))),hD,hW,rfl⟩
 rintro mz a w ⟨J2,t,rm,u7,d8,b7,hJ2,ht,E9,c7,hS,hD,hW,rfl⟩
 refine AX hS hD hW ?_;clear hS hD hW a w;replace b9:=b9.mono hJ2;obtain ⟨a5,a6,f6,u1⟩:=c7.shape;subst f6;have hrl:=E9.len;refine rq (rqr (sp 2 [(131,vP b3 2),(130,vI (↑t))] (sd (dlb 132 1 2 b3 (vS a7 vs.length a8)) (sp 2 [(134,.bool (cmp .lss (↑t) (↑(vs.length))))] (se (rc 134 rfl (fun s0=>?_) (fun s0=>?_)))))))
 ·
  have v6:=s0;have s0:=BZ s0;refine AH (NX (rq (rb 5 (rqr (sp 1 [(137,vP p 0)] ?_)))));have s7:=Up_ct J2 (p) (u7) (5) (by omega);refine sS (sc (some 138) (F:=((bX b3 #[vS a1 cs.length a3,vS a5 rm.length a6,vS a7 vs.length a8] 26)::(bX b1 #[vN,vN,vN] 26)::(tM++(a4++(b7++F))))) (s7 :) (.refl _) (fun T5 u5 R9 f3 z2=>?_));obtain ⟨c9,A2,r4,p5,R4⟩:=z2;rw [r4,p5];clear r4 p5;replace b9:=b9.mono f3;refine nm ?_;refine sp 1 [(16,vI (↑A2))] (se (rq (rq ?_)));have htk:=P2 _ (AJ (d:=[]) (xs:=ts) (k:=t) (by omega));have V8:=V6.at t (by omega);refine rr (sp 1 [(17,vI (0))] (se (rb 6 ?_)));refine rl (fun mz a w=>∃ i:Nat,∃ l2:Int,(i≤(ts.getD (t) []).length)∧(lenOf cs ((ts.getD (t) []).take i)≤l2)∧(0≤l2∧l2≤5+3*i)∧Slots 179 [(16,vI l2),(17,vI ↑i),(0,vP p 0),(6,vP b1 0),(7,vP b3 0),(15,vI (↑t))] a∧a.defers=[]∧St u5 ((bX p #[.int .u64 (c9)] 95)::(bX b3 #[vS a1 cs.length a3,vS a5 rm.length a6,vS a7 vs.length a8] 26)::(bX b1 #[vN,vN,vN] 26)::(tM++(a4++(b7++F)))) w∧mz=(ts.getD (t) []).length-i) ?_ ?_
  ·intro a w hS hD hW;exact ⟨_,0,↑A2,Nat.zero_le _,(by rw [List.take_zero,lenOf_nil];omega),(by omega),hS.sub (.cons 16 rfl (.cons 17 rfl (.cons 0 rfl (.cons 6 rfl (.cons 7 rfl (.cons 15 rfl (.nil _))))))),hD,hW,rfl⟩
  rintro mz a w ⟨i,l2,hi,P0,Z9,hS,hD,hW,rfl⟩
  refine AX hS hD hW ?_;clear hS hD hW a w;refine rq (rqr (sp 2 [(140,vP b3 2),(139,vI (↑i))] (sd (dlb 141 1 2 b3 (vS a7 vs.length a8)) (sp 1 [(142,vI (↑t))] ?_))));obtain ⟨P8,m3⟩:=n3.row undef;refine sd (di 143 1 (t) m3.addr) ?_;have m9:=b9.2 (t) (by omega);obtain ⟨M5,M7,M6,O0,m8,M8,M9,O1⟩:=id m9;rw [m8] at m9;refine sd (BL (dl 144 (m3.get (t) (by omega) 0 (by decide) _ _ (fun x hx=>by simp [hx]))) m8) (sp 2 [(146,.bool (cmp .lss (↑i) (↑((ts.getD (t) []).length))))] (se (rc 146 rfl (fun s1=>?_) (fun s1=>?_))))
  ·
   have v7:=s1;have s1:=BZ s1;refine AH (NX (rq (rb 7 ?_)));have Z3:=V8.at i (by omega);have Z4:=carAt_len d9 ((ts.getD (t) []).getD i 0);have Z5:(FJ cs ((ts.getD (t) []).getD i 0)).len=(cs.getD ((ts.getD (t) []).getD (i) 0).toNat AD).len:=rfl;refine rd0 14 (ox 2 [(150,vP b3 0),(149,vI (l2))] ?_);refine AB (dlb 151 1 0 b3 (vS a1 cs.length a3)) (ox 1 [(152,vP b3 2)] ?_);refine AB (dlb 153 1 2 b3 (vS a7 vs.length a8)) (ox 1 [(154,vI (↑t))] ?_);obtain ⟨P9,m4⟩:=n3.row undef;refine AB (di 155 1 (t) m4.addr) ?_;have n1:=b9.2 (t) (by omega);obtain ⟨O2,O4,O3,O7,n0,O5,O6,n2⟩:=id n1;rw [n0] at n1;refine AB (BL (dl 156 (m4.get (t) (by omega) 0 (by decide) _ _ (fun x hx=>by simp [hx]))) n0) (ox 1 [(157,vI (↑i))] ?_);refine AB (di 158 1 (i) n2.addr) ?_;refine AB (dl 159 (BH n2 (i) (by omega))) ?_;obtain ⟨A6,m5⟩:=a9.row AD;refine AB (diI 160 6 ((ts.getD (t) []).getD (i) 0) m5.addr) (ox 1 [(161,.pointer (some ⟨A6,0+(((ts.getD (t) []).getD (i) 0:Int).toNat)*6,none⟩))] ?_);refine AB (dl 162 (m5.get (((ts.getD (t) []).getD (i) 0:Int).toNat) (by omega) 0 (by decide) _ _ (fun x hx=>by simp [hx]))) ?_;refine BT (sd (da 163 (l2) ((cs.getD (((ts.getD (t) []).getD (i) 0:Int).toNat) AD).len)) (sp 1 [(16,vI (l2+((cs.getD (((ts.getD (t) []).getD (i) 0:Int).toNat) AD).len)))] (ee (NB (NX (rr (sp 1 [(147,vI (↑i))] (sd (da 148 (↑i) (1)) (sp 1 [(17,vI (↑i+1))] (ee ?_))))))))));refine AG ((ts.getD (t) []).length-(i+1)) (by omega) ?_;intro a w hS hD hW;exact ⟨i+1,l2+((cs.getD (((ts.getD (t) []).getD (i) 0:Int).toNat) AD).len),by omega,(by rw [OR (by omega)];omega),(by omega),hS.sub (.consE 16 rfl rfl (.consE 17 rfl rfl (.cons 0 rfl (.cons 6 rfl (.cons 7 rfl (.cons 15 rfl (.nil _))))))),hD,hW,rfl⟩
  have v7:=s1;have s1:=BX s1;refine CC 6 ((EP (EP (EB (NX (rq (rqr (sp 2 [(165,.bool (cmp .eql (↑t) (0)))] (se (rc 165 rfl (fun s2=>?_) (fun s2=>?_)))))))))))
  ·
   have v8:=s2;have s2:=DF s2;refine rr (sp 2 [(167,vP p 0),(166,vI (l2))] (sS (sbs 168 3 2 #[vI (0),vI (9)] (fun r8=>(pm (M':=((bX p #[.int .u64 (c9)] 95)::(bX b3 #[vS a1 cs.length a3,vS a5 rm.length a6,vS a7 vs.length a8] 26)::(bX b1 #[vN,vN,vN] 26)::([(bX r8 #[vI (0),vI (9)] 3)]++(tM++(a4++(b7++F)))))) ((PS _ _ _).trans (PC _ ((PS _ _ _).trans (PC _ (PS _ _ _))))) ?_)))));have y7:Own 3 1 BA (vS (some ⟨r8,0,none⟩) 2 2) ([(0:Int),(9:Int)]:List Int) [(bX r8 #[vI (0),vI (9)] 3)]:=Own.lit rfl rfl;refine sfz (A:=((bX p #[.int .u64 (c9)] 95)::(bX b3 #[vS a1 cs.length a3,vS a5 rm.length a6,vS a7 vs.length a8] 26)::(bX b1 #[vN,vN,vN] 26)::(tM++(a4++(b7++F))))) 0 y7 (PU (PU (PM.symm))) (fun G2 i8 g9=>?_);replace b9:=b9.mono i8;obtain ⟨E0,E2,E1,E5,n5,E3,E4,E6⟩:=id g9;cases n5;have s8:=One_ct G2 (p) (c9) _ _ g9 (by simp);refine sS (sc (some 169) (F:=((bX b3 #[vS a1 cs.length a3,vS a5 rm.length a6,vS a7 vs.length a8] 26)::(bX b1 #[vN,vN,vN] 26)::(tM++(a4++(b7++F))))) (s8 :) (.refl _) (fun T6 G3 T0 i9 z3=>?_));obtain ⟨m7,c5,r5,p6,C6⟩:=z3;rw [r5,p6];clear r5 p6;replace b9:=b9.mono i9;refine nm ?_;have hl9:0≤(c5)∧(c5)≤9:=by
    have hq:=C6;simp only [List.mem_cons,List.not_mem_nil,or_false] at hq;omega
   refine sd (da 170 (l2) ((c5))) (sp 1 [(16,vI (l2+((c5))))] (se ?_));have V5:lenOf cs (ts.getD (t) [])≤l2:=by have hq:=P0;rw [DT (by omega)] at hq;exact hq
   have K3:=lenOf_3 d9 (ts.getD (t) []);refine rr (sp 1 [(171,vP b3 1)] (sd (dlb 172 1 1 b3 (vS a5 rm.length a6)) (sp 2 [(174,vI ((if (l2+((c5)):Int)<(20:Int) then l2+((c5)) else 20)))] (sS (sbs 175 3 1 #[vI ((if (l2+((c5)):Int)<(20:Int) then l2+((c5)) else 20))] (fun V1=>(sS (AN (d:=176) (x:=(.tmp 172)) (y:=(.tmp 175)) (T:=23) (T':=23) (E:=3) (E':=3) (sz:=1) (bs:=8) (z:=vI (0)) (cell:=BA) (xs:=rm) (ys:=[((if (l2+((c5)):Int)<(20:Int) then l2+((c5)) else 20):Int)]) (Ms:=b7) (ty:=23) (gd:=none) (by kernel_rfl) rfl (by kernel_rfl) (by kernel_rfl) (by kernel_rfl) (by kernel_rfl) (by kernel_rfl) (by decide) (by kernel_rfl) rfl rfl (c7) (PU (PU (PU (PU (PV (PO _ _ _)))))) (CH _) (CI 0 rfl rfl) (by first | omega | (simp only [LC,LN,LA,LK,LD];omega)) (fun Z0 o6 q8=>(AR (M':=((bX p #[.int .u64 (m7)] 95)::(bX b3 #[vS a1 cs.length a3,vS a5 rm.length a6,vS a7 vs.length a8] 26)::(bX b1 #[vN,vN,vN] 26)::(o6++(tM++(a4++F))))) (fun w h=>(h.perm (PW (PW (PW PM)))).sub (TC _ (TR _))) ?_))))))))));obtain ⟨k0,l4,B7,R0⟩:=q8.shape;subst B7;refine sp 1 [(177,vP b3 1)] (sS (ss 1 1 b3 [vS k0 (rm++([((if (l2+((c5)):Int)<(20:Int) then l2+((c5)) else 20):Int)])).length l4] [vS a1 cs.length a3,vS k0 (rm++([((if (l2+((c5)):Int)<(20:Int) then l2+((c5)) else 20):Int)])).length l4,vS a7 vs.length a8] (_::_::_::_) (cs:=[_,_,_]) rfl rfl (ee (NB (NX (rr (sp 1 [(135,vI (↑t))] (sd (da 136 (↑t) (1)) (sp 1 [(15,vI (↑t+1))] (ee ?_))))))))));refine AG (1+b8-(t+1)) (by omega) ?_;intro a w hS hD hW;exact ⟨G3,t+1,rm++([((if (l2+((c5)):Int)<(20:Int) then l2+((c5)) else 20):Int)]),m7,vS k0 (rm++([((if (l2+((c5)):Int)<(20:Int) then l2+((c5)) else 20):Int)])).length l4,o6,(IT (IT (IT hJ2 f3) i8) i9),by omega,E9.snoc (by split <;> omega) (by split <;> omega),q8,hS.sub (.consE 15 rfl rfl (.cons 0 rfl (.cons 6 rfl (.cons 7 rfl (.nil _))))),hD,hW.perm (PC _ (PC _ (PC _ ((PO _ _ _).trans (PA _ (PO _ _ _)))))),rfl⟩
  have v8:=s2;have s2:=DE s2;refine AH (NX ?_);have V5:lenOf cs (ts.getD (t) [])≤l2:=by have hq:=P0;rw [DT (by omega)] at hq;exact hq
  have K3:=lenOf_3 d9 (ts.getD (t) []);refine rr (sp 1 [(171,vP b3 1)] (sd (dlb 172 1 1 b3 (vS a5 rm.length a6)) (sp 2 [(174,vI ((if (l2:Int)<(20:Int) then l2 else 20)))] (sS (sbs 175 3 1 #[vI ((if (l2:Int)<(20:Int) then l2 else 20))] (fun V2=>(sS (AN (d:=176) (x:=(.tmp 172)) (y:=(.tmp 175)) (T:=23) (T':=23) (E:=3) (E':=3) (sz:=1) (bs:=8) (z:=vI (0)) (cell:=BA) (xs:=rm) (ys:=[((if (l2:Int)<(20:Int) then l2 else 20):Int)]) (Ms:=b7) (ty:=23) (gd:=none) (by kernel_rfl) rfl (by kernel_rfl) (by kernel_rfl) (by kernel_rfl) (by kernel_rfl) (by kernel_rfl) (by decide) (by kernel_rfl) rfl rfl (c7) (PU (PU (PU (PU (PV (PO _ _ _)))))) (CH _) (CI 0 rfl rfl) (by first | omega | (simp only [LC,LN,LA,LK,LD];omega)) (fun Z1 o7 q9=>(AR (M':=((bX p #[.int .u64 (c9)] 95)::(bX b3 #[vS a1 cs.length a3,vS a5 rm.length a6,vS a7 vs.length a8] 26)::(bX b1 #[vN,vN,vN] 26)::(o7++(tM++(a4++F))))) (fun w h=>(h.perm (PW (PW (PW PM)))).sub (TC _ (TR _))) ?_))))))))));obtain ⟨k1,l5,B8,R1⟩:=q9.shape;subst B8;refine sp 1 [(177,vP b3 1)] (sS (ss 1 1 b3 [vS k1 (rm++([((if (l2:Int)<(20:Int) then l2 else 20):Int)])).length l5] [vS a1 cs.length a3,vS k1 (rm++([((if (l2:Int)<(20:Int) then l2 else 20):Int)])).length l5,vS a7 vs.length a8] (_::_::_::_) (cs:=[_,_,_]) rfl rfl (ee (NB (NX (rr (sp 1 [(135,vI (↑t))] (sd (da 136 (↑t) (1)) (sp 1 [(15,vI (↑t+1))] (ee ?_))))))))));refine AG (1+b8-(t+1)) (by omega) ?_;intro a w hS hD hW;exact ⟨u5,t+1,rm++([((if (l2:Int)<(20:Int) then l2 else 20):Int)]),c9,vS k1 (rm++([((if (l2:Int)<(20:Int) then l2 else 20):Int)])).length l5,o7,(IT hJ2 f3),by omega,E9.snoc (by split <;> omega) (by split <;> omega),q9,hS.sub (.consE 15 rfl rfl (.cons 0 rfl (.cons 6 rfl (.cons 7 rfl (.nil _))))),hD,hW.perm (PC _ (PC _ (PC _ ((PO _ _ _).trans (PA _ (PO _ _ _)))))),rfl⟩
 have v6:=s0;have s0:=BX s0;refine CC 4 ((EP (EP (EB (NX (rqr (sd (dnb 178 1 0 b3 [vS a1 cs.length a3,vS a5 rm.length a6,vS a7 vs.length a8]) (sS (ss 2 0 b1 [vS a1 cs.length a3,vS a5 rm.length a6,vS a7 vs.length a8] [vS a1 cs.length a3,vS a5 rm.length a6,vS a7 vs.length a8] (_::_::_::_) (cs:=[_,_,_]) rfl rfl (se (BO (ppm (M':=((bX p #[.int .u64 (u7)] 95)::(a4++(b7++(tM++(bX b3 #[vS a1 cs.length a3,vS a5 rm.length a6,vS a7 vs.length a8] 26)::(bX b1 #[vS a1 cs.length a3,vS a5 rm.length a6,vS a7 vs.length a8] 26)::F))))) (PC _ ((PU (PU (PO _ _ _))).trans (PA _ ((PU (PU (PO _ _ _))).trans (PA _ (PU (PM.symm))))))) (JZ (t:=6) (T:=26) (n:=3) ([(bX p #[.int .u64 (u7)] 95)]++(a4++(b7++(tM)))) (by kernel_rfl) rfl (by kernel_rfl) rfl (BG (n:=3) (cs:=#[vS a1 cs.length a3,vS a5 rm.length a6,vS a7 vs.length a8]) (b:=b1) (off:=0) (T:=26) (fz:=(0,0)) (vs:=[vS a1 cs.length a3,vS a5 rm.length a6,vS a7 vs.length a8]) (by simp) rfl) (.inl ⟨by kernel_rfl,rfl⟩) (by simp only [AA,NA,CA];exact (TK _ (TA (TA (TA (TC _ (TC _ (TR _))) _) _) _))) (IT (IT (IT (IT (IT K4 hJ0) t3) hJ1) t7) hJ2) ?_)))))))))))));exact ⟨_,⟨cs,rm,ts⟩,_,_,_,_,_,_,_,rfl,rfl,drawn_valid d9 t9 ((show t=1+b8 by omega)▸E9) (by omega) (by omega),(by show cs.length≤c;omega),a9,c7,n3,b9⟩
end Go.Proofs.YtcaocbhbofejnaaGreatDoor
namespace Go.Sh
open Go Go.Sl
theorem perm_sum {l m:List Int} (h:l.Perm m):l.sum=m.sum:=by
  induction h with
  | nil=>rfl
  | cons x _ ih=>simp [ih]
  | swap x y l=>simp only [List.sum_cons];omega
  | trans _ _ h1 h2=>exact h1.trans h2
theorem erase_perm {α:Type} {d:α} {l:List α} {i:Nat} (h:i<l.length):(l.getD i d::l.eraseIdx i).Perm l:=by
  have e:l=l.take i++l.getD i d::l.drop (i+1):=by rw [← BR h,List.take_append_drop]
  rw [← MB];exact (List.perm_middle.symm).trans (List.Perm.of_eq e.symm)
structure Blk (cs:List Car) (bl:List (List Int)):Prop where
  one:∀ b∈bl,∀ x∈b,∀ y∈b,grp cs x=grp cs y
  apart:bl.Pairwise fun b c=>∀ x∈b,∀ y∈c,0<grp cs x→grp cs x≠grp cs y
theorem Blk.perm {cs:List Car} {bl bl':List (List Int)} (h:Blk cs bl) (p:bl.Perm bl'):Blk cs bl':=
  ⟨fun b hb=>h.one b (p.mem_iff.2 hb),(p.pairwise_iff (fun {b c} hbc x hx y hy h0 e=>hbc y hy x hx (by omega) e.symm)).1 h.apart⟩
def RowOk (cs:List Car) (t:List Int):Prop:=∀ k,k<t.length→0<grp cs (t.getD k 0)→(∃ c∈t.take k,grp cs c=grp cs (t.getD k 0))→0<k∧grp cs (t.getD (k-1) 0)=grp cs (t.getD k 0)
theorem QI {a b:List Int} {k:Nat}:(a++b).getD k 0=if k<a.length then a.getD k 0 else b.getD (k-a.length) 0:=by
  simp only [List.getD]
  split
  · rename_i h;rw [List.getElem?_append_left h]
  · rename_i h;rw [List.getElem?_append_right (by omega)]
theorem Blk.row {cs:List Car}:∀ {bl:List (List Int)},Blk cs bl→RowOk cs bl.flatten:=by
  intro bl
  induction bl with
  | nil=>intro _ k hk;simp at hk
  | cons b r ih=>
    intro h k hk h0 hc;have ih:=ih ⟨fun b hb=>h.one b (List.mem_cons_of_mem _ hb),(List.pairwise_cons.1 h.apart).2⟩;rw [List.flatten_cons] at hk h0 hc ⊢;obtain ⟨c,hc,e⟩:=hc
    by_cases hkb:k<b.length
    · have e0:(b++r.flatten).getD k 0=b.getD k 0:=by rw [QI,if_pos hkb]
      rw [List.take_append_of_le_length (by omega)] at hc;have hk0:0<k:=by
        rcases Nat.eq_zero_or_pos k with hz | hz
        · subst hz;simp at hc
        · exact hz
      refine ⟨hk0,?_⟩;rw [e0,QI,if_pos (by omega)];exact h.one b List.mem_cons_self _ (AJ (by omega)) _ (AJ hkb)
    · have e0:(b++r.flatten).getD k 0=r.flatten.getD (k-b.length) 0:=by rw [QI,if_neg hkb]
      rw [e0] at h0 e ⊢;have hk2:k-b.length<r.flatten.length:=by rw [List.length_append] at hk;omega
      have hmem:r.flatten.getD (k-b.length) 0∈r.flatten:=AJ hk2;rw [List.take_append,List.take_of_length_le (by omega)] at hc;rcases List.mem_append.1 hc with hc | hc
      · exfalso
        obtain ⟨b2,hb2,hm2⟩:=List.mem_flatten.1 hmem;exact (List.pairwise_cons.1 h.apart).1 b2 hb2 c hc _ hm2 (by omega) e
      · obtain ⟨i1,i2⟩:=ih (k-b.length) hk2 h0 ⟨c,hc,e⟩
        refine ⟨by omega,?_⟩;rw [QI,if_neg (by omega),show k-1-b.length=k-b.length-1 by omega];exact i2
theorem OJ {cs:List Car} {t:List Int} {k:Nat} (hk:k<t.length) (h0:0<grp cs (t.getD k 0)) (h1:0<k) (e:grp cs (t.getD (k-1) 0)=grp cs (t.getD k 0)):CE cs t ↑k=true:=by
  rw [coupled_raw hk,show ((k:Int)-1).toNat=k-1 by omega,decide_eq_true (show 0<(k:Int) by omega),decide_eq_true (show 0<(FJ cs (t.getD k 0)).grp from h0),decide_eq_true (show (FJ cs (t.getD k 0)).grp=(FJ cs (t.getD (k-1) 0)).grp from e.symm)];rfl
theorem coupled_to {cs:List Car} {t:List Int} {k:Nat} (hk:k<t.length) (h:CE cs t ↑k=true):0<k∧0<grp cs (t.getD k 0)∧grp cs (t.getD k 0)=grp cs (t.getD (k-1) 0):=by
  rw [coupled_raw hk,show ((k:Int)-1).toNat=k-1 by omega] at h;simp only [Bool.and_eq_true,decide_eq_true_eq] at h;exact ⟨by omega,h.2.1,h.2.2⟩
theorem blocks_blk {cs : List Car} {t : List Int} (h : ∀ k, k < t.length → 0 < grp cs (t.getD k 0) → (∃ c ∈ t.take k, grp cs c = grp cs (t.getD k 0)) → CE cs t ↑k = true) :
    ∀ k,k≤t.length→Blk cs (BF cs t k)∧(0<k→∃ ys y,BF cs t k=ys++[y]∧t.getD (k-1) 0∈y):=by
  intro k
  induction k with
  | zero=>intro _;exact ⟨⟨fun b hb=>by simp [BF] at hb,by simp [BF]⟩,fun h=>by omega⟩
  | succ k ih=>
    intro hk;obtain ⟨hb,hl⟩:=ih (by omega)
    by_cases hc:CE cs t ↑k=true
    · obtain ⟨c1,c2,c3⟩:=coupled_to (by omega) hc
      obtain ⟨ys,y,e,hy⟩:=hl c1;have e2:BF cs t (k+1)=ys++[y++[t.getD k 0]]:=by
        rw [PH hc,e];simp [List.getD]
      rw [e2];rw [e] at hb;have ho:=hb.one;have ha:=List.pairwise_append.1 hb.apart;refine ⟨⟨fun b hb2=>?_,List.pairwise_append.2 ⟨ha.1,by simp,fun b hb2 c hc2=>?_⟩⟩,fun _=>⟨ys,_,rfl,by simp⟩⟩
      · rcases List.mem_append.1 hb2 with hb2 | hb2
        · exact ho b (List.mem_append_left _ hb2)
        · have hb2:=List.mem_singleton.1 hb2
          subst hb2;have key:∀ x∈y++[t.getD k 0],grp cs x=grp cs (t.getD (k-1) 0):=fun x hx=>by
            rcases List.mem_append.1 hx with hx | hx
            · exact ho y (by simp) x hx _ hy
            · have hx:=List.mem_singleton.1 hx;subst hx;exact c3
          intro x hx z hz;rw [key x hx,key z hz]
      · have hc2:=List.mem_singleton.1 hc2
        subst hc2;intro x hx z hz h0;rcases List.mem_append.1 hz with hz | hz
        · exact ha.2.2 b hb2 y (by simp) x hx z hz h0
        · have hz:=List.mem_singleton.1 hz;subst hz
          rw [c3];exact ha.2.2 b hb2 y (by simp) x hx _ hy h0
    · have hc':CE cs t ↑k=false:=by simpa using hc
      rw [blocksTo_no hc'];refine ⟨⟨fun b hb2=>?_,List.pairwise_append.2 ⟨hb.apart,by simp,fun b hb2 c hc2=>?_⟩⟩,fun _=>⟨_,_,rfl,by simp⟩⟩
      · rcases List.mem_append.1 hb2 with hb2 | hb2
        · exact hb.one b hb2
        · have hb2:=List.mem_singleton.1 hb2
          subst hb2;intro x hx z hz;rw [List.mem_singleton.1 hx,List.mem_singleton.1 hz]
      · have hc2:=List.mem_singleton.1 hc2
        subst hc2;intro x hx z hz h0 e;have hz:=List.mem_singleton.1 hz;subst hz;refine hc (h k (by omega) (by omega) ⟨x,?_,e⟩);rw [← NI k (by omega)];exact List.mem_flatten.2 ⟨b,hb2,hx⟩
theorem rowsN_perm:∀ (n:Nat) (bl:List (List Int)),bl.length=n→∀ x∈FY n bl,∃ bl':List (List Int),bl'.Perm bl∧x=bl'.flatten:=by
  intro n
  induction n with
  | zero=>intro bl h x hx;simp [FY,ordN] at hx;subst hx;exact ⟨[],by rw [List.length_eq_zero_iff.1 h],rfl⟩
  | succ n ih=>
    intro bl h x hx;simp only [FY,ordN,IQ,List.mem_flatMap,List.mem_map] at hx;obtain ⟨i,hi,y,hy,rfl⟩:=hx;have hi:=List.mem_range'_1.1 hi;obtain ⟨bl',hp,rfl⟩:=ih _ (JV (k:=i) (by omega) h) y hy;refine ⟨bl.getD i []::bl',?_,rfl⟩;refine (List.Perm.cons _ hp).trans ?_;have hb:i<bl.length:=by omega
    exact erase_perm hb
theorem Fine.row {Y:Yard} (f:Fine Y) {r:List Int} (hr:r∈FY (blocksOf Y.cars (trk Y 0)).length (blocksOf Y.cars (trk Y 0))):Valid { Y with tracks:=Y.tracks.set 0 r }∧r.Perm (trk Y 0):=by
  have hlen:=f.len;have hr1:=f.room1;obtain ⟨t,ts,ht⟩:∃ t ts,Y.tracks=t::ts:=by
    cases hh:Y.tracks with
    | nil=>rw [hh] at hlen;simp at hlen;omega
    | cons t ts=>exact ⟨t,ts,rfl⟩
  have ht0:trk Y 0=t:=by show Y.tracks.getD 0 []=t;rw [ht];rfl
  rw [ht0] at hr ⊢;have hg:=groups_iff.1 f.groups;have hrow:∀ k,k<t.length→0<grp Y.cars (t.getD k 0)→(∃ c∈t.take k,grp Y.cars c=grp Y.cars (t.getD k 0))→CE Y.cars t ↑k=true:=fun k hk h0 hc=>by
    have:=hg 0 k (by rw [ht];simp) (by rw [ht];simpa using hk) (by rw [ht];simpa using h0) (.inr (by rw [ht];simpa using hc));rw [ht] at this;simpa using this
  obtain ⟨hb,_⟩:=blocks_blk hrow t.length (Nat.le_refl _);obtain ⟨bl',hp,rfl⟩:=rowsN_perm _ _ rfl r hr;have hflat:(blocksOf Y.cars t).flatten=t:=by
    have:=NI (cs:=Y.cars) (t:=t) t.length (Nat.le_refl _);rw [List.take_length] at this;exact this
  have hperm:bl'.flatten.Perm t:=by
    have:=hp.flatten;rw [hflat] at this;exact this
  have hrok:=(Blk.perm hb hp.symm).row;refine ⟨Fine.valid ⟨f.cars,f.carOk,f.room1,f.room3,f.roomOk,by rw [List.length_set];exact f.len,?_,?_,?_,?_,?_⟩,hperm⟩
  all_goals simp only [ht,List.set_cons_zero]
  · intro x hx c hc
    have hok:=f.ok;rw [ht] at hok;rcases List.mem_cons.1 hx with e | hx
    · subst e;exact hok t List.mem_cons_self c (hperm.mem_iff.1 hc)
    · exact hok x (List.mem_cons_of_mem _ hx) c hc
  · have hn:=f.nodup
    rw [ht] at hn;rw [List.flatten_cons] at hn ⊢;exact (List.Perm.append_right _ hperm).nodup_iff.2 hn
  · intro k hk
    have hf:=f.fits;rw [ht] at hf;cases k with
    | zero=>
      have:=hf 0 (by simp);rw [List.getD_cons_zero] at this ⊢;have e:lenOf Y.cars bl'.flatten=lenOf Y.cars t:=by
        unfold lenOf;exact perm_sum (hperm.map _)
      rw [e];exact this
    | succ k=>simpa using hf (k+1) (by simpa using hk)
  · have ha:=f.all
    rw [ht] at ha;rw [List.flatten_cons,List.length_append] at ha ⊢;rw [hperm.length_eq];exact ha
  · refine groups_iff.2 ?_
    show GrpFrom Y.cars (bl'.flatten::ts) [];intro i k hi hk h0 hm;rcases hm with hm | ⟨c,hc,e⟩
    · simp at hm
    · cases i with
      | zero=>
        simp only [List.getD_cons_zero,List.take_zero,List.flatten_nil,List.nil_append] at hk h0 hc e ⊢;obtain ⟨h1,h2⟩:=hrok k hk h0 ⟨c,hc,e⟩;exact OJ hk h0 h1 h2
      | succ i=>
        have:=hg (i+1) k (by rw [ht];simpa using hi) (by rw [ht];simpa using hk) (by rw [ht];simpa using h0) (.inr ⟨c,by
          rw [ht]
          simp only [List.take_succ_cons,List.flatten_cons,List.getD_cons_succ,List.mem_append] at hc ⊢
          rcases hc with (hc | hc) | hc
          · exact .inl (.inl (hperm.mem_iff.1 hc))
          · exact .inl (.inr hc)
          · exact .inr hc,by rw [ht];simpa using e⟩)
        rw [ht] at this;simpa using this
theorem whole_perm_of {l:List Int} {n:Nat} (hn:l.Nodup) (hr:∀ x∈l,0≤x∧x<(n:Int)) (hl:n≤l.length):l.Perm (GS n):=by
  refine (List.perm_ext_iff_of_nodup hn ((KN _).imp fun hab=>by omega)).2 fun x=>⟨fun hx=>mem_wholeL.2 (hr x hx),fun hx=>?_⟩
  by_cases hm:x∈l
  · exact hm
  · have := KK (l := x :: l) (n := n) (List.nodup_cons.2 ⟨hm, hn⟩) (fun c hc => by
      rcases List.mem_cons.1 hc with rfl | hc
      · exact mem_wholeL.1 hx
      · exact hr c hc)
    simp only [List.length_cons] at this;omega
def CQ (Y:Yard):Int:=
  if 5<Y.cars.length then 6 else
  if Y.cars.all (fun c=>decide (CW c=0)) then
    (if Y.room.length=0 then 7 else if 3<Y.room.length then 6 else if Y.room.all (fun n=>inB n 0 20) then 0 else 1)
  else 1
theorem checkErr_split (Y:Yard):checkErr Y=if CQ Y=0 then EG Y else CQ Y:=by
  unfold checkErr CQ
  by_cases h1:5<Y.cars.length
  · rw [if_pos h1,if_pos h1,if_neg (by decide)]
  · rw [if_neg h1,if_neg h1]
    cases h2:Y.cars.all (fun c=>decide (CW c=0)) with
    | false=>simp
    | true=>
      simp only [if_true]
      by_cases h3:Y.room.length=0
      · rw [if_pos h3,if_pos h3,if_neg (by decide)]
      · rw [if_neg h3,if_neg h3]
        by_cases h4:3<Y.room.length
        · rw [if_pos h4,if_pos h4,if_neg (by decide)]
        · rw [if_neg h4,if_neg h4]
          cases h5:Y.room.all (fun n=>inB n 0 20) <;> simp
section
variable {Y:Yard} {k:Nat}
theorem coachErr_many (h:5<Y.cars.length):CQ Y=6:=by rw [CQ,if_pos h]
theorem coachErr_car (h:¬ 5<Y.cars.length) (hk:k<Y.cars.length) (hc:CW (Y.cars.getD k AD)≠0):CQ Y=1:=by
  rw [CQ,if_neg h,if_neg];intro hall;have:=List.all_eq_true.1 hall _ (AJ (d:=AD) hk);exact hc (of_decide_eq_true this)
theorem coachErr_few (h:¬ 5<Y.cars.length) (hc:∀ c∈Y.cars,CW c=0) (h0:Y.room.length=0):CQ Y=7:=by rw [CQ,if_neg h,if_pos (KZ hc),if_pos h0]
theorem coachErr_many2 (h:¬ 5<Y.cars.length) (hc:∀ c∈Y.cars,CW c=0) (h0:3<Y.room.length):CQ Y=6:=by rw [CQ,if_neg h,if_pos (KZ hc),if_neg (by omega),if_pos h0]
theorem coachErr_room (h:¬ 5<Y.cars.length) (hc:∀ c∈Y.cars,CW c=0) (h0:¬ Y.room.length=0) (h1:¬ 3<Y.room.length) (hk:k<Y.room.length) (hb:inB (Y.room.getD k 0) 0 20=false):CQ Y=1:=by
  rw [CQ,if_neg h,if_pos (KZ hc),if_neg h0,if_neg h1,if_neg];intro hall;have:=List.all_eq_true.1 hall _ (AJ (d:=0) hk);rw [hb] at this;cases this
theorem coachErr_ok (h:¬ 5<Y.cars.length) (hc:∀ c∈Y.cars,CW c=0) (h0:¬ Y.room.length=0) (h1:¬ 3<Y.room.length) (hm:∀ n∈Y.room,inB n 0 20=true):CQ Y=0:=by
  rw [CQ,if_neg h,if_pos (KZ hc),if_neg h0,if_neg h1,if_pos (List.all_eq_true.2 hm)]
end
def cntG (cs:List Car) (g:Int):Nat:=(cs.filter fun c=>decide (c.grp=g)).length
theorem cntG_succ {cs:List Car} {g:Int} {k:Nat} (hk:k<cs.length):cntG (cs.take (k+1)) g=cntG (cs.take k) g+if (cs.getD k AD).grp=g then 1 else 0:=by
  unfold cntG;rw [CF (d:=AD) hk,List.filter_append,List.length_append]
  congr 1
  by_cases h:(cs.getD k AD).grp=g
  · rw [List.filter_cons,if_pos (decide_eq_true h),if_pos h];rfl
  · rw [List.filter_cons,if_neg (by simp only [decide_eq_true_eq];exact h),if_neg h];rfl
def rowS (cs:List Car) (g:Int) (s:Nat × Nat) (c:Int):Nat × Nat:=
  let row:=if grp cs c=g then s.1+1 else 0
  (row,max s.2 row)
def rowT (cs:List Car) (g:Int) (most:Nat) (t:List Int):Nat × Nat:=t.foldl (rowS cs g) (0,most)
def mostTo (cs:List Car) (g:Int) (ts:List (List Int)):Nat:=ts.foldl (fun most t=>(rowT cs g most t).2) 0
def FP (Y:Yard) (g:Int):Bool:=decide ((mostTo Y.cars g Y.tracks:Int)=(cntG Y.cars g:Int))
theorem rowT_succ {cs:List Car} {g:Int} {m:Nat} {t:List Int} {k:Nat} (hk:k<t.length):rowT cs g m (t.take (k+1))=rowS cs g (rowT cs g m (t.take k)) (t.getD k 0):=by
  unfold rowT;rw [CF (d:=0) hk,List.foldl_append];rfl
theorem mostTo_succ {cs:List Car} {g:Int} {ts:List (List Int)} {k:Nat} (hk:k<ts.length):mostTo cs g (ts.take (k+1))=(rowT cs g (mostTo cs g (ts.take k)) (ts.getD k [])).2:=by
  unfold mostTo;rw [CF (d:=[]) hk,List.foldl_append];rfl
theorem rowS_yes {cs:List Car} {g c:Int} {r m:Nat} (h:grp cs c=g):rowS cs g (r,m) c=(r+1,max m (r+1)):=by simp only [rowS,if_pos h]
theorem rowS_no {cs:List Car} {g c:Int} {r m:Nat} (h:grp cs c≠g):rowS cs g (r,m) c=(0,max m 0):=by simp only [rowS,if_neg h]
def refG (Y:Yard):Int:=if FP Y 1&&(FP Y 2&&FP Y 3) then 0 else 12
theorem refG_hit {Y:Yard} {g:Nat} (h1:1≤g) (h3:g≤3) (h:FP Y ↑g=false):refG Y=12:=by
  unfold refG;rw [if_neg];intro hh;simp only [Bool.and_eq_true] at hh;have:g=1∨g=2∨g=3:=by omega
  rcases this with rfl | rfl | rfl
  · have h2:=hh.1;rw [show ((1:Int))=((1:Nat):Int) from rfl,h] at h2;cases h2
  · have h2:=hh.2.1;rw [show ((2:Int))=((2:Nat):Int) from rfl,h] at h2;cases h2
  · have h2:=hh.2.2;rw [show ((3:Int))=((3:Nat):Int) from rfl,h] at h2;cases h2
theorem refG_ok {Y:Yard} (h:∀ g:Nat,1≤g→g<4→FP Y ↑g=true):refG Y=0:=by
  unfold refG;rw [if_pos];simp only [Bool.and_eq_true];exact ⟨h 1 (by omega) (by omega),h 2 (by omega) (by omega),h 3 (by omega) (by omega)⟩
def FO (Y:Yard):Int:=
  if Y.tracks.length=Y.room.length then CO Y.cars (fun met=>if met.length<Y.cars.length then 7 else refG Y) Y.tracks Y.room [] else 2
theorem met_snoc {met:List Int} {c:Int} (h:met.Nodup) (hc:¬ c∈met):(met++[c]).Nodup:=List.nodup_append.2 ⟨h,by simp,fun a ha b hb=>by simp at hb;subst hb;intro e;subst e;exact hc ha⟩
theorem met_in {met:List Int} {c:Int} {n:Nat} (h:∀ x∈met,0≤x∧x<(n:Int)) (hc:0≤c∧c<(n:Int)):∀ x∈met++[c],0≤x∧x<(n:Int):=fun x hx=>by
  rcases List.mem_append.1 hx with hx | hx
  · exact h x hx
  · simp at hx;subst hx;exact hc
def QL (Y:Yard):Int:=if CQ Y=0 then FO Y else CQ Y
theorem coachErr_zero {Y:Yard} (h:CQ Y=0):Small Y.cars∧Y.cars.length≤5:=by
  unfold CQ at h
  split at h
  · cases h
  · rename_i h1
    split at h
    · rename_i h2
      exact ⟨NC fun c hc=>of_decide_eq_true (List.all_eq_true.1 h2 c hc),by omega⟩
    · cases h
end Go.Sh
namespace Go.Proofs.YtcaocbhbofejnaaGreatDoor
open Go Go.Sl Go.Sh
set_option maxRecDepth 100000
noncomputable def c_between (p:List Nat):Code:=sub (AU Tryz.f87) p
theorem IC (I:Imm) (n:Int) (lo:Int) (hi:Int):CtV Tryz.prog 87 #[vI n,vI lo,vI hi] I (.bool (inB n lo hi)):=by
 refine fr (args:=[_,_,_]) (N:=15) Tryz.func87 (fun F=>?_);show Run _ _ (c_between []) _ _ [(0,vI (n)),(1,vI (lo)),(2,vI (hi))] _ _;refine rnm (rqr ?_);refine sp 1 [(6,.bool (false))] (se (rq ?_));refine DQ (fun a w=>Slots 15 [(6,.bool ((cmp .leq (lo) (n))&&(cmp .leq (n) (hi))))] a∧a.defers=[]∧St I (F) w) ?_ ?_
 ·
  refine rr (sp 4 [(10,.bool (cmp .leq (lo) (n)))] ?_);refine AY 10 rfl (fun h1=>?_) (fun h1=>?_)
  ·
   have a0:=h1;have a0:=leq_t a0;refine sp 5 [(6,.bool (cmp .leq (n) (hi)))] (ee ?_);refine AL (fun a w hS hD hW=>⟨hS.sub (.consE 6 rfl (congrArg Value.bool (by simp only [h1,kA,kB,kC,kD,kE,kF,kG,kH,kI,kJ])) (.nil _)),hD,hW⟩)
  have a0:=h1;have a0:=leq_f a0;refine sp 5 [(6,.bool (false))] (ee ?_);refine AL (fun a w hS hD hW=>⟨hS.sub (.consE 6 rfl (congrArg Value.bool (by simp only [h1,kA,kB,kC,kD,kE,kF,kG,kH,kI,kJ])) (.nil _)),hD,hW⟩)
 rintro a w ⟨hS,hD,hW⟩
 refine AX hS hD hW ?_;clear hS hD hW a w;refine BO (AE (t:=6) [] (by kernel_rfl) rfl (TR _) (IR _) ?_);exact ⟨by simp [inB,cmp],rfl⟩
noncomputable def c_has (p:List Nat):Code:=sub (AU Tryz.f133) p
theorem has_ct (I:Imm) (a:Value) (xs:List Int) (n:Int) (a_f:BK I a xs):CtV Tryz.prog 133 #[a,vI n] I (.bool (decide (n∈xs))):=by
 obtain ⟨a0,a1,a6,a9,a5,a7,a8,a4⟩:=id a_f;subst a5;refine fr (args:=[_,_]) (N:=18) Tryz.func133 (fun F=>?_);show Run _ _ (c_has []) _ _ [(0,vS a0 xs.length a1),(1,vI (n))] _ _;refine rnm (rqr ?_);refine sp 1 [(4,.bool (false))] (se (rq (rqr (sp 1 [(5,vI (0))] (se (rb 0 ?_))))));refine rl (fun mz a w=>∃ k:Nat,(k≤xs.length)∧(n∉xs.take k)∧Slots 18 [(5,vI ↑k),(0,vS a0 xs.length a1),(1,vI (n))] a∧a.defers=[]∧St I (F) w∧mz=xs.length-k) ?_ ?_
 ·intro a w hS hD hW;exact ⟨_,0,Nat.zero_le _,by simp,hS.sub (.cons 5 rfl (.cons 0 rfl (.cons 1 rfl (.nil _)))),hD,hW,rfl⟩
 rintro mz a w ⟨k,hk,hn,hS,hD,hW,rfl⟩
 refine AX hS hD hW ?_;clear hS hD hW a w;refine rq (rqr (sp 4 [(9,.bool (cmp .lss (↑k) (↑(xs.length))))] (se (rc 9 rfl (fun h1=>?_) (fun h1=>?_)))))
 ·
  have a2:=h1;have h1:=BZ h1;refine AH (NX (rq (rb 1 (rqr (sp 2 [(13,vI (↑k)),(12,vS a0 xs.length a1)] (sd (di 14 1 (k) a4.addr) (sd (dl 15 (BH a4 (k) (by omega))) (sp 2 [(17,.bool (cmp .eql (xs.getD (k) 0) (n)))] (se (rc 17 rfl (fun h2=>?_) (fun h2=>?_)))))))))))
  ·
   have a3:=h2;have h2:=DF h2;refine rqr (sp 1 [(4,.bool (true))] (se (BO ((RB (RP (RP (RB (RP (AE (t:=4) [] (by kernel_rfl) rfl (TR _) (IR _) ?_))))))))));exact ⟨congrArg Value.bool (decide_eq_true (h2▸AJ (by omega))).symm,rfl⟩
  have a3:=h2;have h2:=DE h2;refine AH (NB (NX (rr (sp 1 [(10,vI (↑k))] (sd (da 11 (↑k) (1)) (sp 1 [(5,vI (↑k+1))] (ee ?_)))))));refine AG (xs.length-(k+1)) (by omega) ?_;intro a w hS hD hW;exact ⟨k+1,by omega,NR hn (by omega) (fun e=>h2 e),hS.sub (.consE 5 rfl rfl (.cons 0 rfl (.cons 1 rfl (.nil _)))),hD,hW,rfl⟩
 have a2:=h1;have h1:=BX h1;refine CC 0 ((EP (EP (EB (NX (rqr (sp 1 [(4,.bool (false))] (se (BO (AE (t:=4) [] (by kernel_rfl) rfl (TR _) (IR _) ?_))))))))));exact ⟨congrArg Value.bool (decide_eq_false (fun hm=>hn (by rw [DT (by omega)];exact hm))).symm,rfl⟩
noncomputable def c_length (p:List Nat):Code:=sub (AU Tryz.f114) p
theorem length_ct (I:Imm) (y:Value) (Y:Yard) (b:Value) (t:List Int) (y_f:IsYard I y Y) (b_f:BK I b t) (ho:Ok Y.cars t) (hs:Small Y.cars):CtV Tryz.prog 114 #[y,b] I (vI (lenOf Y.cars t)):=by
 obtain ⟨y1,y2,y3,d5,b3,b6,b8⟩:=id y_f;subst d5;obtain ⟨a0,a1,b0,b4,b2,c2,c3,a6⟩:=id b3;subst b2;obtain ⟨a2,a3,c4,c7,b5,c5,c6,c8⟩:=id b6;subst b5;obtain ⟨a4,a5,c9,d2,c0,b7,d0,d1,d3,d4⟩:=id b8;subst b7;obtain ⟨a7,a8,d6,d9,c1,d7,d8,b9⟩:=id b_f;subst c1;refine fr (args:=[_,_]) (N:=25) Tryz.func114 (fun F=>?_);show Run _ _ (c_length []) _ _ [(0,.agg #[vS a0 Y.cars.length a1,vS a2 Y.room.length a3,vS a4 Y.tracks.length a5]),(1,vS a7 t.length a8)] _ _;refine rnm (rqr ?_);refine sS (sb 2 26 #[vS a0 Y.cars.length a1,vS a2 Y.room.length a3,vS a4 Y.tracks.length a5] (fun b1=>(sp 1 [(4,vI (0))] (sn (sp 1 [(5,vI (0))] (se (rq (rqr (sp 1 [(6,vI (0))] (se (rb 0 ?_)))))))))));refine rl (fun mz a w=>∃ k:Nat,(k≤t.length)∧Slots 25 [(5,vI (lenOf Y.cars (t.take k))),(6,vI ↑k),(1,vS a7 t.length a8),(2,vP b1 0),(4,vI (0))] a∧a.defers=[]∧St I ((bX b1 #[vS a0 Y.cars.length a1,vS a2 Y.room.length a3,vS a4 Y.tracks.length a5] 26)::F) w∧mz=t.length-k) ?_ ?_
 ·intro a w hS hD hW;exact ⟨_,0,Nat.zero_le _,hS.sub (.cons 5 rfl (.cons 6 rfl (.cons 1 rfl (.cons 2 rfl (.cons 4 rfl (.nil _)))))),hD,hW,rfl⟩
 rintro mz a w ⟨k,hk,hS,hD,hW,rfl⟩
 refine AX hS hD hW ?_;clear hS hD hW a w;refine rq (rqr (sp 4 [(10,.bool (cmp .lss (↑k) (↑(t.length))))] (se (rc 10 rfl (fun h1=>?_) (fun h1=>?_)))))
 ·
  have a9:=h1;have h1:=BZ h1;refine AH (NX (rq (rb 1 ?_)));refine rd0 10 (ox 2 [(14,vP b1 0),(13,vI (lenOf Y.cars (t.take k)))] ?_);refine AB (dlb 15 0 0 b1 (vS a0 Y.cars.length a1)) (ox 2 [(17,vI (↑k)),(16,vS a7 t.length a8)] ?_);refine AB (di 18 1 (k) b9.addr) ?_;refine AB (dl 19 (BH b9 (k) (by omega))) ?_;have hc:=ho.at k (by omega);refine AB (diI 20 6 (t.getD (k) 0) a6.addr) (ox 1 [(21,.pointer (some ⟨b0,b4+((t.getD (k) 0:Int).toNat)*6,none⟩))] ?_);refine AB (dl 22 (GG a6 ((t.getD (k) 0:Int).toNat) (by omega) 0 (by decide) (v:=vI ((Y.cars.getD ((t.getD (k) 0:Int).toNat) AD).len)) rfl)) ?_;refine BT (sd (da 23 (lenOf Y.cars (t.take k)) ((Y.cars.getD ((t.getD (k) 0:Int).toNat) AD).len) (hr:=by have h1:=GI hs (t.take k);have h2:=hs.at (t.getD k 0);simp only [FJ,LK] at h1 h2;omega)) (sp 1 [(5,vI ((lenOf Y.cars (t.take k))+((Y.cars.getD ((t.getD (k) 0:Int).toNat) AD).len)))] (ee (NB (NX (rr (sp 1 [(11,vI (↑k))] (sd (da 12 (↑k) (1)) (sp 1 [(6,vI (↑k+1))] (ee ?_))))))))));refine AG (t.length-(k+1)) (by omega) ?_;intro a w hS hD hW;exact ⟨k+1,by omega,hS.sub (.consE 5 rfl (congrArg (Value.int .i64) (OR (by omega)).symm) (.consE 6 rfl rfl (.cons 1 rfl (.cons 2 rfl (.cons 4 rfl (.nil _)))))),hD,hW,rfl⟩
 have a9:=h1;have h1:=BX h1;refine CC 0 ((EP (EP (EB (NX (rqr (sp 2 [(4,vI (lenOf Y.cars (t.take k)))] (se (BO (AE (t:=4) [] (by kernel_rfl) rfl (TC _ (TR _)) (IR _) ?_))))))))));exact ⟨by rw [DT (by omega)],rfl⟩
noncomputable def c_checkCoaches (p:List Nat):Code:=sub (AU Tryz.f98) p
theorem checkCoaches_ct (I:Imm) (y:Value) (Y:Yard) (y_f:IsYard I y Y):CtV Tryz.prog 98 #[y] I (vI (CQ Y)):=by
 obtain ⟨y1,y2,y3,f8,d7,d9,e1⟩:=id y_f;subst f8;obtain ⟨a4,a5,e4,e7,d6,e5,e6,c6⟩:=id d7;subst d6;obtain ⟨a2,a3,e8,f1,d8,e9,f0,c7⟩:=id d9;subst d8;obtain ⟨b2,b4,f2,f5,e3,e0,f3,f4,f6,f7⟩:=id e1;subst e0;refine fr (args:=[_]) (N:=68) Tryz.func98 (fun F=>?_);show Run _ _ (c_checkCoaches []) _ _ [(0,.agg #[vS a4 Y.cars.length a5,vS a2 Y.room.length a3,vS b2 Y.tracks.length b4])] _ _;refine rnm (rqr ?_);refine sS (sb 1 26 #[vS a4 Y.cars.length a5,vS a2 Y.room.length a3,vS b2 Y.tracks.length b4] (fun b1=>(sp 1 [(2,vI (0))] (se (rq (rqr (sp 1 [(6,vP b1 0)] (sd (dlb 7 0 0 b1 (vS a4 Y.cars.length a5)) (sp 2 [(9,.bool (cmp .gtr (↑(Y.cars.length)) (5)))] (se (rc 9 rfl (fun h1=>?_) (fun h1=>?_))))))))))))
 ·
  have c8:=h1;have h1:=HU h1;refine rqr (sp 1 [(2,vI (6))] (se (BO ((RP (AE (t:=2) [] (by kernel_rfl) rfl (TC _ (TR _)) (IR _) ?_))))));exact ⟨congrArg (Value.int .i64) ((coachErr_many (by omega)).symm),rfl⟩
 have c8:=h1;have h1:=HG h1;refine AH (NX (rq (rqr (sp 1 [(3,vI (0))] (se (rb 0 ?_))))));refine rl (fun mz a w=>∃ k:Nat,(k≤Y.cars.length)∧(∀ c∈Y.cars.take k,CW c=0)∧Slots 68 [(3,vI ↑k),(1,vP b1 0)] a∧a.defers=[]∧St I ((bX b1 #[vS a4 Y.cars.length a5,vS a2 Y.room.length a3,vS b2 Y.tracks.length b4] 26)::F) w∧mz=Y.cars.length-k) ?_ ?_
 ·intro a w hS hD hW;exact ⟨_,0,Nat.zero_le _,(fun c h=>by simp at h),hS.sub (.cons 3 rfl (.cons 1 rfl (.nil _))),hD,hW,rfl⟩
 rintro mz a w ⟨k,hk,hc,hS,hD,hW,rfl⟩
 refine AX hS hD hW ?_;clear hS hD hW a w;refine rq (rqr (sp 2 [(11,vP b1 0),(10,vI (↑k))] (sd (dlb 12 0 0 b1 (vS a4 Y.cars.length a5)) (sp 2 [(14,.bool (cmp .lss (↑k) (↑(Y.cars.length))))] (se (rc 14 rfl (fun h2=>?_) (fun h2=>?_)))))))
 ·
  have c9:=h2;have h2:=BZ h2;refine AH (NX (rq (rb 1 (rqr (sp 1 [(17,vP b1 0)] (sd (dlb 18 0 0 b1 (vS a4 Y.cars.length a5)) (sp 1 [(19,vI (↑k))] (sd (di 20 6 (k) c6.addr) (sd (DS (x:=(.tmp 20)) (T:=56) (n:=6) (vs:=[vI ((Y.cars.getD (k) AD).len),vI ((Y.cars.getD (k) AD).wt),vI ((Y.cars.getD (k) AD).brk),vI ((Y.cars.getD (k) AD).grp),.bool ((Y.cars.getD (k) AD).pipe),.bool ((Y.cars.getD (k) AD).heat)]) (d:=21) (ty:=56) (gd:=none) (by kernel_rfl) rfl (by kernel_rfl) (by kernel_rfl) rfl rfl (JU c6 (k) (by omega))) (sS (sal 4 56 #[vI (0),vI (0),vI (0),vI (0),.bool (false),.bool (false)] (fun b3=>(sS (ss 0 0 b3 [vI ((Y.cars.getD (k) AD).len),vI ((Y.cars.getD (k) AD).wt),vI ((Y.cars.getD (k) AD).brk),vI ((Y.cars.getD (k) AD).grp),.bool ((Y.cars.getD (k) AD).pipe),.bool ((Y.cars.getD (k) AD).heat)] [vI ((Y.cars.getD (k) AD).len),vI ((Y.cars.getD (k) AD).wt),vI ((Y.cars.getD (k) AD).brk),vI ((Y.cars.getD (k) AD).grp),.bool ((Y.cars.getD (k) AD).pipe),.bool ((Y.cars.getD (k) AD).heat)] (_::_::_) (cs:=[_,_,_,_,_,_]) rfl rfl (se (rq ?_))))))))))))))));refine DQ (fun a w=>Slots 68 [(1,vP b1 0),(3,vI (↑k)),(45,.bool ((!(inB ((Y.cars.getD (k) AD).len) 1 4))||((!(inB ((Y.cars.getD (k) AD).wt) 1 60))||((!(inB ((Y.cars.getD (k) AD).brk) 0 ((Y.cars.getD (k) AD).wt)))||(!(inB ((Y.cars.getD (k) AD).grp) 0 3))))))] a∧a.defers=[]∧St I ((bX b3 #[vI ((Y.cars.getD (k) AD).len),vI ((Y.cars.getD (k) AD).wt),vI ((Y.cars.getD (k) AD).brk),vI ((Y.cars.getD (k) AD).grp),.bool ((Y.cars.getD (k) AD).pipe),.bool ((Y.cars.getD (k) AD).heat)] 56)::(bX b1 #[vS a4 Y.cars.length a5,vS a2 Y.room.length a3,vS b2 Y.tracks.length b4] 26)::F) w) ?_ ?_
  ·
   refine rr (sp 1 [(22,vP b3 0)] (sd (dlb 23 0 0 b3 (vI ((Y.cars.getD (k) AD).len))) (sd (dc 24 (fun I' hI=>(IC I' ((Y.cars.getD (k) AD).len) (1) (4) :))) (sp 2 [(26,.bool (!(inB ((Y.cars.getD (k) AD).len) 1 4)))] ?_))));refine AY 26 rfl (fun h3=>?_) (fun h3=>?_)
   ·
    have a6:=h3;have a6:=CL a6;have b5:=LF a6;refine sp 19 [(45,.bool (true))] (ee ?_);refine AL (fun a w hS hD hW=>⟨hS.sub (.cons 1 rfl (.cons 3 rfl (.consE 45 rfl (congrArg Value.bool (by simp only [h3,kA,kB,kC,kD,kE,kF,kG,kH,kI,kJ])) (.nil _)))),hD,hW⟩)
   have a6:=h3;have a6:=BW a6;have b5:=inB_t a6;refine sp 1 [(27,vP b3 1)] (sd (dlb 28 0 1 b3 (vI ((Y.cars.getD (k) AD).wt))) (sd (dc 29 (fun I' hI=>(IC I' ((Y.cars.getD (k) AD).wt) (1) (60) :))) (sp 3 [(32,.bool (!(inB ((Y.cars.getD (k) AD).wt) 1 60)))] ?_)));refine AY 32 rfl (fun h4=>?_) (fun h4=>?_)
   ·
    have a7:=h4;have a7:=CL a7;have b6:=LF a7;refine sp 13 [(45,.bool (true))] (ee ?_);refine AL (fun a w hS hD hW=>⟨hS.sub (.cons 1 rfl (.cons 3 rfl (.consE 45 rfl (congrArg Value.bool (by simp only [h3,h4,kA,kB,kC,kD,kE,kF,kG,kH,kI,kJ])) (.nil _)))),hD,hW⟩)
   have a7:=h4;have a7:=BW a7;have b6:=inB_t a7;refine sp 1 [(33,vP b3 2)] (sd (dlb 34 0 2 b3 (vI ((Y.cars.getD (k) AD).brk))) (sp 1 [(35,vP b3 1)] (sd (dlb 36 0 1 b3 (vI ((Y.cars.getD (k) AD).wt))) (sd (dc 37 (fun I' hI=>(IC I' ((Y.cars.getD (k) AD).brk) (0) ((Y.cars.getD (k) AD).wt) :))) (sp 3 [(40,.bool (!(inB ((Y.cars.getD (k) AD).brk) 0 ((Y.cars.getD (k) AD).wt))))] ?_)))));refine AY 40 rfl (fun h5=>?_) (fun h5=>?_)
   ·
    have a8:=h5;have a8:=CL a8;have b7:=LF a8;refine sp 5 [(45,.bool (true))] (ee ?_);refine AL (fun a w hS hD hW=>⟨hS.sub (.cons 1 rfl (.cons 3 rfl (.consE 45 rfl (congrArg Value.bool (by simp only [h3,h4,h5,kA,kB,kC,kD,kE,kF,kG,kH,kI,kJ])) (.nil _)))),hD,hW⟩)
   have a8:=h5;have a8:=BW a8;have b7:=inB_t a8;refine sp 1 [(41,vP b3 3)] (sd (dlb 42 0 3 b3 (vI ((Y.cars.getD (k) AD).grp))) (sd (dc 43 (fun I' hI=>(IC I' ((Y.cars.getD (k) AD).grp) (0) (3) :))) (sp 2 [(45,.bool (!(inB ((Y.cars.getD (k) AD).grp) 0 3)))] (ee ?_))));refine AL (fun a w hS hD hW=>⟨hS.sub (.cons 1 rfl (.cons 3 rfl (.consE 45 rfl (congrArg Value.bool (by simp only [h3,h4,h5,kA,kB,kC,kD,kE,kF,kG,kH,kI,kJ])) (.nil _)))),hD,hW⟩)
  rintro a w ⟨hS,hD,hW⟩
  refine AX hS hD hW ?_;clear hS hD hW a w;refine rc 45 rfl (fun h6=>?_) (fun h6=>?_)
  ·
   have c2:=h6;have d5:CW (Y.cars.getD (k) AD)≠0:=by rw [CW,nand4,c2];decide
   refine rqr (sp 1 [(2,vI (1))] (se (BO ((RB (RP (RP (RB (RP (AE (t:=2) [] (by kernel_rfl) rfl (TC _ (TC _ (TR _))) (IR _) ?_))))))))));exact ⟨congrArg (Value.int .i64) ((coachErr_car (by omega) (by omega) d5).symm),rfl⟩
  have c2:=h6;obtain ⟨b8,d1⟩:=or_f h6;have b8:=BW b8;have d0:=inB_t b8;obtain ⟨a9,b9⟩:=or_f d1;have a9:=BW a9;have c5:=inB_t a9;obtain ⟨a0,a1⟩:=or_f b9;have a0:=BW a0;have c0:=inB_t a0;have a1:=BW a1;have c1:=inB_t a1;have d5:CW (Y.cars.getD (k) AD)=0:=by rw [CW,nand4,c2];rfl
  refine AH (NB (NX (rr (sp 1 [(15,vI (↑k))] (sd (da 16 (↑k) (1)) (sp 1 [(3,vI (↑k+1))] (ee ?_)))))));refine AG (Y.cars.length-(k+1)) (by omega) ?_;intro a w hS hD hW;exact ⟨k+1,by omega,NH hc (by omega) d5,hS.sub (.consE 3 rfl rfl (.cons 1 rfl (.nil _))),hD,(hW.perm (PR _)).sub (TC _ (TR _)),rfl⟩
 have c9:=h2;have h2:=BX h2;refine CC 0 ((EP (EP (EB (NX (rq (rqr (sp 1 [(46,vP b1 1)] (sd (dlb 47 0 1 b1 (vS a2 Y.room.length a3)) (sp 2 [(49,.bool (cmp .eql (↑(Y.room.length)) (0)))] (se (rc 49 rfl (fun h7=>?_) (fun h7=>?_)))))))))))))
 ·
  have d2:=h7;have h7:=DF h7;refine rqr (sp 1 [(2,vI (7))] (se (BO ((RP (AE (t:=2) [] (by kernel_rfl) rfl (TC _ (TR _)) (IR _) ?_))))));exact ⟨congrArg (Value.int .i64) ((coachErr_few (by omega) (GU hc (by omega)) (by omega)).symm),rfl⟩
 have d2:=h7;have h7:=DE h7;refine AH (NX (rq (rqr (sp 1 [(50,vP b1 1)] (sd (dlb 51 0 1 b1 (vS a2 Y.room.length a3)) (sp 2 [(53,.bool (cmp .gtr (↑(Y.room.length)) (3)))] (se (rc 53 rfl (fun h8=>?_) (fun h8=>?_)))))))))
 ·
  have d3:=h8;have h8:=HU h8;refine rqr (sp 1 [(2,vI (6))] (se (BO ((RP (AE (t:=2) [] (by kernel_rfl) rfl (TC _ (TR _)) (IR _) ?_))))));exact ⟨congrArg (Value.int .i64) ((coachErr_many2 (by omega) (GU hc (by omega)) (by omega)).symm),rfl⟩
 have d3:=h8;have h8:=HG h8;refine AH (NX (rq (rqr (sp 1 [(5,vI (0))] (se (rb 2 ?_))))));refine rl (fun mz a w=>∃ m:Nat,(m≤Y.room.length)∧(∀ c∈Y.room.take m,inB c 0 20=true)∧Slots 68 [(5,vI ↑m),(1,vP b1 0)] a∧a.defers=[]∧St I ((bX b1 #[vS a4 Y.cars.length a5,vS a2 Y.room.length a3,vS b2 Y.tracks.length b4] 26)::F) w∧mz=Y.room.length-m) ?_ ?_
 ·intro a w hS hD hW;exact ⟨_,0,Nat.zero_le _,(fun x h=>by simp at h),hS.sub (.cons 5 rfl (.cons 1 rfl (.nil _))),hD,hW,rfl⟩
 rintro mz a w ⟨m,hm,e2,hS,hD,hW,rfl⟩
 refine AX hS hD hW ?_;clear hS hD hW a w;refine rq (rqr (sp 2 [(55,vP b1 1),(54,vI (↑m))] (sd (dlb 56 0 1 b1 (vS a2 Y.room.length a3)) (sp 2 [(58,.bool (cmp .lss (↑m) (↑(Y.room.length))))] (se (rc 58 rfl (fun h9=>?_) (fun h9=>?_)))))))
 ·
  have d4:=h9;have h9:=BZ h9;refine AH (NX (rq (rb 3 (rqr (sp 1 [(61,vP b1 1)] (sd (dlb 62 0 1 b1 (vS a2 Y.room.length a3)) (sp 1 [(63,vI (↑m))] (sd (di 64 1 (m) c7.addr) (sd (dl 65 (BH c7 (m) (by omega))) (sd (dc 66 (fun I' hI=>(IC I' (Y.room.getD (m) 0) (0) (20) :))) (sp 1 [(67,.bool (!(inB (Y.room.getD (m) 0) 0 20)))] (se (rc 67 rfl (fun b0=>?_) (fun b0=>?_))))))))))))))
  ·
   have c4:=b0;have b0:=CL b0;have c3:=LF b0;refine rqr (sp 1 [(2,vI (1))] (se (BO ((RB (RP (RP (RB (RP (AE (t:=2) [] (by kernel_rfl) rfl (TC _ (TR _)) (IR _) ?_))))))))));exact ⟨congrArg (Value.int .i64) ((coachErr_room (by omega) (GU hc (by omega)) (by omega) (by omega) (by omega) b0).symm),rfl⟩
  have c4:=b0;have b0:=BW b0;have c3:=inB_t b0;refine AH (NB (NX (rr (sp 1 [(59,vI (↑m))] (sd (da 60 (↑m) (1)) (sp 1 [(5,vI (↑m+1))] (ee ?_)))))));refine AG (Y.room.length-(m+1)) (by omega) ?_;intro a w hS hD hW;exact ⟨m+1,by omega,NH (d:=0) e2 (by omega) b0,hS.sub (.consE 5 rfl rfl (.cons 1 rfl (.nil _))),hD,hW,rfl⟩
 have d4:=h9;have h9:=BX h9;refine CC 2 ((EP (EP (EB (NX (rqr (sp 1 [(2,vI (0))] (se (BO (AE (t:=2) [] (by kernel_rfl) rfl (TC _ (TR _)) (IR _) ?_))))))))));exact ⟨congrArg (Value.int .i64) ((coachErr_ok (by omega) (GU hc (by omega)) (by omega) (by omega) (GU e2 (by omega))).symm),rfl⟩
noncomputable def c_together (p:List Nat):Code:=sub (AU Tryz.f139) p
theorem together_ct (I:Imm) (y:Value) (Y:Yard) (g:Int) (y_f:IsYard I y Y) (ho:OkAll Y.cars Y.tracks):CtV Tryz.prog 139 #[y,vI g] I (.bool (FP Y g)):=by
 obtain ⟨y1,y2,y3,f7,c4,c6,c8⟩:=id y_f;subst f7;obtain ⟨a0,a1,b5,b6,c3,e6,e7,a7⟩:=id c4;subst c3;obtain ⟨a4,a5,e8,f1,c5,e9,f0,f2⟩:=id c6;subst c5;obtain ⟨a2,a3,f3,f6,d0,c7,f4,f5,a8,b7⟩:=id c8;subst c7;refine fr (args:=[_,_]) (N:=68) Tryz.func139 (fun F=>?_);show Run _ _ (c_together []) _ _ [(0,.agg #[vS a0 Y.cars.length a1,vS a4 Y.room.length a5,vS a2 Y.tracks.length a3]),(1,vI (g))] _ _;refine rnm (rqr ?_);refine sS (sb 2 26 #[vS a0 Y.cars.length a1,vS a4 Y.room.length a5,vS a2 Y.tracks.length a3] (fun b1=>(sp 1 [(4,.bool (false))] (sn (sp 2 [(6,vI (0)),(5,vI (0))] (se (rq (rqr (sp 1 [(7,vI (0))] (se (rb 0 ?_)))))))))));refine rl (fun mz a w=>∃ k:Nat,∃ al:Nat,(k≤Y.cars.length)∧(al=cntG (Y.cars.take k) g)∧(al≤k)∧Slots 68 [(5,vI ↑al),(7,vI ↑k),(1,vI (g)),(2,vP b1 0),(4,.bool (false)),(6,vI (0))] a∧a.defers=[]∧St I ((bX b1 #[vS a0 Y.cars.length a1,vS a4 Y.room.length a5,vS a2 Y.tracks.length a3] 26)::F) w∧mz=Y.cars.length-k) ?_ ?_
 ·intro a w hS hD hW;exact ⟨_,0,0,Nat.zero_le _,rfl,Nat.le_refl _,hS.sub (.cons 5 rfl (.cons 7 rfl (.cons 1 rfl (.cons 2 rfl (.cons 4 rfl (.cons 6 rfl (.nil _))))))),hD,hW,rfl⟩
 rintro mz a w ⟨k,al,hk,ha,f8,hS,hD,hW,rfl⟩
 refine AX hS hD hW ?_;clear hS hD hW a w;refine rq (rqr (sp 2 [(12,vP b1 0),(11,vI (↑k))] (sd (dlb 13 0 0 b1 (vS a0 Y.cars.length a1)) (sp 2 [(15,.bool (cmp .lss (↑k) (↑(Y.cars.length))))] (se (rc 15 rfl (fun h1=>?_) (fun h1=>?_)))))))
 ·
  have b8:=h1;have h1:=BZ h1;refine AH (NX (rq (rb 1 (rqr (sp 1 [(18,vP b1 0)] (sd (dlb 19 0 0 b1 (vS a0 Y.cars.length a1)) (sp 1 [(20,vI (↑k))] (sd (di 21 6 (k) a7.addr) (sp 1 [(22,.pointer (some ⟨b5,b6+k*6+3,none⟩))] (sd (dl 23 (GG a7 (k) (by omega) 3 (by decide) (v:=vI ((Y.cars.getD (k) AD).grp)) rfl)) (sp 2 [(25,.bool (cmp .eql ((Y.cars.getD (k) AD).grp) (g)))] (se (rc 25 rfl (fun h2=>?_) (fun h2=>?_))))))))))))))
  ·
   have b9:=h2;have h2:=DF h2;refine rr (sp 1 [(26,vI (↑al))] (sd (da 27 (↑al) (1)) (sp 1 [(5,vI (↑al+1))] (ee (NB (NX (rr (sp 1 [(16,vI (↑k))] (sd (da 17 (↑k) (1)) (sp 1 [(7,vI (↑k+1))] (ee ?_)))))))))));refine AG (Y.cars.length-(k+1)) (by omega) ?_;intro a w hS hD hW;exact ⟨k+1,al+1,by omega,(by rw [cntG_succ (by omega),if_pos h2,← ha]),by omega,hS.sub (.consE 5 rfl rfl (.consE 7 rfl rfl (.cons 1 rfl (.cons 2 rfl (.cons 4 rfl (.cons 6 rfl (.nil _))))))),hD,hW,rfl⟩
  have b9:=h2;have h2:=DE h2;refine AH (NB (NX (rr (sp 1 [(16,vI (↑k))] (sd (da 17 (↑k) (1)) (sp 1 [(7,vI (↑k+1))] (ee ?_)))))));refine AG (Y.cars.length-(k+1)) (by omega) ?_;intro a w hS hD hW;exact ⟨k+1,al,by omega,(by rw [cntG_succ (by omega),if_neg h2,← ha];rfl),by omega,hS.sub (.consE 5 rfl rfl (.consE 7 rfl rfl (.cons 1 rfl (.cons 2 rfl (.cons 4 rfl (.cons 6 rfl (.nil _))))))),hD,hW,rfl⟩
 have b8:=h1;have h1:=BX h1;refine CC 0 ((EP (EP (EB (NX (rq (rqr (sp 1 [(8,vI (0))] (se (rb 2 ?_))))))))));refine rl (fun mz a w=>∃ i:Nat,∃ m:Nat,(i≤Y.tracks.length)∧(m=mostTo Y.cars g (Y.tracks.take i))∧(m≤140737488355328)∧Slots 68 [(6,vI ↑m),(8,vI ↑i),(1,vI (g)),(2,vP b1 0),(4,.bool (false)),(5,vI (↑al))] a∧a.defers=[]∧St I ((bX b1 #[vS a0 Y.cars.length a1,vS a4 Y.room.length a5,vS a2 Y.tracks.length a3] 26)::F) w∧mz=Y.tracks.length-i) ?_ ?_
 ·intro a w hS hD hW;exact ⟨_,0,0,Nat.zero_le _,rfl,Nat.zero_le _,hS.sub (.cons 6 rfl (.cons 8 rfl (.cons 1 rfl (.cons 2 rfl (.cons 4 rfl (.cons 5 rfl (.nil _))))))),hD,hW,rfl⟩
 rintro mz a w ⟨i,m,hi,c9,d1,hS,hD,hW,rfl⟩
 refine AX hS hD hW ?_;clear hS hD hW a w;refine rq (rqr (sp 2 [(29,vP b1 2),(28,vI (↑i))] (sd (dlb 30 0 2 b1 (vS a2 Y.tracks.length a3)) (sp 2 [(32,.bool (cmp .lss (↑i) (↑(Y.tracks.length))))] (se (rc 32 rfl (fun h3=>?_) (fun h3=>?_)))))))
 ·
  have c0:=h3;have h3:=BZ h3;refine AH (NX (rq (rb 3 (rqr (sp 1 [(9,vI (0))] (sn (sp 1 [(10,vI (0))] (se (rb 4 ?_)))))))));refine rl (fun mz a w=>∃ j:Nat,∃ r:Nat,∃ m2:Nat,(j≤(Y.tracks.getD (i) []).length)∧(rowT Y.cars g m ((Y.tracks.getD (i) []).take j)=(r,m2))∧(r≤j)∧(m2≤140737488355328)∧Slots 68 [(6,vI ↑m2),(9,vI ↑r),(10,vI ↑j),(1,vI (g)),(2,vP b1 0),(4,.bool (false)),(5,vI (↑al)),(8,vI (↑i))] a∧a.defers=[]∧St I ((bX b1 #[vS a0 Y.cars.length a1,vS a4 Y.room.length a5,vS a2 Y.tracks.length a3] 26)::F) w∧mz=(Y.tracks.getD (i) []).length-j) ?_ ?_
  ·intro a w hS hD hW;exact ⟨_,0,0,m,Nat.zero_le _,rfl,Nat.le_refl _,d1,hS.sub (.cons 6 rfl (.cons 9 rfl (.cons 10 rfl (.cons 1 rfl (.cons 2 rfl (.cons 4 rfl (.cons 5 rfl (.cons 8 rfl (.nil _))))))))),hD,hW,rfl⟩
  rintro mz a w ⟨j,r,m2,hj,a6,f9,d2,hS,hD,hW,rfl⟩
  refine AX hS hD hW ?_;clear hS hD hW a w;refine rq (rqr (sp 2 [(36,vP b1 2),(35,vI (↑j))] (sd (dlb 37 0 2 b1 (vS a2 Y.tracks.length a3)) (sp 1 [(38,vI (↑i))] (sd (di 39 1 (i) a8.addr) ?_)))));have b0:=b7 (i) (by omega);obtain ⟨d3,d5,d4,d8,a9,d6,d7,d9⟩:=id b0;rw [a9] at b0;refine sd (BL (dl 40 (CR a8 (i) (by omega))) a9) (sp 2 [(42,.bool (cmp .lss (↑j) (↑((Y.tracks.getD (i) []).length))))] (se (rc 42 rfl (fun h4=>?_) (fun h4=>?_))))
  ·
   have c1:=h4;have h4:=BZ h4;refine AH (NX (rq (rb 5 (rq (rq ?_)))));refine rd0 14 (ox 1 [(45,vP b1 0)] ?_);refine AB (dlb 46 0 0 b1 (vS a0 Y.cars.length a1)) (ox 1 [(47,vP b1 2)] ?_);refine AB (dlb 48 0 2 b1 (vS a2 Y.tracks.length a3)) (ox 1 [(49,vI (↑i))] ?_);refine AB (di 50 1 (i) a8.addr) ?_;have b3:=b7 (i) (by omega);obtain ⟨e0,e2,e1,e5,b2,e3,e4,b4⟩:=id b3;rw [b2] at b3;refine AB (BL (dl 51 (CR a8 (i) (by omega))) b2) (ox 1 [(52,vI (↑j))] ?_);refine AB (di 53 1 (j) b4.addr) ?_;refine AB (dl 54 (BH b4 (j) (by omega))) ?_;have hc:=(ho.at i (by omega)).at j (by omega);refine AB (diI 55 6 ((Y.tracks.getD (i) []).getD (j) 0) a7.addr) (ox 1 [(56,.pointer (some ⟨b5,b6+(((Y.tracks.getD (i) []).getD (j) 0:Int).toNat)*6+3,none⟩))] ?_);refine AB (dl 57 (GG a7 (((Y.tracks.getD (i) []).getD (j) 0:Int).toNat) (by omega) 3 (by decide) (v:=vI ((Y.cars.getD (((Y.tracks.getD (i) []).getD (j) 0:Int).toNat) AD).grp)) rfl)) (ox 1 [(58,vI (g))] ?_);refine BT (sp 1 [(59,.bool (cmp .eql ((Y.cars.getD (((Y.tracks.getD (i) []).getD (j) 0:Int).toNat) AD).grp) (g)))] (se (rc 59 rfl (fun h5=>?_) (fun h5=>?_))))
   ·
    have c2:=h5;have h5:=DF h5;refine rr (sp 1 [(60,vI (↑r))] (sd (da 61 (↑r) (1)) (sp 1 [(9,vI (↑r+1))] (se (rr (sp 3 [(64,vI ((if (↑m2:Int)<(↑r+1:Int) then ↑r+1 else ↑m2)))] (DN 64 rfl (show (vI ((if (↑m2:Int)<(↑r+1:Int) then ↑r+1 else ↑m2)):Value)=vI (↑(max m2 (r+1))) from congrArg (Value.int .i64) (by split <;> omega)) (sp 1 [(6,vI (↑(max m2 (r+1))))] (ee (NB (NX (rr (sp 1 [(43,vI (↑j))] (sd (da 44 (↑j) (1)) (sp 1 [(10,vI (↑j+1))] (ee ?_))))))))))))))));refine AG ((Y.tracks.getD (i) []).length-(j+1)) (by omega) ?_;intro a w hS hD hW;exact ⟨j+1,r+1,max m2 (r+1),by omega,(by rw [rowT_succ (by omega),a6];exact rowS_yes h5),by omega,by omega,hS.sub (.consE 6 rfl rfl (.consE 9 rfl rfl (.consE 10 rfl rfl (.cons 1 rfl (.cons 2 rfl (.cons 4 rfl (.cons 5 rfl (.cons 8 rfl (.nil _))))))))),hD,hW,rfl⟩
   have c2:=h5;have h5:=DE h5;refine rr (sp 1 [(9,vI (0))] (se (rr (sp 3 [(64,vI ((if (↑m2:Int)<(0:Int) then 0 else ↑m2)))] (DN 64 rfl (show (vI ((if (↑m2:Int)<(0:Int) then 0 else ↑m2)):Value)=vI (↑(max m2 0)) from congrArg (Value.int .i64) (by split <;> omega)) (sp 1 [(6,vI (↑(max m2 0)))] (ee (NB (NX (rr (sp 1 [(43,vI (↑j))] (sd (da 44 (↑j) (1)) (sp 1 [(10,vI (↑j+1))] (ee ?_))))))))))))));refine AG ((Y.tracks.getD (i) []).length-(j+1)) (by omega) ?_;intro a w hS hD hW;exact ⟨j+1,0,max m2 0,by omega,(by rw [rowT_succ (by omega),a6];exact rowS_no h5),by omega,by omega,hS.sub (.consE 6 rfl rfl (.consE 9 rfl rfl (.consE 10 rfl rfl (.cons 1 rfl (.cons 2 rfl (.cons 4 rfl (.cons 5 rfl (.cons 8 rfl (.nil _))))))))),hD,hW,rfl⟩
  have c1:=h4;have h4:=BX h4;refine CC 4 ((EP (EP (EB (NB (NX (rr (sp 1 [(33,vI (↑i))] (sd (da 34 (↑i) (1)) (sp 1 [(8,vI (↑i+1))] (ee ?_)))))))))));refine AG (Y.tracks.length-(i+1)) (by omega) ?_;intro a w hS hD hW;exact ⟨i+1,m2,by omega,(by rw [mostTo_succ (by omega),← c9];rw [DT (by omega)] at a6;rw [a6]),by omega,hS.sub (.consE 6 rfl rfl (.consE 8 rfl rfl (.cons 1 rfl (.cons 2 rfl (.cons 4 rfl (.cons 5 rfl (.nil _))))))),hD,hW,rfl⟩
 have c0:=h3;have h3:=BX h3;refine CC 2 ((EP (EP (EB (NX (rqr (sp 4 [(4,.bool (cmp .eql (↑m) (↑al)))] (se (BO (AE (t:=4) [] (by kernel_rfl) rfl (TC _ (TR _)) (IR _) ?_))))))))));exact ⟨congrArg Value.bool (by unfold FP cmp;rw [c9,DT (xs:=Y.tracks) (k:=i) (by omega),ha,DT (xs:=Y.cars) (k:=k) (by omega)]),rfl⟩
end Go.Proofs.YtcaocbhbofejnaaGreatDoor
namespace Go.Sl
open Go
theorem ct_own {α : Type} {E : TypeId} {sz : Nat} {cell : α → Nat → Value} {v : Value} {xs : List α} {Ms : Seg} {I : Imm} {P : Program} {f : FuncId} {args : Array Value} {u : Value} (dflt : α) (h : Own E sz cell v xs Ms) (hl : xs.length ≤ 140737488355328)
    (ct:∀ J,I.le J→IsSl sz cell dflt J v xs→CtV P f args J u):Ct P f args I Ms (fun r _ M'=>r=u∧M'=Ms):=by
  intro F w st;obtain ⟨J,h1,h2,h3,h4⟩:=h.lend dflt hl st;refine (ct J h1 h2 F w h4).mono fun e w' ⟨r,I',M',he,hle,⟨hr,hm⟩,st'⟩=>?_
  subst hm;obtain ⟨K,k1,k2⟩:=St.thaw (h3.mono hle) (h1.trans hle) (by simpa using st');exact ⟨r,K,Ms,he,k1,⟨hr,rfl⟩,k2⟩
end Go.Sl
namespace Go.Proofs.YtcaocbhbofejnaaGreatDoor
open Go Go.Sl Go.Sh
set_option maxRecDepth 100000
noncomputable def c_checkTracksR (p:List Nat):Code:=sub (AU Tryz.f99) p
theorem checkTracksR_ct (I:Imm) (y:Value) (Y:Yard) (y_f:IsYard I y Y) (hs:Small Y.cars) (h5:Y.cars.length≤5):CtV Tryz.prog 99 #[y] I (vI (FO Y)):=by
 obtain ⟨y1,y2,y3,l5,a8,a9,b0⟩:=id y_f;subst l5;obtain ⟨a3,a4,k2,k5,f9,k3,k4,k6⟩:=id a8;subst f9;obtain ⟨a5,a6,k7,l0,g0,k8,k9,b9⟩:=id a9;subst g0;obtain ⟨a0,a1,l1,l4,i2,g1,l2,l3,a7,b5⟩:=id b0;subst g1;refine fr (args:=[_]) (N:=81) Tryz.func99 (fun F=>?_);show Run _ _ (c_checkTracksR []) _ _ [(0,.agg #[vS a3 Y.cars.length a4,vS a5 Y.room.length a6,vS a0 Y.tracks.length a1])] _ _;refine rnm (rqr ?_);refine sS (sb 1 26 #[vS a3 Y.cars.length a4,vS a5 Y.room.length a6,vS a0 Y.tracks.length a1] (fun b1=>(sp 1 [(2,vI (0))] (se (rq (rqr (sp 1 [(8,vP b1 2)] (sd (dlb 9 0 2 b1 (vS a0 Y.tracks.length a1)) (sp 2 [(11,vP b1 1),(10,vI (↑(Y.tracks.length)))] (sd (dlb 12 0 1 b1 (vS a5 Y.room.length a6)) (sp 2 [(14,.bool (!(cmp .eql (↑(Y.tracks.length)) (↑(Y.room.length)))))] (se (rc 14 rfl (fun h1=>?_) (fun h1=>?_))))))))))))))
 ·
  have e8:=h1;have h1:=DE (CL h1);refine rqr (sp 1 [(2,vI (2))] (se (BO ((RP (AE (t:=2) [] (by kernel_rfl) rfl (TC _ (TR _)) (IR _) ?_))))));exact ⟨congrArg (Value.int .i64) (by rw [FO,if_neg (by omega)]),rfl⟩
 have e8:=h1;have h1:=DF (BW h1);refine AH (NX (rqr (sp 1 [(3,vN)] (se (rq (rqr (sp 1 [(4,vI (0))] (se (rb 0 ?_)))))))));refine rl (fun mz a w=>∃ J0:Imm,∃ k:Nat,∃ b7:List Int,∃ c1:Value,∃ b8:Seg,(I.le J0)∧(k≤Y.tracks.length)∧(CO Y.cars (fun b7=>if b7.length<Y.cars.length then 7 else refG Y) Y.tracks Y.room []=CO Y.cars (fun b7=>if b7.length<Y.cars.length then 7 else refG Y) (Y.tracks.drop k) (Y.room.drop k) b7)∧(OkAll Y.cars (Y.tracks.take k))∧(b7.Nodup)∧(∀ x∈b7,0≤x∧x<(Y.cars.length:Int))∧(Own 3 1 BA c1 (b7) b8)∧Slots 81 [(3,c1),(4,vI ↑k),(1,vP b1 0)] a∧a.defers=[]∧St J0 ((bX b1 #[vS a3 Y.cars.length a4,vS a5 Y.room.length a6,vS a0 Y.tracks.length a1] 26)::(b8++F)) w∧mz=Y.tracks.length-k) ?_ ?_
 ·intro a w hS hD hW;exact ⟨_,I,0,[],(vN),[],IR _,Nat.zero_le _,rfl,OkAll.nil,List.nodup_nil,(fun x hx=>by simp at hx),(Own.nil _ _ _),hS.sub (.cons 3 rfl (.cons 4 rfl (.cons 1 rfl (.nil _)))),hD,hW,rfl⟩
 rintro mz a w ⟨J0,k,b7,c1,b8,hJ0,hk,hr,g4,i5,i3,d1,hS,hD,hW,rfl⟩
 refine AX hS hD hW ?_;clear hS hD hW a w;replace a8:=a8.mono hJ0;replace a9:=a9.mono hJ0;replace b9:=b9.mono hJ0;replace b0:=b0.mono hJ0;replace a7:=a7.mono hJ0;replace b5:=fun i hi=>(b5 i hi).mono hJ0
 obtain ⟨c7,c8,c9,e6⟩:=d1.shape;subst c9;refine rq (rqr (sp 2 [(16,vP b1 2),(15,vI (↑k))] (sd (dlb 17 0 2 b1 (vS a0 Y.tracks.length a1)) (sp 2 [(19,.bool (cmp .lss (↑k) (↑(Y.tracks.length))))] (se (rc 19 rfl (fun h2=>?_) (fun h2=>?_)))))))
 ·
  have e9:=h2;have h2:=BZ h2;refine AH (NX (rq (rb 1 (rq (rqr (sp 1 [(5,vI (0))] (se (rb 2 ?_))))))));refine rl (fun mz a w=>∃ J1:Imm,∃ j:Nat,∃ a2:List Int,∃ c2:Value,∃ b2:Seg,(J0.le J1)∧(j≤(Y.tracks.getD (k) []).length)∧(CO Y.cars (fun b7=>if b7.length<Y.cars.length then 7 else refG Y) Y.tracks Y.room []=DP Y.cars.length (fun met'=>if lenOf Y.cars (Y.tracks.getD (k) [])>Y.room.getD k 0 then 9 else CO Y.cars (fun b7=>if b7.length<Y.cars.length then 7 else refG Y) (Y.tracks.drop (k+1)) (Y.room.drop (k+1)) met') ((Y.tracks.getD (k) []).drop j) a2)∧(Ok Y.cars ((Y.tracks.getD (k) []).take j))∧(a2.Nodup)∧(∀ x∈a2,0≤x∧x<(Y.cars.length:Int))∧(Own 3 1 BA c2 (a2) b2)∧Slots 81 [(3,c2),(5,vI ↑j),(1,vP b1 0),(4,vI (↑k))] a∧a.defers=[]∧St J1 ((bX b1 #[vS a3 Y.cars.length a4,vS a5 Y.room.length a6,vS a0 Y.tracks.length a1] 26)::(b2++F)) w∧mz=(Y.tracks.getD (k) []).length-j) ?_ ?_
  ·intro a w hS hD hW;exact ⟨_,J0,0,b7,vS c7 b7.length c8,b8,IR _,Nat.zero_le _,hr.trans (NM (by omega)),Ok.nil,i5,i3,d1,hS.sub (.cons 3 rfl (.cons 5 rfl (.cons 1 rfl (.cons 4 rfl (.nil _))))),hD,hW,rfl⟩
  rintro mz a w ⟨J1,j,a2,c2,b2,hJ1,hj,d7,c6,c5,c4,c0,hS,hD,hW,rfl⟩
  refine AX hS hD hW ?_;clear hS hD hW a w;replace a8:=a8.mono hJ1;replace a9:=a9.mono hJ1;replace b9:=b9.mono hJ1;replace b0:=b0.mono hJ1;replace a7:=a7.mono hJ1;replace b5:=fun i hi=>(b5 i hi).mono hJ1
  obtain ⟨b3,b4,d0,e7⟩:=c0.shape;subst d0;refine rq (rqr (sp 2 [(23,vP b1 2),(22,vI (↑j))] (sd (dlb 24 0 2 b1 (vS a0 Y.tracks.length a1)) (sp 1 [(25,vI (↑k))] (sd (di 26 1 (k) a7.addr) ?_)))));have e2:=b5 (k) (by omega);obtain ⟨i9,j1,j0,j4,e1,j2,j3,j5⟩:=id e2;rw [e1] at e2;refine sd (BL (dl 27 (CR a7 (k) (by omega))) e1) (sp 2 [(29,.bool (cmp .lss (↑j) (↑((Y.tracks.getD (k) []).length))))] (se (rc 29 rfl (fun h3=>?_) (fun h3=>?_))))
  ·
   have f0:=h3;have h3:=BZ h3;refine AH (NX (rq (rb 3 (rqr (sp 1 [(32,vP b1 2)] (sd (dlb 33 0 2 b1 (vS a0 Y.tracks.length a1)) (sp 1 [(34,vI (↑k))] (sd (di 35 1 (k) a7.addr) ?_))))))));have e4:=b5 (k) (by omega);obtain ⟨j6,j8,j7,k1,e3,j9,k0,e5⟩:=id e4;rw [e3] at e4;refine sd (BL (dl 36 (CR a7 (k) (by omega))) e3) (sp 1 [(37,vI (↑j))] (sd (di 38 1 (j) e5.addr) (sd (dl 39 (BH e5 (j) (by omega))) (sp 1 [(6,vI ((Y.tracks.getD (k) []).getD (j) 0))] (se (rq (rqr (sp 2 [(41,vP b1 0),(40,vI ((Y.tracks.getD (k) []).getD (j) 0))] (sd (dlb 42 0 0 b1 (vS a3 Y.cars.length a4)) (sp 1 [(43,vI (↑(Y.cars.length)))] (sd (dsb 44 (↑(Y.cars.length)) (1)) (sd (dc 45 (fun I' hI=>(IC I' ((Y.tracks.getD (k) []).getD (j) 0) (0) ((↑(Y.cars.length))-1) :))) (sp 1 [(46,.bool (!(inB ((Y.tracks.getD (k) []).getD (j) 0) 0 ((↑(Y.cars.length))-1))))] (se (rc 46 rfl (fun h4=>?_) (fun h4=>?_))))))))))))))))
   ·
    have f2:=h4;have h4:=CL h4;have f1:=LF h4;refine rqr (sp 1 [(2,vI (3))] (se (BO ((RP (RB (RP (RP (RB (RP (RB (RP (RP (RB (RP (AE (t:=2) [] (by kernel_rfl) rfl (TC _ (TT (TR _) (TB _ _))) (IT hJ0 hJ1) ?_))))))))))))))));exact ⟨congrArg (Value.int .i64) (by rw [FO,if_pos (by omega)];exact (d7.trans (goTrack_bad (by omega) h4)).symm),rfl⟩
   have f2:=h4;have h4:=BW h4;have f1:=inB_t h4;have g3:=h4;refine AH (NX (rq (rqr ?_)));have i4:=KK c5 c4;refine sp 2 [(48,vI ((Y.tracks.getD (k) []).getD (j) 0)),(47,vS b3 a2.length b4)] ?_;have d4:=ct_own (I:=J1) 0 c0 (by omega) (fun I' hI hs_l=>(has_ct I' _ _ ((Y.tracks.getD (k) []).getD (j) 0) hs_l :));refine sS (sc (some 49) (F:=((bX b1 #[vS a3 Y.cars.length a4,vS a5 Y.room.length a6,vS a0 Y.tracks.length a1] 26)::F)) (d4 :) (PM.symm) (fun l8 I5 l7 b6 i7=>?_));obtain ⟨d8,d5⟩:=i7;rw [d8,d5];clear d8 d5;replace a8:=a8.mono b6;replace a9:=a9.mono b6;replace b9:=b9.mono b6;replace b0:=b0.mono b6;replace a7:=a7.mono b6;replace b5:=fun i hi=>(b5 i hi).mono b6
   refine pm (M':=((bX b1 #[vS a3 Y.cars.length a4,vS a5 Y.room.length a6,vS a0 Y.tracks.length a1] 26)::(b2++F))) PM ?_;show Seq _ _ _ _ _ _ ((49,.bool (decide (((Y.tracks.getD (k) []).getD (j) 0)∈a2)))::_) _ _;refine se (rc 49 rfl (fun h5=>?_) (fun h5=>?_))
   ·
    have f3:=h5;have h5:=FT h5;refine rqr (sp 1 [(2,vI (4))] (se (BO ((RP (RB (RP (RP (RB (RP (RB (RP (RP (RB (RP (AE (t:=2) [] (by kernel_rfl) rfl (TC _ (TT (TR _) (TB _ _))) (IT (IT hJ0 hJ1) b6) ?_))))))))))))))));exact ⟨congrArg (Value.int .i64) (by rw [FO,if_pos (by omega)];exact (d7.trans (NL (by omega) g3 h5)).symm),rfl⟩
   have f3:=h5;have h5:=GH h5;have g2:=h5;refine AH (NX (rr (sp 2 [(51,vI ((Y.tracks.getD (k) []).getD (j) 0)),(50,vS b3 a2.length b4)] (sS (sbs 52 3 1 #[vI ((Y.tracks.getD (k) []).getD (j) 0)] (fun l6=>(sS (AN (d:=53) (x:=(.tmp 50)) (y:=(.tmp 52)) (T:=23) (T':=23) (E:=3) (E':=3) (sz:=1) (bs:=8) (z:=vI (0)) (cell:=BA) (xs:=a2) (ys:=[((Y.tracks.getD (k) []).getD (j) 0:Int)]) (Ms:=b2) (ty:=23) (gd:=none) (by kernel_rfl) rfl (by kernel_rfl) (by kernel_rfl) (by kernel_rfl) (by kernel_rfl) (by kernel_rfl) (by decide) (by kernel_rfl) rfl rfl (c0) (PU (PM.symm)) (CH _) (CI 0 rfl rfl) (by first | omega | (have i4:=KK c5 c4;simp only [LC,LN];omega)) (fun l9 d3 d6=>(AR (M':=((bX b1 #[vS a3 Y.cars.length a4,vS a5 Y.room.length a6,vS a0 Y.tracks.length a1] 26)::(d3++F))) (fun w h=>(h.perm (PW PM)).sub (TC _ (TR _))) ?_))))))))));obtain ⟨d9,e0,f8,i8⟩:=d6.shape;subst f8;refine sp 1 [(3,vS d9 (a2++([((Y.tracks.getD (k) []).getD (j) 0:Int)])).length e0)] (ee (NB (NX (rr (sp 1 [(30,vI (↑j))] (sd (da 31 (↑j) (1)) (sp 1 [(5,vI (↑j+1))] (ee ?_))))))));refine AG ((Y.tracks.getD (k) []).length-(j+1)) (by omega) ?_;intro a w hS hD hW;exact ⟨I5,j+1,a2++([((Y.tracks.getD (k) []).getD (j) 0:Int)]),vS d9 (a2++([((Y.tracks.getD (k) []).getD (j) 0:Int)])).length e0,d3,(IT hJ1 b6),by omega,d7.trans (PK (by omega) g3 g2),c6.snoc (c:=0) (by omega) (by omega),met_snoc c5 g2,met_in c4 (by omega),d6,hS.sub (.consE 3 rfl rfl (.consE 5 rfl rfl (.cons 1 rfl (.cons 4 rfl (.nil _))))),hD,hW,rfl⟩
  have f0:=h3;have h3:=BX h3;refine CC 2 ((EP (EP (EB (NX (rq ?_))))));refine rd0 12 ?_;refine AB (dnb 54 0 0 b1 [vS a3 Y.cars.length a4,vS a5 Y.room.length a6,vS a0 Y.tracks.length a1]) (ox 1 [(55,vP b1 2)] ?_);refine AB (dlb 56 0 2 b1 (vS a0 Y.tracks.length a1)) (ox 1 [(57,vI (↑k))] ?_);refine AB (di 58 1 (k) a7.addr) ?_;have c3:=b5 (k) (by omega);obtain ⟨g6,g8,g7,i0,d2,g9,h0,i1⟩:=id c3;rw [d2] at c3;refine AB (BL (dl 59 (CR a7 (k) (by omega))) d2) ?_;have i6:=c6.all (by omega);refine AB (dc 60 (fun I' hI=>(length_ct I' _ (Y) _ _ ((BS a8 a9 b0).mono hI) (c3.mono hI) (by exact c6.all (by omega)) (by assumption) :))) (ox 1 [(61,vP b1 1)] ?_);refine AB (dlb 62 0 1 b1 (vS a5 Y.room.length a6)) (ox 1 [(63,vI (↑k))] ?_);refine AB (di 64 1 (k) b9.addr) ?_;refine AB (dl 65 (BH b9 (k) (by omega))) ?_;refine BT (sp 1 [(66,.bool (cmp .gtr ((lenOf Y.cars (Y.tracks.getD (k) []))) (Y.room.getD (k) 0)))] (se (rc 66 rfl (fun h6=>?_) (fun h6=>?_))))
  ·
   have f4:=h6;have h6:=HU h6;refine rqr (sp 1 [(2,vI (9))] (se (BO ((RB (RP (RP (RB (RP (AE (t:=2) [] (by kernel_rfl) rfl (TC _ (TT (TR _) (TB _ _))) (IT hJ0 hJ1) ?_))))))))));exact ⟨congrArg (Value.int .i64) (by rw [FO,if_pos (by omega)];exact (d7.trans ((JI (by omega)).trans (if_pos (by omega)))).symm),rfl⟩
  have f4:=h6;have h6:=HG h6;refine AH (NB (NX (rr (sp 1 [(20,vI (↑k))] (sd (da 21 (↑k) (1)) (sp 1 [(4,vI (↑k+1))] (ee ?_)))))));refine AG (Y.tracks.length-(k+1)) (by omega) ?_;intro a w hS hD hW;exact ⟨J1,k+1,a2,vS b3 a2.length b4,b2,(IT hJ0 hJ1),by omega,d7.trans ((JI (by omega)).trans (if_neg (by omega))),g4.snoc (by omega) (c6.all (by omega)),c5,c4,c0,hS.sub (.consE 3 rfl rfl (.consE 4 rfl rfl (.cons 1 rfl (.nil _)))),hD,hW,rfl⟩
 have e9:=h2;have h2:=BX h2;refine CC 0 ((EP (EP (EB (NX (rq (rqr (sp 3 [(69,vP b1 0),(68,vI (↑(b7.length)))] (sd (dlb 70 0 0 b1 (vS a3 Y.cars.length a4)) (sp 2 [(72,.bool (cmp .lss (↑(b7.length)) (↑(Y.cars.length))))] (se (rc 72 rfl (fun h7=>?_) (fun h7=>?_)))))))))))))
 ·
  have f5:=h7;have h7:=BZ h7;refine rqr (sp 1 [(2,vI (7))] (se (BO ((RP (AE (t:=2) [] (by kernel_rfl) rfl (TC _ (TT (TR _) (TB _ _))) hJ0 ?_))))));exact ⟨congrArg (Value.int .i64) (by rw [FO,if_pos (by omega)];exact (hr.trans ((GV (by omega)).trans (if_pos (by omega)))).symm),rfl⟩
 have f5:=h7;have h7:=BX h7;refine AH (NX (rq (rqr (sp 1 [(7,vI (1))] (se (rb 4 ?_))))));refine rl (fun mz a w=>∃ J2:Imm,∃ q:Nat,(J0.le J2)∧(1≤q∧q≤4)∧(∀ g:Nat,1≤g→g<q→FP Y ↑g=true)∧Slots 81 [(7,vI ↑q),(1,vP b1 0)] a∧a.defers=[]∧St J2 ((bX b1 #[vS a3 Y.cars.length a4,vS a5 Y.room.length a6,vS a0 Y.tracks.length a1] 26)::(b8++F)) w∧mz=4-q) ?_ ?_
 ·intro a w hS hD hW;exact ⟨_,J0,1,IR _,by omega,(fun g h1 h2=>by omega),hS.sub (.cons 7 rfl (.cons 1 rfl (.nil _))),hD,hW,rfl⟩
 rintro mz a w ⟨J2,q,hJ2,hq,g5,hS,hD,hW,rfl⟩
 refine AX hS hD hW ?_;clear hS hD hW a w;replace a8:=a8.mono hJ2;replace a9:=a9.mono hJ2;replace b0:=b0.mono hJ2;refine rq (rqr (sp 2 [(74,.bool (cmp .leq (↑q) (3)))] (se (rc 74 rfl (fun h8=>?_) (fun h8=>?_)))))
 ·
  have f6:=h8;have h8:=leq_t h8;refine AH (NX (rq (rb 5 (rqr ?_))));have ho:=g4.all (by omega);refine sd (dnb 77 0 0 b1 [vS a3 Y.cars.length a4,vS a5 Y.room.length a6,vS a0 Y.tracks.length a1]) (sp 1 [(78,vI (↑q))] (sd (dc 79 (fun I' hI=>(together_ct I' _ (Y) (↑q) ((BS a8 a9 b0).mono hI) (by assumption) :))) (sp 1 [(80,.bool (!(FP Y ↑q)))] (se (rc 80 rfl (fun h9=>?_) (fun h9=>?_))))))
  ·
   have f7:=h9;have h9:=CL h9;refine rqr (sp 1 [(2,vI (12))] (se (BO ((RB (RP (RP (RB (RP (AE (t:=2) [] (by kernel_rfl) rfl (TC _ (TT (TR _) (TB _ _))) (IT hJ0 hJ2) ?_))))))))));exact ⟨congrArg (Value.int .i64) (by rw [FO,if_pos (by omega)];exact (hr.trans ((GV (by omega)).trans ((if_neg (by omega)).trans (refG_hit (by omega) (by omega) h9)))).symm),rfl⟩
  have f7:=h9;have h9:=BW h9;refine AH (NB (NX (rr (sp 1 [(75,vI (↑q))] (sd (da 76 (↑q) (1)) (sp 1 [(7,vI (↑q+1))] (ee ?_)))))));refine AG (4-(q+1)) (by omega) ?_;intro a w hS hD hW;exact ⟨J2,q+1,hJ2,by omega,(fun g h1 h2=>if h:g<q then g5 g h1 h else (show q=g by omega)▸h9),hS.sub (.consE 7 rfl rfl (.cons 1 rfl (.nil _))),hD,hW,rfl⟩
 have f6:=h8;have h8:=leq_f h8;refine CC 4 ((EP (EP (EB (NX (rqr (sp 1 [(2,vI (0))] (se (BO (AE (t:=2) [] (by kernel_rfl) rfl (TC _ (TT (TR _) (TB _ _))) (IT hJ0 hJ2) ?_))))))))));exact ⟨congrArg (Value.int .i64) (by rw [FO,if_pos (by omega)];exact (hr.trans ((GV (by omega)).trans ((if_neg (by omega)).trans (refG_ok (fun g h1 h2=>g5 g h1 (by omega)))))).symm),rfl⟩
end Go.Proofs.YtcaocbhbofejnaaGreatDoor
namespace Go.Sh
open Go Go.Sl
def stG (cs:List Car) (g:Int):Bool→List Int→Nat
  | _,[]=>0
  | p,c::r=>(if grp cs c=g∧p=false then 1 else 0)+stG cs g (decide (grp cs c=g)) r
def sumG (cs:List Car) (g:Int):List (List Int)→Nat
  | []=>0
  | t::ts=>stG cs g false t+sumG cs g ts
def inN (g:Int) (met:List Int):Nat:=if g∈met then 1 else 0
def MH (cs:List Car) (g:Int) (t:List Int) (k:Nat):Bool:=decide (0<k)&&decide (grp cs (t.getD (k-1) 0)=g)
theorem goG_st {cs : List Car} {ts : List (List Int)} {t : List Int} (ih : ∀ met, goGs cs ts met = 0 ↔ ∀ g, 0 < g → inN g met + sumG cs g ts ≤ 1) : ∀ (m k : Nat) (met : List Int), k + m = t.length →
    (∀ g,0<g→MH cs g t k=true→g∈met) →
    (goG cs t (goGs cs ts) k (t.drop k) met=0↔∀ g,0<g→inN g met+stG cs g (MH cs g t k) (t.drop k)+sumG cs g ts≤1):=by
  intro m
  induction m with
  | zero=>
    intro k met hk _;rw [goG_done (by omega),ih,DA (by omega)];simp only [stG,Nat.add_zero]
  | succ m ihm=>
    intro k met hk hp;have hlt:k<t.length:=by omega
    have hcons:t.drop k=t.getD k 0::t.drop (k+1):=BR hlt;have hpk:∀ g,MH cs g t (k+1)=decide (grp cs (t.getD k 0)=g):=fun g=>by simp [MH]
    by_cases hb:(decide (0<grp cs (t.getD k 0))&&(decide (grp cs (t.getD k 0)∈met)&&!(CE cs t ↑k)))=true
    · rw [goG_hit hlt hb]
      simp only [Bool.and_eq_true,decide_eq_true_eq,Bool.not_eq_true'] at hb;refine ⟨(fun h=>by cases h),fun h=>?_⟩
      exfalso
      have h1:=h _ hb.1;have hnp:MH cs (grp cs (t.getD k 0)) t k=false:=by
        cases hq:MH cs (grp cs (t.getD k 0)) t k with
        | false=>rfl
        | true=>
          simp only [MH,Bool.and_eq_true,decide_eq_true_eq] at hq;rw [OJ hlt hb.1 hq.1 hq.2] at hb;cases hb.2.2
      rw [hcons,hnp] at h1;have e1:inN (grp cs (t.getD k 0)) met=1:=if_pos hb.2.1;have e2:∀ r,stG cs (grp cs (t.getD k 0)) false (t.getD k 0::r)=1+stG cs (grp cs (t.getD k 0)) (decide (grp cs (t.getD k 0)=grp cs (t.getD k 0))) r:=fun r=>by
        show (if _ then 1 else 0)+_=_;rw [if_pos ⟨rfl,rfl⟩]
      rw [e1,e2] at h1;omega
    · have hb':=Bool.eq_false_iff.2 hb
      rw [goG_miss hlt hb',ihm (k+1) _ (by omega) ?_]
      · refine forall_congr' fun g=>forall_congr' fun hg=>?_
        rw [hpk,hcons];have hst:stG cs g (MH cs g t k) (t.getD k 0::t.drop (k+1))=(if grp cs (t.getD k 0)=g∧MH cs g t k=false then 1 else 0)+stG cs g (decide (grp cs (t.getD k 0)=g)) (t.drop (k+1)):=rfl;rw [hst];have hin:inN g (if grp cs (t.getD k 0)∈met then met else met++[grp cs (t.getD k 0)])=inN g met+(if grp cs (t.getD k 0)=g∧MH cs g t k=false then 1 else 0):=by
          by_cases e:grp cs (t.getD k 0)=g
          · cases hq:MH cs g t k with
            | true=>
              have hm:=hp g hg hq;rw [e,if_pos hm,if_neg (by simp)];rfl
            | false=>
              have hnm:g∉met:=fun hm=>by
                have hc:CE cs t ↑k=false:=by
                  cases hc:CE cs t ↑k with
                  | false=>rfl
                  | true=>
                    obtain ⟨c1,c2,c3⟩:=coupled_to hlt hc;have:MH cs g t k=true:=by
                      simp only [MH,Bool.and_eq_true,decide_eq_true_eq];exact ⟨c1,c3.symm.trans e⟩
                    rw [hq] at this;cases this
                rw [e,hc] at hb;simp [hg,hm] at hb
              rw [e,if_neg hnm];simp [inN,hnm]
          · have e':¬ g=grp cs (t.getD k 0):=fun h=>e h.symm
            by_cases hG:grp cs (t.getD k 0)∈met
            · rw [if_pos hG,if_neg (fun hh=>e hh.1)];rfl
            · rw [if_neg hG,if_neg (fun hh=>e hh.1),Nat.add_zero]
              unfold inN;simp only [List.mem_append,List.mem_singleton,e',or_false]
        rw [hin]
        generalize stG cs g (decide (grp cs (t.getD k 0)=g)) (t.drop (k+1))=S
        constructor <;> intro h <;> omega
      · intro g hg hq
        rw [hpk] at hq;have e:=of_decide_eq_true hq;subst e
        split
        · assumption
        · simp
theorem goGs_st {cs:List Car}:∀ (ts:List (List Int)) (met:List Int),goGs cs ts met=0↔∀ g,0<g→inN g met+sumG cs g ts≤1:=by
  intro ts
  induction ts with
  | nil=>
    intro met;refine ⟨fun _ g _=>?_,fun _=>rfl⟩;unfold inN sumG;split <;> omega
  | cons t ts ih=>
    intro met;have h:=goG_st (cs:=cs) (ts:=ts) (t:=t) ih t.length 0 met (by omega) (fun g _ h=>by simp [MH] at h);rw [List.drop_zero] at h;show goG cs t (goGs cs ts) 0 t met=0↔_;rw [h];refine forall_congr' fun g=>forall_congr' fun hg=>?_
    have e:MH cs g t 0=false:=by simp [MH]
    rw [e];show _↔inN g met+(stG cs g false t+sumG cs g ts)≤1
    constructor <;> intro h <;> omega
theorem groups_sum {Y:Yard}:DH Y=0↔∀ g,0<g→sumG Y.cars g Y.tracks≤1:=by
  unfold DH;rw [goGs_st];refine forall_congr' fun g=>forall_congr' fun _=>?_
  have e:inN g []=0:=by simp [inN]
  rw [e,Nat.zero_add]
def JG (prev:Bool) (row most c n:Nat):Prop:=
  (n=0→row=0∧most=0∧c=0∧prev=false)∧(n=1→most=c∧0<c∧row=if prev=true then c else 0)∧(2≤n→most<c∧row<c)
theorem JG_reset {prev:Bool} {row most c n:Nat} (h:JG prev row most c n):JG false 0 most c n:=by
  obtain ⟨h0,h1,h2⟩:=h;refine ⟨fun h=>?_,fun h=>?_,fun h=>?_⟩
  · have:=h0 h;exact ⟨rfl,this.2.1,this.2.2.1,rfl⟩
  · have:=h1 h;exact ⟨this.1,this.2.1,by simp⟩
  · have:=h2 h;omega
theorem JG_step {prev : Bool} {row most c n : Nat} (x : Bool) (h : JG prev row most c n) :
    JG x (if x=true then row+1 else 0) (max most (if x=true then row+1 else 0)) (c+if x=true then 1 else 0) (n+if x=true∧prev=false then 1 else 0):=by
  cases x with
  | false=>
    show JG false 0 (max most 0) (c+0) (n+0);rw [Nat.max_zero];exact JG_reset h
  | true=>
    obtain ⟨h0,h1,h2⟩:=h;cases prev with
    | false=>
      show JG true (row+1) (max most (row+1)) (c+1) (n+1);refine ⟨fun hn=>by omega,fun hn=>?_,fun hn=>?_⟩
      · have:=h0 (by omega);rw [if_pos rfl];omega
      · rcases Nat.lt_or_ge n 2 with h | h
        · have:=h1 (by omega);rw [if_neg (by decide)] at this;omega
        · have:=h2 h;omega
    | true=>
      show JG true (row+1) (max most (row+1)) (c+1) (n+0);refine ⟨fun hn=>?_,fun hn=>?_,fun hn=>?_⟩
      · have:=(h0 (by omega)).2.2.2;cases this
      · have:=h1 (by omega);rw [if_pos rfl] at this ⊢;omega
      · have:=h2 (by omega);omega
def cntT (cs:List Car) (g:Int):List Int→Nat
  | []=>0
  | c::r=>(if grp cs c=g then 1 else 0)+cntT cs g r
theorem cntT_append (cs:List Car) (g:Int) (a b:List Int):cntT cs g (a++b)=cntT cs g a+cntT cs g b:=by
  induction a with
  | nil=>simp [cntT]
  | cons c a ih=>simp only [List.cons_append,cntT,ih];omega
theorem JG_fold {cs : List Car} {g : Int} : ∀ (t : List Int) (prev : Bool) (s : Nat × Nat) (c n : Nat), JG prev s.1 s.2 c n →
    ∃ prev',JG prev' (t.foldl (rowS cs g) s).1 (t.foldl (rowS cs g) s).2 (c+cntT cs g t) (n+stG cs g prev t):=by
  intro t
  induction t with
  | nil=>intro prev s c n h;exact ⟨prev,h⟩
  | cons x t ih=>
    intro prev s c n h;have h1:=JG_step (decide (grp cs x=g)) h;have e1:rowS cs g s x=((if decide (grp cs x=g)=true then s.1+1 else 0),max s.2 (if decide (grp cs x=g)=true then s.1+1 else 0)):=by simp [rowS]
    have h2:=ih (decide (grp cs x=g)) (rowS cs g s x) (c+if decide (grp cs x=g)=true then 1 else 0) (n+if decide (grp cs x=g)=true∧prev=false then 1 else 0) (by rw [e1];exact h1);obtain ⟨p,hp⟩:=h2;refine ⟨p,?_⟩;have e2:c+cntT cs g (x::t)=c+(if decide (grp cs x=g)=true then 1 else 0)+cntT cs g t:=by
      simp only [cntT,decide_eq_true_eq];omega
    have e3:n+stG cs g prev (x::t)=n+(if decide (grp cs x=g)=true∧prev=false then 1 else 0)+stG cs g (decide (grp cs x=g)) t:=by
      simp only [stG,decide_eq_true_eq];omega
    rw [e2,e3];exact hp
theorem JG_all {cs : List Car} {g : Int} : ∀ (ts : List (List Int)) (most c n : Nat), JG false 0 most c n →
    JG false 0 (ts.foldl (fun most t=>(rowT cs g most t).2) most) (c+cntT cs g ts.flatten) (n+sumG cs g ts):=by
  intro ts
  induction ts with
  | nil=>intro most c n h;exact h
  | cons t ts ih=>
    intro most c n h;obtain ⟨p,hp⟩:=JG_fold t false (0,most) c n h;have:=ih (rowT cs g most t).2 _ _ (JG_reset hp);have e2:c+cntT cs g (t::ts).flatten=c+cntT cs g t+cntT cs g ts.flatten:=by rw [List.flatten_cons,cntT_append];omega
    have e3:n+sumG cs g (t::ts)=n+stG cs g false t+sumG cs g ts:=by show n+(_+_)=_;omega
    rw [e2,e3];exact this
theorem cntT_filter (cs:List Car) (g:Int) (t:List Int):cntT cs g t=(t.filter fun c=>decide (grp cs c=g)).length:=by
  induction t with
  | nil=>rfl
  | cons c t ih=>
    simp only [cntT,ih]
    by_cases h:grp cs c=g
    · rw [if_pos h,List.filter_cons,if_pos (decide_eq_true h),List.length_cons];omega
    · rw [if_neg h,List.filter_cons,if_neg (by simpa using h)];omega
theorem cntT_perm {cs:List Car} {g:Int} {a b:List Int} (h:a.Perm b):cntT cs g a=cntT cs g b:=by
  rw [cntT_filter,cntT_filter];exact (h.filter _).length_eq
theorem cntT_whole {cs:List Car} {g:Int}:∀ k,k≤cs.length→cntT cs g (GS k)=cntG (cs.take k) g:=by
  intro k
  induction k with
  | zero=>intro _;simp [GS,cntT,cntG]
  | succ k ih=>
    intro hk;rw [NE,cntT_append,ih (by omega),cntG_succ (by omega)];simp only [cntT,grp,FJ,Int.toNat_natCast,Nat.add_zero];rfl
theorem GP {Y:Yard} (hp:Y.tracks.flatten.Perm (GS Y.cars.length)) (g:Int):FP Y g=true↔sumG Y.cars g Y.tracks≤1:=by
  have h:=JG_all (cs:=Y.cars) (g:=g) Y.tracks 0 0 0 ⟨fun _=>⟨rfl,rfl,rfl,rfl⟩,fun h=>by omega,fun h=>by omega⟩;rw [Nat.zero_add,Nat.zero_add,cntT_perm hp,cntT_whole _ (Nat.le_refl _),List.take_length] at h;unfold FP;rw [decide_eq_true_eq];have e:mostTo Y.cars g Y.tracks=Y.tracks.foldl (fun most t=>(rowT Y.cars g most t).2) 0:=rfl;rw [e];obtain ⟨h0,h1,h2⟩:=h;omega
theorem goG_012 {cs:List Car} {t:List Int} {fin:List Int→Int} (hf:∀ m,fin m=0∨fin m=12):∀ (l:List Int) (k:Nat) (met:List Int),goG cs t fin k l met=0∨goG cs t fin k l met=12:=by
  intro l
  induction l with
  | nil=>intro k met;exact hf met
  | cons c r ih=>
    intro k met;simp only [goG]
    split
    · exact .inr rfl
    · exact ih _ _
theorem goGs_012 {cs:List Car}:∀ (ts:List (List Int)) (met:List Int),goGs cs ts met=0∨goGs cs ts met=12:=by
  intro ts
  induction ts with
  | nil=>intro met;exact .inl rfl
  | cons t r ih=>intro met;exact goG_012 ih _ _ _
theorem sumG_none {cs:List Car} {g:Int} (h:∀ c,grp cs c≠g):∀ ts,sumG cs g ts=0:=by
  have h1:∀ (t:List Int) (p:Bool),stG cs g p t=0:=by
    intro t
    induction t with
    | nil=>intro p;rfl
    | cons c t ih=>intro p;simp only [stG,ih,h c,false_and,if_false]
  intro ts
  induction ts with
  | nil=>rfl
  | cons t ts ih=>simp only [sumG,ih,h1]
theorem refG_eq {Y:Yard} (hp:Y.tracks.flatten.Perm (GS Y.cars.length)) (hg:∀ c∈Y.cars,0≤c.grp∧c.grp≤3):refG Y=DH Y:=by
  have h3:∀ c,grp Y.cars c≤3:=fun c=>by
    unfold grp FJ
    by_cases hc:c.toNat<Y.cars.length
    · exact (hg _ (AJ (d:=AD) hc)).2
    · simp [List.getD,List.getElem?_eq_none (Nat.le_of_not_lt hc),AD]
  have hr:refG Y=0∨refG Y=12:=by unfold refG;split <;> simp
  have hs:DH Y=0∨DH Y=12:=goGs_012 _ _;have hi:refG Y=0↔DH Y=0:=by
    rw [groups_sum]
    constructor
    · intro h g hg0
      unfold refG at h
      split at h
      · rename_i hh
        simp only [Bool.and_eq_true] at hh
        by_cases hg3:g≤3
        · have:g=1∨g=2∨g=3:=by omega
          rcases this with rfl | rfl | rfl
          · exact (GP hp 1).1 hh.1
          · exact (GP hp 2).1 hh.2.1
          · exact (GP hp 3).1 hh.2.2
        · rw [sumG_none (fun c=>by have:=h3 c;omega)];omega
      · cases h
    · intro h
      unfold refG;rw [if_pos];simp only [Bool.and_eq_true];exact ⟨(GP hp 1).2 (h 1 (by omega)),(GP hp 2).2 (h 2 (by omega)),(GP hp 3).2 (h 3 (by omega))⟩
  rcases hr with a | a <;> rcases hs with b | b
  · rw [a,b]
  · rw [hi.1 a] at b;cases b
  · rw [hi.2 b] at a;cases a
  · rw [a,b]
theorem goTrack_congr {n:Nat} {f1 f2:List Int→Int}:∀ (t met:List Int),met.Nodup→((∀ c∈t,0≤c∧c<n)→(met++t).Nodup→f1 (met++t)=f2 (met++t))→DP n f1 t met=DP n f2 t met:=by
  intro t
  induction t with
  | nil=>intro met hn h;have:=h (fun c hc=>by simp at hc) (by simpa using hn);simpa [DP] using this
  | cons c r ih=>
    intro met hn h;simp only [DP]
    split
    · rename_i h1
      split
      · rfl
      · rename_i h2
        refine ih (met++[c]) (met_snoc hn h2) fun g1 g2=>?_
        rw [List.append_assoc] at g2 ⊢;refine h (fun x hx=>?_) g2;have:=inB_t h1;rcases List.mem_cons.1 hx with rfl | hx
        · omega
        · exact g1 x hx
    · rfl
theorem goTracks_congr {cs:List Car} {f1 f2:List Int→Int}:∀ (ts:List (List Int)) (rm met:List Int),met.Nodup→(OkAll cs ts→(met++ts.flatten).Nodup→f1 (met++ts.flatten)=f2 (met++ts.flatten))→CO cs f1 ts rm met=CO cs f2 ts rm met:=by
  intro ts
  induction ts with
  | nil=>intro rm met hn h;have:=h OkAll.nil (by simpa using hn);simpa [CO] using this
  | cons t r ih=>
    intro rm met hn h;simp only [CO];refine goTrack_congr t met hn fun g1 g2=>?_
    split
    · rfl
    · refine ih rm.tail (met++t) g2 fun k1 k2=>?_
      rw [List.append_assoc] at k2 ⊢
      have:=h (fun x hx=>by
        rcases List.mem_cons.1 hx with rfl | hx
        · exact g1
        · exact k1 x hx) (by simpa using k2)
      simpa using this
theorem refCheck_eq (Y:Yard):QL Y=checkErr Y:=by
  rw [checkErr_split];unfold QL
  by_cases h:CQ Y=0
  · rw [if_pos h,if_pos h]
    unfold FO EG
    split
    · refine goTracks_congr _ _ _ (by simp) fun g1 g2=>?_
      simp only [List.nil_append] at g2 ⊢
      split
      · rfl
      · rename_i hl
        refine refG_eq (whole_perm_of g2 (fun x hx=>MC g1 x hx) (by omega)) fun c hc=>?_
        unfold CQ at h
        split at h
        · cases h
        · split at h
          · rename_i h2
            exact (carOk_range (of_decide_eq_true (List.all_eq_true.1 h2 c hc))).2.2.2
          · cases h
    · rfl
  · rw [if_neg h,if_neg h]
def lastB (cs:List Car) (g:Int):Bool→List Int→Bool
  | p,[]=>p
  | _,c::r=>lastB cs g (decide (grp cs c=g)) r
theorem stG_append {cs:List Car} {g:Int}:∀ (a b:List Int) (p:Bool),stG cs g p (a++b)=stG cs g p a+stG cs g (lastB cs g p a) b:=by
  intro a
  induction a with
  | nil=>intro b p;simp [stG,lastB]
  | cons c a ih=>intro b p;simp only [List.cons_append,stG,lastB,ih];omega
theorem lastB_at {cs:List Car} {g:Int}:∀ (a:List Int) (p:Bool),0<a.length→lastB cs g p a=decide (grp cs (a.getD (a.length-1) 0)=g):=by
  intro a
  induction a with
  | nil=>intro p h;simp at h
  | cons c a ih=>
    intro p _;cases a with
    | nil=>simp [lastB]
    | cons d r=>
      show lastB cs g (decide (grp cs c=g)) (d::r)=_;rw [ih _ (by simp)];simp
theorem stG_tf {cs:List Car} {g:Int} (b:List Int):stG cs g false b=stG cs g true b+if 0<b.length∧grp cs (b.getD 0 0)=g then 1 else 0:=by
  cases b with
  | nil=>simp [stG]
  | cons c r=>
    simp only [stG,List.length_cons,List.getD_cons_zero]
    by_cases h:grp cs c=g <;> simp [h] <;> omega
theorem stG_le {cs:List Car} {g:Int} (p:Bool) (b:List Int):stG cs g p b≤stG cs g false b:=by
  cases p with
  | false=>exact Nat.le_refl _
  | true=>rw [stG_tf b];omega
theorem stG_app_le {cs:List Car} {g:Int} (a b:List Int):stG cs g false (a++b)≤stG cs g false a+stG cs g false b:=by
  rw [stG_append];have:=stG_le (cs:=cs) (g:=g) (lastB cs g false a) b;omega
theorem stG_cut {cs : List Car} {g : Int} {A : List Int} {n : Nat} (h : 0 < n → n < A.length → ¬ (grp cs (A.getD (n - 1) 0) = g ∧ grp cs (A.getD n 0) = g)) :
    stG cs g false A=stG cs g false (A.take n)+stG cs g false (A.drop n):=by
  have e:stG cs g false A=stG cs g false (A.take n++A.drop n):=by rw [List.take_append_drop]
  rw [e,stG_append]
  congr 1
  by_cases hn:0<n∧n<A.length
  · have hl:(A.take n).length=n:=by rw [List.length_take];omega
    rw [lastB_at _ _ (by omega),hl];have e1:(A.take n).getD (n-1) 0=A.getD (n-1) 0:=by simp only [List.getD,List.getElem?_take];rw [if_pos (by omega)]
    rw [e1]
    by_cases hq:grp cs (A.getD (n-1) 0)=g
    · have h2:¬ grp cs (A.getD n 0)=g:=fun hh=>h hn.1 hn.2 ⟨hq,hh⟩
      rw [decide_eq_true hq,stG_tf (A.drop n)];have e2:(A.drop n).getD 0 0=A.getD n 0:=by simp [List.getD]
      rw [e2,if_neg (fun hh=>h2 hh.2)];omega
    · rw [decide_eq_false hq]
  · by_cases h0:n=0
    · subst h0;simp [lastB]
    · rw [DA (by omega)];simp [stG]
theorem sumG_set {cs:List Car} {g:Int} (X:List Int):∀ (ts:List (List Int)) (i:Nat),i<ts.length→sumG cs g (ts.set i X)+stG cs g false (ts.getD i [])=sumG cs g ts+stG cs g false X:=by
  intro ts
  induction ts with
  | nil=>intro i h;simp at h
  | cons t ts ih=>
    intro i h;cases i with
    | zero=>simp only [List.set_cons_zero,sumG,List.getD_cons_zero];omega
    | succ i=>simp only [List.set_cons_succ,sumG,List.getD_cons_succ];have:=ih i (by simpa using h);omega
theorem free_cut {Y:Yard} {s:Shift} (m:MayOk Y s) (g:Int) (hg:0<g):0<(GA Y s).toNat→(GA Y s).toNat<(trk Y s.frm).length→¬ (grp Y.cars ((trk Y s.frm).getD ((GA Y s).toNat-1) 0)=g∧grp Y.cars ((trk Y s.frm).getD (GA Y s).toNat 0)=g):=fun h1 h2 hh=>by
  have hf:=m.free;have e:GA Y s=↑(GA Y s).toNat:=by omega
  rw [e,OJ h2 (by rw [hh.2];exact hg) h1 (hh.1.trans hh.2.symm)] at hf;cases hf
theorem moved_trk {Y:Yard} {s:Shift} (m:MayOk Y s):trk (moved Y s) s.frm=(trk Y s.frm).take (GA Y s).toNat∧trk (moved Y s) s.to=trk Y s.to++(trk Y s.frm).drop (GA Y s).toNat:=by
  have hf:=m.frm;have ht:=m.to;have hne:=m.ne;have hne':s.frm.toNat≠s.to.toNat:=by omega
  constructor
  · simp only [trk,moved,List.getD]
    rw [List.getElem?_set_self (by rw [List.length_set];omega)];rfl
  · simp only [trk,moved,List.getD]
    rw [List.getElem?_set_ne hne',List.getElem?_set_self (by omega)];rfl
theorem moved_other {Y:Yard} {s:Shift} {k:Nat} (h1:k≠s.frm.toNat) (h2:k≠s.to.toNat):(moved Y s).tracks.getD k []=Y.tracks.getD k []:=by
  simp only [moved,List.getD];rw [List.getElem?_set_ne (Ne.symm h1),List.getElem?_set_ne (Ne.symm h2)]
theorem lenOf_cut (cs:List Car) (A:List Int) (n:Nat):lenOf cs A=lenOf cs (A.take n)+lenOf cs (A.drop n):=by
  rw [← LH,List.take_append_drop]
theorem moved_sum {Y:Yard} {s:Shift} (m:MayOk Y s) (g:Int) (hg:0<g):sumG Y.cars g (moved Y s).tracks≤sumG Y.cars g Y.tracks:=by
  have hf:=m.frm;have ht:=m.to;have hne:=m.ne;have hne':s.to.toNat≠s.frm.toNat:=by omega
  have hc:=stG_cut (cs:=Y.cars) (g:=g) (A:=trk Y s.frm) (n:=(GA Y s).toNat) (free_cut m g hg);have ha:=stG_app_le (cs:=Y.cars) (g:=g) (trk Y s.to) ((trk Y s.frm).drop (GA Y s).toNat);have s1:=sumG_set (cs:=Y.cars) (g:=g) (trk Y s.to++(trk Y s.frm).drop (GA Y s).toNat) Y.tracks s.to.toNat (by omega);have s2:=sumG_set (cs:=Y.cars) (g:=g) ((trk Y s.frm).take (GA Y s).toNat) (Y.tracks.set s.to.toNat (trk Y s.to++(trk Y s.frm).drop (GA Y s).toNat)) s.frm.toNat (by rw [List.length_set];omega);have e2:(Y.tracks.set s.to.toNat (trk Y s.to++(trk Y s.frm).drop (GA Y s).toNat)).getD s.frm.toNat []=trk Y s.frm:=by
    simp only [trk,List.getD];rw [List.getElem?_set_ne hne']
  rw [e2] at s2;have e1:Y.tracks.getD s.to.toNat []=trk Y s.to:=rfl;rw [e1] at s1;show sumG Y.cars g ((Y.tracks.set s.to.toNat _).set s.frm.toNat _)≤_;omega
theorem Fine.mv {Y:Yard} {s:Shift} (f:Fine Y) (h:CJ Y s=0):Fine (moved Y s):=by
  have m:=mayOk h;have k:=kin_moved h;have gd:=f.good.moved h;have hf:=m.frm;have ht:=m.to;have hne:=m.ne;have sm:=f.good.small;refine ⟨f.cars,f.carOk,f.room1,f.room3,f.roomOk,by rw [k.len];exact f.len,gd.ok,k.perm.nodup_iff.2 f.nodup,fun i hi=>?_,by rw [k.perm.length_eq];exact f.all,?_⟩
  · rw [k.len] at hi
    have t1:=moved_trk m;have e0:(moved Y s).cars=Y.cars:=rfl;have e9:(moved Y s).room=Y.room:=rfl;rw [e0,e9]
    by_cases h1:i=s.frm.toNat
    · subst h1
      have e:(moved Y s).tracks.getD s.frm.toNat []=_:=t1.1;rw [e];have h2:=f.fits s.frm.toNat hi;have h3:=lenOf_cut Y.cars (trk Y s.frm) (GA Y s).toNat;have h4:=GI sm ((trk Y s.frm).drop (GA Y s).toNat);have e5:Y.tracks.getD s.frm.toNat []=trk Y s.frm:=rfl;rw [e5] at h2;omega
    · by_cases h2:i=s.to.toNat
      · subst h2
        have e:(moved Y s).tracks.getD s.to.toNat []=_:=t1.2;rw [e,LH];have:=m.fits;omega
      · rw [moved_other h1 h2];exact f.fits i hi
  · rw [groups_sum]
    intro g hg;have h1:=groups_sum.1 f.groups g hg;have h2:=moved_sum m g hg;exact Nat.le_trans h2 h1
end Go.Sh
namespace Go.Proofs.YtcaocbhbofejnaaGreatDoor
open Go Go.Sl Go.Sh
set_option maxRecDepth 100000
noncomputable def c_CheckR (p:List Nat):Code:=sub (AU Tryz.f44) p
theorem CheckR_ct (I:Imm) (y:Value) (Y:Yard) (y_f:IsYard I y Y):CtV Tryz.prog 44 #[y] I (vI (checkErr Y)):=by
 obtain ⟨y1,y2,y3,d1,a6,a7,a8⟩:=id y_f;subst d1;obtain ⟨a0,a1,b5,b8,b0,b6,b7,b9⟩:=id a6;subst b0;obtain ⟨a2,a3,c0,c3,b2,c1,c2,c4⟩:=id a7;subst b2;obtain ⟨a4,a5,c5,c8,b4,b3,c6,c7,c9,d0⟩:=id a8;subst b3;refine fr (args:=[_]) (N:=11) Tryz.func44 (fun F=>?_);show Run _ _ (c_CheckR []) _ _ [(0,.agg #[vS a0 Y.cars.length a1,vS a2 Y.room.length a3,vS a4 Y.tracks.length a5])] _ _;refine rnm (rqr ?_);refine sS (sb 1 26 #[vS a0 Y.cars.length a1,vS a2 Y.room.length a3,vS a4 Y.tracks.length a5] (fun b1=>(sp 1 [(2,vI (0))] (se (rq (rqr (sd (dnb 4 0 0 b1 [vS a0 Y.cars.length a1,vS a2 Y.room.length a3,vS a4 Y.tracks.length a5]) (sd (dc 5 (fun I' hI=>(checkCoaches_ct I' _ (Y) ((BS a6 a7 a8).mono hI) :))) (sp 1 [(3,vI ((CQ Y)))] (sn (sp 2 [(7,.bool (!(cmp .eql ((CQ Y)) (0))))] (se (rc 7 rfl (fun h1=>?_) (fun h1=>?_))))))))))))))
 ·
  have a9:=h1;have h1:=DE (CL h1);refine rqr (sp 2 [(2,vI ((CQ Y)))] (se (BO ((RP (AE (t:=2) [] (by kernel_rfl) rfl (TC _ (TR _)) (IR _) ?_))))));exact ⟨congrArg (Value.int .i64) (Eq.trans (b:=QL Y) (if_neg (by omega)).symm (refCheck_eq Y)),rfl⟩
 have a9:=h1;have h1:=DF (BW h1);refine AH (NX (rqr (sd (dnb 9 0 0 b1 [vS a0 Y.cars.length a1,vS a2 Y.room.length a3,vS a4 Y.tracks.length a5]) ?_)));have hz:=coachErr_zero (show CQ Y=0 by omega);refine sd (dc 10 (fun I' hI=>(checkTracksR_ct I' _ (Y) ((BS a6 a7 a8).mono hI) (by exact hz.1) (by exact hz.2) :))) (sp 1 [(2,vI ((FO Y)))] (se (BO (AE (t:=2) [] (by kernel_rfl) rfl (TC _ (TR _)) (IR _) ?_))));exact ⟨congrArg (Value.int .i64) (Eq.trans (b:=QL Y) (if_pos (by omega)).symm (refCheck_eq Y)),rfl⟩
end Go.Proofs.YtcaocbhbofejnaaGreatDoor
namespace Go.Sl
open Go
section
variable {ρ:Option Nat} {P:Program} {N:Nat} {ops:Array Oper} {i:Nat} {l:Sl} {I:Imm} {M:Seg} {ty:TypeId} {gd:Option (Nat × Bool)} {K:Sl→Imm→Seg→Prop}
end
inductive FpOk (ops:Array Oper) (i:Nat) (M:Seg):List (Nat × Seg)→Prop
  | nil:FpOk ops i M []
  | wait {k:Nat} {R:Seg} {fp:List (Nat × Seg)}:wt ops i k=true→FpOk ops i M fp→FpOk ops i M ((k,R)::fp)
  | none {k:Nat} {fp:List (Nat × Seg)}:FpOk ops i M fp→FpOk ops i M ((k,[])::fp)
  | part {k:Nat} {R Sx:Seg} {fp:List (Nat × Seg)}:M.Perm (R++Sx)→FpOk ops i M fp→FpOk ops i M ((k,R)::fp)
theorem FpOk.all {ops:Array Oper} {i:Nat} {M:Seg} {fp:List (Nat × Seg)} (h:FpOk ops i M fp):∀ p∈fp,wt ops i p.1=true∨∃ Sx,M.Perm (p.2++Sx):=by
  induction h with
  | nil=>intro p hp;simp at hp
  | wait h _ ih=>
    intro p hp;rcases List.mem_cons.1 hp with rfl | hp
    · exact .inl h
    · exact ih p hp
  | none _ ih=>
    intro p hp;rcases List.mem_cons.1 hp with rfl | hp
    · exact .inr ⟨M,List.Perm.refl _⟩
    · exact ih p hp
  | part h _ ih=>
    intro p hp;rcases List.mem_cons.1 hp with rfl | hp
    · exact .inr ⟨_,h⟩
    · exact ih p hp
section
variable {P:Program} {N:Nat} {ops:Array Oper} {als:List Nat} {al:List (Nat × Nat × Fresh)} {L0:Sl} {F0:Seg} {Kf:Sl→Imm→Seg→Prop} {fp:List (Nat × Seg)} {rest:List (Nat × Bool)} {i d:Nat} {v:Value} {l:Sl} {I:Imm} {M M':Seg}
def lkB (d:Nat) (v:Value) (L0:Sl):Prop:=match EJ d L0 with | some u=>v=u | none=>True
theorem lkOk {L0:Sl} {d:Nat} {v:Value} (h:lkB d v L0):∀ u,EJ d L0=some u→v=u:=fun u hu=>by
  unfold lkB at h;rw [hu] at h;exact h
theorem HW (h:Det P N ops i l I M d v) (next:OFPX P N ops als F0 Kf al L0 ((i,M)::fp) rest ((d,v)::l) I M) (hL:lkB d v L0:=by first | exact trivial | exact rfl):OFPX P N ops als F0 Kf al L0 fp ((i,true)::rest) l I M:=⟨d,v,M,[],h,by simp,lkOk hL,next⟩
theorem HN (h:Det P N ops i l I [] d v) (next:OFPX P N ops als F0 Kf al L0 ((i,[])::fp) rest ((d,v)::l) I M) (hL:lkB d v L0:=by first | exact trivial | exact rfl):OFPX P N ops als F0 Kf al L0 fp ((i,true)::rest) l I M:=⟨d,v,[],M,h,by simp,lkOk hL,next⟩
theorem ofx_part {Rx Sx:Seg} (hp:M.Perm (Rx++Sx)) (h:Det P N ops i l I Rx d v) (next:OFPX P N ops als F0 Kf al L0 ((i,Rx)::fp) rest ((d,v)::l) I M) (hL:lkB d v L0:=by first | exact trivial | exact rfl):OFPX P N ops als F0 Kf al L0 fp ((i,true)::rest) l I M:=⟨d,v,Rx,Sx,h,hp,lkOk hL,next⟩
theorem ofx_bs {T:TypeId} {n:Nat} {cs:Array Value} (ha:CP al i=some (d,.bs T n cs)) (next:∀ b,OFPX P N ops als F0 Kf al L0 fp rest ((d,.slice (some ⟨b,0,none⟩) n n)::l) I ((b,Obj.cells cs T (0,0))::M)):OFPX P N ops als F0 Kf al L0 fp ((i,false)::rest) l I M:=by
  unfold OFPX;rw [ha];exact next
def dsB (ops:Array Oper) (i:Nat) (L0:Sl):Bool:=match EK ops i with | some d=>(EJ d L0).isNone | none=>true
theorem dsB_nil (ops:Array Oper) (i:Nat):dsB ops i []=true:=by unfold dsB;split <;> rfl
theorem dsB_spec {L0:Sl} (h:dsB ops i L0=true):∀ d,EK ops i=some d→EJ d L0=none:=fun d hd=>by
  unfold dsB at h;rw [hd] at h;simpa using h
def knB (ops:Array Oper) (als:List Nat) (al:List (Nat × Nat × Fresh)) (rest:List (Nat × Bool)):Bool:=als.all fun j=>(CP al j).isSome||rest.any fun x=>!x.2&&(wt ops j x.1&&!(isAl als x.1))
theorem knB_spec (h:knB ops als al rest=true):Known ops als al rest:=fun j hj=>by
  obtain ⟨k,hk,e⟩:=List.any_eq_true.1 (show (als.any fun k=>Nat.beq k j)=true from hj);obtain rfl:=Nat.eq_of_beq_eq_true e;have:=List.all_eq_true.1 h k hk;simp only [Bool.or_eq_true,List.any_eq_true,Bool.and_eq_true,Bool.not_eq_true'] at this;rcases this with h1 | ⟨⟨a,b⟩,h2,h3,h4,h5⟩
  · exact .inl (Option.isSome_iff_exists.1 h1)
  · simp only at h3 h4 h5
    subst h3;exact .inr ⟨a,h2,h4,h5⟩
theorem MW {Mx : Seg → Seg} (ha : CP al i = none) (hp : ∀ F, (Mx F).Perm (M ++ F))
    (h:∀ F,Stp P N ops i l I (Mx F) fun l' I' M'=>∃ M1 al' L0',M'.Perm (M1++F)∧FpOk ops i M1 fp∧Ext P N ops als al L0 al' L0' l'∧knB ops als al' rest=true∧OFPX P N ops als F0 Kf al' L0' fp rest l' I' M1) (hS:dsB ops i L0=true:=by first | exact dsB_nil _ _ | kernel_rfl):OFPX P N ops als F0 Kf al L0 fp ((i,false)::rest) l I M:=by
  unfold OFPX;rw [ha];refine ⟨dsB_spec hS,?_⟩;exact fun F _=>Stp.perm (hp F).symm (Stp.mono (h F) fun l' I' M' ⟨M1,al',L0',a,b,e,k,c⟩=>⟨M1,al',L0',a,b.all,e,knB_spec k,c⟩)
theorem ofx_nx {F M1:Seg} (hp:M'.Perm (M1++F)) (hf:FpOk ops i M1 fp) (next:OFPX P N ops als F0 Kf al L0 fp rest l I M1) (hk:knB ops als al rest=true:=by kernel_rfl):∃ M1 al' L0',M'.Perm (M1++F)∧FpOk ops i M1 fp∧Ext P N ops als al L0 al' L0' l∧knB ops als al' rest=true∧OFPX P N ops als F0 Kf al' L0' fp rest l I M1:=⟨M1,al,L0,hp,hf,.inl ⟨rfl,rfl⟩,hk,next⟩
def asB (als:List Nat) (al:List (Nat × Nat × Fresh)):Bool:=al.all fun x=>isAl als x.1
theorem alFind_in:∀ (al:List (Nat × Nat × Fresh)) {i d:Nat} {E:Fresh},CP al i=some (d,E)→(i,d,E)∈al:=by
  intro al
  induction al with
  | nil=>intro i d E h;cases h
  | cons x r ih=>
    intro i d E h;unfold CP at h;cases hb:Nat.beq x.1 i with
    | true=>
      rw [hb] at h;simp only [cond_true,Option.some.injEq] at h;have e:=Nat.eq_of_beq_eq_true hb;rcases x with ⟨x1,x2⟩
      simp only at h e;subst h e;exact List.mem_cons_self
    | false=>
      rw [hb] at h;exact List.mem_cons_of_mem _ (ih h)
theorem asB_spec (h:asB als al=true):∀ i d E,CP al i=some (d,E)→isAl als i=true:=fun i d E hi=>List.all_eq_true.1 h _ (alFind_in al hi)
theorem ofx_nxE {F M1 : Seg} (t : Nat) (v : Value) (j d : Nat) (E : Fresh) (hp : M'.Perm (M1 ++ F)) (hf : FpOk ops i M1 fp) (hA : ∀ i' d' E', CP ((j, d, E) :: al) i' = some (d', E') → AlOk P N ops ((t, v) :: L0) i' d' E') (hv : EJ t l = some v)
    (next:OFPX P N ops als F0 Kf ((j,d,E)::al) ((t,v)::L0) fp rest l I M1) (hj:(CP al j).isNone=true:=by kernel_rfl) (hs:asB als ((j,d,E)::al)=true:=by kernel_rfl) (hk:knB ops als ((j,d,E)::al) rest=true:=by kernel_rfl) :
    ∃ M1 al' L0',M'.Perm (M1++F)∧FpOk ops i M1 fp∧Ext P N ops als al L0 al' L0' l∧knB ops als al' rest=true∧OFPX P N ops als F0 Kf al' L0' fp rest l I M1:=by
  refine ⟨M1,(j,d,E)::al,(t,v)::L0,hp,hf,.inr ⟨fun i' d' E' h=>?_,fun i' d' E' h=>⟨hA i' d' E' h,asB_spec hs i' d' E' h⟩,fun u w h=>?_⟩,hk,next⟩
  · unfold CP
    cases hb:Nat.beq j i' with
    | true=>
      have e:=Nat.eq_of_beq_eq_true hb;rw [e,h] at hj;cases hj
    | false=>exact h
  · unfold EJ at h
    cases hb:Nat.beq t u with
    | true=>
      have e:=Nat.eq_of_beq_eq_true hb;rw [hb] at h;simp only [cond_true,Option.some.injEq] at h;rw [← e,← h];exact .inl hv
    | false=>
      rw [hb] at h;exact .inr h
theorem ofx_end (h:Kf l I M):OFPX P N ops als F0 Kf al L0 fp [] l I M:=h
def supB (ops:Array Oper) (i:Nat) (L0:Sl):Bool:=match ops[i]? with
  | some o=>(o.looksAt ops).all fun t=>(EJ t L0).isSome&&(List.range ops.size).all fun k=>!(dstB ops k t)||wt ops i k
  | none=>false
theorem supB_spec {L0:Sl} (h:supB ops i L0=true):∀ t,EN ops i t=true→∃ u,EJ t L0=some u∧∀ k,EK ops k=some t→wt ops i k=true:=fun t ht=>by
  unfold supB at h;unfold EN at ht;cases ho:ops[i]? with
  | none=>rw [ho] at h;cases h
  | some o=>
    rw [ho] at h ht;simp only [List.all_eq_true,Bool.and_eq_true,List.any_eq_true,Bool.or_eq_true,Bool.not_eq_true'] at h ht;obtain ⟨u,hu,e⟩:=ht;obtain rfl:=Nat.eq_of_beq_eq_true e;obtain ⟨h1,h2⟩:=h u hu;obtain ⟨v,hv⟩:=Option.isSome_iff_exists.1 h1;refine ⟨v,hv,fun k hk=>?_⟩;rcases h2 k (List.mem_range.2 (PJ hk)) with h3 | h3
    · rw [OM hk] at h3;cases h3
    · exact h3
theorem KD {L0:Sl} {T:TypeId} {n:Nat} {cs:Array Value} (h1:EK ops i=some d) (h0:EJ d L0=none) (h2:supB ops i L0=true) (h3:bsAt P N ops L0 i=some (d,T,n,cs)):AlOk P N ops L0 i d (.bs T n cs):=
  ⟨h1,h0,supB_spec h2,fun I M=>sbs d T n cs (fun b=>⟨b,rfl,rfl,rfl⟩) h3⟩
theorem hA_nil:∀ i d E,CP [] i=some (d,E)→AlOk P N ops L0 i d E:=fun _ _ _ h=>by cases h
theorem MR {E:Fresh} (h:AlOk P N ops L0 i d E) (r:∀ i d E,CP al i=some (d,E)→AlOk P N ops L0 i d E):∀ i' d' E',CP ((i,d,E)::al) i'=some (d',E')→AlOk P N ops L0 i' d' E':=fun i' d' E' h'=>by
  unfold CP at h';cases hb:Nat.beq i i' with
  | true=>
    have e:=Nat.eq_of_beq_eq_true hb;rw [hb] at h';simp only [cond_true,Option.some.injEq,Prod.mk.injEq] at h';obtain ⟨rfl,rfl⟩:=h';exact e▸h
  | false=>
    rw [hb] at h';exact r i' d' E' h'
end
def alInjS (ops:Array Oper) (als:List Nat):Bool:=als.all fun i=>als.all fun j=>Nat.beq i j||!(match EK ops i,EK ops j with | some a,some b=>Nat.beq a b | _,_=>false)
theorem alInjS_spec {ops:Array Oper} {als:List Nat} (h:alInjS ops als=true):∀ i j d,isAl als i=true→isAl als j=true→EK ops i=some d→EK ops j=some d→i=j:=fun i j d hi hj h1 h2=>by
  obtain ⟨k,hk,e⟩:=List.any_eq_true.1 (show (als.any fun k=>Nat.beq k i)=true from hi);obtain rfl:=Nat.eq_of_beq_eq_true e;obtain ⟨k',hk',e'⟩:=List.any_eq_true.1 (show (als.any fun k=>Nat.beq k j)=true from hj);obtain rfl:=Nat.eq_of_beq_eq_true e';have:=List.all_eq_true.1 (List.all_eq_true.1 h _ hk) _ hk';rw [h1,h2] at this;simp only [Nat.beq_refl,Bool.not_true,Bool.or_false] at this;exact Nat.eq_of_beq_eq_true this
section
variable {ρ:Option Nat} {P:Program} {N:Nat} {Q:Exit→Act→World→Prop} {ds:List Deferred} {C:List Nat→Code} {p:List Nat} {l:Sl} {I:Imm} {M0 M F0:Seg}
def regB (ops:Array Oper) (L0:Sl):Bool:=L0.all fun x=>(List.range ops.size).any fun k=>dstB ops k x.1
theorem look_mem:∀ (L:Sl) {t:Nat} {u:Value},EJ t L=some u→∃ x∈L,x.1=t:=by
  intro L
  induction L with
  | nil=>intro t u h;cases h
  | cons x r ih=>
    intro t u h;rcases x with ⟨k,v⟩
    unfold EJ at h;cases hb:Nat.beq k t with
    | true=>exact ⟨_,List.mem_cons_self,Nat.eq_of_beq_eq_true hb⟩
    | false=>
      rw [hb] at h;obtain ⟨y,hy,e⟩:=ih h;exact ⟨y,List.mem_cons_of_mem _ hy,e⟩
theorem regB_spec {ops:Array Oper} {L0:Sl} (h:regB ops L0=true):∀ t u,EJ t L0=some u→∃ k,EK ops k=some t:=fun t u ht=>by
  obtain ⟨x,hx,rfl⟩:=look_mem L0 ht;obtain ⟨k,_,hk⟩:=List.any_eq_true.1 (List.all_eq_true.1 h x hx);refine ⟨k,?_⟩;unfold dstB at hk;unfold EK;cases ho:ops[k]? with
  | none=>rw [ho] at hk;cases hk
  | some o=>
    rw [ho] at hk;simp only at hk;cases hd:o.dst with
    | none=>rw [hd] at hk;cases hk
    | some d=>
      rw [hd] at hk;simp only at hk;rw [Nat.eq_of_beq_eq_true hk] at hd
      simpa using hd
theorem rdY (L0 : Sl) (als : List Nat) (al : List (Nat × Nat × Fresh)) (n0 : Nat) (order : List (Nat × Bool)) (hM : M0.Perm (M ++ F0)) (hA : ∀ i d E, CP al i = some (d, E) → AlOk P N (HX (C p)) L0 i d E) (h : OFPX P N (HX (C p)) als F0 (fun l I M => Seq (ρ := ρ) P N (HX (C p)) Q ds n0 l I (M ++ F0)) al L0 [] order l I M) (hI : (alInjS (HX (C p)) als && (asB als al && knB (HX (C p)) als al order)) = true := by kernel_rfl)
    (hm:P.follows .mixedOrders=true:=by kernel_rfl) (hc:isDrawn (C p)=true:=by kernel_rfl) (hok:okAllX als (HX (C p)) n0 order=true:=by kernel_rfl) (hr:regB (HX (C p)) L0=true:=by kernel_rfl):Run (ρ:=ρ) P N (C p) Q ds l I M0:=by
  obtain ⟨id,hid⟩:=LG hc;simp only [Bool.and_eq_true] at hI;exact fun a w hS hD hW=>run_drawX _ al n0 order hm hid hok hA (asB_spec hI.2.1) (knB_spec hI.2.2) (alInjS_spec hI.1) (fun t u ht=>.inl (regB_spec hr t u ht)) h a w hS hD (hW.perm hM)
end
end Go.Sl
namespace Go.Sh
open Go Go.Sl
def Rev {α:Type} (d:α) (xs zs:List α) (k:Nat):Prop:=zs.length=xs.length∧∀ p,p<xs.length→zs.getD p d=if p<k∨xs.length-k≤p then xs.getD (xs.length-1-p) d else xs.getD p d
theorem Rev.start {α:Type} (d:α) (xs:List α):Rev d xs xs 0:=⟨rfl,fun p hp=>by rw [if_neg (by omega)]⟩
theorem getD_set {α:Type} {d z:α} {xs:List α} {j p:Nat} (hj:j<xs.length):(xs.set j z).getD p d=if p=j then z else xs.getD p d:=by
  simp only [List.getD]
  by_cases e:j=p
  · subst e;rw [List.getElem?_set_self hj,if_pos rfl];rfl
  · rw [List.getElem?_set_ne e,if_neg (Ne.symm e)]
theorem Rev.step {α:Type} {d:α} {xs zs:List α} {k j:Nat} (h:Rev d xs zs k) (hj:j=xs.length-1-k) (hk:k<j):Rev d xs ((zs.set k (zs.getD j d)).set j (zs.getD k d)) (k+1):=by
  obtain ⟨h1,h2⟩:=h;refine ⟨by simp [h1],fun p hp=>?_⟩;rw [getD_set (by rw [List.length_set];omega),getD_set (by omega)]
  by_cases e1:p=j
  · subst e1
    rw [if_pos rfl,if_pos (by omega),h2 k (by omega),if_neg (by omega)]
    congr 1;omega
  · rw [if_neg e1]
    by_cases e2:p=k
    · subst e2
      rw [if_pos rfl,if_pos (by omega),h2 j (by omega),if_neg (by omega),hj]
    · rw [if_neg e2,h2 p hp]
      by_cases e3:p<k∨xs.length-k≤p
      · rw [if_pos e3,if_pos (by omega)]
      · rw [if_neg e3,if_neg (by omega)]
theorem Rev.done {α:Type} {d:α} {xs zs:List α} {k:Nat} (h:Rev d xs zs k) (hk:xs.length-1-k≤k):zs=xs.reverse:=by
  obtain ⟨h1,h2⟩:=h;refine list_eq (d:=d) (by simp [h1]) fun p hp=>?_
  rw [h1] at hp;have e:xs.reverse.getD p d=xs.getD (xs.length-1-p) d:=by
    simp only [List.getD];rw [List.getElem?_reverse hp]
  rw [e,h2 p hp]
  by_cases e3:p<k∨xs.length-k≤p
  · rw [if_pos e3]
  · rw [if_neg e3]
    congr 1;omega
end Go.Sh
namespace Go.Sl
open Go
end Go.Sl
namespace Go.Sh
open Go Go.Sl
section
variable {Y:Yard} {s:Shift} {k:Nat}
end
theorem yard_ext {A B:Yard} (h1:A.cars=B.cars) (h2:A.room=B.room) (h3:A.tracks=B.tracks):A=B:=by
  rcases A with ⟨a,b,c⟩;rcases B with ⟨a',b',c'⟩
  simp only at h1 h2 h3;rw [h1,h2,h3]
end Go.Sh
namespace Go.Proofs.YtcaocbhbofejnaaGreatDoor
open Go Go.Sl Go.Sh
set_option maxRecDepth 100000
noncomputable def c_EqualYards (p:List Nat):Code:=sub (AU Tryz.f31) p
theorem EqualYards_ct (I:Imm) (a:Value) (A:Yard) (b:Value) (B:Yard) (a_f:IsYard I a A) (b_f:IsYard I b B):CtV Tryz.prog 31 #[a,b] I (.bool (decide (A=B))):=by
 obtain ⟨a1,a2,a3,g0,d0,c3,c4⟩:=id a_f;subst g0;obtain ⟨a0,a4,e5,e8,c9,e6,e7,c2⟩:=id d0;subst c9;obtain ⟨a7,a8,e9,f2,d1,f0,f1,f3⟩:=id c3;subst d1;obtain ⟨a9,b0,f4,f7,e1,d2,f5,f6,f8,f9⟩:=id c4;subst d2;obtain ⟨b1,b2,b3,i1,d4,c6,c7⟩:=id b_f;subst i1;obtain ⟨a5,a6,g1,g4,d3,g2,g3,c5⟩:=id d4;subst d3;obtain ⟨b4,b5,g5,g8,d5,g6,g7,g9⟩:=id c6;subst d5;obtain ⟨b6,b7,h0,h8,e2,d6,h6,h7,h9,i0⟩:=id c7;subst d6;refine fr (args:=[_,_]) (N:=47) Tryz.func31 (fun F=>?_);show Run _ _ (c_EqualYards []) _ _ [(0,.agg #[vS a0 A.cars.length a4,vS a7 A.room.length a8,vS a9 A.tracks.length b0]),(1,.agg #[vS a5 B.cars.length a6,vS b4 B.room.length b5,vS b6 B.tracks.length b7])] _ _;refine rnm (rqr ?_);refine sS (sb 2 26 #[vS a0 A.cars.length a4,vS a7 A.room.length a8,vS a9 A.tracks.length b0] (fun b1=>(sS (sb 3 26 #[vS a5 B.cars.length a6,vS b4 B.room.length b5,vS b6 B.tracks.length b7] (fun b3=>(sp 1 [(4,.bool (false))] (se (rq (rq ?_)))))))));refine DQ (fun a w=>Slots 47 [(2,vP b1 0),(3,vP b3 0),(4,.bool (false)),(28,.bool ((!(cmp .eql (↑(A.cars.length)) (↑(B.cars.length))))||((!(decide (A.room=B.room)))||(!(decide (A.tracks=B.tracks))))))] a∧a.defers=[]∧St I ((bX b3 #[vS a5 B.cars.length a6,vS b4 B.room.length b5,vS b6 B.tracks.length b7] 26)::(bX b1 #[vS a0 A.cars.length a4,vS a7 A.room.length a8,vS a9 A.tracks.length b0] 26)::F) w) ?_ ?_
 ·
  refine rr (sp 1 [(6,vP b1 0)] (sd (dlb 7 1 0 b1 (vS a0 A.cars.length a4)) (sp 2 [(9,vP b3 0),(8,vI (↑(A.cars.length)))] (sd (dlb 10 0 0 b3 (vS a5 B.cars.length a6)) (sp 3 [(13,.bool (!(cmp .eql (↑(A.cars.length)) (↑(B.cars.length)))))] ?_)))));refine AY 13 rfl (fun h1=>?_) (fun h1=>?_)
  ·
   have b8:=h1;have b8:=DE (CL b8);refine sp 15 [(28,.bool (true))] (ee ?_);refine AL (fun a w hS hD hW=>⟨hS.sub (.cons 2 rfl (.cons 3 rfl (.cons 4 rfl (.consE 28 rfl (congrArg Value.bool (by simp only [h1,kA,kB,kC,kD,kE,kF,kG,kH,kI,kJ])) (.nil _))))),hD,hW⟩)
  have b8:=h1;have b8:=DF (BW b8);refine sp 1 [(14,vP b1 1)] (sd (dlb 15 1 1 b1 (vS a7 A.room.length a8)) (sp 1 [(16,vP b3 1)] (sd (dlb 17 0 1 b3 (vS b4 B.room.length b5)) (sd (dc 18 (fun I' hI=>(JA I' _ _ _ _ (c3.mono hI) (c6.mono hI) :))) (sp 3 [(21,.bool (!(decide (A.room=B.room))))] ?_)))));refine AY 21 rfl (fun h2=>?_) (fun h2=>?_)
  ·
   have b9:=h2;have b9:=GH (CL b9);refine sp 7 [(28,.bool (true))] (ee ?_);refine AL (fun a w hS hD hW=>⟨hS.sub (.cons 2 rfl (.cons 3 rfl (.cons 4 rfl (.consE 28 rfl (congrArg Value.bool (by simp only [h1,h2,kA,kB,kC,kD,kE,kF,kG,kH,kI,kJ])) (.nil _))))),hD,hW⟩)
  have b9:=h2;have b9:=FT (BW b9);refine sp 1 [(22,vP b1 2)] (sd (dlb 23 1 2 b1 (vS a9 A.tracks.length b0)) (sp 1 [(24,vP b3 2)] (sd (dlb 25 0 2 b3 (vS b6 B.tracks.length b7)) (sd (dc 26 (fun I' hI=>(PF I' _ _ _ _ (c4.mono hI) (c7.mono hI) :))) (sp 2 [(28,.bool (!(decide (A.tracks=B.tracks))))] (ee ?_))))));refine AL (fun a w hS hD hW=>⟨hS.sub (.cons 2 rfl (.cons 3 rfl (.cons 4 rfl (.consE 28 rfl (congrArg Value.bool (by simp only [h1,h2,kA,kB,kC,kD,kE,kF,kG,kH,kI,kJ])) (.nil _))))),hD,hW⟩)
 rintro a w ⟨hS,hD,hW⟩
 refine AX hS hD hW ?_;clear hS hD hW a w;refine rc 28 rfl (fun h3=>?_) (fun h3=>?_)
 ·
  have d8:=h3;refine rqr (sp 1 [(4,.bool (false))] (se (BO ((RP (AE (t:=4) [] (by kernel_rfl) rfl (TC _ (TC _ (TR _))) (IR _) ?_))))));exact ⟨congrArg Value.bool (decide_eq_false (fun e=>by subst e;simp [cmp] at h3)).symm,rfl⟩
 have d8:=h3;obtain ⟨c8,d7⟩:=or_f h3;have c8:=DF (BW c8);obtain ⟨c0,c1⟩:=or_f d7;have c0:=FT (BW c0);have c1:=FT (BW c1);refine AH (NX (rq (rqr (sp 1 [(5,vI (0))] (se (rb 0 ?_))))));refine rl (fun mz a w=>∃ k:Nat,(k≤A.cars.length)∧(A.cars.length=B.cars.length)∧(A.cars.take k=B.cars.take k)∧(A.room=B.room)∧(A.tracks=B.tracks)∧Slots 47 [(5,vI ↑k),(2,vP b1 0),(3,vP b3 0)] a∧a.defers=[]∧St I ((bX b3 #[vS a5 B.cars.length a6,vS b4 B.room.length b5,vS b6 B.tracks.length b7] 26)::(bX b1 #[vS a0 A.cars.length a4,vS a7 A.room.length a8,vS a9 A.tracks.length b0] 26)::F) w∧mz=A.cars.length-k) ?_ ?_
 ·intro a w hS hD hW;exact ⟨_,0,Nat.zero_le _,(by omega),rfl,(by assumption),(by assumption),hS.sub (.cons 5 rfl (.cons 2 rfl (.cons 3 rfl (.nil _)))),hD,hW,rfl⟩
 rintro mz a w ⟨k,hk,hl,ht,e3,e4,hS,hD,hW,rfl⟩
 refine AX hS hD hW ?_;clear hS hD hW a w;refine rq (rqr (sp 2 [(30,vP b1 0),(29,vI (↑k))] (sd (dlb 31 1 0 b1 (vS a0 A.cars.length a4)) (sp 2 [(33,.bool (cmp .lss (↑k) (↑(A.cars.length))))] (se (rc 33 rfl (fun h4=>?_) (fun h4=>?_)))))))
 ·
  have d9:=h4;have h4:=BZ h4;refine AH (NX (rq (rb 1 (rq ?_))));refine rd0 10 (ox 1 [(36,vP b1 0)] ?_);refine AB (dlb 37 1 0 b1 (vS a0 A.cars.length a4)) (ox 1 [(38,vI (↑k))] ?_);refine AB (di 39 6 (k) c2.addr) ?_;refine AB (DS (x:=(.tmp 39)) (T:=56) (n:=6) (vs:=[vI ((A.cars.getD (k) AD).len),vI ((A.cars.getD (k) AD).wt),vI ((A.cars.getD (k) AD).brk),vI ((A.cars.getD (k) AD).grp),.bool ((A.cars.getD (k) AD).pipe),.bool ((A.cars.getD (k) AD).heat)]) (d:=40) (ty:=56) (gd:=none) (by kernel_rfl) rfl (by kernel_rfl) (by kernel_rfl) rfl rfl (JU c2 (k) (by omega))) (ox 1 [(41,vP b3 0)] ?_);refine AB (dlb 42 0 0 b3 (vS a5 B.cars.length a6)) (ox 1 [(43,vI (↑k))] ?_);refine AB (di 44 6 (k) c5.addr) ?_;refine AB (DS (x:=(.tmp 44)) (T:=56) (n:=6) (vs:=[vI ((B.cars.getD (k) AD).len),vI ((B.cars.getD (k) AD).wt),vI ((B.cars.getD (k) AD).brk),vI ((B.cars.getD (k) AD).grp),.bool ((B.cars.getD (k) AD).pipe),.bool ((B.cars.getD (k) AD).heat)]) (d:=45) (ty:=56) (gd:=none) (by kernel_rfl) rfl (by kernel_rfl) (by kernel_rfl) rfl rfl (JU c5 (k) (by omega))) ?_;refine BT (sd (det_neqAgg (L:=[(0,.i .i64),(1,.i .i64),(2,.i .i64),(3,.i .i64),(4,.b),(5,.b)]) (x:=(.tmp 40)) (y:=(.tmp 45)) (T:=56) (T':=56) (d:=46) (ty:=4) (gd:=none) (by kernel_rfl) rfl (by kernel_rfl) rfl rfl rfl (eqCar (A.cars.getD (k) AD) (B.cars.getD (k) AD))) (se (rc 46 rfl (fun h5=>?_) (fun h5=>?_))))
  ·
   have e0:=h5;have h5:=GH (CL h5);refine rqr (sp 1 [(4,.bool (false))] (se (BO ((RB (RP (RP (RB (RP (AE (t:=4) [] (by kernel_rfl) rfl (TC _ (TC _ (TR _))) (IR _) ?_))))))))));exact ⟨congrArg Value.bool (decide_eq_false (fun e=>h5 (by rw [e]))).symm,rfl⟩
  have e0:=h5;have h5:=FT (BW h5);refine AH (NB (NX (rr (sp 1 [(34,vI (↑k))] (sd (da 35 (↑k) (1)) (sp 1 [(5,vI (↑k+1))] (ee ?_)))))));refine AG (A.cars.length-(k+1)) (by omega) ?_;intro a w hS hD hW;exact ⟨k+1,by omega,hl,LM (d:=AD) hl ht (by omega) h5,e3,e4,hS.sub (.consE 5 rfl rfl (.cons 2 rfl (.cons 3 rfl (.nil _)))),hD,hW,rfl⟩
 have d9:=h4;have h4:=BX h4;refine CC 0 ((EP (EP (EB (NX (rqr (sp 1 [(4,.bool (true))] (se (BO (AE (t:=4) [] (by kernel_rfl) rfl (TC _ (TC _ (TR _))) (IR _) ?_))))))))));exact ⟨congrArg Value.bool (decide_eq_true (yard_ext (OC hl ht (by omega)) e3 e4)).symm,rfl⟩
open Go Go.ChangeShapes Go.WideShapes Go.RowKit Go.Sl
theorem Row.own:ownKnob Tryz.prog.godebug=none:=by kernel_rfl
theorem Row.laidOut:laidOutB Tryz.prog=true:=by kernel_rfl
theorem Row.et:Tryz.prog.globalNamed "errors.errorType"=some 0:=by kernel_rfl
theorem Row.oneRow:((List.range 291).filter fun t=>Tryz.prog.rowNamed t [101,114,114,111,114])=[126]:=by kernel_rfl
theorem Row.size:Tryz.prog.types.size=291:=by kernel_rfl
theorem Row.cells:Tryz.prog.cellsOf 3=1:=by kernel_rfl
theorem Row.bytes:Tryz.prog.bytesOf 3=8:=by kernel_rfl
theorem handle_of_laid {W:World} (h:laidMetH Tryz.prog [("errors.errorType",Rows.laid_errors_errorType)] W):Glob (KX W):=by
  have h':laidMet Tryz.prog [] W∧handlesMet Tryz.prog [("errors.errorType",Rows.laid_errors_errorType)] W:=h
  obtain ⟨name,u,ty,e1,e2,e3,e4,e5⟩:=h'.2 _ (List.mem_singleton.2 rfl)
  have en:name=[101,114,114,111,114]:=(Option.some.inj e1).symm
  subst en
  obtain rfl:u=208:=Option.some.inj (e2.symm.trans (by kernel_rfl))
  have hm:ty∈(List.range 291).filter fun t=>Tryz.prog.rowNamed t [101,114,114,111,114]:=List.mem_filter.2 ⟨List.mem_range.2 (by rw [← Row.size];exact e3),e4⟩
  rw [Row.oneRow] at hm
  obtain rfl:=List.mem_singleton.1 hm
  have hh:typeHandle Tryz.prog 126=.pointer (some ⟨9,126,none⟩):=by kernel_rfl
  rw [hh] at e5
  have hc:W.cell? ⟨0,0,none⟩=some (.iface 208 (.agg #[.pointer (some ⟨9,126,none⟩)])):=by simpa using World.var?_cell Row.et e5 0
  obtain ⟨_,cs,T,fz,hb,hv⟩:=JM hc
  exact ⟨cs,T,fz,hb,hv⟩
noncomputable def laidWorld (os:Os):World:=
  let w0:=World.holding Tryz.prog os ⟨#[],#[],[]⟩
  { w0 with heap := w0.heap.modify 0 fun
      | .cells _ t frozen=>.cells #[.iface 208 (.agg #[.pointer (some ⟨9,126,none⟩)])] t frozen
      | o=>o }
theorem Row.lifts:(false == Tryz.pinned.checked.prog.liftsFinal)=true:=by kernel_rfl
theorem Row.make:(Tryz.pinned.checked.prog.make == some Make.cut)=true:=by kernel_rfl
theorem Row.looks:true=Tryz.pinned.checked.prog.looks []:=by kernel_rfl
end Go.Proofs.YtcaocbhbofejnaaGreatDoor

/- A part of the proof of the laws of this seat. -/
import Derived.Test.YtgcemienebmdeaaGreatLinenRenamedP6
import Derived.Test.YtgcemienebmdeaaGreatP2
import Derived.Test.YtgcemienebmdeaaGreatP4
import Derived.Test.YtgcemienebmdeaaGreatP3
set_option linter.unusedVariables false
set_option linter.unusedSimpArgs false
namespace Go.Proofs.YtgcemienebmdeaaGreat
open Go Go.Sl Go.Sh
set_option maxRecDepth 100000
noncomputable def c_Fold (p:List Nat):Code:=sub (AP Tryz.f66) p
theorem Foldx_ct (I:Imm) (x:Int) (n:Nat) (hn:n≤1000000):Ct Tryz.prog 66 #[vI x,vI ↑n] I ([]) (fun v I' M'=>∃ r:Nat,v=vI (↑r)∧M'=[]∧((r=0∨r<n)∧(2≤n→(r:Int)=x%n))):=by
 refine fr (args:=[_,_]) (N:=14) Tryz.func66 (fun F=>?_);show Run _ _ (c_Fold []) _ _ [(0,vI (x)),(1,vI (↑n))] _ _;refine rnm (rqr ?_);refine sp 1 [(4,vI (0))] (se (rq (rqr (sp 2 [(6,.bool (cmp .lss (↑n) (2)))] (se (rc 6 rfl (fun h1=>?_) (fun h1=>?_)))))))
 ·
  have a0:=h1;have h1:=CL h1;refine rqr (sp 1 [(4,vI (0))] (se (BL ((RP (AH (t:=4) [] (by kernel_rfl) rfl (TR _) (IR _) ?_))))));exact ⟨0,rfl,rfl,⟨.inl rfl,fun hq=>by omega⟩⟩
 have a0:=h1;have h1:=CT h1;refine AQ (NX (rqr (sp 2 [(8,vI (↑n)),(7,vI (x))] (sd (det_remT (x:=(.tmp 7)) (y:=(.tmp 8)) (T:=3) (T':=3) (d:=9) (ty:=3) (gd:=none) (by kernel_rfl) rfl rfl rfl (by omega)) (sp 1 [(10,vI (↑n))] ?_)))));have hq:=tmod_bounds (x:=x) (n:=n) (by omega);refine sd (da 11 (Int.tmod x ↑n) (↑n)) (sp 1 [(12,vI (↑n))] (sd (det_rem (x:=(.tmp 11)) (y:=(.tmp 12)) (T:=3) (T':=3) (d:=13) (ty:=3) (gd:=none) (by kernel_rfl) rfl rfl rfl (by omega) (by omega)) ?_));obtain ⟨r,hr,a1⟩:=fold_nat (x:=x) (n:=n) (by omega);have a2:(r:Int)=x%n:=hr▸fold_mod;refine CQ 13 rfl (show (vI (((Int.tmod x ↑n)+↑n)%↑n):Value)=vI (↑r) from congrArg (Value.int .i64) hr) (sp 1 [(4,vI (↑r))] (se (BL (AH (t:=4) [] (by kernel_rfl) rfl (TR _) (IR _) ?_))));exact ⟨r,rfl,rfl,⟨.inr a1,fun _=>a2⟩⟩
noncomputable def c_LinenOf (p:List Nat):Code:=sub (AP Tryz.f19) p
set_option maxHeartbeats 1000000 in
theorem LinenOf_ct (I:Imm) (p:Nat) (p_s:Int) (n1:Int) (n2:Int):Ct Tryz.prog 19 #[vP p 0,vI n1,vI n2] I ([(bX p #[.int .u64 (p_s)] 91)]) (fun v I' M'=>∃ p_t:Int,∃ L:Lin,∃ u:Value,v=u∧M'=[(bX p #[.int .u64 (p_t)] 91)]∧(GoodL L)∧(∀ s∈L.slips,s.num≤20)∧IsLin I' u (L)):=by
 refine fr (args:=[_,_,_]) (N:=346) Tryz.func19 (fun F=>?_);show Run _ _ (c_LinenOf []) _ _ [(0,vP p 0),(1,vI (n1)),(2,vI (n2))] _ _;refine rnm (rqr ?_);refine sS (sal 6 26 #[vI (0),vI (0),vN,vN,vN] (fun b1=>(sn (sp 1 [(22,vP p 0)] ?_))));have Q5:=NM I (p) (p_s) (1) (4) (by omega) (by omega);refine sS (sc (some 23) (F:=((bX b1 #[vI (0),vI (0),vN,vN,vN] 26)::F)) (Q5 :) (PS _ _ _) (fun a8p I3 a8i a2r hp5=>?_));obtain ⟨a3i,r9,hv6,hm7,a7z⟩:=hp5;rw [hv6,hm7];clear hv6 hm7;refine nm ?_;obtain ⟨Pn,hPn,hPn2⟩:∃ z:Nat,(r9)=↑z∧1≤z∧z≤4:=⟨((r9)).toNat,by omega,by omega,by omega⟩;refine CQ 23 rfl (show (vI ((r9)):Value)=vI (↑Pn) from congrArg (Value.int .i64) hPn) (sp 1 [(24,vP p 0)] ?_);have Q6:=NM I3 (p) (a3i) (1) (2) (by omega) (by omega);refine sS (sc (some 25) (F:=((bX b1 #[vI (0),vI (0),vN,vN,vN] 26)::F)) (Q6 :) (.refl _) (fun a8q I14 a8j R1 a2s=>?_));obtain ⟨Y1,r20,V7,R4,a8a⟩:=a2s;rw [V7,R4];clear V7 R4;refine nm ?_;obtain ⟨Qn,hQn,hQn2⟩:∃ z:Nat,(r20)=↑z∧1≤z∧z≤2:=⟨((r20)).toNat,by omega,by omega,by omega⟩;refine CQ 25 rfl (show (vI ((r20)):Value)=vI (↑Qn) from congrArg (Value.int .i64) hQn) (sp 1 [(26,.agg #[vI (↑Pn),vI (↑Qn),vN,vN,vN])] (sS (sal 7 26 #[vI (0),vI (0),vN,vN,vN] (fun b5=>(sS (ss 0 0 b5 [vI (↑Pn),vI (↑Qn),vN,vN,vN] [vI (↑Pn),vI (↑Qn),vN,vN,vN] (_::_::_::_) (cs:=[_,_,_,_,_]) rfl rfl (sn (sp 1 [(8,vN)] (se (rq (rqr (sp 1 [(9,vI (0))] (se (rb 0 ?_))))))))))))));refine rl (fun mz a w=>∃ J0:Imm,∃ i:Nat,∃ sx:List (List Int),∃ hx:List (List Int),∃ sv:Value,∃ b7:List Value,∃ tM:Seg,∃ fM:Seg,∃ hv:Value,∃ f5:List Value,∃ hM:Seg,∃ gM:Seg,∃ bs:Int,(I14.le J0)∧(i≤Pn)∧(sx.length=i∧hx.length=i)∧(RowsB 20 Qn sx)∧(RowsB 100 (2*Qn) hx)∧(Own 29 1 CW sv b7 tM)∧(OwnEach 3 b7 sx fM)∧(Own 29 1 CW hv f5 hM)∧(OwnEach 3 f5 hx gM)∧Slots 346 [(8,hv),(9,vI ↑i),(0,vP p 0),(1,vI (n1)),(2,vI (n2)),(6,vP b1 0),(7,vP b5 0),(26,.agg #[vI (↑Pn),vI (↑Qn),vN,vN,vN])] a∧a.defers=[]∧St J0 ((bX b5 #[vI (↑Pn),vI (↑Qn),sv,vN,vN] 26)::(bX p #[.int .u64 (bs)] 91)::(bX b1 #[vI (0),vI (0),vN,vN,vN] 26)::(tM++(fM++(hM++(gM++F))))) w∧mz=Pn-i) ?_ ?_
 ·intro a w hS hD hW;exact ⟨_,I14,0,[],[],(vN),[],[],[],(vN),[],[],[],Y1,IR _,Nat.zero_le _,⟨rfl,rfl⟩,RowsB.nil,RowsB.nil,Own.nil _ _ _,OwnEach.nil,Own.nil _ _ _,OwnEach.nil,hS.sub (.cons 8 rfl (.cons 9 rfl (.cons 0 rfl (.cons 1 rfl (.cons 2 rfl (.cons 6 rfl (.cons 7 rfl (.cons 26 rfl (.nil _))))))))),hD,hW,rfl⟩
 rintro mz a w ⟨J0,i,sx,hx,sv,b7,tM,fM,hv,f5,hM,gM,bs,hJ0,hi,hln,hrs,hrh,hso,hse,m8,hhe,hS,hD,hW,rfl⟩
 refine AR hS hD hW ?_;clear hS hD hW a w;obtain ⟨b3,b4,a3k,a8x⟩:=hso.shape;subst a3k;have a8y:=hse.length;obtain ⟨e1,e2,a3c,a7s⟩:=m8.shape;subst a3c;have a7t:=hhe.length;obtain ⟨hl1,hl2⟩:=hln;refine rq (rqr (sp 2 [(28,vP b5 0),(27,vI (↑i))] (sd (dlb 29 0 0 b5 (vI (↑Pn))) (sp 1 [(30,.bool (cmp .lss (↑i) (↑Pn)))] (se (rc 30 rfl (fun h1=>?_) (fun h1=>?_)))))))
 ·
  have a2i:=h1;have h1:=CL h1;refine AQ (NX (rq (rb 1 (rqr (sp 2 [(11,vN),(10,vN)] (se (rq (rqr (sp 1 [(12,vI (0))] (se (rb 2 ?_)))))))))));refine rl (fun mz a w=>∃ J1:Imm,∃ k:Nat,∃ ra:List Int,∃ rz:List Int,∃ t7:Int,∃ l1:Value,∃ e9:Seg,∃ l2:Value,∃ d7:Seg,(J0.le J1)∧(k≤Qn)∧(ra.length=k∧rz.length=2*k)∧((∀ x∈ra,0≤x∧x≤20))∧((∀ x∈rz,0≤x∧x≤100))∧(Own 3 1 AJ l1 (ra) e9)∧(Own 3 1 AJ l2 (rz) d7)∧Slots 346 [(10,l1),(11,l2),(12,vI ↑k),(0,vP p 0),(1,vI (n1)),(2,vI (n2)),(6,vP b1 0),(7,vP b5 0),(8,vS e1 f5.length e2),(9,vI (↑i)),(26,.agg #[vI (↑Pn),vI (↑Qn),vN,vN,vN])] a∧a.defers=[]∧St J1 ((bX b5 #[vI (↑Pn),vI (↑Qn),vS b3 b7.length b4,vN,vN] 26)::(bX p #[.int .u64 (t7)] 91)::(bX b1 #[vI (0),vI (0),vN,vN,vN] 26)::(tM++(fM++(hM++(gM++(e9++(d7++F))))))) w∧mz=Qn-k) ?_ ?_
  ·intro a w hS hD hW;exact ⟨_,J0,0,[],[],bs,(vN),[],(vN),[],IR _,Nat.zero_le _,⟨rfl,rfl⟩,(fun x hx=>by cases hx),(fun x hx=>by cases hx),(Own.nil _ _ _),(Own.nil _ _ _),hS.sub (.cons 10 rfl (.cons 11 rfl (.cons 12 rfl (.cons 0 rfl (.cons 1 rfl (.cons 2 rfl (.cons 6 rfl (.cons 7 rfl (.cons 8 rfl (.cons 9 rfl (.cons 26 rfl (.nil _)))))))))))),hD,hW,rfl⟩
  rintro mz a w ⟨J1,k,ra,rz,t7,l1,e9,l2,d7,hJ1,hk,hrl,hra,hrb,k5,k6,hS,hD,hW,rfl⟩
  refine AR hS hD hW ?_;clear hS hD hW a w;obtain ⟨d1,d2,t2,X9⟩:=k5.shape;subst t2;obtain ⟨d9,e0,t3,Y0⟩:=k6.shape;subst t3;obtain ⟨a7n,a7o⟩:=hrl;refine rq (rqr (sp 2 [(34,vP b5 1),(33,vI (↑k))] (sd (dlb 35 0 1 b5 (vI (↑Qn))) (sp 1 [(36,.bool (cmp .lss (↑k) (↑Qn)))] (se (rc 36 rfl (fun h2=>?_) (fun h2=>?_)))))))
  ·
   have a2j:=h2;have h2:=CL h2;refine AQ (NX (rq (rb 3 (rqr (sp 1 [(39,vP p 0)] ?_)))));have Q7:=NO J1 (p) (t7) (20) (by omega);refine sS (sc (some 40) (F:=((bX b5 #[vI (↑Pn),vI (↑Qn),vS b3 b7.length b4,vN,vN] 26)::(bX b1 #[vI (0),vI (0),vN,vN,vN] 26)::(tM++(fM++(hM++(gM++(e9++(d7++F)))))))) (Q7 :) (PS _ _ _) (fun a8r I27 a8k R2 a2t=>?_));obtain ⟨t5,m9,V8,R5,a8b⟩:=a2t;rw [V8,R5];clear V8 R5;refine nm ?_;refine sp 1 [(13,vI (↑m9))] (se (rr (sp 2 [(42,vI (↑m9)),(41,vS d1 ra.length d2)] (sS (sbs 43 3 1 #[vI (↑m9)] (fun b38=>(sS (BC (d:=44) (x:=(.tmp 41)) (y:=(.tmp 43)) (T:=29) (T':=29) (E:=3) (E':=3) (sz:=1) (bs:=8) (z:=vI (0)) (cell:=AJ) (xs:=ra) (ys:=[(↑m9:Int)]) (Ms:=e9) (ty:=29) (gd:=none) (by kernel_rfl) rfl (by kernel_rfl) (by kernel_rfl) (by kernel_rfl) (by kernel_rfl) (by kernel_rfl) (by decide) (by kernel_rfl) rfl rfl (k5) (PU (PU (PU (PU (PV (PV (PV (PO _ _ _)))))))) (EV _) (EM 0 rfl rfl) (by first | omega | (simp only [LC,LN,LA,LK,LD];omega)) (fun v40 C4 T8=>(AX (M':=((bX p #[.int .u64 (t5)] 91)::(bX b5 #[vI (↑Pn),vI (↑Qn),vS b3 b7.length b4,vN,vN] 26)::(bX b1 #[vI (0),vI (0),vN,vN,vN] 26)::(C4++(tM++(fM++(hM++(gM++(d7++F)))))))) (fun w h=>(h.perm (PW (PW (PW PM)))).sub (TC _ (TR _))) ?_))))))))));obtain ⟨W3,W8,a3e,a7u⟩:=T8.shape;subst a3e;refine sp 2 [(46,vI (↑m9)),(45,vS d9 rz.length e0)] (sS (sbs 47 3 2 #[vI (↑m9),vI (0)] (fun b41=>(sS (BC (d:=48) (x:=(.tmp 45)) (y:=(.tmp 47)) (T:=29) (T':=29) (E:=3) (E':=3) (sz:=1) (bs:=8) (z:=vI (0)) (cell:=AJ) (xs:=rz) (ys:=[(↑m9:Int),(0:Int)]) (Ms:=d7) (ty:=29) (gd:=none) (by kernel_rfl) rfl (by kernel_rfl) (by kernel_rfl) (by kernel_rfl) (by kernel_rfl) (by kernel_rfl) (by decide) (by kernel_rfl) rfl rfl (k6) (PU (PU (PU (PU (PV (PV (PV (PV (PO _ _ _))))))))) (EV _) (EM 0 rfl rfl) (by first | omega | (simp only [LC,LN,LA,LK,LD];omega)) (fun v43 M4 T9=>(AX (M':=((bX p #[.int .u64 (t5)] 91)::(bX b5 #[vI (↑Pn),vI (↑Qn),vS b3 b7.length b4,vN,vN] 26)::(bX b1 #[vI (0),vI (0),vN,vN,vN] 26)::(M4++(C4++(tM++(fM++(hM++(gM++F)))))))) (fun w h=>(h.perm (PW (PW (PW PM)))).sub (TC _ (TR _))) ?_)))))));obtain ⟨W4,W9,a3f,a7v⟩:=T9.shape;subst a3f;refine sp 2 [(11,vS W4 (rz++([(↑m9:Int),(0:Int)])).length W9),(10,vS W3 (ra++([(↑m9:Int)])).length W8)] (ee (NB (NX (rr (sp 1 [(37,vI (↑k))] (sd (da 38 (↑k) (1)) (sp 1 [(12,vI (↑k+1))] (ee ?_))))))));refine AN (Qn-(k+1)) (by omega) ?_;intro a w hS hD hW;exact ⟨I27,k+1,ra++([(↑m9:Int)]),rz++([(↑m9:Int),(0:Int)]),t5,vS W3 (ra++([(↑m9:Int)])).length W8,C4,vS W4 (rz++([(↑m9:Int),(0:Int)])).length W9,M4,(IT hJ1 R2),by omega,⟨by simp only [LA,LC,LN];omega,by simp only [LA,LC,LN];omega⟩,inb_snoc hra (by omega),inb_snoc2 hrb (by omega) (by omega),T8,T9,hS.sub (.consE 10 rfl rfl (.consE 11 rfl rfl (.consE 12 rfl rfl (.cons 0 rfl (.cons 1 rfl (.cons 2 rfl (.cons 6 rfl (.cons 7 rfl (.cons 8 rfl (.cons 9 rfl (.cons 26 rfl (.nil _)))))))))))),hD,hW.perm ((PS _ _ _).trans (PC _ (PC _ (PC _ ((PV (PO _ _ _)).trans (PA _ ((PV (PO _ _ _)).trans (PA _ ((PV (PO _ _ _)).trans (PA _ ((PV (PO _ _ _)).trans (PA _ (PO _ _ _))))))))))))),rfl⟩
  have a2j:=h2;have h2:=CT h2;refine CB 2 ((EP (EP (EB (NX (rr (sp 1 [(49,vP b5 2)] (sd (dlb 50 0 2 b5 (vS b3 b7.length b4)) (sp 1 [(51,vS d1 ra.length d2)] (sS (sbs 52 29 1 #[vS d1 ra.length d2] (fun b44=>(sS (BC (d:=53) (x:=(.tmp 50)) (y:=(.tmp 52)) (T:=22) (T':=22) (E:=29) (E':=29) (sz:=1) (bs:=24) (z:=vN) (cell:=CW) (xs:=b7) (ys:=[(vS d1 ra.length d2:Value)]) (Ms:=tM) (ty:=22) (gd:=none) (by kernel_rfl) rfl (by kernel_rfl) (by kernel_rfl) (by kernel_rfl) (by kernel_rfl) (by kernel_rfl) (by decide) (by kernel_rfl) rfl rfl (hso) (PU (PU (PU (PM.symm)))) (JR rfl) (EM 0 rfl rfl) (by first | omega | (simp only [LC,LN,LA,LK,LD];omega)) (fun v46 j1 U0=>(AX (M':=((bX b5 #[vI (↑Pn),vI (↑Qn),vS b3 b7.length b4,vN,vN] 26)::(bX p #[.int .u64 (t7)] 91)::(bX b1 #[vI (0),vI (0),vN,vN,vN] 26)::(j1++(fM++(hM++(gM++(e9++(d7++F)))))))) (fun w h=>(h.perm (PW (PW (PW PM)))).sub (TC _ (TR _))) ?_))))))))))))))));obtain ⟨J9,K0,a3g,a7x⟩:=U0.shape;subst a3g;have x5:=OwnEach.snoc hse k5;obtain ⟨eM46,heM46_d⟩:∃ X,X=fM++e9:=⟨_,rfl⟩;rw [← heM46_d] at x5;refine AX (I':=J1) (M':=((eM46++(bX b5 #[vI (↑Pn),vI (↑Qn),vS b3 b7.length b4,vN,vN] 26)::(bX p #[.int .u64 (t7)] 91)::(bX b1 #[vI (0),vI (0),vN,vN,vN] 26)::(j1++(hM++(gM++(d7++F))))))) (fun w h=>?_) ?_
  ·have h2:=h.perm ((PU (PU (PU (PO _ _ _)))).trans (PA _ (PU (PU (PU (PV (PV (PO _ _ _))))))));simp only [← AA] at h2;have h3:=St.permL (A':=eM46) (A:=fM++e9) (by simpa only [AA,List.append_nil] using (heM46_d▸PR _)) (by simpa only [AA] using h2)
   simpa only [AA] using h3
  refine pm (M':=((bX b5 #[vI (↑Pn),vI (↑Qn),vS b3 b7.length b4,vN,vN] 26)::(bX p #[.int .u64 (t7)] 91)::(bX b1 #[vI (0),vI (0),vN,vN,vN] 26)::(eM46++(j1++(hM++(gM++(d7++F))))))) (PW (PW PM)) (sp 2 [(55,vS d9 rz.length e0),(54,vS e1 f5.length e2)] (sS (sbs 56 29 1 #[vS d9 rz.length e0] (fun b47=>(sS (BC (d:=57) (x:=(.tmp 54)) (y:=(.tmp 56)) (T:=22) (T':=22) (E:=29) (E':=29) (sz:=1) (bs:=24) (z:=vN) (cell:=CW) (xs:=f5) (ys:=[(vS d9 rz.length e0:Value)]) (Ms:=hM) (ty:=22) (gd:=none) (by kernel_rfl) rfl (by kernel_rfl) (by kernel_rfl) (by kernel_rfl) (by kernel_rfl) (by kernel_rfl) (by decide) (by kernel_rfl) rfl rfl (m8) (PU (PU (PU (PU (PV (PO _ _ _)))))) (JR rfl) (EM 0 rfl rfl) (by first | omega | (simp only [LC,LN,LA,LK,LD];omega)) (fun v49 u0 U1=>(AX (M':=((bX b5 #[vI (↑Pn),vI (↑Qn),vS b3 b7.length b4,vN,vN] 26)::(bX p #[.int .u64 (t7)] 91)::(bX b1 #[vI (0),vI (0),vN,vN,vN] 26)::(u0++(eM46++(j1++(gM++(d7++F))))))) (fun w h=>(h.perm (PW (PW (PW PM)))).sub (TC _ (TR _))) ?_))))))));obtain ⟨W5,X0,a3h,a7y⟩:=U1.shape;subst a3h;have x6:=OwnEach.snoc hhe k6;obtain ⟨eM49,heM49_d⟩:∃ X,X=gM++d7:=⟨_,rfl⟩;rw [← heM49_d] at x6;refine AX (I':=J1) (M':=((eM49++(bX b5 #[vI (↑Pn),vI (↑Qn),vS b3 b7.length b4,vN,vN] 26)::(bX p #[.int .u64 (t7)] 91)::(bX b1 #[vI (0),vI (0),vN,vN,vN] 26)::(u0++(eM46++(j1++F)))))) (fun w h=>?_) ?_
  ·have h2:=h.perm ((PU (PU (PU (PV (PV (PO _ _ _)))))).trans (PA _ (PU (PU (PU (PV (PV (PO _ _ _))))))));simp only [← AA] at h2;have h3:=St.permL (A':=eM49) (A:=gM++d7) (by simpa only [AA,List.append_nil] using (heM49_d▸PR _)) (by simpa only [AA] using h2)
   simpa only [AA] using h3
  refine pm (M':=((bX b5 #[vI (↑Pn),vI (↑Qn),vS b3 b7.length b4,vN,vN] 26)::(bX p #[.int .u64 (t7)] 91)::(bX b1 #[vI (0),vI (0),vN,vN,vN] 26)::(eM49++(u0++(eM46++(j1++F)))))) (PW (PW PM)) (sp 1 [(58,vP b5 2)] (sS (ss 0 2 b5 [vS J9 (b7++([(vS d1 ra.length d2:Value)])).length K0] [vI (↑Pn),vI (↑Qn),vS J9 (b7++([(vS d1 ra.length d2:Value)])).length K0,vN,vN] (_::_::_::_) (cs:=[_,_,_,_,_]) rfl rfl (sp 1 [(8,vS W5 (f5++([(vS d9 rz.length e0:Value)])).length X0)] (ee (NB (NX (rr (sp 1 [(31,vI (↑i))] (sd (da 32 (↑i) (1)) (sp 1 [(9,vI (↑i+1))] (ee ?_))))))))))));refine AN (Pn-(i+1)) (by omega) ?_;intro a w hS hD hW;exact ⟨J1,i+1,sx++[ra],hx++[rz],(vS J9 (b7++([(vS d1 ra.length d2:Value)])).length K0),b7++([(vS d1 ra.length d2:Value)]),j1,eM46,(vS W5 (f5++([(vS d9 rz.length e0:Value)])).length X0),f5++([(vS d9 rz.length e0:Value)]),u0,eM49,t7,(IT hJ0 hJ1),by omega,⟨by simp only [LA,LC,LN];omega,by simp only [LA,LC,LN];omega⟩,hrs.snoc (by omega) hra,hrh.snoc (by omega) hrb,U0,x5,U1,x6,hS.sub (.consE 8 rfl rfl (.consE 9 rfl rfl (.cons 0 rfl (.cons 1 rfl (.cons 2 rfl (.cons 6 rfl (.cons 7 rfl (.cons 26 rfl (.nil _))))))))),hD,hW.perm (PC _ (PC _ (PC _ ((PV (PV (PO _ _ _))).trans (PA _ ((PV (PO _ _ _)).trans (PA _ (PO _ _ _)))))))),rfl⟩
 have a2i:=h1;have h1:=CT h1;refine CB 0 ((EP (EP (EB (NX (rq (rq ?_)))))));have hiP:Pn=i:=by omega
 subst hiP;refine rn_freezeEach (B:=((bX b5 #[vI (↑Pn),vI (↑Qn),vS b3 b7.length b4,vN,vN] 26)::(bX p #[.int .u64 (bs)] 91)::(bX b1 #[vI (0),vI (0),vN,vN,vN] 26)::(tM++(hM++(gM++F))))) hse (by intro xs hq;have:=(hrs xs hq).1;omega) (PU (PU (PU (PO _ _ _)))) (PR _) (fun I50 R3 j0=>?_);have n0:=j0.1
 try simp only [LS,LA,LC,LN,LK] at n0
 refine DO (B:=((bX b5 #[vI (↑Pn),vI (↑Qn),vS b3 b7.length b4,vN,vN] 26)::(bX p #[.int .u64 (bs)] 91)::(bX b1 #[vI (0),vI (0),vN,vN,vN] 26)::(hM++(gM++F)))) undef hso (by first | omega | (simp only [LS,LC,LN,LA,LK,LD] <;> omega) | decide) (PU (PU (PM.symm))) (PR _) (fun I53 x7 n5=>?_);replace j0:=j0.mono x7;obtain ⟨a1z,a2b,a2a,a2e,C9,a2c,a2d,a2f⟩:=id n5;cases C9;have b0:=j0.isRows n5;have P0:=j0.1;obtain ⟨a1q,a1s,a1r,a1v,Z4,C8,a1t,a1u,a1x,a1y⟩:=id b0
 injection C8 with fr56_e1 fr56_e2 fr56_e3;subst fr56_e1;subst fr56_e3
 refine rr (sp 1 [(59,vP p 0)] ?_);have Q8:=NO I53 (p) (bs) (4) (by omega);refine sS (sc (some 60) (F:=((bX b5 #[vI (↑Pn),vI (↑Qn),vS b3 b7.length b4,vN,vN] 26)::(bX b1 #[vI (0),vI (0),vN,vN,vN] 26)::(hM++(gM++F)))) (Q8 :) (PS _ _ _) (fun a8s I57 a8l x8 a2u=>?_));obtain ⟨Y2,f7,V9,R6,a8c⟩:=a2u;rw [V9,R6];clear V9 R6;replace b0:=b0.mono x8;refine nm ?_;refine sp 1 [(14,vI (↑f7))] (CQ 14 rfl (show (vI (↑f7):Value)=vI (↑f7-↑(0:Nat)) from congrArg (Value.int .i64) (by omega)) (se (rb 4 ?_)));refine rl (fun mz a w=>∃ J2:Imm,∃ c:Nat,∃ ks:List Keep,∃ M5:Int,∃ g3:Value,∃ d8:Seg,(I57.le J2)∧((c:Int)≤↑f7)∧(ks.length=c)∧(KeepsOf Pn (↑f7) ks)∧(Own 50 3 GS g3 (ks) d8)∧Slots 346 [(14,vI (↑f7-↑c)),(0,vP p 0),(1,vI (n1)),(2,vI (n2)),(6,vP b1 0),(7,vP b5 0),(8,vS e1 f5.length e2),(26,.agg #[vI (↑Pn),vI (↑Qn),vN,vN,vN])] a∧a.defers=[]∧St J2 ((bX p #[.int .u64 (M5)] 91)::(bX b5 #[vI (↑Pn),vI (↑Qn),vS b3 b7.length b4,g3,vN] 26)::(bX b1 #[vI (0),vI (0),vN,vN,vN] 26)::(hM++(gM++(d8++F)))) w∧mz=(↑f7:Int).toNat-c) ?_ ?_
 ·intro a w hS hD hW;exact ⟨_,I57,0,[],Y2,(vN),[],IR _,by omega,rfl,KeepsOf.nil,(Own.nil _ _ _),hS.sub (.cons 14 rfl (.cons 0 rfl (.cons 1 rfl (.cons 2 rfl (.cons 6 rfl (.cons 7 rfl (.cons 8 rfl (.cons 26 rfl (.nil _))))))))),hD,hW,rfl⟩
 rintro mz a w ⟨J2,c,ks,M5,g3,d8,hJ2,hc,hkl,hks,g2,hS,hD,hW,rfl⟩
 refine AR hS hD hW ?_;clear hS hD hW a w;replace b0:=b0.mono hJ2;obtain ⟨a0,a1,l3,K1⟩:=g2.shape;subst l3;refine rq (rqr (sp 2 [(62,.bool (cmp .gtr (↑f7-↑c) (0)))] (se (rc 62 rfl (fun h3=>?_) (fun h3=>?_)))))
 ·
  have a2k:=h3;have h3:=LI h3;refine AQ (NX (rq (rb 5 (rqr (sp 2 [(66,vP b5 0),(65,vP p 0)] (sd (dlb 67 1 0 b5 (vI (↑Pn))) (sd (dsb 68 (↑Pn) (1)) ?_)))))));have Q9:=NO J2 (p) (M5) (↑Pn-1) (by omega);refine sS (sc (some 69) (F:=((bX b5 #[vI (↑Pn),vI (↑Qn),vS b3 b7.length b4,vS a0 ks.length a1,vN] 26)::(bX b1 #[vI (0),vI (0),vN,vN,vN] 26)::(hM++(gM++(d8++F))))) (Q9 :) (.refl _) (fun a8t I68 a8m x9 a2v=>?_));obtain ⟨Y3,p4,W0,R7,a8d⟩:=a2v;rw [W0,R7];clear W0 R7;replace b0:=b0.mono x9;refine nm ?_;refine sp 1 [(70,vI (↑f7-↑c))] (sd (dmu 71 (7) (↑f7-↑c)) (sp 1 [(72,vP p 0)] ?_));have R0:=NO I68 (p) (Y3) (6) (by omega);refine sS (sc (some 73) (F:=((bX b5 #[vI (↑Pn),vI (↑Qn),vS b3 b7.length b4,vS a0 ks.length a1,vN] 26)::(bX b1 #[vI (0),vI (0),vN,vN,vN] 26)::(hM++(gM++(d8++F))))) (R0 :) (.refl _) (fun a8u I79 a8n y0 a2x=>?_));obtain ⟨Y4,n3,W1,R8,a8e⟩:=a2x;rw [W1,R8];clear W1 R8;replace b0:=b0.mono y0;refine nm ?_;refine sd (da 74 (7*(↑f7-↑c)) (↑n3)) (sp 1 [(75,vP p 0)] ?_);have D9:=NM I79 (p) (Y4) (1) (4) (by omega) (by omega);refine sS (sc (some 76) (F:=((bX b5 #[vI (↑Pn),vI (↑Qn),vS b3 b7.length b4,vS a0 ks.length a1,vN] 26)::(bX b1 #[vI (0),vI (0),vN,vN,vN] 26)::(hM++(gM++(d8++F))))) (D9 :) (.refl _) (fun a8v I90 a8o y1 a2y=>?_));obtain ⟨C1,t6,W2,R9,a8f⟩:=a2y;rw [W2,R9];clear W2 R9;replace b0:=b0.mono y1;refine nm ?_;refine sp 1 [(77,.agg #[vI (↑p4),vI ((7*(↑f7-↑c))+↑n3),vI ((t6))])] (sS (sal 15 50 #[vI (0),vI (0),vI (0)] (fun C5=>(sS (ss 0 0 C5 [vI (↑p4),vI ((7*(↑f7-↑c))+↑n3),vI ((t6))] [vI (↑p4),vI ((7*(↑f7-↑c))+↑n3),vI ((t6))] (_::_::_::_::_) (cs:=[_,_,_]) rfl rfl (se (rr (sp 1 [(78,vP b5 3)] (sd (dlb 79 2 3 b5 (vS a0 ks.length a1)) (sd (dnb 80 0 0 C5 [vI (↑p4),vI ((7*(↑f7-↑c))+↑n3),vI ((t6))]) (sS (sbs 81 50 1 #[vI (↑p4),vI ((7*(↑f7-↑c))+↑n3),vI ((t6))] (fun a6z=>(sS (BC (d:=82) (x:=(.tmp 79)) (y:=(.tmp 81)) (T:=23) (T':=23) (E:=50) (E':=50) (sz:=3) (bs:=24) (z:=.agg #[vI (0),vI (0),vI (0)]) (cell:=GS) (xs:=ks) (ys:=[(⟨↑p4,(7*(↑f7-↑c))+↑n3,(t6)⟩:Keep)]) (Ms:=d8) (ty:=23) (gd:=none) (by kernel_rfl) rfl (by kernel_rfl) (by kernel_rfl) (by kernel_rfl) (by kernel_rfl) (by kernel_rfl) (by decide) (by kernel_rfl) rfl rfl (g2) (PU (PU (PU (PU (PU (PV (PO _ _ _))))))) (OT _) (EM 0 rfl rfl) (by first | omega | (simp only [LC,LN,LA,LK,LD];omega)) (fun a9a v0 z7=>(AX (M':=((bX C5 #[vI (↑p4),vI ((7*(↑f7-↑c))+↑n3),vI ((t6))] 50)::(bX p #[.int .u64 (C1)] 91)::(bX b5 #[vI (↑Pn),vI (↑Qn),vS b3 b7.length b4,vS a0 ks.length a1,vN] 26)::(bX b1 #[vI (0),vI (0),vN,vN,vN] 26)::(v0++(hM++(gM++F))))) (fun w h=>(h.perm (PW (PW (PW (PW PM))))).sub (TC _ (TR _))) ?_)))))))))))))))));obtain ⟨p5,q3,X1,a4u⟩:=z7.shape;subst X1;refine sp 1 [(83,vP b5 3)] (sS (ss 2 3 b5 [vS p5 (ks++([(⟨↑p4,(7*(↑f7-↑c))+↑n3,(t6)⟩:Keep)])).length q3] [vI (↑Pn),vI (↑Qn),vS b3 b7.length b4,vS p5 (ks++([(⟨↑p4,(7*(↑f7-↑c))+↑n3,(t6)⟩:Keep)])).length q3,vN] (_::_::_::_::_) (cs:=[_,_,_,_,_]) rfl rfl (ee (NB (NX (rr (sp 1 [(63,vI (↑f7-↑c))] (sd (dsb 64 (↑f7-↑c) (1)) (sp 1 [(14,vI ((↑f7-↑c)-1))] (ee ?_))))))))));refine AN ((↑f7:Int).toNat-(c+1)) (by omega) ?_;intro a w hS hD hW;exact ⟨I90,c+1,ks++([(⟨↑p4,(7*(↑f7-↑c))+↑n3,(t6)⟩:Keep)]),C1,vS p5 (ks++([(⟨↑p4,(7*(↑f7-↑c))+↑n3,(t6)⟩:Keep)])).length q3,v0,(IT (IT (IT hJ2 x9) y0) y1),by omega,by rw [LA,hkl];rfl,hks.snoc (by omega) (by dsimp only;omega) (by rw [hkl];dsimp only;omega) (by dsimp only;omega),z7,hS.sub (.consE 14 rfl (congrArg (Value.int .i64) (by omega)) (.cons 0 rfl (.cons 1 rfl (.cons 2 rfl (.cons 6 rfl (.cons 7 rfl (.cons 8 rfl (.cons 26 rfl (.nil _))))))))),hD,(hW.perm (PC _ (PC _ (PC _ (PC _ ((PO _ _ _).trans (PA _ (PO _ _ _)))))))).sub (TC _ (TR _)),rfl⟩
 have a2k:=h3;have h3:=gtr_f h3;refine CB 4 ((EP (EP (EB (NX (rq ?_))))));refine DO (B:=((bX p #[.int .u64 (M5)] 91)::(bX b5 #[vI (↑Pn),vI (↑Qn),vS b3 b7.length b4,vS a0 ks.length a1,vN] 26)::(bX b1 #[vI (0),vI (0),vN,vN,vN] 26)::(hM++(gM++F)))) AL g2 (by first | omega | (simp only [LS,LC,LN,LA,LK,LD] <;> omega) | decide) (PU (PU (PU (PV (PO _ _ _))))) (PR _) (fun a1f p2 b2=>?_);replace b0:=b0.mono p2;obtain ⟨Z5,Z7,Z6,a0a,u1,Z8,Z9,a0b⟩:=id b2;cases u1;refine rr (sp 1 [(16,vI (0))] (sn (sp 1 [(84,vP p 0)] ?_)));have E0:=Deal_ct a1f (p) (M5) (20) (by omega);refine sS (sc (some 85) (F:=((bX b5 #[vI (↑Pn),vI (↑Qn),vS b3 b7.length b4,vS a0 ks.length a1,vN] 26)::(bX b1 #[vI (0),vI (0),vN,vN,vN] 26)::(hM++(gM++F)))) (E0 :) (.refl _) (fun a6a a6p a5k j4 U2=>?_));obtain ⟨g8,a8,a8z,v1,A6,y2,Y5,C2⟩:=U2;rw [A6,y2];clear A6 y2;replace b0:=b0.mono j4;replace b2:=b2.mono j4;obtain ⟨e7,e8,K7,a3l⟩:=C2.shape;subst K7;refine AX (M':=((bX p #[.int .u64 (g8)] 91)::(v1++(bX b5 #[vI (↑Pn),vI (↑Qn),vS b3 b7.length b4,vS a0 ks.length a1,vN] 26)::(bX b1 #[vI (0),vI (0),vN,vN,vN] 26)::(hM++(gM++F))))) (fun w h=>by simpa only [AA,CA,NA] using h) (pm (M':=((bX p #[.int .u64 (g8)] 91)::(bX b5 #[vI (↑Pn),vI (↑Qn),vS b3 b7.length b4,vS a0 ks.length a1,vN] 26)::(bX b1 #[vI (0),vI (0),vN,vN,vN] 26)::(v1++(hM++(gM++F))))) (PC _ (PW PM)) (sp 1 [(17,vS e7 a8.length e8)] (se (rq (rq ?_)))));have t8:=Y5;have hdl:(a8).length=20:=t8.length_eq.trans (DX 20);refine DO (B:=((bX p #[.int .u64 (g8)] 91)::(bX b5 #[vI (↑Pn),vI (↑Qn),vS b3 b7.length b4,vS a0 ks.length a1,vN] 26)::(bX b1 #[vI (0),vI (0),vN,vN,vN] 26)::(hM++(gM++F)))) 0 C2 (by first | omega | (simp only [LS,LC,LN,LA,LK,LD] <;> omega) | decide) (PU (PU (PM.symm))) (PR _) (fun M0 j5 u3=>?_);replace b0:=b0.mono j5;replace b2:=b2.mono j5;obtain ⟨a0c,a0e,a0d,a0h,u2,a0f,a0g,c5⟩:=id u3;cases u2;refine rr (sp 1 [(18,vI (0))] (se (rb 6 ?_)));refine rl (fun mz a w=>∃ J3:Imm,∃ t:Nat,∃ h:Int,∃ sl:List Slip,∃ hy:List (List Int),∃ yM:Seg,∃ M6:Int,∃ g4:Value,∃ a5:Seg,(M0.le J3)∧(t≤8)∧(0≤h∧h≤10*t)∧(SlipsOf Pn Qn (a8) t sl)∧(hy.length=Pn)∧(RowsB (100+50*t) (2*Qn) hy)∧(OwnEach 3 f5 hy yM)∧(Own 28 8 AY g4 (sl) a5)∧Slots 346 [(16,vI h),(18,vI ↑t),(0,vP p 0),(1,vI (n1)),(2,vI (n2)),(6,vP b1 0),(7,vP b5 0),(8,vS e1 f5.length e2),(17,vS e7 a8.length e8),(26,.agg #[vI (↑Pn),vI (↑Qn),vN,vN,vN])] a∧a.defers=[]∧St J3 ((bX p #[.int .u64 (M6)] 91)::(bX b5 #[vI (↑Pn),vI (↑Qn),vS b3 b7.length b4,vS a0 ks.length a1,g4] 26)::(bX b1 #[vI (0),vI (0),vN,vN,vN] 26)::(hM++(yM++(a5++F)))) w∧mz=8-t) ?_ ?_
 ·intro a w hS hD hW;exact ⟨_,M0,0,0,[],hx,gM,g8,(vN),[],IR _,Nat.zero_le _,(by omega),SlipsOf.nil,hl2,hrh.mono (by omega),hhe,(Own.nil _ _ _),hS.sub (.cons 16 rfl (.cons 18 rfl (.cons 0 rfl (.cons 1 rfl (.cons 2 rfl (.cons 6 rfl (.cons 7 rfl (.cons 8 rfl (.cons 17 rfl (.cons 26 rfl (.nil _))))))))))),hD,hW,rfl⟩
 rintro mz a w ⟨J3,t,h,sl,hy,yM,M6,g4,a5,hJ3,ht,hh,m6,p3,k3,hye,c0,hS,hD,hW,rfl⟩
 refine AR hS hD hW ?_;clear hS hD hW a w;replace b0:=b0.mono hJ3;replace b2:=b2.mono hJ3;replace c5:=c5.mono hJ3;obtain ⟨a2,a3,l4,K2⟩:=c0.shape;subst l4;obtain ⟨hh1,hh2⟩:=hh;have a7q:=m6.1;have hns:=fun hq:t<(a8).length=>deal_at t8 hq
 refine rq (rqr (sp 4 [(89,.bool (cmp .lss (↑t) ((if (8:Int)<(n1:Int) then 8 else n1))))] (se (rc 89 rfl (fun h4=>?_) (fun h4=>?_)))))
 ·
  have a2l:=h4;have h4:=CL h4;refine AQ (NX (rq (rb 7 (rq (rqr (sp 1 [(92,vP p 0)] ?_))))));have E1:=MD J3 (p) (M6) (1) (5) (by omega);refine sS (sc (some 93) (F:=((bX b5 #[vI (↑Pn),vI (↑Qn),vS b3 b7.length b4,vS a0 ks.length a1,vS a2 sl.length a3] 26)::(bX b1 #[vI (0),vI (0),vN,vN,vN] 26)::(hM++(yM++(a5++F))))) (E1 :) (.refl _) (fun a6b M2 a5l c6 U3=>?_));obtain ⟨t4,a8g,A7,y3⟩:=U3;rw [A7,y3];clear A7 y3;replace b0:=b0.mono c6;replace b2:=b2.mono c6;replace c5:=c5.mono c6;refine nm (se ?_);refine rc 93 rfl (fun h5=>?_) (fun h5=>?_)
  ·
   have a2m:=h5;refine CB 7 ((EP (EB (NX (rr (sp 1 [(90,vI (↑t))] (sd (da 91 (↑t) (1)) (sp 1 [(18,vI (↑t+1))] (ee ?_)))))))));refine AN (8-(t+1)) (by omega) ?_;intro a w hS hD hW;exact ⟨M2,t+1,h,sl,hy,yM,t4,vS a2 sl.length a3,a5,(IT hJ3 c6),by omega,(by omega),m6.skip,by simpa only [LS] using p3,(by have d0:=k3.mono (B':=100+50*((t+1:Nat):Int)) (by omega);repeat' (first | exact d0 | refine RowsB.put ?_ ?_ | refine RowB.set ?_ ?_ | refine RowsB.row ?_ ?_ | omega | (simp only [LS];omega))),hye,c0,hS.sub (.consE 16 rfl rfl (.consE 18 rfl rfl (.cons 0 rfl (.cons 1 rfl (.cons 2 rfl (.cons 6 rfl (.cons 7 rfl (.cons 8 rfl (.cons 17 rfl (.cons 26 rfl (.nil _))))))))))),hD,hW,rfl⟩
  have a2m:=h5;refine AQ (NX (rqr (sp 3 [(96,vP p 0),(95,vP p 0),(94,vI (h))] ?_)));have E2:=NO M2 (p) (t4) (9) (by omega);refine sS (sc (some 97) (F:=((bX b5 #[vI (↑Pn),vI (↑Qn),vS b3 b7.length b4,vS a0 ks.length a1,vS a2 sl.length a3] 26)::(bX b1 #[vI (0),vI (0),vN,vN,vN] 26)::(hM++(yM++(a5++F))))) (E2 :) (.refl _) (fun a6c a6q a5m c7 U4=>?_));obtain ⟨l5,u7,A8,y4,a5d⟩:=U4;rw [A8,y4];clear A8 y4;replace b0:=b0.mono c7;replace b2:=b2.mono c7;replace c5:=c5.mono c7;refine nm ?_;refine sS (sbs 98 3 2 #[vI (0),vI (↑u7)] (fun C6=>(pm (M':=((bX p #[.int .u64 (l5)] 91)::(bX b5 #[vI (↑Pn),vI (↑Qn),vS b3 b7.length b4,vS a0 ks.length a1,vS a2 sl.length a3] 26)::(bX b1 #[vI (0),vI (0),vN,vN,vN] 26)::([(bX C6 #[vI (0),vI (↑u7)] 3)]++(hM++(yM++(a5++F)))))) ((PS _ _ _).trans (PC _ ((PS _ _ _).trans (PC _ (PS _ _ _))))) ?_)));have T0:Own 3 1 AJ (vS (some ⟨C6,0,none⟩) 2 2) ([(0:Int),(↑u7:Int)]:List Int) [(bX C6 #[vI (0),vI (↑u7)] 3)]:=Own.lit rfl rfl;refine sfz (A:=((bX p #[.int .u64 (l5)] 91)::(bX b5 #[vI (↑Pn),vI (↑Qn),vS b3 b7.length b4,vS a0 ks.length a1,vS a2 sl.length a3] 26)::(bX b1 #[vI (0),vI (0),vN,vN,vN] 26)::(hM++(yM++(a5++F))))) 0 T0 (PU (PU (PM.symm))) (fun a1g c8 m1=>?_);replace b0:=b0.mono c8;replace b2:=b2.mono c8;replace c5:=c5.mono c8;obtain ⟨a0i,a0k,a0j,a0n,u4,a0l,a0m,a0o⟩:=id m1;cases u4;have E3:=One_ct a1g (p) (l5) _ _ m1 (by simp);refine sS (sc (some 99) (F:=((bX b5 #[vI (↑Pn),vI (↑Qn),vS b3 b7.length b4,vS a0 ks.length a1,vS a2 sl.length a3] 26)::(bX b1 #[vI (0),vI (0),vN,vN,vN] 26)::(hM++(yM++(a5++F))))) (E3 :) (.refl _) (fun a6d a6r a5n c9 U5=>?_));obtain ⟨f2,e3,A9,y5,Y6⟩:=U5;rw [A9,y5];clear A9 y5;replace b0:=b0.mono c9;replace b2:=b2.mono c9;replace c5:=c5.mono c9;refine nm ?_;have hk2:0≤(e3)∧(e3)≤9:=by
   have hq:=Y6;simp only [List.mem_cons,List.not_mem_nil,or_false] at hq;omega
  refine sd (da 100 (h) ((e3))) (sp 1 [(16,vI (h+((e3))))] (se (rq ?_)));have hnt:=hns (by omega);refine rdX (M:=((bX p #[.int .u64 (f2)] 91)::(bX b5 #[vI (↑Pn),vI (↑Qn),vS b3 b7.length b4,vS a0 ks.length a1,vS a2 sl.length a3] 26)::(bX b1 #[vI (0),vI (0),vN,vN,vN] 26)::(hM++(yM++(a5++[]))))) (F0:=F) [(20,19,.cl 28 #[vI (0),vI (0),vI (0),vI (0),vI (0),vI (0),.bool (false),vI (0)])] 21 [(0,true),(1,true),(2,true),(3,true),(4,true),(5,true),(6,true),(9,true),(10,true),(11,true),(12,true),(14,true),(15,true),(16,true),(17,true),(7,false),(8,false),(13,false),(18,false),(19,true),(20,false)] (by simp only [AA,CA,NA,List.append_nil];exact PR _) (KK (alOk_cl (ops:=FG (c_LinenOf [1,1,1,1,1,1,1,0,1,0,0,1,0,0,1,1,0])) (i:=20) (d:=19) (by kernel_rfl) (by kernel_rfl) (by kernel_rfl)) GY) ?_;refine AW (AM (d:=101) (v:=vS e7 a8.length e8) (by kernel_rfl)) ?_;refine AW (AM (d:=102) (v:=vI (↑t)) (by kernel_rfl)) ?_;refine AW (di 103 1 (t) c5.addr) ?_;refine AW (dl 104 (CY c5 (t) (by omega))) ?_;refine AW (da 105 (1) (a8.getD (t) 0)) ?_;refine AW (AM (d:=106) (v:=vI (h+((e3)))) (by kernel_rfl)) ?_;refine AW (AM (d:=107) (v:=vP p 0) (by kernel_rfl)) ?_;refine AW (AM (d:=110) (v:=vP p 0) (by kernel_rfl)) ?_;refine AW (AM (d:=111) (v:=vP b5 0) (by kernel_rfl)) ?_;refine MW (Rx:=((bX b5 #[vI (↑Pn),vI (↑Qn),vS b3 b7.length b4,vS a0 ks.length a1,vS a2 sl.length a3] 26)::[])) (PS _ _ _) (dlb 112 0 0 b5 (vI (↑Pn))) ?_;refine AW (dsb 113 (↑Pn) (1)) ?_;refine AW (AM (d:=115) (v:=vP p 0) (by kernel_rfl)) ?_;refine AW (AM (d:=116) (v:=vP b5 1) (by kernel_rfl)) ?_;refine MW (Rx:=((bX b5 #[vI (↑Pn),vI (↑Qn),vS b3 b7.length b4,vS a0 ks.length a1,vS a2 sl.length a3] 26)::[])) (PS _ _ _) (dlb 117 0 1 b5 (vI (↑Qn))) ?_;refine AW (dsb 118 (↑Qn) (1)) ?_;refine DG (Mx:=fun FX=>((bX p #[.int .u64 (f2)] 91)::(bX b5 #[vI (↑Pn),vI (↑Qn),vS b3 b7.length b4,vS a0 ks.length a1,vS a2 sl.length a3] 26)::(bX b1 #[vI (0),vI (0),vN,vN,vN] 26)::(hM++(yM++(a5++FX))))) rfl (fun FX=>by simp only [AA,CA,NA,List.append_nil];exact PR _) (fun FX=>?_);refine stp_hk (sbs 108 3 10 #[vI (1),vI (1),vI (2),vI (2),vI (3),vI (4),vI (4),vI (4),vI (5),vI (6)] (fun C7=>?_));refine hk_mem (M':=((bX p #[.int .u64 (f2)] 91)::(bX b5 #[vI (↑Pn),vI (↑Qn),vS b3 b7.length b4,vS a0 ks.length a1,vS a2 sl.length a3] 26)::(bX b1 #[vI (0),vI (0),vN,vN,vN] 26)::([(bX C7 #[vI (1),vI (1),vI (2),vI (2),vI (3),vI (4),vI (4),vI (4),vI (5),vI (6)] 3)]++(hM++(yM++(a5++FX)))))) (fun w h=>h.perm ((PS _ _ _).trans (PC _ ((PS _ _ _).trans (PC _ (PS _ _ _)))))) ?_;have T1:Own 3 1 AJ (vS (some ⟨C7,0,none⟩) 10 10) ([(1:Int),(1:Int),(2:Int),(2:Int),(3:Int),(4:Int),(4:Int),(4:Int),(5:Int),(6:Int)]:List Int) [(bX C7 #[vI (1),vI (1),vI (2),vI (2),vI (3),vI (4),vI (4),vI (4),vI (5),vI (6)] 3)]:=Own.lit rfl rfl;refine MO (B:=((bX p #[.int .u64 (f2)] 91)::(bX b5 #[vI (↑Pn),vI (↑Qn),vS b3 b7.length b4,vS a0 ks.length a1,vS a2 sl.length a3] 26)::(bX b1 #[vI (0),vI (0),vN,vN,vN] 26)::(hM++(yM++(a5++FX))))) 0 T1 (by first | omega | (simp only [LS,LC,LN,LA,LK,LD] <;> omega) | decide) (PU (PU (PM.symm))) (PR _) (fun a1h d3 m2=>?_);replace b0:=b0.mono d3;replace b2:=b2.mono d3;obtain ⟨a0p,a0r,a0q,a0u,u5,a0s,a0t,a0v⟩:=id m2;cases u5;refine hk_done ?_;refine FB (M1:=((bX p #[.int .u64 (f2)] 91)::(bX b5 #[vI (↑Pn),vI (↑Qn),vS b3 b7.length b4,vS a0 ks.length a1,vS a2 sl.length a3] 26)::(bX b1 #[vI (0),vI (0),vN,vN,vN] 26)::(hM++(yM++(a5++[]))))) (by simp only [AA,CA,NA,List.append_nil];exact (PR _)) (.none (.part (PS _ _ _) (.none (.none (.none (.part (PS _ _ _) (.none (.none (.none (.none (.none (.none (.none (.none (.none .nil))))))))))))))) ?_;refine DG (Mx:=fun FX=>((bX p #[.int .u64 (f2)] 91)::(bX b5 #[vI (↑Pn),vI (↑Qn),vS b3 b7.length b4,vS a0 ks.length a1,vS a2 sl.length a3] 26)::(bX b1 #[vI (0),vI (0),vN,vN,vN] 26)::(hM++(yM++(a5++FX))))) rfl (fun FX=>by simp only [AA,CA,NA,List.append_nil];exact PR _) (fun FX=>?_);have E4:=One_ct a1h (p) (f2) _ _ m2 (by simp);refine id (sc (some 109) (F:=((bX b5 #[vI (↑Pn),vI (↑Qn),vS b3 b7.length b4,vS a0 ks.length a1,vS a2 sl.length a3] 26)::(bX b1 #[vI (0),vI (0),vN,vN,vN] 26)::(hM++(yM++(a5++FX))))) (E4 :) (PR _) (fun a6e a1i a5o d4 U6=>?_));obtain ⟨l6,a7,B0,y6,Y7⟩:=U6;rw [B0,y6];clear B0 y6;replace b0:=b0.mono d4;replace b2:=b2.mono d4;refine FB (M1:=((bX p #[.int .u64 (l6)] 91)::(bX b5 #[vI (↑Pn),vI (↑Qn),vS b3 b7.length b4,vS a0 ks.length a1,vS a2 sl.length a3] 26)::(bX b1 #[vI (0),vI (0),vN,vN,vN] 26)::(hM++(yM++(a5++[]))))) (by simp only [AA,CA,NA,List.append_nil];exact (PR _)) (.none (.part (PS _ _ _) (.none (.none (.none (.part (PS _ _ _) (.none (.none (.wait (by kernel_rfl) (.none (.none (.none (.none (.none (.none .nil))))))))))))))) ?_;show OFPX _ _ _ _ _ _ _ _ _ _ ((109,vI ((a7)))::_) _ _;have hkd:1≤(a7)∧(a7)≤6:=by
   have hq:=Y7;simp only [List.mem_cons,List.not_mem_nil,or_false] at hq;omega
  refine DG (Mx:=fun FX=>((bX p #[.int .u64 (l6)] 91)::(bX b5 #[vI (↑Pn),vI (↑Qn),vS b3 b7.length b4,vS a0 ks.length a1,vS a2 sl.length a3] 26)::(bX b1 #[vI (0),vI (0),vN,vN,vN] 26)::(hM++(yM++(a5++FX))))) rfl (fun FX=>by simp only [AA,CA,NA,List.append_nil];exact PR _) (fun FX=>?_);have E5:=NO a1i (p) (l6) (↑Pn-1) (by omega);refine id (sc (some 114) (F:=((bX b5 #[vI (↑Pn),vI (↑Qn),vS b3 b7.length b4,vS a0 ks.length a1,vS a2 sl.length a3] 26)::(bX b1 #[vI (0),vI (0),vN,vN,vN] 26)::(hM++(yM++(a5++FX))))) (E5 :) (PR _) (fun a6f a1j a5p d5 U7=>?_));obtain ⟨l7,a4,B1,y7,a5e⟩:=U7;rw [B1,y7];clear B1 y7;replace b0:=b0.mono d5;replace b2:=b2.mono d5;refine FB (M1:=((bX p #[.int .u64 (l7)] 91)::(bX b5 #[vI (↑Pn),vI (↑Qn),vS b3 b7.length b4,vS a0 ks.length a1,vS a2 sl.length a3] 26)::(bX b1 #[vI (0),vI (0),vN,vN,vN] 26)::(hM++(yM++(a5++[]))))) (by simp only [AA,CA,NA,List.append_nil];exact (PR _)) (.none (.part (PS _ _ _) (.none (.none (.wait (by kernel_rfl) (.wait (by kernel_rfl) (.wait (by kernel_rfl) (.wait (by kernel_rfl) (.wait (by kernel_rfl) (.none (.none (.none (.none (.none (.none .nil))))))))))))))) ?_;show OFPX _ _ _ _ _ _ _ _ _ _ ((114,vI (↑a4))::_) _ _;refine DG (Mx:=fun FX=>((bX p #[.int .u64 (l7)] 91)::(bX b5 #[vI (↑Pn),vI (↑Qn),vS b3 b7.length b4,vS a0 ks.length a1,vS a2 sl.length a3] 26)::(bX b1 #[vI (0),vI (0),vN,vN,vN] 26)::(hM++(yM++(a5++FX))))) rfl (fun FX=>by simp only [AA,CA,NA,List.append_nil];exact PR _) (fun FX=>?_);have E6:=NO a1j (p) (l7) (↑Qn-1) (by omega);refine id (sc (some 119) (F:=((bX b5 #[vI (↑Pn),vI (↑Qn),vS b3 b7.length b4,vS a0 ks.length a1,vS a2 sl.length a3] 26)::(bX b1 #[vI (0),vI (0),vN,vN,vN] 26)::(hM++(yM++(a5++FX))))) (E6 :) (PR _) (fun a6g m7 a5q d6 U8=>?_));obtain ⟨f3,a9,B2,y8,a5f⟩:=U8;rw [B2,y8];clear B2 y8;replace b0:=b0.mono d6;replace b2:=b2.mono d6;refine FB (M1:=((bX p #[.int .u64 (f3)] 91)::(bX b5 #[vI (↑Pn),vI (↑Qn),vS b3 b7.length b4,vS a0 ks.length a1,vS a2 sl.length a3] 26)::(bX b1 #[vI (0),vI (0),vN,vN,vN] 26)::(hM++(yM++(a5++[]))))) (by simp only [AA,CA,NA,List.append_nil];exact (PR _)) (.wait (by kernel_rfl) (.wait (by kernel_rfl) (.wait (by kernel_rfl) (.wait (by kernel_rfl) (.wait (by kernel_rfl) (.wait (by kernel_rfl) (.wait (by kernel_rfl) (.wait (by kernel_rfl) (.wait (by kernel_rfl) (.none (.none (.none (.none (.none (.none .nil))))))))))))))) ?_;show OFPX _ _ _ _ _ _ _ _ _ _ ((119,vI (↑a9))::_) _ _;refine AG (AM (d:=120) (v:=.agg #[vI (1+(a8.getD (t) 0)),vI (h+((e3))),vI ((a7)),vI (↑a4),vI (0),vI (↑a9),.bool (false),vI (0)]) (by kernel_rfl)) ?_;refine ofx_ac rfl (fun a6=>?_);refine FE (AX (M':=((bX a6 #[vI (0),vI (0),vI (0),vI (0),vI (0),vI (0),.bool (false),vI (0)] 28)::(bX p #[.int .u64 (f3)] 91)::(bX b5 #[vI (↑Pn),vI (↑Qn),vS b3 b7.length b4,vS a0 ks.length a1,vS a2 sl.length a3] 26)::(bX b1 #[vI (0),vI (0),vN,vN,vN] 26)::(hM++(yM++(a5++F))))) (fun w h=>by simpa only [AA,CA,NA,List.append_nil] using h) (nm ?_));refine sS (ss 0 0 a6 [vI (1+(a8.getD (t) 0)),vI (h+((e3))),vI ((a7)),vI (↑a4),vI (0),vI (↑a9),.bool (false),vI (0)] [vI (1+(a8.getD (t) 0)),vI (h+((e3))),vI ((a7)),vI (↑a4),vI (0),vI (↑a9),.bool (false),vI (0)] (_::_::_::_::_) (cs:=[_,_,_,_,_,_,_,_]) rfl rfl (se (rq ?_)));refine DI (fun a w=>∃ h2:Int,(0≤h2∧h2≤10*(t+1))∧Slots 346 [(0,vP p 0),(1,vI (n1)),(2,vI (n2)),(6,vP b1 0),(7,vP b5 0),(8,vS e1 f5.length e2),(16,vI h2),(17,vS e7 a8.length e8),(18,vI (↑t)),(19,vP a6 0),(26,.agg #[vI (↑Pn),vI (↑Qn),vN,vN,vN])] a∧a.defers=[]∧St m7 ((bX a6 #[vI (1+(a8.getD (t) 0)),vI (h2),vI ((a7)),vI (↑a4),vI (0),vI (↑a9),.bool (false),vI (0)] 28)::(bX p #[.int .u64 (f3)] 91)::(bX b5 #[vI (↑Pn),vI (↑Qn),vS b3 b7.length b4,vS a0 ks.length a1,vS a2 sl.length a3] 26)::(bX b1 #[vI (0),vI (0),vN,vN,vN] 26)::(hM++(yM++(a5++F)))) w) ?_ ?_
  ·
   refine rq ?_;refine DI (fun a w=>Slots 346 [(0,vP p 0),(1,vI (n1)),(2,vI (n2)),(6,vP b1 0),(7,vP b5 0),(8,vS e1 f5.length e2),(16,vI (h+((e3)))),(17,vS e7 a8.length e8),(18,vI (↑t)),(19,vP a6 0),(26,.agg #[vI (↑Pn),vI (↑Qn),vN,vN,vN]),(152,.bool ((cmp .gtr (↑(sl.length)) (0))&&((cmp .eql (h+((e3))) ((sl.getD (((↑(sl.length))-1:Int).toNat) AB).hour))&&(cmp .lss (1+(a8.getD (t) 0)) ((sl.getD (((↑(sl.length))-1:Int).toNat) AB).num)))))] a∧a.defers=[]∧St m7 ((bX a6 #[vI (1+(a8.getD (t) 0)),vI (h+((e3))),vI ((a7)),vI (↑a4),vI (0),vI (↑a9),.bool (false),vI (0)] 28)::(bX p #[.int .u64 (f3)] 91)::(bX b5 #[vI (↑Pn),vI (↑Qn),vS b3 b7.length b4,vS a0 ks.length a1,vS a2 sl.length a3] 26)::(bX b1 #[vI (0),vI (0),vN,vN,vN] 26)::(hM++(yM++(a5++F)))) w) ?_ ?_
   ·
    refine rd0 30 (ox 1 [(121,vP b5 4)] ?_);refine AE (dlb 122 2 4 b5 (vS a2 sl.length a3)) (ox 3 [(125,.bool (cmp .gtr (↑(sl.length)) (0)))] ?_);refine HT 125 (fun h6=>?_) (fun h6=>?_)
    ·
     have n7:=h6;have n7:=LI n7;refine ox 1 [(126,vP a6 1)] ?_;refine AE (dlb 127 0 1 a6 (vI (h+((e3))))) (ox 1 [(128,vP b5 4)] ?_);refine AE (dlb 129 2 4 b5 (vS a2 sl.length a3)) (ox 1 [(130,vP b5 4)] ?_);refine AE (dlb 131 2 4 b5 (vS a2 sl.length a3)) (ox 1 [(132,vI (↑(sl.length)))] ?_);refine AE (dsb 133 (↑(sl.length)) (1)) ?_;obtain ⟨W6,r1⟩:=c0.row AB;refine AE (diI 134 8 ((↑(sl.length))-1) r1.addr) (ox 1 [(135,.pointer (some ⟨W6,0+(((↑(sl.length))-1:Int).toNat)*8+1,none⟩))] ?_);refine AE (dl 136 (r1.get (((↑(sl.length))-1:Int).toNat) (by omega) 1 (by decide) _ _ (fun x hx=>by simp [hx]))) (ox 3 [(139,.bool (cmp .eql (h+((e3))) ((sl.getD (((↑(sl.length))-1:Int).toNat) AB).hour)))] ?_);refine HT 139 (fun h7=>?_) (fun h7=>?_)
     ·
      have n8:=h7;have n8:=BX n8;refine ox 1 [(140,vP a6 0)] ?_;refine AE (dlb 141 0 0 a6 (vI (1+(a8.getD (t) 0)))) (ox 1 [(142,vP b5 4)] ?_);refine AE (dlb 143 2 4 b5 (vS a2 sl.length a3)) (ox 1 [(144,vP b5 4)] ?_);refine AE (dlb 145 2 4 b5 (vS a2 sl.length a3)) (ox 1 [(146,vI (↑(sl.length)))] ?_);refine AE (dsb 147 (↑(sl.length)) (1)) ?_;obtain ⟨W7,r2⟩:=c0.row AB;refine AE (diI 148 8 ((↑(sl.length))-1) r2.addr) (ox 1 [(149,.pointer (some ⟨W7,0+(((↑(sl.length))-1:Int).toNat)*8,none⟩))] ?_);refine AE (dl 150 (r2.get (((↑(sl.length))-1:Int).toNat) (by omega) 0 (by decide) _ _ (fun x hx=>by simp [hx]))) ?_;refine BE (sp 2 [(152,.bool (cmp .lss (1+(a8.getD (t) 0)) ((sl.getD (((↑(sl.length))-1:Int).toNat) AB).num)))] (ee ?_));refine AO (fun a w hS hD hW=>⟨hS.sub (.cons 0 rfl (.cons 1 rfl (.cons 2 rfl (.cons 6 rfl (.cons 7 rfl (.cons 8 rfl (.cons 16 rfl (.cons 17 rfl (.cons 18 rfl (.cons 19 rfl (.cons 26 rfl (.consE 152 rfl (congrArg Value.bool (by simp only [h6,h7,kA,kB,kC,kD,kE,kF,kG,kH,kI,kJ])) (.nil _))))))))))))),hD,hW⟩)
     have n8:=h7;have n8:=BW n8;refine ox 11 [(150,undef),(141,undef)] ?_;refine BE (sp 2 [(152,.bool (false))] (ee ?_));refine AO (fun a w hS hD hW=>⟨hS.sub (.cons 0 rfl (.cons 1 rfl (.cons 2 rfl (.cons 6 rfl (.cons 7 rfl (.cons 8 rfl (.cons 16 rfl (.cons 17 rfl (.cons 18 rfl (.cons 19 rfl (.cons 26 rfl (.consE 152 rfl (congrArg Value.bool (by simp only [h6,h7,kA,kB,kC,kD,kE,kF,kG,kH,kI,kJ])) (.nil _))))))))))))),hD,hW⟩)
    have n7:=h6;have n7:=gtr_f n7;refine ox 25 [(150,undef),(141,undef),(139,.bool (false))] ?_;refine BE (sp 2 [(152,.bool (false))] (ee ?_));refine AO (fun a w hS hD hW=>⟨hS.sub (.cons 0 rfl (.cons 1 rfl (.cons 2 rfl (.cons 6 rfl (.cons 7 rfl (.cons 8 rfl (.cons 16 rfl (.cons 17 rfl (.cons 18 rfl (.cons 19 rfl (.cons 26 rfl (.consE 152 rfl (congrArg Value.bool (by simp only [h6,kA,kB,kC,kD,kE,kF,kG,kH,kI,kJ])) (.nil _))))))))))))),hD,hW⟩)
   rintro a w ⟨hS,hD,hW⟩
   refine AR hS hD hW ?_;clear hS hD hW a w;refine rc 152 rfl (fun h8=>?_) (fun h8=>?_)
   ·
    have a2o:=h8;obtain ⟨Q4,a2n⟩:=NP h8;have Q4:=LI Q4;obtain ⟨n9,o0⟩:=NP a2n;have n9:=BX n9;have o0:=CL o0;refine rqr (sp 1 [(153,vI (h+((e3))))] (sd (da 154 (h+((e3))) (1)) (sp 1 [(16,vI ((h+((e3)))+1))] (se (rr (sp 2 [(156,vP a6 1),(155,vI ((h+((e3)))+1))] (sS (ss 0 1 a6 [vI ((h+((e3)))+1)] [vI (1+(a8.getD (t) 0)),vI ((h+((e3)))+1),vI ((a7)),vI (↑a4),vI (0),vI (↑a9),.bool (false),vI (0)] (_::_::_::_::_) (cs:=[_,_,_,_,_,_,_,_]) rfl rfl (ee ?_)))))))));exact AO (fun a w hS hD hW=>⟨((h+((e3)))+1),(by omega),hS.sub (.cons 0 rfl (.cons 1 rfl (.cons 2 rfl (.cons 6 rfl (.cons 7 rfl (.cons 8 rfl (.consE 16 rfl rfl (.cons 17 rfl (.cons 18 rfl (.cons 19 rfl (.cons 26 rfl (.nil _)))))))))))),hD,hW⟩)
   have a2o:=h8;refine AQ ?_;exact AO (fun a w hS hD hW=>⟨(h+((e3))),(by omega),hS.sub (.cons 0 rfl (.cons 1 rfl (.cons 2 rfl (.cons 6 rfl (.cons 7 rfl (.cons 8 rfl (.consE 16 rfl rfl (.cons 17 rfl (.cons 18 rfl (.cons 19 rfl (.cons 26 rfl (.nil _)))))))))))),hD,hW⟩)
  rintro a w ⟨h2,hh3,hS,hD,hW⟩
  refine AR hS hD hW ?_;clear hS hD hW a w;refine rq ?_;refine DI (fun a w=>∃ e5:Imm,∃ so:Bool,∃ K8:Int,(m7.le e5)∧(so=true→(a7)=1∨(a7)=4)∧Slots 346 [(0,vP p 0),(1,vI (n1)),(2,vI (n2)),(6,vP b1 0),(7,vP b5 0),(8,vS e1 f5.length e2),(16,vI (h2)),(17,vS e7 a8.length e8),(18,vI (↑t)),(19,vP a6 0),(26,.agg #[vI (↑Pn),vI (↑Qn),vN,vN,vN])] a∧a.defers=[]∧St e5 ((bX a6 #[vI (1+(a8.getD (t) 0)),vI (h2),vI ((a7)),vI (↑a4),vI (0),vI (↑a9),.bool (so),vI (0)] 28)::(bX p #[.int .u64 (K8)] 91)::(bX b5 #[vI (↑Pn),vI (↑Qn),vS b3 b7.length b4,vS a0 ks.length a1,vS a2 sl.length a3] 26)::(bX b1 #[vI (0),vI (0),vN,vN,vN] 26)::(hM++(yM++(a5++F)))) w) ?_ ?_
  ·
   refine rr (sp 1 [(157,vP a6 2)] (sd (dlb 158 0 2 a6 (vI ((a7)))) (sp 2 [(160,.bool (cmp .eql ((a7)) (1)))] ?_)));refine BV 160 rfl (fun h9=>?_) (fun h9=>?_)
   ·
    have o1:=h9;have o1:=BX o1;refine sp 6 [(166,vP p 0),(165,.bool (true))] ?_;have E7:=MD m7 (p) (f3) (1) (2) (by omega);refine sS (sc (some 167) (F:=((bX a6 #[vI (1+(a8.getD (t) 0)),vI (h2),vI ((a7)),vI (↑a4),vI (0),vI (↑a9),.bool (false),vI (0)] 28)::(bX b5 #[vI (↑Pn),vI (↑Qn),vS b3 b7.length b4,vS a0 ks.length a1,vS a2 sl.length a3] 26)::(bX b1 #[vI (0),vI (0),vN,vN,vN] 26)::(hM++(yM++(a5++F))))) (E7 :) (PS _ _ _) (fun a6h a1k a5r j6 U9=>?_));obtain ⟨K3,u8,B3,y9⟩:=U9;rw [B3,y9];clear B3 y9;replace b0:=b0.mono j6;replace b2:=b2.mono j6;refine nm ?_;refine sp 2 [(169,vP a6 6),(168,.bool (u8))] (sS (ss 1 6 a6 [.bool (u8)] [vI (1+(a8.getD (t) 0)),vI (h2),vI ((a7)),vI (↑a4),vI (0),vI (↑a9),.bool (u8),vI (0)] (_::_::_::_::_) (cs:=[_,_,_,_,_,_,_,_]) rfl rfl (ee ?_)));exact AO (fun a w hS hD hW=>⟨a1k,u8,K3,j6,(fun hq=>by first | omega | cases hq),hS.sub (.cons 0 rfl (.cons 1 rfl (.cons 2 rfl (.cons 6 rfl (.cons 7 rfl (.cons 8 rfl (.cons 16 rfl (.cons 17 rfl (.cons 18 rfl (.cons 19 rfl (.cons 26 rfl (.nil _)))))))))))),hD,hW.perm (PS _ _ _)⟩)
   have o1:=h9;have o1:=BW o1;refine sp 1 [(161,vP a6 2)] (sd (dlb 162 0 2 a6 (vI ((a7)))) (sp 3 [(165,.bool (cmp .eql ((a7)) (4)))] ?_));refine BV 165 rfl (fun h10=>?_) (fun h10=>?_)
   ·
    have i8:=h10;have i8:=BX i8;refine sp 1 [(166,vP p 0)] ?_;have E8:=MD m7 (p) (f3) (1) (2) (by omega);refine sS (sc (some 167) (F:=((bX a6 #[vI (1+(a8.getD (t) 0)),vI (h2),vI ((a7)),vI (↑a4),vI (0),vI (↑a9),.bool (false),vI (0)] 28)::(bX b5 #[vI (↑Pn),vI (↑Qn),vS b3 b7.length b4,vS a0 ks.length a1,vS a2 sl.length a3] 26)::(bX b1 #[vI (0),vI (0),vN,vN,vN] 26)::(hM++(yM++(a5++F))))) (E8 :) (PS _ _ _) (fun a6i a1l a5s j7 V0=>?_));obtain ⟨K4,u9,B4,z0⟩:=V0;rw [B4,z0];clear B4 z0;replace b0:=b0.mono j7;replace b2:=b2.mono j7;refine nm ?_;refine sp 2 [(169,vP a6 6),(168,.bool (u9))] (sS (ss 1 6 a6 [.bool (u9)] [vI (1+(a8.getD (t) 0)),vI (h2),vI ((a7)),vI (↑a4),vI (0),vI (↑a9),.bool (u9),vI (0)] (_::_::_::_::_) (cs:=[_,_,_,_,_,_,_,_]) rfl rfl (ee ?_)));exact AO (fun a w hS hD hW=>⟨a1l,u9,K4,j7,(fun hq=>by first | omega | cases hq),hS.sub (.cons 0 rfl (.cons 1 rfl (.cons 2 rfl (.cons 6 rfl (.cons 7 rfl (.cons 8 rfl (.cons 16 rfl (.cons 17 rfl (.cons 18 rfl (.cons 19 rfl (.cons 26 rfl (.nil _)))))))))))),hD,hW.perm (PS _ _ _)⟩)
   have i8:=h10;have i8:=BW i8;refine sp 4 [(169,vP a6 6),(168,.bool (false))] (sS (ss 0 6 a6 [.bool (false)] [vI (1+(a8.getD (t) 0)),vI (h2),vI ((a7)),vI (↑a4),vI (0),vI (↑a9),.bool (false),vI (0)] (_::_::_::_::_) (cs:=[_,_,_,_,_,_,_,_]) rfl rfl (ee ?_)));exact AO (fun a w hS hD hW=>⟨m7,false,f3,(IR _),(fun hq=>by first | omega | cases hq),hS.sub (.cons 0 rfl (.cons 1 rfl (.cons 2 rfl (.cons 6 rfl (.cons 7 rfl (.cons 8 rfl (.cons 16 rfl (.cons 17 rfl (.cons 18 rfl (.cons 19 rfl (.cons 26 rfl (.nil _)))))))))))),hD,hW⟩)
  rintro a w ⟨e5,so,K8,c1,g0,hS,hD,hW⟩
  refine AR hS hD hW ?_;clear hS hD hW a w;replace b0:=b0.mono c1;replace b2:=b2.mono c1;refine rq ?_;refine DI (fun a w=>∃ c4:Imm,∃ tn:Nat,∃ j2:Int,(e5.le c4)∧(((a7)=1→tn<Pn∧tn≠a4)∧((a7)≠1→tn=0))∧Slots 346 [(0,vP p 0),(1,vI (n1)),(2,vI (n2)),(6,vP b1 0),(7,vP b5 0),(8,vS e1 f5.length e2),(16,vI (h2)),(17,vS e7 a8.length e8),(18,vI (↑t)),(19,vP a6 0),(26,.agg #[vI (↑Pn),vI (↑Qn),vN,vN,vN])] a∧a.defers=[]∧St c4 ((bX a6 #[vI (1+(a8.getD (t) 0)),vI (h2),vI ((a7)),vI (↑a4),vI (↑tn),vI (↑a9),.bool (so),vI (0)] 28)::(bX p #[.int .u64 (j2)] 91)::(bX b5 #[vI (↑Pn),vI (↑Qn),vS b3 b7.length b4,vS a0 ks.length a1,vS a2 sl.length a3] 26)::(bX b1 #[vI (0),vI (0),vN,vN,vN] 26)::(hM++(yM++(a5++F)))) w) ?_ ?_
  ·
   refine rqr (sp 1 [(170,vP a6 2)] (sd (dlb 171 0 2 a6 (vI ((a7)))) (sp 1 [(172,.bool (cmp .eql ((a7)) (1)))] (se (rc 172 rfl (fun D0=>?_) (fun D0=>?_))))))
   ·
    have P1:=D0;have D0:=BX D0;refine rq (rqr (sp 1 [(173,vP b5 0)] (sd (dlb 174 2 0 b5 (vI (↑Pn))) (sp 1 [(175,.bool (cmp .eql (↑Pn) (1)))] (se (rc 175 rfl (fun D1=>?_) (fun D1=>?_)))))))
    ·
     have P2:=D1;have D1:=BX D1;refine CB 7 ((EP (EP (EB (NX (rr (sp 1 [(90,vI (↑t))] (sd (da 91 (↑t) (1)) (sp 1 [(18,vI (↑t+1))] (ee ?_))))))))));refine AN (8-(t+1)) (by omega) ?_;intro a w hS hD hW;exact ⟨e5,t+1,h2,sl,hy,yM,K8,vS a2 sl.length a3,a5,(IT (IT (IT (IT (IT (IT (IT (IT (IT hJ3 c6) c7) c8) c9) d3) d4) d5) d6) c1),by omega,(by omega),m6.skip,by simpa only [LS] using p3,(by have d0:=k3.mono (B':=100+50*((t+1:Nat):Int)) (by omega);repeat' (first | exact d0 | refine RowsB.put ?_ ?_ | refine RowB.set ?_ ?_ | refine RowsB.row ?_ ?_ | omega | (simp only [LS];omega))),hye,c0,hS.sub (.consE 16 rfl rfl (.consE 18 rfl rfl (.cons 0 rfl (.cons 1 rfl (.cons 2 rfl (.cons 6 rfl (.cons 7 rfl (.cons 8 rfl (.cons 17 rfl (.cons 26 rfl (.nil _))))))))))),hD,(hW.perm (PR _)).sub (TC _ (TR _)),rfl⟩
    have P2:=D1;have D1:=BW D1;refine AQ (NX ?_);refine rpm (PC _ ((PS _ _ _).trans (PC _ (PS _ _ _)))) ?_;refine rd 10 [(0,true),(1,true),(2,true),(3,true),(4,true),(5,true),(8,true),(9,true),(6,false),(7,true)] ((bX a6 #[vI (1+(a8.getD (t) 0)),vI (h2),vI ((a7)),vI (↑a4),vI (0),vI (↑a9),.bool (so),vI (0)] 28)::(bX b5 #[vI (↑Pn),vI (↑Qn),vS b3 b7.length b4,vS a0 ks.length a1,vS a2 sl.length a3] 26)::(bX b1 #[vI (0),vI (0),vN,vN,vN] 26)::[]) ((bX p #[.int .u64 (K8)] 91)::(hM++(yM++(a5++F)))) (ox 1 [(176,vP a6 3)] ?_);refine AE (dlb 177 0 3 a6 (vI (↑a4))) (ox 2 [(179,vP b5 0),(178,vP p 0)] ?_);refine AE (dlb 180 1 0 b5 (vI (↑Pn))) ?_;refine AE (dsb 181 (↑Pn) (1)) (ox 1 [(184,vP b5 0)] ?_);refine AE (dlb 185 1 0 b5 (vI (↑Pn))) ?_;have E9:=NM e5 (p) (K8) (1) (↑Pn-1) (by omega) (by omega);refine JQ (sc (some 182) (F:=((bX a6 #[vI (1+(a8.getD (t) 0)),vI (h2),vI ((a7)),vI (↑a4),vI (0),vI (↑a9),.bool (so),vI (0)] 28)::(bX b5 #[vI (↑Pn),vI (↑Qn),vS b3 b7.length b4,vS a0 ks.length a1,vS a2 sl.length a3] 26)::(bX b1 #[vI (0),vI (0),vN,vN,vN] 26)::(hM++(yM++(a5++F))))) (E9 :) ((PC _ ((PC _ (PS _ _ _)).trans (PS _ _ _))).trans (PS _ _ _)) (fun a6j a1m a5t j8 V1=>?_));obtain ⟨g9,K5,B5,z1,a5g⟩:=V1;rw [B5,z1];clear B5 z1;replace b0:=b0.mono j8;replace b2:=b2.mono j8;refine FL (S':=((bX p #[.int .u64 (g9)] 91)::(hM++(yM++(a5++F))))) (show List.Perm ((bX p #[.int .u64 (g9)] 91)::(bX a6 #[vI (1+(a8.getD (t) 0)),vI (h2),vI ((a7)),vI (↑a4),vI (0),vI (↑a9),.bool (so),vI (0)] 28)::(bX b5 #[vI (↑Pn),vI (↑Qn),vS b3 b7.length b4,vS a0 ks.length a1,vS a2 sl.length a3] 26)::(bX b1 #[vI (0),vI (0),vN,vN,vN] 26)::(hM++(yM++(a5++F)))) ((bX a6 #[vI (1+(a8.getD (t) 0)),vI (h2),vI ((a7)),vI (↑a4),vI (0),vI (↑a9),.bool (so),vI (0)] 28)::(bX b5 #[vI (↑Pn),vI (↑Qn),vS b3 b7.length b4,vS a0 ks.length a1,vS a2 sl.length a3] 26)::(bX b1 #[vI (0),vI (0),vN,vN,vN] 26)::(bX p #[.int .u64 (g9)] 91)::(hM++(yM++(a5++F)))) from ((PS _ _ _).trans (PC _ ((PS _ _ _).trans (PC _ (PS _ _ _)))))) ?_;show OFP _ _ _ _ _ _ ((182,vI ((K5)))::_) _ _;refine AE (da 183 (↑a4) ((K5))) ?_;refine KR (nm (nm ?_));have G0:=Foldx_ct a1m (↑a4+((K5))) (Pn) (by omega);refine sS (sc (some 186) (G0 :) (.refl _) (fun a6k a1n a5u j9 V2=>?_));obtain ⟨K6,B6,z2,C3⟩:=V2;rw [B6,z2];clear B6 z2;replace b0:=b0.mono j9;replace b2:=b2.mono j9;refine nm ?_;refine sp 1 [(187,vP a6 4)] (sS (ss 0 4 a6 [vI (↑K6)] [vI (1+(a8.getD (t) 0)),vI (h2),vI ((a7)),vI (↑a4),vI (↑K6),vI (↑a9),.bool (so),vI (0)] (_::_::_::_::_) (cs:=[_,_,_,_,_,_,_,_]) rfl rfl (ee ?_)));exact AO (fun a w hS hD hW=>⟨a1n,K6,g9,(IT j8 j9),⟨fun _=>⟨by have hq:=C3;omega,other_place (by omega) (by omega) (C3.2 (by omega))⟩,fun hq=>absurd (by omega) hq⟩,hS.sub (.cons 0 rfl (.cons 1 rfl (.cons 2 rfl (.cons 6 rfl (.cons 7 rfl (.cons 8 rfl (.cons 16 rfl (.cons 17 rfl (.cons 18 rfl (.cons 19 rfl (.cons 26 rfl (.nil _)))))))))))),hD,hW.perm (PC _ ((PC _ (PS _ _ _)).trans (PS _ _ _)))⟩)
   have P1:=D0;have D0:=BW D0;refine AQ ?_;exact AO (fun a w hS hD hW=>⟨e5,0,K8,(IR _),⟨fun hq=>absurd hq (by omega),fun _=>rfl⟩,hS.sub (.cons 0 rfl (.cons 1 rfl (.cons 2 rfl (.cons 6 rfl (.cons 7 rfl (.cons 8 rfl (.cons 16 rfl (.cons 17 rfl (.cons 18 rfl (.cons 19 rfl (.cons 26 rfl (.nil _)))))))))))),hD,hW⟩)
  rintro a w ⟨c4,tn,j2,c2,k4,hS,hD,hW⟩
  refine AR hS hD hW ?_;clear hS hD hW a w;replace b0:=b0.mono c2;replace b2:=b2.mono c2;refine rqr (sp 1 [(188,vP a6 5)] (sd (dlb 189 0 5 a6 (vI (↑a9))) (sd (dmu 190 (2) (↑a9)) (CQ 190 rfl (show (vI (2*↑a9):Value)=vI (↑(2*a9)) from congrArg (Value.int .i64) (by omega)) (sp 1 [(20,vI (↑(2*a9)))] (se (rq ?_)))))));refine DI (fun a w=>∃ ix:Nat,(ix<2*Qn∧((a7)=2→ix=2*a9)∧((a7)=3→ix=2*a9+1))∧Slots 346 [(0,vP p 0),(1,vI (n1)),(2,vI (n2)),(6,vP b1 0),(7,vP b5 0),(8,vS e1 f5.length e2),(16,vI (h2)),(17,vS e7 a8.length e8),(18,vI (↑t)),(19,vP a6 0),(20,vI ↑ix),(26,.agg #[vI (↑Pn),vI (↑Qn),vN,vN,vN])] a∧a.defers=[]∧St c4 ((bX a6 #[vI (1+(a8.getD (t) 0)),vI (h2),vI ((a7)),vI (↑a4),vI (↑tn),vI (↑a9),.bool (so),vI (0)] 28)::(bX p #[.int .u64 (j2)] 91)::(bX b5 #[vI (↑Pn),vI (↑Qn),vS b3 b7.length b4,vS a0 ks.length a1,vS a2 sl.length a3] 26)::(bX b1 #[vI (0),vI (0),vN,vN,vN] 26)::(hM++(yM++(a5++F)))) w) ?_ ?_
  ·
   refine rq ?_;refine DI (fun a w=>Slots 346 [(0,vP p 0),(1,vI (n1)),(2,vI (n2)),(6,vP b1 0),(7,vP b5 0),(8,vS e1 f5.length e2),(16,vI (h2)),(17,vS e7 a8.length e8),(18,vI (↑t)),(19,vP a6 0),(20,vI (↑(2*a9))),(26,.agg #[vI (↑Pn),vI (↑Qn),vN,vN,vN]),(202,.bool ((so)||((cmp .eql ((a7)) (3))||(cmp .eql ((a7)) (6)))))] a∧a.defers=[]∧St c4 ((bX a6 #[vI (1+(a8.getD (t) 0)),vI (h2),vI ((a7)),vI (↑a4),vI (↑tn),vI (↑a9),.bool (so),vI (0)] 28)::(bX p #[.int .u64 (j2)] 91)::(bX b5 #[vI (↑Pn),vI (↑Qn),vS b3 b7.length b4,vS a0 ks.length a1,vS a2 sl.length a3] 26)::(bX b1 #[vI (0),vI (0),vN,vN,vN] 26)::(hM++(yM++(a5++F)))) w) ?_ ?_
   ·
    refine rr (sp 1 [(191,vP a6 6)] (sd (dlb 192 0 6 a6 (.bool (so))) (sp 1 [(193,.bool (so))] ?_)));refine BV 193 rfl (fun K9=>?_) (fun K9=>?_)
    ·
     have P3:=K9;refine sp 9 [(202,.bool (true))] (ee ?_);refine AO (fun a w hS hD hW=>⟨hS.sub (.cons 0 rfl (.cons 1 rfl (.cons 2 rfl (.cons 6 rfl (.cons 7 rfl (.cons 8 rfl (.cons 16 rfl (.cons 17 rfl (.cons 18 rfl (.cons 19 rfl (.cons 20 rfl (.cons 26 rfl (.consE 202 rfl (congrArg Value.bool (by simp only [K9,kA,kB,kC,kD,kE,kF,kG,kH,kI,kJ])) (.nil _)))))))))))))),hD,hW⟩)
    have P3:=K9;refine sp 1 [(194,vP a6 2)] (sd (dlb 195 0 2 a6 (vI ((a7)))) (sp 3 [(198,.bool (cmp .eql ((a7)) (3)))] ?_));refine BV 198 rfl (fun P4=>?_) (fun P4=>?_)
    ·
     have i9:=P4;have i9:=BX i9;refine sp 4 [(202,.bool (true))] (ee ?_);refine AO (fun a w hS hD hW=>⟨hS.sub (.cons 0 rfl (.cons 1 rfl (.cons 2 rfl (.cons 6 rfl (.cons 7 rfl (.cons 8 rfl (.cons 16 rfl (.cons 17 rfl (.cons 18 rfl (.cons 19 rfl (.cons 20 rfl (.cons 26 rfl (.consE 202 rfl (congrArg Value.bool (by simp only [K9,P4,kA,kB,kC,kD,kE,kF,kG,kH,kI,kJ])) (.nil _)))))))))))))),hD,hW⟩)
    have i9:=P4;have i9:=BW i9;refine sp 1 [(199,vP a6 2)] (sd (dlb 200 0 2 a6 (vI ((a7)))) (sp 2 [(202,.bool (cmp .eql ((a7)) (6)))] (ee ?_)));refine AO (fun a w hS hD hW=>⟨hS.sub (.cons 0 rfl (.cons 1 rfl (.cons 2 rfl (.cons 6 rfl (.cons 7 rfl (.cons 8 rfl (.cons 16 rfl (.cons 17 rfl (.cons 18 rfl (.cons 19 rfl (.cons 20 rfl (.cons 26 rfl (.consE 202 rfl (congrArg Value.bool (by simp only [K9,P4,kA,kB,kC,kD,kE,kF,kG,kH,kI,kJ])) (.nil _)))))))))))))),hD,hW⟩)
   rintro a w ⟨hS,hD,hW⟩
   refine AR hS hD hW ?_;clear hS hD hW a w;refine rc 202 rfl (fun h15=>?_) (fun h15=>?_)
   ·
    have n6:=h15;refine rr (sp 1 [(203,vI (↑(2*a9)))] (sd (da 204 (↑(2*a9)) (1)) (CQ 204 rfl (show (vI ((↑(2*a9))+1):Value)=vI (↑(2*a9+1)) from congrArg (Value.int .i64) (by omega)) (sp 1 [(20,vI (↑(2*a9+1)))] (ee ?_)))));exact AO (fun a w hS hD hW=>⟨(2*a9+1),(by have hz:=ix_yes n6 g0;refine ⟨by omega,fun hq=>?_,fun hq=>?_⟩ <;> omega),hS.sub (.cons 0 rfl (.cons 1 rfl (.cons 2 rfl (.cons 6 rfl (.cons 7 rfl (.cons 8 rfl (.cons 16 rfl (.cons 17 rfl (.cons 18 rfl (.cons 19 rfl (.consE 20 rfl rfl (.cons 26 rfl (.nil _))))))))))))),hD,hW⟩)
   have n6:=h15;obtain ⟨a3o,P5⟩:=or_f h15;obtain ⟨m4,m5⟩:=or_f P5;have m4:=BW m4;have m5:=BW m5;refine AQ ?_;exact AO (fun a w hS hD hW=>⟨(2*a9),(by have hz:=ix_no n6;refine ⟨by omega,fun hq=>?_,fun hq=>?_⟩ <;> omega),hS.sub (.cons 0 rfl (.cons 1 rfl (.cons 2 rfl (.cons 6 rfl (.cons 7 rfl (.cons 8 rfl (.cons 16 rfl (.cons 17 rfl (.cons 18 rfl (.cons 19 rfl (.consE 20 rfl rfl (.cons 26 rfl (.nil _))))))))))))),hD,hW⟩)
  rintro a w ⟨ix,hix,hS,hD,hW⟩
  refine AR hS hD hW ?_;clear hS hD hW a w;refine rq ?_;obtain ⟨e6,c3,e4,M8,f4⟩:=OwnEach.pull hye (a4) (by omega);obtain ⟨Y8,Y9,b8,Z0⟩:=e4.shape;rw [b8] at e4;refine GB (M':=((e6++(c3++(bX a6 #[vI (1+(a8.getD (t) 0)),vI (h2),vI ((a7)),vI (↑a4),vI (↑tn),vI (↑a9),.bool (so),vI (0)] 28)::(bX p #[.int .u64 (j2)] 91)::(bX b5 #[vI (↑Pn),vI (↑Qn),vS b3 b7.length b4,vS a0 ks.length a1,vS a2 sl.length a3] 26)::(bX b1 #[vI (0),vI (0),vN,vN,vN] 26)::(hM++(a5++F)))))) (fun w h=>?_) ?_
  ·have h2:=h.perm (PU (PU (PU (PU (PO _ _ _)))));have h3:=St.permL (A':=e6++c3) (A:=yM) (by simpa only [AA,List.append_nil] using M8) (by simpa only [AA] using h2)
   simpa only [AA] using h3
  refine GB (M':=((bX a6 #[vI (1+(a8.getD (t) 0)),vI (h2),vI ((a7)),vI (↑a4),vI (↑tn),vI (↑a9),.bool (so),vI (0)] 28)::(bX p #[.int .u64 (j2)] 91)::(bX b5 #[vI (↑Pn),vI (↑Qn),vS b3 b7.length b4,vS a0 ks.length a1,vS a2 sl.length a3] 26)::(bX b1 #[vI (0),vI (0),vN,vN,vN] 26)::(e6++(c3++(hM++(a5++F)))))) (fun w h=>h.perm (((PA _ PM).trans PM).trans (PC _ (((PA _ PM).trans PM).trans (PC _ (((PA _ PM).trans PM).trans (PC _ ((PA _ PM).trans PM)))))))) ?_;have a7p:=k3.at (p:=a4) (i:=ix) (by omega) (by omega);refine rr (sp 2 [(206,vP a6 3),(205,vS e1 f5.length e2)] (sd (dlb 207 0 3 a6 (vI (↑a4))) ?_));obtain ⟨a3y,r3⟩:=m8.row undef;refine sd (di 208 1 (a4) r3.addr) (sd (FA (dl 209 (r3.get (a4) (by omega) 0 (by decide) _ _ (fun x hx=>by simp [hx]))) b8) (sp 1 [(210,vI (↑ix))] ?_));obtain ⟨a3z,r4⟩:=e4.row 0;refine sd (di 211 1 (ix) r4.addr) (sd (dl 212 (r4.get (ix) (by omega) 0 (by decide) _ _ (fun x hx=>by simp [hx]))) (sp 1 [(21,vI ((hy.getD (a4) []).getD (ix) 0))] (se (rq (rqr (sp 1 [(213,vP a6 2)] (sd (dlb 214 0 2 a6 (vI ((a7)))) (se (rb 8 (rqr (sp 2 [(299,.bool (cmp .eql ((a7)) (5)))] (se (rc 299 rfl (fun D2=>?_) (fun D2=>?_))))))))))))))
  ·
   have P6:=D2;have D2:=BX D2;refine rqr (sp 1 [(301,vP p 0)] ?_);have G1:=NM c4 (p) (j2) (1) (9) (by omega) (by omega);refine sS (sc (some 302) (F:=((bX a6 #[vI (1+(a8.getD (t) 0)),vI (h2),vI ((a7)),vI (↑a4),vI (↑tn),vI (↑a9),.bool (so),vI (0)] 28)::(bX b5 #[vI (↑Pn),vI (↑Qn),vS b3 b7.length b4,vS a0 ks.length a1,vS a2 sl.length a3] 26)::(bX b1 #[vI (0),vI (0),vN,vN,vN] 26)::(e6++(c3++(hM++(a5++F)))))) (G1 :) (PS _ _ _) (fun a6l a1o a5v k0 V3=>?_));obtain ⟨g5,f0,B7,z3,a5h⟩:=V3;rw [B7,z3];clear B7 z3;replace b0:=b0.mono k0;replace b2:=b2.mono k0;refine nm ?_;refine sp 1 [(303,vP a6 7)] (sS (ss 1 7 a6 [vI ((f0))] [vI (1+(a8.getD (t) 0)),vI (h2),vI ((a7)),vI (↑a4),vI (↑tn),vI (↑a9),.bool (so),vI ((f0))] (_::_::_::_::_) (cs:=[_,_,_,_,_,_,_,_]) rfl rfl (se ?_)));refine rd0 10 (ox 2 [(305,vP a6 3),(304,vS e1 f5.length e2)] ?_);refine AE (dlb 306 1 3 a6 (vI (↑a4))) ?_;obtain ⟨a4a,r5⟩:=m8.row undef;refine AE (di 307 1 (a4) r5.addr) ?_;refine AE (FA (dl 308 (r5.get (a4) (by omega) 0 (by decide) _ _ (fun x hx=>by simp [hx]))) b8) (ox 3 [(311,vP a6 7),(310,vI ((hy.getD (a4) []).getD (ix) 0)),(309,vI (↑ix))] ?_);refine AE (dlb 312 1 7 a6 (vI ((f0)))) ?_;refine AE (da 313 ((hy.getD (a4) []).getD (ix) 0) ((f0))) ?_;refine BE ?_;obtain ⟨a4b,r6⟩:=e4.row 0;refine sd (di 314 1 (ix) r6.addr) (sS (BB (T:=3) (x:=(.tmp 314)) (y:=(.tmp 313)) (rc:=fun i f=>AJ ((hy.getD (a4) []).getD i 0) f) 0 (ix) 0 (((hy.getD (a4) []).getD (ix) 0)+((f0))) (ty:=0) (gd:=none) (by kernel_rfl) rfl e4 r6 (by omega) (by decide) rfl rfl (by kernel_rfl) rfl rfl (by intro f hf;match f,hf with | 0,_=>rfl) (PU (PU (PU (PM.symm)))) (fun v2 T2=>(pm (M':=((bX p #[.int .u64 (g5)] 91)::(bX a6 #[vI (1+(a8.getD (t) 0)),vI (h2),vI ((a7)),vI (↑a4),vI (↑tn),vI (↑a9),.bool (so),vI ((f0))] 28)::(bX b5 #[vI (↑Pn),vI (↑Qn),vS b3 b7.length b4,vS a0 ks.length a1,vS a2 sl.length a3] 26)::(bX b1 #[vI (0),vI (0),vN,vN,vN] 26)::(v2++(c3++(hM++(a5++F)))))) (PW (PW (PW PM))) (ee (NB (NX ?_)))))));obtain ⟨h0,o2,M9⟩:=f4 _ _ _ T2;have G5:=o2.same b8;refine GB (M':=((h0++(bX p #[.int .u64 (g5)] 91)::(bX a6 #[vI (1+(a8.getD (t) 0)),vI (h2),vI ((a7)),vI (↑a4),vI (↑tn),vI (↑a9),.bool (so),vI ((f0))] 28)::(bX b5 #[vI (↑Pn),vI (↑Qn),vS b3 b7.length b4,vS a0 ks.length a1,vS a2 sl.length a3] 26)::(bX b1 #[vI (0),vI (0),vN,vN,vN] 26)::(hM++(a5++F))))) (fun w h=>?_) ?_
   ·have h2:=h.perm ((PU (PU (PU (PM.symm)))).trans (PA _ (PU (PU (PU (PM.symm))))));simp only [← AA] at h2;have h3:=St.permL (A':=h0) (A:=v2++c3) (by simpa only [AA,List.append_nil] using M9.symm) (by simpa only [AA] using h2)
    simpa only [AA] using h3
   refine GB (M':=((bX p #[.int .u64 (g5)] 91)::(bX a6 #[vI (1+(a8.getD (t) 0)),vI (h2),vI ((a7)),vI (↑a4),vI (↑tn),vI (↑a9),.bool (so),vI ((f0))] 28)::(bX b5 #[vI (↑Pn),vI (↑Qn),vS b3 b7.length b4,vS a0 ks.length a1,vS a2 sl.length a3] 26)::(bX b1 #[vI (0),vI (0),vN,vN,vN] 26)::(h0++(hM++(a5++F))))) (fun w h=>h.perm (PW (PW (PW PM)))) (rr (sp 1 [(339,vP b5 4)] (sd (dlb 340 2 4 b5 (vS a2 sl.length a3)) (sd (dnb 341 1 0 a6 [vI (1+(a8.getD (t) 0)),vI (h2),vI ((a7)),vI (↑a4),vI (↑tn),vI (↑a9),.bool (so),vI ((f0))]) (sS (sbs 342 28 1 #[vI (1+(a8.getD (t) 0)),vI (h2),vI ((a7)),vI (↑a4),vI (↑tn),vI (↑a9),.bool (so),vI ((f0))] (fun a7a=>(sS (BC (d:=343) (x:=(.tmp 340)) (y:=(.tmp 342)) (T:=24) (T':=24) (E:=28) (E':=28) (sz:=8) (bs:=64) (z:=.agg #[vI (0),vI (0),vI (0),vI (0),vI (0),vI (0),.bool (false),vI (0)]) (cell:=AY) (xs:=sl) (ys:=[(⟨1+(a8.getD (t) 0),h2,(a7),↑a4,↑tn,↑a9,so,(f0)⟩:Slip)]) (Ms:=a5) (ty:=24) (gd:=none) (by kernel_rfl) rfl (by kernel_rfl) (by kernel_rfl) (by kernel_rfl) (by kernel_rfl) (by kernel_rfl) (by decide) (by kernel_rfl) rfl rfl (c0) (PU (PU (PU (PU (PU (PV (PO _ _ _))))))) (DU _) (EM 0 rfl rfl) (by first | omega | (simp only [LC,LN,LA,LK,LD];omega)) (fun a9b v3 z8=>(AX (M':=((bX p #[.int .u64 (g5)] 91)::(bX a6 #[vI (1+(a8.getD (t) 0)),vI (h2),vI ((a7)),vI (↑a4),vI (↑tn),vI (↑a9),.bool (so),vI ((f0))] 28)::(bX b5 #[vI (↑Pn),vI (↑Qn),vS b3 b7.length b4,vS a0 ks.length a1,vS a2 sl.length a3] 26)::(bX b1 #[vI (0),vI (0),vN,vN,vN] 26)::(v3++(h0++(hM++F))))) (fun w h=>(h.perm (PW (PW (PW (PW PM))))).sub (TC _ (TR _))) ?_)))))))))));obtain ⟨p6,q4,X2,a4v⟩:=z8.shape;subst X2;refine sp 1 [(344,vP b5 4)] (sS (ss 2 4 b5 [vS p6 (sl++([(⟨1+(a8.getD (t) 0),h2,(a7),↑a4,↑tn,↑a9,so,(f0)⟩:Slip)])).length q4] [vI (↑Pn),vI (↑Qn),vS b3 b7.length b4,vS a0 ks.length a1,vS p6 (sl++([(⟨1+(a8.getD (t) 0),h2,(a7),↑a4,↑tn,↑a9,so,(f0)⟩:Slip)])).length q4] (_::_::_::_::_) (cs:=[_,_,_,_,_]) rfl rfl (ee (NB (NX (rr (sp 1 [(90,vI (↑t))] (sd (da 91 (↑t) (1)) (sp 1 [(18,vI (↑t+1))] (ee ?_))))))))));refine AN (8-(t+1)) (by omega) ?_;intro a w hS hD hW;exact ⟨a1o,t+1,h2,sl++([(⟨1+(a8.getD (t) 0),h2,(a7),↑a4,↑tn,↑a9,so,(f0)⟩:Slip)]),hy.set (a4) ((hy.getD (a4) []).set (ix) (((hy.getD (a4) []).getD (ix) 0)+((f0)))),h0,g5,vS p6 (sl++([(⟨1+(a8.getD (t) 0),h2,(a7),↑a4,↑tn,↑a9,so,(f0)⟩:Slip)])).length q4,v3,(IT (IT (IT (IT (IT (IT (IT (IT (IT (IT (IT hJ3 c6) c7) c8) c9) d3) d4) d5) d6) c1) c2) k0),by omega,(by omega),m6.snoc (FZ t8) (by omega) rfl (HV (by dsimp only;omega) (by dsimp only;omega) (by dsimp only;omega) (by dsimp only;omega) (fun hq=>by dsimp only at hq ⊢;have hz:=k4.1 hq;omega) (fun hq=>by dsimp only at hq ⊢;have hz:=k4.2 hq;omega) (by dsimp only;omega) g0 (by dsimp only;omega) (by dsimp only;omega)),by simpa only [LS] using p3,(by have d0:=k3.mono (B':=100+50*((t+1:Nat):Int)) (by omega);repeat' (first | exact d0 | refine RowsB.put ?_ ?_ | refine RowB.set ?_ ?_ | refine RowsB.row ?_ ?_ | omega | (simp only [LS];omega))),G5,z8,hS.sub (.consE 16 rfl rfl (.consE 18 rfl rfl (.cons 0 rfl (.cons 1 rfl (.cons 2 rfl (.cons 6 rfl (.cons 7 rfl (.cons 8 rfl (.cons 17 rfl (.cons 26 rfl (.nil _))))))))))),hD,(hW.perm ((PS _ _ _).trans (PC _ (PC _ (PC _ (PC _ ((PV (PO _ _ _)).trans (PA _ (PO _ _ _))))))))).sub (TC _ (TR _)),rfl⟩
  have P6:=D2;have D2:=BW D2;refine rqr (sp 2 [(315,.bool (cmp .eql ((a7)) (4)))] (se (rc 315 rfl (fun D3=>?_) (fun D3=>?_))))
  ·
   have P7:=D3;have D3:=BX D3;refine rq (rqr (sp 2 [(318,.bool (cmp .gtr ((hy.getD (a4) []).getD (ix) 0) (50)))] (se (rc 318 rfl (fun D4=>?_) (fun D4=>?_)))))
   ·
    have P8:=D4;have D4:=LI D4;refine CB 7 ((EP (LO (by decide) (EP (EB (NX (rr (sp 1 [(90,vI (↑t))] (sd (da 91 (↑t) (1)) (sp 1 [(18,vI (↑t+1))] (ee ?_)))))))))));obtain ⟨l8,o3,O0⟩:=f4 _ _ _ e4;have G6:=o3.same b8;refine JT (I':=c4) (M':=((l8++(bX a6 #[vI (1+(a8.getD (t) 0)),vI (h2),vI ((a7)),vI (↑a4),vI (↑tn),vI (↑a9),.bool (so),vI (0)] 28)::(bX p #[.int .u64 (j2)] 91)::(bX b5 #[vI (↑Pn),vI (↑Qn),vS b3 b7.length b4,vS a0 ks.length a1,vS a2 sl.length a3] 26)::(bX b1 #[vI (0),vI (0),vN,vN,vN] 26)::(hM++(a5++F))))) (fun w h=>?_) ?_
    ·have h2:=h.perm ((PU (PU (PU (PM.symm)))).trans (PA _ (PU (PU (PU (PM.symm))))));simp only [← AA] at h2;have h3:=St.permL (A':=l8) (A:=e6++c3) (by simpa only [AA,List.append_nil] using O0.symm) (by simpa only [AA] using h2)
     simpa only [AA] using h3
    refine ppm (M':=((bX a6 #[vI (1+(a8.getD (t) 0)),vI (h2),vI ((a7)),vI (↑a4),vI (↑tn),vI (↑a9),.bool (so),vI (0)] 28)::(bX p #[.int .u64 (j2)] 91)::(bX b5 #[vI (↑Pn),vI (↑Qn),vS b3 b7.length b4,vS a0 ks.length a1,vS a2 sl.length a3] 26)::(bX b1 #[vI (0),vI (0),vN,vN,vN] 26)::(l8++(hM++(a5++F))))) (PW (PW (PW PM))) ?_;refine AN (8-(t+1)) (by omega) ?_;intro a w hS hD hW;exact ⟨c4,t+1,h2,sl,hy.set (a4) (hy.getD (a4) []),l8,j2,vS a2 sl.length a3,a5,(IT (IT (IT (IT (IT (IT (IT (IT (IT (IT hJ3 c6) c7) c8) c9) d3) d4) d5) d6) c1) c2),by omega,(by omega),m6.skip,by simpa only [LS] using p3,(by have d0:=k3.mono (B':=100+50*((t+1:Nat):Int)) (by omega);repeat' (first | exact d0 | refine RowsB.put ?_ ?_ | refine RowB.set ?_ ?_ | refine RowsB.row ?_ ?_ | omega | (simp only [LS];omega))),G6,c0,hS.sub (.consE 16 rfl rfl (.consE 18 rfl rfl (.cons 0 rfl (.cons 1 rfl (.cons 2 rfl (.cons 6 rfl (.cons 7 rfl (.cons 8 rfl (.cons 17 rfl (.cons 26 rfl (.nil _))))))))))),hD,(hW.perm (PC _ (PC _ (PC _ (PC _ (PO _ _ _)))))).sub (TC _ (TR _)),rfl⟩
   have P8:=D4;have D4:=gtr_f D4;refine AQ (NX (rqr (sp 2 [(320,vP a6 7),(319,vI ((hy.getD (a4) []).getD (ix) 0))] (sS (ss 0 7 a6 [vI ((hy.getD (a4) []).getD (ix) 0)] [vI (1+(a8.getD (t) 0)),vI (h2),vI ((a7)),vI (↑a4),vI (↑tn),vI (↑a9),.bool (so),vI ((hy.getD (a4) []).getD (ix) 0)] (_::_::_::_::_) (cs:=[_,_,_,_,_,_,_,_]) rfl rfl (se (rq (rqr (sp 2 [(322,vI (n2)),(321,vP p 0)] ?_)))))))));have G2:=MD c4 (p) (j2) (n2) (10) (by omega);refine sS (sc (some 323) (F:=((bX a6 #[vI (1+(a8.getD (t) 0)),vI (h2),vI ((a7)),vI (↑a4),vI (↑tn),vI (↑a9),.bool (so),vI ((hy.getD (a4) []).getD (ix) 0)] 28)::(bX b5 #[vI (↑Pn),vI (↑Qn),vS b3 b7.length b4,vS a0 ks.length a1,vS a2 sl.length a3] 26)::(bX b1 #[vI (0),vI (0),vN,vN,vN] 26)::(e6++(c3++(hM++(a5++F)))))) (G2 :) (PS _ _ _) (fun a6m M3 a5x g7 V4=>?_));obtain ⟨f8,a8h,B8,z4⟩:=V4;rw [B8,z4];clear B8 z4;replace b0:=b0.mono g7;replace b2:=b2.mono g7;refine nm (se ?_);refine rc 323 rfl (fun h19=>?_) (fun h19=>?_)
   ·
    have P9:=h19;refine rr (sp 2 [(325,vI ((hy.getD (a4) []).getD (ix) 0)),(324,vP p 0)] (sd (da 326 ((hy.getD (a4) []).getD (ix) 0) (3)) (sp 1 [(327,vI ((if (((hy.getD (a4) []).getD (ix) 0)+3:Int)<(50:Int) then ((hy.getD (a4) []).getD (ix) 0)+3 else 50)))] ?_)));have G3:=NO M3 (p) (f8) ((if (((hy.getD (a4) []).getD (ix) 0)+3:Int)<(50:Int) then ((hy.getD (a4) []).getD (ix) 0)+3 else 50)) (by omega);refine sS (sc (some 328) (F:=((bX a6 #[vI (1+(a8.getD (t) 0)),vI (h2),vI ((a7)),vI (↑a4),vI (↑tn),vI (↑a9),.bool (so),vI ((hy.getD (a4) []).getD (ix) 0)] 28)::(bX b5 #[vI (↑Pn),vI (↑Qn),vS b3 b7.length b4,vS a0 ks.length a1,vS a2 sl.length a3] 26)::(bX b1 #[vI (0),vI (0),vN,vN,vN] 26)::(e6++(c3++(hM++(a5++F)))))) (G3 :) (.refl _) (fun a6n a1p a5y k1 V5=>?_));obtain ⟨g6,f1,B9,z5,a5i⟩:=V5;rw [B9,z5];clear B9 z5;replace b0:=b0.mono k1;replace b2:=b2.mono k1;refine nm ?_;refine sp 1 [(329,vP a6 7)] (sS (ss 1 7 a6 [vI (↑f1)] [vI (1+(a8.getD (t) 0)),vI (h2),vI ((a7)),vI (↑a4),vI (↑tn),vI (↑a9),.bool (so),vI (↑f1)] (_::_::_::_::_) (cs:=[_,_,_,_,_,_,_,_]) rfl rfl (se ?_)));refine rd0 8 (ox 2 [(331,vP a6 3),(330,vS e1 f5.length e2)] ?_);refine AE (dlb 332 1 3 a6 (vI (↑a4))) ?_;obtain ⟨a4c,r7⟩:=m8.row undef;refine AE (di 333 1 (a4) r7.addr) ?_;refine AE (FA (dl 334 (r7.get (a4) (by omega) 0 (by decide) _ _ (fun x hx=>by simp [hx]))) b8) (ox 2 [(336,vP a6 7),(335,vI (↑ix))] ?_);refine AE (dlb 337 1 7 a6 (vI (↑f1))) ?_;refine BE ?_;obtain ⟨a4d,r8⟩:=e4.row 0;refine sd (di 338 1 (ix) r8.addr) (sS (BB (T:=3) (x:=(.tmp 338)) (y:=(.tmp 337)) (rc:=fun i f=>AJ ((hy.getD (a4) []).getD i 0) f) 0 (ix) 0 (↑f1) (ty:=0) (gd:=none) (by kernel_rfl) rfl e4 r8 (by omega) (by decide) rfl rfl (by kernel_rfl) rfl rfl (by intro f hf;match f,hf with | 0,_=>rfl) (PU (PU (PU (PM.symm)))) (fun v4 T3=>(pm (M':=((bX p #[.int .u64 (g6)] 91)::(bX a6 #[vI (1+(a8.getD (t) 0)),vI (h2),vI ((a7)),vI (↑a4),vI (↑tn),vI (↑a9),.bool (so),vI (↑f1)] 28)::(bX b5 #[vI (↑Pn),vI (↑Qn),vS b3 b7.length b4,vS a0 ks.length a1,vS a2 sl.length a3] 26)::(bX b1 #[vI (0),vI (0),vN,vN,vN] 26)::(v4++(c3++(hM++(a5++F)))))) (PW (PW (PW PM))) (ee (NB (NX ?_)))))));obtain ⟨i0,o4,O1⟩:=f4 _ _ _ T3;have G7:=o4.same b8;refine GB (M':=((i0++(bX p #[.int .u64 (g6)] 91)::(bX a6 #[vI (1+(a8.getD (t) 0)),vI (h2),vI ((a7)),vI (↑a4),vI (↑tn),vI (↑a9),.bool (so),vI (↑f1)] 28)::(bX b5 #[vI (↑Pn),vI (↑Qn),vS b3 b7.length b4,vS a0 ks.length a1,vS a2 sl.length a3] 26)::(bX b1 #[vI (0),vI (0),vN,vN,vN] 26)::(hM++(a5++F))))) (fun w h=>?_) ?_
    ·have h2:=h.perm ((PU (PU (PU (PM.symm)))).trans (PA _ (PU (PU (PU (PM.symm))))));simp only [← AA] at h2;have h3:=St.permL (A':=i0) (A:=v4++c3) (by simpa only [AA,List.append_nil] using O1.symm) (by simpa only [AA] using h2)
     simpa only [AA] using h3
    refine GB (M':=((bX p #[.int .u64 (g6)] 91)::(bX a6 #[vI (1+(a8.getD (t) 0)),vI (h2),vI ((a7)),vI (↑a4),vI (↑tn),vI (↑a9),.bool (so),vI (↑f1)] 28)::(bX b5 #[vI (↑Pn),vI (↑Qn),vS b3 b7.length b4,vS a0 ks.length a1,vS a2 sl.length a3] 26)::(bX b1 #[vI (0),vI (0),vN,vN,vN] 26)::(i0++(hM++(a5++F))))) (fun w h=>h.perm (PW (PW (PW PM)))) (rr (sp 1 [(339,vP b5 4)] (sd (dlb 340 2 4 b5 (vS a2 sl.length a3)) (sd (dnb 341 1 0 a6 [vI (1+(a8.getD (t) 0)),vI (h2),vI ((a7)),vI (↑a4),vI (↑tn),vI (↑a9),.bool (so),vI (↑f1)]) (sS (sbs 342 28 1 #[vI (1+(a8.getD (t) 0)),vI (h2),vI ((a7)),vI (↑a4),vI (↑tn),vI (↑a9),.bool (so),vI (↑f1)] (fun a7b=>(sS (BC (d:=343) (x:=(.tmp 340)) (y:=(.tmp 342)) (T:=24) (T':=24) (E:=28) (E':=28) (sz:=8) (bs:=64) (z:=.agg #[vI (0),vI (0),vI (0),vI (0),vI (0),vI (0),.bool (false),vI (0)]) (cell:=AY) (xs:=sl) (ys:=[(⟨1+(a8.getD (t) 0),h2,(a7),↑a4,↑tn,↑a9,so,↑f1⟩:Slip)]) (Ms:=a5) (ty:=24) (gd:=none) (by kernel_rfl) rfl (by kernel_rfl) (by kernel_rfl) (by kernel_rfl) (by kernel_rfl) (by kernel_rfl) (by decide) (by kernel_rfl) rfl rfl (c0) (PU (PU (PU (PU (PU (PV (PO _ _ _))))))) (DU _) (EM 0 rfl rfl) (by first | omega | (simp only [LC,LN,LA,LK,LD];omega)) (fun a9c v5 z9=>(AX (M':=((bX p #[.int .u64 (g6)] 91)::(bX a6 #[vI (1+(a8.getD (t) 0)),vI (h2),vI ((a7)),vI (↑a4),vI (↑tn),vI (↑a9),.bool (so),vI (↑f1)] 28)::(bX b5 #[vI (↑Pn),vI (↑Qn),vS b3 b7.length b4,vS a0 ks.length a1,vS a2 sl.length a3] 26)::(bX b1 #[vI (0),vI (0),vN,vN,vN] 26)::(v5++(i0++(hM++F))))) (fun w h=>(h.perm (PW (PW (PW (PW PM))))).sub (TC _ (TR _))) ?_)))))))))));obtain ⟨p7,q5,X3,a4x⟩:=z9.shape;subst X3;refine sp 1 [(344,vP b5 4)] (sS (ss 2 4 b5 [vS p7 (sl++([(⟨1+(a8.getD (t) 0),h2,(a7),↑a4,↑tn,↑a9,so,↑f1⟩:Slip)])).length q5] [vI (↑Pn),vI (↑Qn),vS b3 b7.length b4,vS a0 ks.length a1,vS p7 (sl++([(⟨1+(a8.getD (t) 0),h2,(a7),↑a4,↑tn,↑a9,so,↑f1⟩:Slip)])).length q5] (_::_::_::_::_) (cs:=[_,_,_,_,_]) rfl rfl (ee (NB (NX (rr (sp 1 [(90,vI (↑t))] (sd (da 91 (↑t) (1)) (sp 1 [(18,vI (↑t+1))] (ee ?_))))))))));refine AN (8-(t+1)) (by omega) ?_;intro a w hS hD hW;exact ⟨a1p,t+1,h2,sl++([(⟨1+(a8.getD (t) 0),h2,(a7),↑a4,↑tn,↑a9,so,↑f1⟩:Slip)]),hy.set (a4) ((hy.getD (a4) []).set (ix) ↑f1),i0,g6,vS p7 (sl++([(⟨1+(a8.getD (t) 0),h2,(a7),↑a4,↑tn,↑a9,so,↑f1⟩:Slip)])).length q5,v5,(IT (IT (IT (IT (IT (IT (IT (IT (IT (IT (IT (IT hJ3 c6) c7) c8) c9) d3) d4) d5) d6) c1) c2) g7) k1),by omega,(by omega),m6.snoc (FZ t8) (by omega) rfl (HV (by dsimp only;omega) (by dsimp only;omega) (by dsimp only;omega) (by dsimp only;omega) (fun hq=>by dsimp only at hq ⊢;have hz:=k4.1 hq;omega) (fun hq=>by dsimp only at hq ⊢;have hz:=k4.2 hq;omega) (by dsimp only;omega) g0 (by dsimp only;omega) (by dsimp only;omega)),by simpa only [LS] using p3,(by have d0:=k3.mono (B':=100+50*((t+1:Nat):Int)) (by omega);repeat' (first | exact d0 | refine RowsB.put ?_ ?_ | refine RowB.set ?_ ?_ | refine RowsB.row ?_ ?_ | omega | (simp only [LS];omega))),G7,z9,hS.sub (.consE 16 rfl rfl (.consE 18 rfl rfl (.cons 0 rfl (.cons 1 rfl (.cons 2 rfl (.cons 6 rfl (.cons 7 rfl (.cons 8 rfl (.cons 17 rfl (.cons 26 rfl (.nil _))))))))))),hD,(hW.perm ((PS _ _ _).trans (PC _ (PC _ (PC _ (PC _ ((PV (PO _ _ _)).trans (PA _ (PO _ _ _))))))))).sub (TC _ (TR _)),rfl⟩
   have P9:=h19;refine AQ (NX ?_);refine rd0 8 (ox 2 [(331,vP a6 3),(330,vS e1 f5.length e2)] ?_);refine AE (dlb 332 1 3 a6 (vI (↑a4))) ?_;obtain ⟨a4e,s0⟩:=m8.row undef;refine AE (di 333 1 (a4) s0.addr) ?_;refine AE (FA (dl 334 (s0.get (a4) (by omega) 0 (by decide) _ _ (fun x hx=>by simp [hx]))) b8) (ox 2 [(336,vP a6 7),(335,vI (↑ix))] ?_);refine AE (dlb 337 1 7 a6 (vI ((hy.getD (a4) []).getD (ix) 0))) ?_;refine BE ?_;obtain ⟨a4f,s1⟩:=e4.row 0;refine sd (di 338 1 (ix) s1.addr) (sS (BB (T:=3) (x:=(.tmp 338)) (y:=(.tmp 337)) (rc:=fun i f=>AJ ((hy.getD (a4) []).getD i 0) f) 0 (ix) 0 ((hy.getD (a4) []).getD (ix) 0) (ty:=0) (gd:=none) (by kernel_rfl) rfl e4 s1 (by omega) (by decide) rfl rfl (by kernel_rfl) rfl rfl (by intro f hf;match f,hf with | 0,_=>rfl) (PU (PU (PU (PM.symm)))) (fun v6 T4=>(pm (M':=((bX p #[.int .u64 (f8)] 91)::(bX a6 #[vI (1+(a8.getD (t) 0)),vI (h2),vI ((a7)),vI (↑a4),vI (↑tn),vI (↑a9),.bool (so),vI ((hy.getD (a4) []).getD (ix) 0)] 28)::(bX b5 #[vI (↑Pn),vI (↑Qn),vS b3 b7.length b4,vS a0 ks.length a1,vS a2 sl.length a3] 26)::(bX b1 #[vI (0),vI (0),vN,vN,vN] 26)::(v6++(c3++(hM++(a5++F)))))) (PW (PW (PW PM))) (ee (NB (NX ?_)))))));obtain ⟨i1,o5,O2⟩:=f4 _ _ _ T4;have G8:=o5.same b8;refine GB (M':=((i1++(bX p #[.int .u64 (f8)] 91)::(bX a6 #[vI (1+(a8.getD (t) 0)),vI (h2),vI ((a7)),vI (↑a4),vI (↑tn),vI (↑a9),.bool (so),vI ((hy.getD (a4) []).getD (ix) 0)] 28)::(bX b5 #[vI (↑Pn),vI (↑Qn),vS b3 b7.length b4,vS a0 ks.length a1,vS a2 sl.length a3] 26)::(bX b1 #[vI (0),vI (0),vN,vN,vN] 26)::(hM++(a5++F))))) (fun w h=>?_) ?_
   ·have h2:=h.perm ((PU (PU (PU (PM.symm)))).trans (PA _ (PU (PU (PU (PM.symm))))));simp only [← AA] at h2;have h3:=St.permL (A':=i1) (A:=v6++c3) (by simpa only [AA,List.append_nil] using O2.symm) (by simpa only [AA] using h2)
    simpa only [AA] using h3
   refine GB (M':=((bX p #[.int .u64 (f8)] 91)::(bX a6 #[vI (1+(a8.getD (t) 0)),vI (h2),vI ((a7)),vI (↑a4),vI (↑tn),vI (↑a9),.bool (so),vI ((hy.getD (a4) []).getD (ix) 0)] 28)::(bX b5 #[vI (↑Pn),vI (↑Qn),vS b3 b7.length b4,vS a0 ks.length a1,vS a2 sl.length a3] 26)::(bX b1 #[vI (0),vI (0),vN,vN,vN] 26)::(i1++(hM++(a5++F))))) (fun w h=>h.perm (PW (PW (PW PM)))) (rr (sp 1 [(339,vP b5 4)] (sd (dlb 340 2 4 b5 (vS a2 sl.length a3)) (sd (dnb 341 1 0 a6 [vI (1+(a8.getD (t) 0)),vI (h2),vI ((a7)),vI (↑a4),vI (↑tn),vI (↑a9),.bool (so),vI ((hy.getD (a4) []).getD (ix) 0)]) (sS (sbs 342 28 1 #[vI (1+(a8.getD (t) 0)),vI (h2),vI ((a7)),vI (↑a4),vI (↑tn),vI (↑a9),.bool (so),vI ((hy.getD (a4) []).getD (ix) 0)] (fun a7c=>(sS (BC (d:=343) (x:=(.tmp 340)) (y:=(.tmp 342)) (T:=24) (T':=24) (E:=28) (E':=28) (sz:=8) (bs:=64) (z:=.agg #[vI (0),vI (0),vI (0),vI (0),vI (0),vI (0),.bool (false),vI (0)]) (cell:=AY) (xs:=sl) (ys:=[(⟨1+(a8.getD (t) 0),h2,(a7),↑a4,↑tn,↑a9,so,(hy.getD (a4) []).getD (ix) 0⟩:Slip)]) (Ms:=a5) (ty:=24) (gd:=none) (by kernel_rfl) rfl (by kernel_rfl) (by kernel_rfl) (by kernel_rfl) (by kernel_rfl) (by kernel_rfl) (by decide) (by kernel_rfl) rfl rfl (c0) (PU (PU (PU (PU (PU (PV (PO _ _ _))))))) (DU _) (EM 0 rfl rfl) (by first | omega | (simp only [LC,LN,LA,LK,LD];omega)) (fun a9d v7 A0=>(AX (M':=((bX p #[.int .u64 (f8)] 91)::(bX a6 #[vI (1+(a8.getD (t) 0)),vI (h2),vI ((a7)),vI (↑a4),vI (↑tn),vI (↑a9),.bool (so),vI ((hy.getD (a4) []).getD (ix) 0)] 28)::(bX b5 #[vI (↑Pn),vI (↑Qn),vS b3 b7.length b4,vS a0 ks.length a1,vS a2 sl.length a3] 26)::(bX b1 #[vI (0),vI (0),vN,vN,vN] 26)::(v7++(i1++(hM++F))))) (fun w h=>(h.perm (PW (PW (PW (PW PM))))).sub (TC _ (TR _))) ?_)))))))))));obtain ⟨p8,q6,X4,a4y⟩:=A0.shape;subst X4;refine sp 1 [(344,vP b5 4)] (sS (ss 2 4 b5 [vS p8 (sl++([(⟨1+(a8.getD (t) 0),h2,(a7),↑a4,↑tn,↑a9,so,(hy.getD (a4) []).getD (ix) 0⟩:Slip)])).length q6] [vI (↑Pn),vI (↑Qn),vS b3 b7.length b4,vS a0 ks.length a1,vS p8 (sl++([(⟨1+(a8.getD (t) 0),h2,(a7),↑a4,↑tn,↑a9,so,(hy.getD (a4) []).getD (ix) 0⟩:Slip)])).length q6] (_::_::_::_::_) (cs:=[_,_,_,_,_]) rfl rfl (ee (NB (NX (rr (sp 1 [(90,vI (↑t))] (sd (da 91 (↑t) (1)) (sp 1 [(18,vI (↑t+1))] (ee ?_))))))))));refine AN (8-(t+1)) (by omega) ?_;intro a w hS hD hW;exact ⟨M3,t+1,h2,sl++([(⟨1+(a8.getD (t) 0),h2,(a7),↑a4,↑tn,↑a9,so,(hy.getD (a4) []).getD (ix) 0⟩:Slip)]),hy.set (a4) ((hy.getD (a4) []).set (ix) ((hy.getD (a4) []).getD (ix) 0)),i1,f8,vS p8 (sl++([(⟨1+(a8.getD (t) 0),h2,(a7),↑a4,↑tn,↑a9,so,(hy.getD (a4) []).getD (ix) 0⟩:Slip)])).length q6,v7,(IT (IT (IT (IT (IT (IT (IT (IT (IT (IT (IT hJ3 c6) c7) c8) c9) d3) d4) d5) d6) c1) c2) g7),by omega,(by omega),m6.snoc (FZ t8) (by omega) rfl (HV (by dsimp only;omega) (by dsimp only;omega) (by dsimp only;omega) (by dsimp only;omega) (fun hq=>by dsimp only at hq ⊢;have hz:=k4.1 hq;omega) (fun hq=>by dsimp only at hq ⊢;have hz:=k4.2 hq;omega) (by dsimp only;omega) g0 (by dsimp only;omega) (by dsimp only;omega)),by simpa only [LS] using p3,(by have d0:=k3.mono (B':=100+50*((t+1:Nat):Int)) (by omega);repeat' (first | exact d0 | refine RowsB.put ?_ ?_ | refine RowB.set ?_ ?_ | refine RowsB.row ?_ ?_ | omega | (simp only [LS];omega))),G8,A0,hS.sub (.consE 16 rfl rfl (.consE 18 rfl rfl (.cons 0 rfl (.cons 1 rfl (.cons 2 rfl (.cons 6 rfl (.cons 7 rfl (.cons 8 rfl (.cons 17 rfl (.cons 26 rfl (.nil _))))))))))),hD,(hW.perm ((PS _ _ _).trans (PC _ (PC _ (PC _ (PC _ ((PV (PO _ _ _)).trans (PA _ (PO _ _ _))))))))).sub (TC _ (TR _)),rfl⟩
  have P7:=D3;have D3:=BW D3;refine rq (rqr (sp 2 [(216,.bool (cmp .eql ((hy.getD (a4) []).getD (ix) 0) (0)))] (se (rc 216 rfl (fun D5=>?_) (fun D5=>?_)))))
  ·
   have Q0:=D5;have D5:=BX D5;refine CB 7 ((EP (LO (by decide) (EP (EB (NX (rr (sp 1 [(90,vI (↑t))] (sd (da 91 (↑t) (1)) (sp 1 [(18,vI (↑t+1))] (ee ?_)))))))))));obtain ⟨l9,o6,O3⟩:=f4 _ _ _ e4;have G9:=o6.same b8;refine JT (I':=c4) (M':=((l9++(bX a6 #[vI (1+(a8.getD (t) 0)),vI (h2),vI ((a7)),vI (↑a4),vI (↑tn),vI (↑a9),.bool (so),vI (0)] 28)::(bX p #[.int .u64 (j2)] 91)::(bX b5 #[vI (↑Pn),vI (↑Qn),vS b3 b7.length b4,vS a0 ks.length a1,vS a2 sl.length a3] 26)::(bX b1 #[vI (0),vI (0),vN,vN,vN] 26)::(hM++(a5++F))))) (fun w h=>?_) ?_
   ·have h2:=h.perm ((PU (PU (PU (PM.symm)))).trans (PA _ (PU (PU (PU (PM.symm))))));simp only [← AA] at h2;have h3:=St.permL (A':=l9) (A:=e6++c3) (by simpa only [AA,List.append_nil] using O3.symm) (by simpa only [AA] using h2)
    simpa only [AA] using h3
   refine ppm (M':=((bX a6 #[vI (1+(a8.getD (t) 0)),vI (h2),vI ((a7)),vI (↑a4),vI (↑tn),vI (↑a9),.bool (so),vI (0)] 28)::(bX p #[.int .u64 (j2)] 91)::(bX b5 #[vI (↑Pn),vI (↑Qn),vS b3 b7.length b4,vS a0 ks.length a1,vS a2 sl.length a3] 26)::(bX b1 #[vI (0),vI (0),vN,vN,vN] 26)::(l9++(hM++(a5++F))))) (PW (PW (PW PM))) ?_;refine AN (8-(t+1)) (by omega) ?_;intro a w hS hD hW;exact ⟨c4,t+1,h2,sl,hy.set (a4) (hy.getD (a4) []),l9,j2,vS a2 sl.length a3,a5,(IT (IT (IT (IT (IT (IT (IT (IT (IT (IT hJ3 c6) c7) c8) c9) d3) d4) d5) d6) c1) c2),by omega,(by omega),m6.skip,by simpa only [LS] using p3,(by have d0:=k3.mono (B':=100+50*((t+1:Nat):Int)) (by omega);repeat' (first | exact d0 | refine RowsB.put ?_ ?_ | refine RowB.set ?_ ?_ | refine RowsB.row ?_ ?_ | omega | (simp only [LS];omega))),G9,c0,hS.sub (.consE 16 rfl rfl (.consE 18 rfl rfl (.cons 0 rfl (.cons 1 rfl (.cons 2 rfl (.cons 6 rfl (.cons 7 rfl (.cons 8 rfl (.cons 17 rfl (.cons 26 rfl (.nil _))))))))))),hD,(hW.perm (PC _ (PC _ (PC _ (PC _ (PO _ _ _)))))).sub (TC _ (TR _)),rfl⟩
  have Q0:=D5;have D5:=BW D5;refine AQ (NX (rqr (sp 3 [(219,vI ((if ((hy.getD (a4) []).getD (ix) 0:Int)<(50:Int) then (hy.getD (a4) []).getD (ix) 0 else 50))),(217,vP p 0)] ?_)));have G4:=NM c4 (p) (j2) (1) ((if ((hy.getD (a4) []).getD (ix) 0:Int)<(50:Int) then (hy.getD (a4) []).getD (ix) 0 else 50)) (by omega) (by omega);refine sS (sc (some 220) (F:=((bX a6 #[vI (1+(a8.getD (t) 0)),vI (h2),vI ((a7)),vI (↑a4),vI (↑tn),vI (↑a9),.bool (so),vI (0)] 28)::(bX b5 #[vI (↑Pn),vI (↑Qn),vS b3 b7.length b4,vS a0 ks.length a1,vS a2 sl.length a3] 26)::(bX b1 #[vI (0),vI (0),vN,vN,vN] 26)::(e6++(c3++(hM++(a5++F)))))) (G4 :) (PS _ _ _) (fun a6o t9 a5z f6 V6=>?_));obtain ⟨b9,b6,C0,z6,a5j⟩:=V6;rw [C0,z6];clear C0 z6;replace b0:=b0.mono f6;replace b2:=b2.mono f6;refine nm ?_;refine sp 1 [(221,vP a6 7)] (sS (ss 1 7 a6 [vI ((b6))] [vI (1+(a8.getD (t) 0)),vI (h2),vI ((a7)),vI (↑a4),vI (↑tn),vI (↑a9),.bool (so),vI ((b6))] (_::_::_::_::_) (cs:=[_,_,_,_,_,_,_,_]) rfl rfl (se (rq ?_))));refine rd0 10 (ox 2 [(223,vP a6 3),(222,vS e1 f5.length e2)] ?_);refine AE (dlb 224 1 3 a6 (vI (↑a4))) ?_;obtain ⟨a4g,s2⟩:=m8.row undef;refine AE (di 225 1 (a4) s2.addr) ?_;refine AE (FA (dl 226 (s2.get (a4) (by omega) 0 (by decide) _ _ (fun x hx=>by simp [hx]))) b8) (ox 3 [(229,vP a6 7),(228,vI ((hy.getD (a4) []).getD (ix) 0)),(227,vI (↑ix))] ?_);refine AE (dlb 230 1 7 a6 (vI ((b6)))) ?_;refine AE (dsb 231 ((hy.getD (a4) []).getD (ix) 0) ((b6))) ?_;refine BE ?_;obtain ⟨a4h,s3⟩:=e4.row 0;refine sd (di 232 1 (ix) s3.addr) (sS (BB (T:=3) (x:=(.tmp 232)) (y:=(.tmp 231)) (rc:=fun i f=>AJ ((hy.getD (a4) []).getD i 0) f) 0 (ix) 0 (((hy.getD (a4) []).getD (ix) 0)-((b6))) (ty:=0) (gd:=none) (by kernel_rfl) rfl e4 s3 (by omega) (by decide) rfl rfl (by kernel_rfl) rfl rfl (by intro f hf;match f,hf with | 0,_=>rfl) (PU (PU (PU (PM.symm)))) (fun n4 f9=>(pm (M':=((bX p #[.int .u64 (b9)] 91)::(bX a6 #[vI (1+(a8.getD (t) 0)),vI (h2),vI ((a7)),vI (↑a4),vI (↑tn),vI (↑a9),.bool (so),vI ((b6))] 28)::(bX b5 #[vI (↑Pn),vI (↑Qn),vS b3 b7.length b4,vS a0 ks.length a1,vS a2 sl.length a3] 26)::(bX b1 #[vI (0),vI (0),vN,vN,vN] 26)::(n4++(c3++(hM++(a5++F)))))) (PW (PW (PW PM))) (sn (sp 1 [(233,vP a6 2)] (sd (dlb 234 1 2 a6 (vI ((a7)))) (se (rb 9 (rqr (sp 2 [(235,.bool (cmp .eql ((a7)) (1)))] (se (rc 235 rfl (fun D6=>?_) (fun D6=>?_))))))))))))))
  ·
   have Q1:=D6;have D6:=BX D6;have a7r:=k4.1 (by omega);obtain ⟨m0,o7,O4⟩:=f4 _ _ _ f9;have J4:=o7.same b8;refine GB (M':=((m0++(bX p #[.int .u64 (b9)] 91)::(bX a6 #[vI (1+(a8.getD (t) 0)),vI (h2),vI ((a7)),vI (↑a4),vI (↑tn),vI (↑a9),.bool (so),vI ((b6))] 28)::(bX b5 #[vI (↑Pn),vI (↑Qn),vS b3 b7.length b4,vS a0 ks.length a1,vS a2 sl.length a3] 26)::(bX b1 #[vI (0),vI (0),vN,vN,vN] 26)::(hM++(a5++F))))) (fun w h=>?_) ?_
   ·have h2:=h.perm ((PU (PU (PU (PM.symm)))).trans (PA _ (PU (PU (PU (PM.symm))))));simp only [← AA] at h2;have h3:=St.permL (A':=m0) (A:=n4++c3) (by simpa only [AA,List.append_nil] using O4.symm) (by simpa only [AA] using h2)
    simpa only [AA] using h3
   refine GB (M':=((bX p #[.int .u64 (b9)] 91)::(bX a6 #[vI (1+(a8.getD (t) 0)),vI (h2),vI ((a7)),vI (↑a4),vI (↑tn),vI (↑a9),.bool (so),vI ((b6))] 28)::(bX b5 #[vI (↑Pn),vI (↑Qn),vS b3 b7.length b4,vS a0 ks.length a1,vS a2 sl.length a3] 26)::(bX b1 #[vI (0),vI (0),vN,vN,vN] 26)::(m0++(hM++(a5++F))))) (fun w h=>h.perm (PW (PW (PW PM)))) ?_;obtain ⟨j3,i6,i7,O5,M7⟩:=OwnEach.pull J4 (tn) (by simp only [LS];omega);obtain ⟨Z1,Z2,g1,Z3⟩:=i7.shape;rw [g1] at i7;refine GB (M':=((j3++(i6++(bX p #[.int .u64 (b9)] 91)::(bX a6 #[vI (1+(a8.getD (t) 0)),vI (h2),vI ((a7)),vI (↑a4),vI (↑tn),vI (↑a9),.bool (so),vI ((b6))] 28)::(bX b5 #[vI (↑Pn),vI (↑Qn),vS b3 b7.length b4,vS a0 ks.length a1,vS a2 sl.length a3] 26)::(bX b1 #[vI (0),vI (0),vN,vN,vN] 26)::(hM++(a5++F)))))) (fun w h=>?_) ?_
   ·have h2:=h.perm (PU (PU (PU (PM.symm))));have h3:=St.permL (A':=j3++i6) (A:=m0) (by simpa only [AA,List.append_nil] using O5) (by simpa only [AA] using h2)
    simpa only [AA] using h3
   refine GB (M':=((bX p #[.int .u64 (b9)] 91)::(bX a6 #[vI (1+(a8.getD (t) 0)),vI (h2),vI ((a7)),vI (↑a4),vI (↑tn),vI (↑a9),.bool (so),vI ((b6))] 28)::(bX b5 #[vI (↑Pn),vI (↑Qn),vS b3 b7.length b4,vS a0 ks.length a1,vS a2 sl.length a3] 26)::(bX b1 #[vI (0),vI (0),vN,vN,vN] 26)::(j3++(i6++(hM++(a5++F)))))) (fun w h=>h.perm (((PA _ PM).trans PM).trans (PC _ (((PA _ PM).trans PM).trans (PC _ (((PA _ PM).trans PM).trans (PC _ ((PA _ PM).trans PM)))))))) ?_;have A5:=RowB.at (B:=100+50*t) (n:=2*Qn) (r:=(hy.set (a4) ((hy.getD (a4) []).set (ix) (((hy.getD (a4) []).getD (ix) 0)-((b6))))).getD (tn) []) (i:=ix) (by have d0:=k3.mono (B':=100+50*(t:Int)) (by omega);repeat' (first | exact d0 | refine RowsB.put ?_ ?_ | refine RowB.set ?_ ?_ | refine RowsB.row ?_ ?_ | omega | (simp only [LS];omega))) (by omega);refine rd0 17 (ox 2 [(238,vP a6 4),(237,vS e1 f5.length e2)] ?_);refine AE (dlb 239 1 4 a6 (vI (↑tn))) ?_;obtain ⟨a4i,s4⟩:=m8.row undef;refine AE (di 240 1 (tn) s4.addr) ?_;refine AE (FA (dl 241 (s4.get (tn) (by omega) 0 (by decide) _ _ (fun x hx=>by simp [hx]))) g1) (ox 3 [(244,vP a6 4),(243,vS e1 f5.length e2),(242,vI (↑ix))] ?_);refine AE (dlb 245 1 4 a6 (vI (↑tn))) ?_;obtain ⟨a4j,s5⟩:=m8.row undef;refine AE (di 246 1 (tn) s5.addr) ?_;refine AE (FA (dl 247 (s5.get (tn) (by omega) 0 (by decide) _ _ (fun x hx=>by simp [hx]))) g1) (ox 1 [(248,vI (↑ix))] ?_);obtain ⟨a4k,s6⟩:=i7.row 0;refine AE (di 249 1 (ix) s6.addr) ?_;refine AE (dl 250 (s6.get (ix) (by omega) 0 (by decide) _ _ (fun x hx=>by simp [hx]))) (ox 1 [(251,vP a6 7)] ?_);refine AE (dlb 252 1 7 a6 (vI ((b6)))) ?_;refine AE (da 253 (((hy.set (a4) ((hy.getD (a4) []).set (ix) (((hy.getD (a4) []).getD (ix) 0)-((b6))))).getD (tn) []).getD (ix) 0) ((b6))) ?_;refine BE ?_;obtain ⟨a4l,s7⟩:=i7.row 0;refine sd (di 254 1 (ix) s7.addr) (sS (BB (T:=3) (x:=(.tmp 254)) (y:=(.tmp 253)) (rc:=fun i f=>AJ (((hy.set (a4) ((hy.getD (a4) []).set (ix) (((hy.getD (a4) []).getD (ix) 0)-((b6))))).getD (tn) []).getD i 0) f) 0 (ix) 0 ((((hy.set (a4) ((hy.getD (a4) []).set (ix) (((hy.getD (a4) []).getD (ix) 0)-((b6))))).getD (tn) []).getD (ix) 0)+((b6))) (ty:=0) (gd:=none) (by kernel_rfl) rfl i7 s7 (by omega) (by decide) rfl rfl (by kernel_rfl) rfl rfl (by intro f hf;match f,hf with | 0,_=>rfl) (PU (PU (PU (PM.symm)))) (fun v8 T5=>(pm (M':=((bX p #[.int .u64 (b9)] 91)::(bX a6 #[vI (1+(a8.getD (t) 0)),vI (h2),vI ((a7)),vI (↑a4),vI (↑tn),vI (↑a9),.bool (so),vI ((b6))] 28)::(bX b5 #[vI (↑Pn),vI (↑Qn),vS b3 b7.length b4,vS a0 ks.length a1,vS a2 sl.length a3] 26)::(bX b1 #[vI (0),vI (0),vN,vN,vN] 26)::(v8++(i6++(hM++(a5++F)))))) (PW (PW (PW PM))) (ee (NB (NB (NX ?_))))))));obtain ⟨i2,o8,O6⟩:=M7 _ _ _ T5;have J5:=o8.same g1;refine GB (M':=((i2++(bX p #[.int .u64 (b9)] 91)::(bX a6 #[vI (1+(a8.getD (t) 0)),vI (h2),vI ((a7)),vI (↑a4),vI (↑tn),vI (↑a9),.bool (so),vI ((b6))] 28)::(bX b5 #[vI (↑Pn),vI (↑Qn),vS b3 b7.length b4,vS a0 ks.length a1,vS a2 sl.length a3] 26)::(bX b1 #[vI (0),vI (0),vN,vN,vN] 26)::(hM++(a5++F))))) (fun w h=>?_) ?_
   ·have h2:=h.perm ((PU (PU (PU (PM.symm)))).trans (PA _ (PU (PU (PU (PM.symm))))));simp only [← AA] at h2;have h3:=St.permL (A':=i2) (A:=v8++i6) (by simpa only [AA,List.append_nil] using O6.symm) (by simpa only [AA] using h2)
    simpa only [AA] using h3
   refine GB (M':=((bX p #[.int .u64 (b9)] 91)::(bX a6 #[vI (1+(a8.getD (t) 0)),vI (h2),vI ((a7)),vI (↑a4),vI (↑tn),vI (↑a9),.bool (so),vI ((b6))] 28)::(bX b5 #[vI (↑Pn),vI (↑Qn),vS b3 b7.length b4,vS a0 ks.length a1,vS a2 sl.length a3] 26)::(bX b1 #[vI (0),vI (0),vN,vN,vN] 26)::(i2++(hM++(a5++F))))) (fun w h=>h.perm (PW (PW (PW PM)))) (rr (sp 1 [(339,vP b5 4)] (sd (dlb 340 2 4 b5 (vS a2 sl.length a3)) (sd (dnb 341 1 0 a6 [vI (1+(a8.getD (t) 0)),vI (h2),vI ((a7)),vI (↑a4),vI (↑tn),vI (↑a9),.bool (so),vI ((b6))]) (sS (sbs 342 28 1 #[vI (1+(a8.getD (t) 0)),vI (h2),vI ((a7)),vI (↑a4),vI (↑tn),vI (↑a9),.bool (so),vI ((b6))] (fun a7d=>(sS (BC (d:=343) (x:=(.tmp 340)) (y:=(.tmp 342)) (T:=24) (T':=24) (E:=28) (E':=28) (sz:=8) (bs:=64) (z:=.agg #[vI (0),vI (0),vI (0),vI (0),vI (0),vI (0),.bool (false),vI (0)]) (cell:=AY) (xs:=sl) (ys:=[(⟨1+(a8.getD (t) 0),h2,(a7),↑a4,↑tn,↑a9,so,(b6)⟩:Slip)]) (Ms:=a5) (ty:=24) (gd:=none) (by kernel_rfl) rfl (by kernel_rfl) (by kernel_rfl) (by kernel_rfl) (by kernel_rfl) (by kernel_rfl) (by decide) (by kernel_rfl) rfl rfl (c0) (PU (PU (PU (PU (PU (PV (PO _ _ _))))))) (DU _) (EM 0 rfl rfl) (by first | omega | (simp only [LC,LN,LA,LK,LD];omega)) (fun a9e v9 A1=>(AX (M':=((bX p #[.int .u64 (b9)] 91)::(bX a6 #[vI (1+(a8.getD (t) 0)),vI (h2),vI ((a7)),vI (↑a4),vI (↑tn),vI (↑a9),.bool (so),vI ((b6))] 28)::(bX b5 #[vI (↑Pn),vI (↑Qn),vS b3 b7.length b4,vS a0 ks.length a1,vS a2 sl.length a3] 26)::(bX b1 #[vI (0),vI (0),vN,vN,vN] 26)::(v9++(i2++(hM++F))))) (fun w h=>(h.perm (PW (PW (PW (PW PM))))).sub (TC _ (TR _))) ?_)))))))))));obtain ⟨p9,q7,X5,a4z⟩:=A1.shape;subst X5;refine sp 1 [(344,vP b5 4)] (sS (ss 2 4 b5 [vS p9 (sl++([(⟨1+(a8.getD (t) 0),h2,(a7),↑a4,↑tn,↑a9,so,(b6)⟩:Slip)])).length q7] [vI (↑Pn),vI (↑Qn),vS b3 b7.length b4,vS a0 ks.length a1,vS p9 (sl++([(⟨1+(a8.getD (t) 0),h2,(a7),↑a4,↑tn,↑a9,so,(b6)⟩:Slip)])).length q7] (_::_::_::_::_) (cs:=[_,_,_,_,_]) rfl rfl (ee (NB (NX (rr (sp 1 [(90,vI (↑t))] (sd (da 91 (↑t) (1)) (sp 1 [(18,vI (↑t+1))] (ee ?_))))))))));refine AN (8-(t+1)) (by omega) ?_;intro a w hS hD hW;exact ⟨t9,t+1,h2,sl++([(⟨1+(a8.getD (t) 0),h2,(a7),↑a4,↑tn,↑a9,so,(b6)⟩:Slip)]),(hy.set (a4) ((hy.getD (a4) []).set (ix) (((hy.getD (a4) []).getD (ix) 0)-((b6))))).set (tn) (((hy.set (a4) ((hy.getD (a4) []).set (ix) (((hy.getD (a4) []).getD (ix) 0)-((b6))))).getD (tn) []).set (ix) ((((hy.set (a4) ((hy.getD (a4) []).set (ix) (((hy.getD (a4) []).getD (ix) 0)-((b6))))).getD (tn) []).getD (ix) 0)+((b6)))),i2,b9,vS p9 (sl++([(⟨1+(a8.getD (t) 0),h2,(a7),↑a4,↑tn,↑a9,so,(b6)⟩:Slip)])).length q7,v9,(IT (IT (IT (IT (IT (IT (IT (IT (IT (IT (IT hJ3 c6) c7) c8) c9) d3) d4) d5) d6) c1) c2) f6),by omega,(by omega),m6.snoc (FZ t8) (by omega) rfl (HV (by dsimp only;omega) (by dsimp only;omega) (by dsimp only;omega) (by dsimp only;omega) (fun hq=>by dsimp only at hq ⊢;have hz:=k4.1 hq;omega) (fun hq=>by dsimp only at hq ⊢;have hz:=k4.2 hq;omega) (by dsimp only;omega) g0 (by dsimp only;omega) (by dsimp only;omega)),by simpa only [LS] using p3,(by have d0:=k3.mono (B':=100+50*((t+1:Nat):Int)) (by omega);repeat' (first | exact d0 | refine RowsB.put ?_ ?_ | refine RowB.set ?_ ?_ | refine RowsB.row ?_ ?_ | omega | (simp only [LS];omega))),J5,A1,hS.sub (.consE 16 rfl rfl (.consE 18 rfl rfl (.cons 0 rfl (.cons 1 rfl (.cons 2 rfl (.cons 6 rfl (.cons 7 rfl (.cons 8 rfl (.cons 17 rfl (.cons 26 rfl (.nil _))))))))))),hD,(hW.perm ((PS _ _ _).trans (PC _ (PC _ (PC _ (PC _ ((PV (PO _ _ _)).trans (PA _ (PO _ _ _))))))))).sub (TC _ (TR _)),rfl⟩
  have Q1:=D6;have D6:=BW D6;refine rqr (sp 2 [(255,.bool (cmp .eql ((a7)) (2)))] (se (rc 255 rfl (fun D7=>?_) (fun D7=>?_))))
  ·
   have Q2:=D7;have D7:=BX D7;have a2q:=hix.2.1 (by omega);have A5:=RowB.at (B:=100+50*t) (n:=2*Qn) (r:=(hy.getD (a4) []).set (ix) (((hy.getD (a4) []).getD (ix) 0)-((b6)))) (i:=ix+1) (by have d0:=k3.mono (B':=100+50*(t:Int)) (by omega);repeat' (first | exact d0 | refine RowsB.put ?_ ?_ | refine RowB.set ?_ ?_ | refine RowsB.row ?_ ?_ | omega | (simp only [LS];omega))) (by omega);refine rd0 19 (ox 2 [(258,vP a6 3),(257,vS e1 f5.length e2)] ?_);refine AE (dlb 259 1 3 a6 (vI (↑a4))) ?_;obtain ⟨a4m,s8⟩:=m8.row undef;refine AE (di 260 1 (a4) s8.addr) ?_;refine AE (FA (dl 261 (s8.get (a4) (by omega) 0 (by decide) _ _ (fun x hx=>by simp [hx]))) b8) (ox 1 [(262,vI (↑ix))] ?_);refine AE (da 263 (↑ix) (1)) (ox 2 [(265,vP a6 3),(264,vS e1 f5.length e2)] ?_);refine AE (dlb 266 1 3 a6 (vI (↑a4))) ?_;obtain ⟨a4n,s9⟩:=m8.row undef;refine AE (di 267 1 (a4) s9.addr) ?_;refine AE (FA (dl 268 (s9.get (a4) (by omega) 0 (by decide) _ _ (fun x hx=>by simp [hx]))) b8) (ox 1 [(269,vI (↑ix))] ?_);refine AE (da 270 (↑ix) (1)) ?_;obtain ⟨a4o,k7⟩:=f9.row 0;simp only [LS] at k7;refine AE (di 271 1 (ix+1) (fun _=>k7.addr (by omega)) (n:=(hy.getD (a4) []).length)) ?_;refine AE (dl 272 (k7.get (ix+1) (by omega) 0 (by decide) _ _ (fun x hx=>by simp [hx]))) (ox 1 [(273,vP a6 7)] ?_);refine AE (dlb 274 1 7 a6 (vI ((b6)))) ?_;refine AE (da 275 (((hy.getD (a4) []).set (ix) (((hy.getD (a4) []).getD (ix) 0)-((b6)))).getD (ix+1) 0) ((b6))) ?_;refine BE ?_;obtain ⟨a4p,k8⟩:=f9.row 0;simp only [LS] at k8;refine sd (di 276 1 (ix+1) (fun _=>k8.addr (by omega)) (n:=(hy.getD (a4) []).length)) (sS (BB (T:=3) (x:=(.tmp 276)) (y:=(.tmp 275)) (rc:=fun i f=>AJ (((hy.getD (a4) []).set (ix) (((hy.getD (a4) []).getD (ix) 0)-((b6)))).getD i 0) f) 0 (ix+1) 0 ((((hy.getD (a4) []).set (ix) (((hy.getD (a4) []).getD (ix) 0)-((b6)))).getD (ix+1) 0)+((b6))) (ty:=0) (gd:=none) (by kernel_rfl) rfl f9 (by simpa only [LS] using k8) (by simp only [LS];omega) (by decide) rfl rfl (by kernel_rfl) rfl rfl (by intro f hf;match f,hf with | 0,_=>rfl) (PU (PU (PU (PM.symm)))) (fun x0 T6=>(pm (M':=((bX p #[.int .u64 (b9)] 91)::(bX a6 #[vI (1+(a8.getD (t) 0)),vI (h2),vI ((a7)),vI (↑a4),vI (↑tn),vI (↑a9),.bool (so),vI ((b6))] 28)::(bX b5 #[vI (↑Pn),vI (↑Qn),vS b3 b7.length b4,vS a0 ks.length a1,vS a2 sl.length a3] 26)::(bX b1 #[vI (0),vI (0),vN,vN,vN] 26)::(x0++(c3++(hM++(a5++F)))))) (PW (PW (PW PM))) (ee (NB (NB (NX ?_))))))));obtain ⟨i3,o9,O7⟩:=f4 _ _ _ T6;have J6:=o9.same b8;refine GB (M':=((i3++(bX p #[.int .u64 (b9)] 91)::(bX a6 #[vI (1+(a8.getD (t) 0)),vI (h2),vI ((a7)),vI (↑a4),vI (↑tn),vI (↑a9),.bool (so),vI ((b6))] 28)::(bX b5 #[vI (↑Pn),vI (↑Qn),vS b3 b7.length b4,vS a0 ks.length a1,vS a2 sl.length a3] 26)::(bX b1 #[vI (0),vI (0),vN,vN,vN] 26)::(hM++(a5++F))))) (fun w h=>?_) ?_
   ·have h2:=h.perm ((PU (PU (PU (PM.symm)))).trans (PA _ (PU (PU (PU (PM.symm))))));simp only [← AA] at h2;have h3:=St.permL (A':=i3) (A:=x0++c3) (by simpa only [AA,List.append_nil] using O7.symm) (by simpa only [AA] using h2)
    simpa only [AA] using h3
   refine GB (M':=((bX p #[.int .u64 (b9)] 91)::(bX a6 #[vI (1+(a8.getD (t) 0)),vI (h2),vI ((a7)),vI (↑a4),vI (↑tn),vI (↑a9),.bool (so),vI ((b6))] 28)::(bX b5 #[vI (↑Pn),vI (↑Qn),vS b3 b7.length b4,vS a0 ks.length a1,vS a2 sl.length a3] 26)::(bX b1 #[vI (0),vI (0),vN,vN,vN] 26)::(i3++(hM++(a5++F))))) (fun w h=>h.perm (PW (PW (PW PM)))) (rr (sp 1 [(339,vP b5 4)] (sd (dlb 340 2 4 b5 (vS a2 sl.length a3)) (sd (dnb 341 1 0 a6 [vI (1+(a8.getD (t) 0)),vI (h2),vI ((a7)),vI (↑a4),vI (↑tn),vI (↑a9),.bool (so),vI ((b6))]) (sS (sbs 342 28 1 #[vI (1+(a8.getD (t) 0)),vI (h2),vI ((a7)),vI (↑a4),vI (↑tn),vI (↑a9),.bool (so),vI ((b6))] (fun a7e=>(sS (BC (d:=343) (x:=(.tmp 340)) (y:=(.tmp 342)) (T:=24) (T':=24) (E:=28) (E':=28) (sz:=8) (bs:=64) (z:=.agg #[vI (0),vI (0),vI (0),vI (0),vI (0),vI (0),.bool (false),vI (0)]) (cell:=AY) (xs:=sl) (ys:=[(⟨1+(a8.getD (t) 0),h2,(a7),↑a4,↑tn,↑a9,so,(b6)⟩:Slip)]) (Ms:=a5) (ty:=24) (gd:=none) (by kernel_rfl) rfl (by kernel_rfl) (by kernel_rfl) (by kernel_rfl) (by kernel_rfl) (by kernel_rfl) (by decide) (by kernel_rfl) rfl rfl (c0) (PU (PU (PU (PU (PU (PV (PO _ _ _))))))) (DU _) (EM 0 rfl rfl) (by first | omega | (simp only [LC,LN,LA,LK,LD];omega)) (fun a9f x1 A2=>(AX (M':=((bX p #[.int .u64 (b9)] 91)::(bX a6 #[vI (1+(a8.getD (t) 0)),vI (h2),vI ((a7)),vI (↑a4),vI (↑tn),vI (↑a9),.bool (so),vI ((b6))] 28)::(bX b5 #[vI (↑Pn),vI (↑Qn),vS b3 b7.length b4,vS a0 ks.length a1,vS a2 sl.length a3] 26)::(bX b1 #[vI (0),vI (0),vN,vN,vN] 26)::(x1++(i3++(hM++F))))) (fun w h=>(h.perm (PW (PW (PW (PW PM))))).sub (TC _ (TR _))) ?_)))))))))));obtain ⟨q0,q8,X6,a5a⟩:=A2.shape;subst X6;refine sp 1 [(344,vP b5 4)] (sS (ss 2 4 b5 [vS q0 (sl++([(⟨1+(a8.getD (t) 0),h2,(a7),↑a4,↑tn,↑a9,so,(b6)⟩:Slip)])).length q8] [vI (↑Pn),vI (↑Qn),vS b3 b7.length b4,vS a0 ks.length a1,vS q0 (sl++([(⟨1+(a8.getD (t) 0),h2,(a7),↑a4,↑tn,↑a9,so,(b6)⟩:Slip)])).length q8] (_::_::_::_::_) (cs:=[_,_,_,_,_]) rfl rfl (ee (NB (NX (rr (sp 1 [(90,vI (↑t))] (sd (da 91 (↑t) (1)) (sp 1 [(18,vI (↑t+1))] (ee ?_))))))))));refine AN (8-(t+1)) (by omega) ?_;intro a w hS hD hW;exact ⟨t9,t+1,h2,sl++([(⟨1+(a8.getD (t) 0),h2,(a7),↑a4,↑tn,↑a9,so,(b6)⟩:Slip)]),hy.set (a4) (((hy.getD (a4) []).set (ix) (((hy.getD (a4) []).getD (ix) 0)-((b6)))).set (ix+1) ((((hy.getD (a4) []).set (ix) (((hy.getD (a4) []).getD (ix) 0)-((b6)))).getD (ix+1) 0)+((b6)))),i3,b9,vS q0 (sl++([(⟨1+(a8.getD (t) 0),h2,(a7),↑a4,↑tn,↑a9,so,(b6)⟩:Slip)])).length q8,x1,(IT (IT (IT (IT (IT (IT (IT (IT (IT (IT (IT hJ3 c6) c7) c8) c9) d3) d4) d5) d6) c1) c2) f6),by omega,(by omega),m6.snoc (FZ t8) (by omega) rfl (HV (by dsimp only;omega) (by dsimp only;omega) (by dsimp only;omega) (by dsimp only;omega) (fun hq=>by dsimp only at hq ⊢;have hz:=k4.1 hq;omega) (fun hq=>by dsimp only at hq ⊢;have hz:=k4.2 hq;omega) (by dsimp only;omega) g0 (by dsimp only;omega) (by dsimp only;omega)),by simpa only [LS] using p3,(by have d0:=k3.mono (B':=100+50*((t+1:Nat):Int)) (by omega);repeat' (first | exact d0 | refine RowsB.put ?_ ?_ | refine RowB.set ?_ ?_ | refine RowsB.row ?_ ?_ | omega | (simp only [LS];omega))),J6,A2,hS.sub (.consE 16 rfl rfl (.consE 18 rfl rfl (.cons 0 rfl (.cons 1 rfl (.cons 2 rfl (.cons 6 rfl (.cons 7 rfl (.cons 8 rfl (.cons 17 rfl (.cons 26 rfl (.nil _))))))))))),hD,(hW.perm ((PS _ _ _).trans (PC _ (PC _ (PC _ (PC _ ((PV (PO _ _ _)).trans (PA _ (PO _ _ _))))))))).sub (TC _ (TR _)),rfl⟩
  have Q2:=D7;have D7:=BW D7;refine rqr (sp 2 [(277,.bool (cmp .eql ((a7)) (3)))] (se (rc 277 rfl (fun D8=>?_) (fun D8=>?_))))
  ·
   have Q3:=D8;have D8:=BX D8;have a2q:=hix.2.2 (by omega);have A5:=RowB.at (B:=100+50*t) (n:=2*Qn) (r:=(hy.getD (a4) []).set (ix) (((hy.getD (a4) []).getD (ix) 0)-((b6)))) (i:=(↑ix-1:Int).toNat) (by have d0:=k3.mono (B':=100+50*(t:Int)) (by omega);repeat' (first | exact d0 | refine RowsB.put ?_ ?_ | refine RowB.set ?_ ?_ | refine RowsB.row ?_ ?_ | omega | (simp only [LS];omega))) (by omega);refine rd0 19 (ox 2 [(280,vP a6 3),(279,vS e1 f5.length e2)] ?_);refine AE (dlb 281 1 3 a6 (vI (↑a4))) ?_;obtain ⟨a4q,t0⟩:=m8.row undef;refine AE (di 282 1 (a4) t0.addr) ?_;refine AE (FA (dl 283 (t0.get (a4) (by omega) 0 (by decide) _ _ (fun x hx=>by simp [hx]))) b8) (ox 1 [(284,vI (↑ix))] ?_);refine AE (dsb 285 (↑ix) (1)) (ox 2 [(287,vP a6 3),(286,vS e1 f5.length e2)] ?_);refine AE (dlb 288 1 3 a6 (vI (↑a4))) ?_;obtain ⟨a4r,t1⟩:=m8.row undef;refine AE (di 289 1 (a4) t1.addr) ?_;refine AE (FA (dl 290 (t1.get (a4) (by omega) 0 (by decide) _ _ (fun x hx=>by simp [hx]))) b8) (ox 1 [(291,vI (↑ix))] ?_);refine AE (dsb 292 (↑ix) (1)) ?_;obtain ⟨a4s,k9⟩:=f9.row 0;simp only [LS] at k9;refine AE (diI 293 1 (↑ix-1) (fun _=>k9.addr (by omega)) (n:=(hy.getD (a4) []).length)) ?_;refine AE (dl 294 (k9.get ((↑ix-1:Int).toNat) (by omega) 0 (by decide) _ _ (fun x hx=>by simp [hx]))) (ox 1 [(295,vP a6 7)] ?_);refine AE (dlb 296 1 7 a6 (vI ((b6)))) ?_;refine AE (da 297 (((hy.getD (a4) []).set (ix) (((hy.getD (a4) []).getD (ix) 0)-((b6)))).getD ((↑ix-1:Int).toNat) 0) ((b6))) ?_;refine BE ?_;obtain ⟨a4t,l0⟩:=f9.row 0;simp only [LS] at l0;refine sd (diI 298 1 (↑ix-1) (fun _=>l0.addr (by omega)) (n:=(hy.getD (a4) []).length)) (sS (BB (T:=3) (x:=(.tmp 298)) (y:=(.tmp 297)) (rc:=fun i f=>AJ (((hy.getD (a4) []).set (ix) (((hy.getD (a4) []).getD (ix) 0)-((b6)))).getD i 0) f) 0 ((↑ix-1:Int).toNat) 0 ((((hy.getD (a4) []).set (ix) (((hy.getD (a4) []).getD (ix) 0)-((b6)))).getD ((↑ix-1:Int).toNat) 0)+((b6))) (ty:=0) (gd:=none) (by kernel_rfl) rfl f9 (by simpa only [LS] using l0) (by simp only [LS];omega) (by decide) rfl rfl (by kernel_rfl) rfl rfl (by intro f hf;match f,hf with | 0,_=>rfl) (PU (PU (PU (PM.symm)))) (fun x2 T7=>(pm (M':=((bX p #[.int .u64 (b9)] 91)::(bX a6 #[vI (1+(a8.getD (t) 0)),vI (h2),vI ((a7)),vI (↑a4),vI (↑tn),vI (↑a9),.bool (so),vI ((b6))] 28)::(bX b5 #[vI (↑Pn),vI (↑Qn),vS b3 b7.length b4,vS a0 ks.length a1,vS a2 sl.length a3] 26)::(bX b1 #[vI (0),vI (0),vN,vN,vN] 26)::(x2++(c3++(hM++(a5++F)))))) (PW (PW (PW PM))) (ee (NB (NB (NX ?_))))))));obtain ⟨i4,p0,O8⟩:=f4 _ _ _ T7;have J7:=p0.same b8;refine GB (M':=((i4++(bX p #[.int .u64 (b9)] 91)::(bX a6 #[vI (1+(a8.getD (t) 0)),vI (h2),vI ((a7)),vI (↑a4),vI (↑tn),vI (↑a9),.bool (so),vI ((b6))] 28)::(bX b5 #[vI (↑Pn),vI (↑Qn),vS b3 b7.length b4,vS a0 ks.length a1,vS a2 sl.length a3] 26)::(bX b1 #[vI (0),vI (0),vN,vN,vN] 26)::(hM++(a5++F))))) (fun w h=>?_) ?_
   ·have h2:=h.perm ((PU (PU (PU (PM.symm)))).trans (PA _ (PU (PU (PU (PM.symm))))));simp only [← AA] at h2;have h3:=St.permL (A':=i4) (A:=x2++c3) (by simpa only [AA,List.append_nil] using O8.symm) (by simpa only [AA] using h2)
    simpa only [AA] using h3
   refine GB (M':=((bX p #[.int .u64 (b9)] 91)::(bX a6 #[vI (1+(a8.getD (t) 0)),vI (h2),vI ((a7)),vI (↑a4),vI (↑tn),vI (↑a9),.bool (so),vI ((b6))] 28)::(bX b5 #[vI (↑Pn),vI (↑Qn),vS b3 b7.length b4,vS a0 ks.length a1,vS a2 sl.length a3] 26)::(bX b1 #[vI (0),vI (0),vN,vN,vN] 26)::(i4++(hM++(a5++F))))) (fun w h=>h.perm (PW (PW (PW PM)))) (rr (sp 1 [(339,vP b5 4)] (sd (dlb 340 2 4 b5 (vS a2 sl.length a3)) (sd (dnb 341 1 0 a6 [vI (1+(a8.getD (t) 0)),vI (h2),vI ((a7)),vI (↑a4),vI (↑tn),vI (↑a9),.bool (so),vI ((b6))]) (sS (sbs 342 28 1 #[vI (1+(a8.getD (t) 0)),vI (h2),vI ((a7)),vI (↑a4),vI (↑tn),vI (↑a9),.bool (so),vI ((b6))] (fun a7f=>(sS (BC (d:=343) (x:=(.tmp 340)) (y:=(.tmp 342)) (T:=24) (T':=24) (E:=28) (E':=28) (sz:=8) (bs:=64) (z:=.agg #[vI (0),vI (0),vI (0),vI (0),vI (0),vI (0),.bool (false),vI (0)]) (cell:=AY) (xs:=sl) (ys:=[(⟨1+(a8.getD (t) 0),h2,(a7),↑a4,↑tn,↑a9,so,(b6)⟩:Slip)]) (Ms:=a5) (ty:=24) (gd:=none) (by kernel_rfl) rfl (by kernel_rfl) (by kernel_rfl) (by kernel_rfl) (by kernel_rfl) (by kernel_rfl) (by decide) (by kernel_rfl) rfl rfl (c0) (PU (PU (PU (PU (PU (PV (PO _ _ _))))))) (DU _) (EM 0 rfl rfl) (by first | omega | (simp only [LC,LN,LA,LK,LD];omega)) (fun a9g x3 A3=>(AX (M':=((bX p #[.int .u64 (b9)] 91)::(bX a6 #[vI (1+(a8.getD (t) 0)),vI (h2),vI ((a7)),vI (↑a4),vI (↑tn),vI (↑a9),.bool (so),vI ((b6))] 28)::(bX b5 #[vI (↑Pn),vI (↑Qn),vS b3 b7.length b4,vS a0 ks.length a1,vS a2 sl.length a3] 26)::(bX b1 #[vI (0),vI (0),vN,vN,vN] 26)::(x3++(i4++(hM++F))))) (fun w h=>(h.perm (PW (PW (PW (PW PM))))).sub (TC _ (TR _))) ?_)))))))))));obtain ⟨q1,q9,X7,a5b⟩:=A3.shape;subst X7;refine sp 1 [(344,vP b5 4)] (sS (ss 2 4 b5 [vS q1 (sl++([(⟨1+(a8.getD (t) 0),h2,(a7),↑a4,↑tn,↑a9,so,(b6)⟩:Slip)])).length q9] [vI (↑Pn),vI (↑Qn),vS b3 b7.length b4,vS a0 ks.length a1,vS q1 (sl++([(⟨1+(a8.getD (t) 0),h2,(a7),↑a4,↑tn,↑a9,so,(b6)⟩:Slip)])).length q9] (_::_::_::_::_) (cs:=[_,_,_,_,_]) rfl rfl (ee (NB (NX (rr (sp 1 [(90,vI (↑t))] (sd (da 91 (↑t) (1)) (sp 1 [(18,vI (↑t+1))] (ee ?_))))))))));refine AN (8-(t+1)) (by omega) ?_;intro a w hS hD hW;exact ⟨t9,t+1,h2,sl++([(⟨1+(a8.getD (t) 0),h2,(a7),↑a4,↑tn,↑a9,so,(b6)⟩:Slip)]),hy.set (a4) (((hy.getD (a4) []).set (ix) (((hy.getD (a4) []).getD (ix) 0)-((b6)))).set ((↑ix-1:Int).toNat) ((((hy.getD (a4) []).set (ix) (((hy.getD (a4) []).getD (ix) 0)-((b6)))).getD ((↑ix-1:Int).toNat) 0)+((b6)))),i4,b9,vS q1 (sl++([(⟨1+(a8.getD (t) 0),h2,(a7),↑a4,↑tn,↑a9,so,(b6)⟩:Slip)])).length q9,x3,(IT (IT (IT (IT (IT (IT (IT (IT (IT (IT (IT hJ3 c6) c7) c8) c9) d3) d4) d5) d6) c1) c2) f6),by omega,(by omega),m6.snoc (FZ t8) (by omega) rfl (HV (by dsimp only;omega) (by dsimp only;omega) (by dsimp only;omega) (by dsimp only;omega) (fun hq=>by dsimp only at hq ⊢;have hz:=k4.1 hq;omega) (fun hq=>by dsimp only at hq ⊢;have hz:=k4.2 hq;omega) (by dsimp only;omega) g0 (by dsimp only;omega) (by dsimp only;omega)),by simpa only [LS] using p3,(by have d0:=k3.mono (B':=100+50*((t+1:Nat):Int)) (by omega);repeat' (first | exact d0 | refine RowsB.put ?_ ?_ | refine RowB.set ?_ ?_ | refine RowsB.row ?_ ?_ | omega | (simp only [LS];omega))),J7,A3,hS.sub (.consE 16 rfl rfl (.consE 18 rfl rfl (.cons 0 rfl (.cons 1 rfl (.cons 2 rfl (.cons 6 rfl (.cons 7 rfl (.cons 8 rfl (.cons 17 rfl (.cons 26 rfl (.nil _))))))))))),hD,(hW.perm ((PS _ _ _).trans (PC _ (PC _ (PC _ (PC _ ((PV (PO _ _ _)).trans (PA _ (PO _ _ _))))))))).sub (TC _ (TR _)),rfl⟩
  have Q3:=D8;have D8:=BW D8;refine AQ (NB (NB (NX ?_)));obtain ⟨i5,p1,O9⟩:=f4 _ _ _ f9;have J8:=p1.same b8;refine GB (M':=((i5++(bX p #[.int .u64 (b9)] 91)::(bX a6 #[vI (1+(a8.getD (t) 0)),vI (h2),vI ((a7)),vI (↑a4),vI (↑tn),vI (↑a9),.bool (so),vI ((b6))] 28)::(bX b5 #[vI (↑Pn),vI (↑Qn),vS b3 b7.length b4,vS a0 ks.length a1,vS a2 sl.length a3] 26)::(bX b1 #[vI (0),vI (0),vN,vN,vN] 26)::(hM++(a5++F))))) (fun w h=>?_) ?_
  ·have h2:=h.perm ((PU (PU (PU (PM.symm)))).trans (PA _ (PU (PU (PU (PM.symm))))));simp only [← AA] at h2;have h3:=St.permL (A':=i5) (A:=n4++c3) (by simpa only [AA,List.append_nil] using O9.symm) (by simpa only [AA] using h2)
   simpa only [AA] using h3
  refine GB (M':=((bX p #[.int .u64 (b9)] 91)::(bX a6 #[vI (1+(a8.getD (t) 0)),vI (h2),vI ((a7)),vI (↑a4),vI (↑tn),vI (↑a9),.bool (so),vI ((b6))] 28)::(bX b5 #[vI (↑Pn),vI (↑Qn),vS b3 b7.length b4,vS a0 ks.length a1,vS a2 sl.length a3] 26)::(bX b1 #[vI (0),vI (0),vN,vN,vN] 26)::(i5++(hM++(a5++F))))) (fun w h=>h.perm (PW (PW (PW PM)))) (rr (sp 1 [(339,vP b5 4)] (sd (dlb 340 2 4 b5 (vS a2 sl.length a3)) (sd (dnb 341 1 0 a6 [vI (1+(a8.getD (t) 0)),vI (h2),vI ((a7)),vI (↑a4),vI (↑tn),vI (↑a9),.bool (so),vI ((b6))]) (sS (sbs 342 28 1 #[vI (1+(a8.getD (t) 0)),vI (h2),vI ((a7)),vI (↑a4),vI (↑tn),vI (↑a9),.bool (so),vI ((b6))] (fun a7g=>(sS (BC (d:=343) (x:=(.tmp 340)) (y:=(.tmp 342)) (T:=24) (T':=24) (E:=28) (E':=28) (sz:=8) (bs:=64) (z:=.agg #[vI (0),vI (0),vI (0),vI (0),vI (0),vI (0),.bool (false),vI (0)]) (cell:=AY) (xs:=sl) (ys:=[(⟨1+(a8.getD (t) 0),h2,(a7),↑a4,↑tn,↑a9,so,(b6)⟩:Slip)]) (Ms:=a5) (ty:=24) (gd:=none) (by kernel_rfl) rfl (by kernel_rfl) (by kernel_rfl) (by kernel_rfl) (by kernel_rfl) (by kernel_rfl) (by decide) (by kernel_rfl) rfl rfl (c0) (PU (PU (PU (PU (PU (PV (PO _ _ _))))))) (DU _) (EM 0 rfl rfl) (by first | omega | (simp only [LC,LN,LA,LK,LD];omega)) (fun a9h x4 A4=>(AX (M':=((bX p #[.int .u64 (b9)] 91)::(bX a6 #[vI (1+(a8.getD (t) 0)),vI (h2),vI ((a7)),vI (↑a4),vI (↑tn),vI (↑a9),.bool (so),vI ((b6))] 28)::(bX b5 #[vI (↑Pn),vI (↑Qn),vS b3 b7.length b4,vS a0 ks.length a1,vS a2 sl.length a3] 26)::(bX b1 #[vI (0),vI (0),vN,vN,vN] 26)::(x4++(i5++(hM++F))))) (fun w h=>(h.perm (PW (PW (PW (PW PM))))).sub (TC _ (TR _))) ?_)))))))))));obtain ⟨q2,r0,X8,a5c⟩:=A4.shape;subst X8;refine sp 1 [(344,vP b5 4)] (sS (ss 2 4 b5 [vS q2 (sl++([(⟨1+(a8.getD (t) 0),h2,(a7),↑a4,↑tn,↑a9,so,(b6)⟩:Slip)])).length r0] [vI (↑Pn),vI (↑Qn),vS b3 b7.length b4,vS a0 ks.length a1,vS q2 (sl++([(⟨1+(a8.getD (t) 0),h2,(a7),↑a4,↑tn,↑a9,so,(b6)⟩:Slip)])).length r0] (_::_::_::_::_) (cs:=[_,_,_,_,_]) rfl rfl (ee (NB (NX (rr (sp 1 [(90,vI (↑t))] (sd (da 91 (↑t) (1)) (sp 1 [(18,vI (↑t+1))] (ee ?_))))))))));refine AN (8-(t+1)) (by omega) ?_;intro a w hS hD hW;exact ⟨t9,t+1,h2,sl++([(⟨1+(a8.getD (t) 0),h2,(a7),↑a4,↑tn,↑a9,so,(b6)⟩:Slip)]),hy.set (a4) ((hy.getD (a4) []).set (ix) (((hy.getD (a4) []).getD (ix) 0)-((b6)))),i5,b9,vS q2 (sl++([(⟨1+(a8.getD (t) 0),h2,(a7),↑a4,↑tn,↑a9,so,(b6)⟩:Slip)])).length r0,x4,(IT (IT (IT (IT (IT (IT (IT (IT (IT (IT (IT hJ3 c6) c7) c8) c9) d3) d4) d5) d6) c1) c2) f6),by omega,(by omega),m6.snoc (FZ t8) (by omega) rfl (HV (by dsimp only;omega) (by dsimp only;omega) (by dsimp only;omega) (by dsimp only;omega) (fun hq=>by dsimp only at hq ⊢;have hz:=k4.1 hq;omega) (fun hq=>by dsimp only at hq ⊢;have hz:=k4.2 hq;omega) (by dsimp only;omega) g0 (by dsimp only;omega) (by dsimp only;omega)),by simpa only [LS] using p3,(by have d0:=k3.mono (B':=100+50*((t+1:Nat):Int)) (by omega);repeat' (first | exact d0 | refine RowsB.put ?_ ?_ | refine RowB.set ?_ ?_ | refine RowsB.row ?_ ?_ | omega | (simp only [LS];omega))),J8,A4,hS.sub (.consE 16 rfl rfl (.consE 18 rfl rfl (.cons 0 rfl (.cons 1 rfl (.cons 2 rfl (.cons 6 rfl (.cons 7 rfl (.cons 8 rfl (.cons 17 rfl (.cons 26 rfl (.nil _))))))))))),hD,(hW.perm ((PS _ _ _).trans (PC _ (PC _ (PC _ (PC _ ((PV (PO _ _ _)).trans (PA _ (PO _ _ _))))))))).sub (TC _ (TR _)),rfl⟩
 have a2l:=h4;have h4:=CT h4;refine CB 6 ((EP (EP (EB (NX (rq ?_))))));refine DO (B:=((bX p #[.int .u64 (M6)] 91)::(bX b5 #[vI (↑Pn),vI (↑Qn),vS b3 b7.length b4,vS a0 ks.length a1,vS a2 sl.length a3] 26)::(bX b1 #[vI (0),vI (0),vN,vN,vN] 26)::(hM++(yM++F)))) AB c0 (by first | omega | (simp only [LS,LC,LN,LA,LK,LD] <;> omega) | decide) (PU (PU (PU (PV (PO _ _ _))))) (PR _) (fun a6t k2 m3=>?_);replace b0:=b0.mono k2;replace b2:=b2.mono k2;obtain ⟨a0x,a0z,a0y,a1c,u6,a1a,a1b,a1d⟩:=id m3;cases u6;refine rr (sd (dnb 345 1 0 b5 [vI (↑Pn),vI (↑Qn),vS b3 b7.length b4,vS a0 ks.length a1,vS a2 sl.length a3]) (sS (ss 2 0 b1 [vI (↑Pn),vI (↑Qn),vS b3 b7.length b4,vS a0 ks.length a1,vS a2 sl.length a3] [vI (↑Pn),vI (↑Qn),vS b3 b7.length b4,vS a0 ks.length a1,vS a2 sl.length a3] (_::_::_::_) (cs:=[_,_,_,_,_]) rfl rfl (se (BL (GJ (t:=6) (T:=26) (n:=5) ([(bX p #[.int .u64 (M6)] 91)]) (by kernel_rfl) rfl (by kernel_rfl) rfl (CJ (n:=5) (cs:=#[vI (↑Pn),vI (↑Qn),vS b3 b7.length b4,vS a0 ks.length a1,vS a2 sl.length a3]) (b:=b1) (off:=0) (T:=26) (fz:=(0,0)) (vs:=[vI (↑Pn),vI (↑Qn),vS b3 b7.length b4,vS a0 ks.length a1,vS a2 sl.length a3]) (by simp) rfl) (.inl ⟨by kernel_rfl,rfl⟩) (TK _ (TC _ (TC _ (TT (TT (TR _) (TB _ _)) (TB _ _))))) (IT (IT (IT (IT (IT (IT (IT (IT (IT (IT (IT a2r R1) hJ0) R3) x7) x8) hJ2) p2) j4) j5) hJ3) k2) ?_))))));exact ⟨_,⟨Pn,Qn,sx,ks,sl⟩,_,rfl,rfl,drawn_book (r:=↑f7) (dl:=a8) (i:=t) (by omega) (by omega) rfl (by omega) (hrs.mono (by omega)) (by omega) (by omega) hks m6 ht,small_nums m6 t8 (by omega),(GF b0 b2 m3)⟩
end Go.Proofs.YtgcemienebmdeaaGreat
namespace Go.Sh
open Go Go.Sl
def numsP (p:Sh.Event→Bool) (l:List Sh.Event):List Int:=(l.filter p).map fun e=>e.slip.num
section
variable {p:Sh.Event→Bool} {l:List Sh.Event} {x:Sh.Event}
theorem numsP_len:(numsP p l).length≤l.length:=by unfold numsP;rw [List.length_map];exact List.length_filter_le _ _
end
def belowE (L:Lin):List Int × Int:=if AU L≠0 then ([],AU L) else (numsP (fun x=>x.below) (BO L),0)
def orderE (L:Lin):List Int × Int:=if AU L≠0 then ([],AU L) else (numsP (fun _=>true) (BO L),0)
section
variable {L:Lin}
theorem belowE_2 (h:AU L=0):belowE L=(numsP (fun x=>x.below) (BO L),0):=if_neg (fun x=>x h)
theorem orderE_2 (h:AU L=0):orderE L=(numsP (fun _=>true) (BO L),0):=if_neg (fun x=>x h)
end
end Go.Sh
namespace Go.Proofs.YtgcemienebmdeaaGreat
open Go Go.Sl Go.Sh
set_option maxRecDepth 100000
end Go.Proofs.YtgcemienebmdeaaGreat
namespace Go.Sh
open Go Go.Sl
section
variable {L:Lin} {n amt:Int} {h S:List Int} {s:Slip} {l:List Slip} {G:List Gap} {i j:Nat}
end
section
variable {S:List Int} {n:Nat}
end
structure Rel (S:List Int) (O:Ods):Prop where
  len:S.length=20
  zero:S.getD 0 0=0∧S.getD 1 0=0
  at_:∀ i:Nat,2≤i→i<20→S.getD i 0=ON ⟨(i:Int)/2,(i:Int)%2,0⟩ O
  pos:∀ x∈O,0<x.2
  nod:(O.map Prod.fst).Nodup
  nn:∀ k,0≤ON k O
theorem Rel.start:Rel (List.replicate 20 0) []:=⟨by simp,by decide,fun i _ h2=>by
  show (List.replicate 20 (0:Int)).getD i 0=0
  rw [List.getD_eq_getElem?_getD,List.getElem?_replicate,if_pos h2];rfl,fun x hx=>(by cases hx),List.nodup_nil,fun k=>Int.le_refl _⟩
section
variable {L:Lin} (g:GoodL L)
include g
end
section
variable {S:List Int} {n:Nat}
end
def ixR (so:Nat) (b:Bool):Nat:=if b=true then 2*so+1 else 2*so
section
variable {H:Hs} {p v:Int} {j S P:Nat} {b:Bool}
end
def RowsI (B:Int) (m:Nat) (X:List (List Int)):Prop:=∀ r∈X,m<r.length∧r.length≤1000∧∀ x∈r,-B≤x∧x≤B
section
variable {B B':Int} {m p i:Nat} {X:List (List Int)} {v:Int}
theorem RowsI.at (h:RowsI B m X) (hp:p<X.length):m<(X.getD p []).length∧(X.getD p []).length≤1000∧∀ i,i≤m→-B≤(X.getD p []).getD i 0∧(X.getD p []).getD i 0≤B:=by
  have h1:=h _ (AV (xs:=X) (d:=[]) hp);exact ⟨h1.1,h1.2.1,fun i hi=>h1.2.2 _ (AV (xs:=X.getD p []) (d:=0) (by omega))⟩
end
section
variable {X:List (List Int)} {s:Slip}
end
section
variable {H:Hs} {S P:Nat} {p so d:Int} {b:Bool}
end
section
variable {L:Lin} {ns:List Int} {s:Slip} {k:Nat}
end
structure SameB (A B:Lin):Prop where
  places:B.places=A.places
  sorts:B.sorts=A.sorts
  start:B.start=A.start
  keeps:B.keeps=A.keeps
  slips:B.slips.Perm A.slips
theorem good_of {A:Lin} (g:GoodL A) {l:List Slip} (hl:l.length≤8) (hs:∀ s∈l,DC A s=0) (ho:Once l):GoodL ⟨A.places,A.sorts,A.start,A.keeps,l⟩:=by
  refine ⟨g.places,g.sorts,g.start,g.rows,g.nums,g.keeps,g.keep,hl,fun k hk=>?_⟩;have hm:=AV (xs:=l) (d:=AB) hk;have h1:DC ⟨A.places,A.sorts,A.start,A.keeps,l⟩ (l.getD k AB)=0:=hs _ hm;unfold CV;simp only;rw [if_neg (fun x=>x h1),if_neg];intro h;unfold hasNum at h;obtain ⟨x,hx,e⟩:=List.any_eq_true.1 h;obtain ⟨j,hj,rfl⟩:=List.mem_iff_getElem.1 hx;rw [List.length_take] at hj;have e2:=of_decide_eq_true e;rw [List.getElem_take] at e2;have e3:l.getD k AB=l[k]:=by simp [List.getD,hk]
  rw [e3] at e2;have:=(List.getElem_inj (xs:=l.map Slip.num) (i:=j) (j:=k) (h₀:=by rw [List.length_map];omega) (h₁:=by rw [List.length_map];exact hk) ho).1 (by simpa using e2);omega
theorem SameB.eq {A B:Lin} (h:SameB A B):B=⟨A.places,A.sorts,A.start,A.keeps,B.slips⟩:=by
  cases B;obtain ⟨h1,h2,h3,h4,_⟩:=h;simp only at h1 h2 h3 h4;subst h1 h2 h3 h4;rfl
theorem goodB {A B:Lin} (g:GoodL A) (h:SameB A B):GoodL B:=by
  rw [h.eq];refine good_of g (by rw [h.slips.length_eq];exact g.slips) (fun s hs=>g.slipOf (h.slips.subset hs)) ?_;exact (once_perm h.slips).2 g.once
section
variable {A B:Lin} (g:GoodL A) (h:SameB A B)
include g h
theorem same_atH (n:Int):atH B n=atH A n:=by
  unfold atH DV CP;rw [h.start];have hp:(B.slips.filter fun x=>!decide (n<x.hour)).Perm (A.slips.filter fun x=>!decide (n<x.hour)):=h.slips.filter _;have ho:Once (A.slips.filter fun x=>!decide (n<x.hour)):=g.once.sublist ((List.filter_sublist).map _);rw [show AD AC (B.slips.filter fun x=>!decide (n<x.hour))=AD AC (A.slips.filter fun x=>!decide (n<x.hour)) from (sortS_of_perm ho hp.symm).symm]
theorem same_stock {n:Int} (hn:0≤n∧n≤200):GL B n=GL A n:=by
  have hb:inB n 0 200=true:=by simp [inB,hn.1,hn.2]
  have h1:=g.places;have h2:=g.sorts;rw [PQ (k:=A.places.toNat) (s:=A.sorts.toNat) (ES g) hb (by omega) (by omega),PQ (k:=A.places.toNat) (s:=A.sorts.toNat) (ES (goodB g h)) hb (by rw [h.places];omega) (by rw [h.sorts];omega),same_atH g h]
end
section
variable {L:Lin} {o:List Int} (ho:o.Perm ((List.range L.slips.length).map fun i:Nat=>(i:Int)))
include ho
end
section
variable {L:Lin} {o:List Int} {k:Nat} (ho:o.Perm ((List.range L.slips.length).map fun i:Nat=>(i:Int)))
include ho
end
section
variable {L:Lin} (g:GoodL L)
include g
theorem lens_all {n:Int} (hn:0≤n∧n≤200):(orderE L).1.length≤8∧(GL L n).1.length≤4∧(FV L).1.length≤8∧(HY L).1.length≤8∧(belowE L).1.length≤8:=by
  have h0:=HP (L:=L);have h8:=g.slips;refine ⟨?_,?_,?_,?_,?_⟩
  · rw [orderE_2 (ES g)];have:=numsP_len (p:=fun _=>true) (l:=BO L);simp only;omega
  · have hb:inB n 0 200=true:=by simp [inB,hn.1,hn.2]
    have h1:=g.places;have h2:=g.sorts;rw [PQ (k:=L.places.toNat) (s:=L.sorts.toNat) (ES g) hb (by omega) (by omega)];simp only;rw [LR];omega
  · rw [gaps_fst g];have:=ML (l:=BO L);omega
  · rw [owedE_2 (ES g)];simp only;rw [(BM _).length_eq,List.length_map]
    have:=owes_len (xs:=ED L);have:=lack_count g;omega
  · rw [belowE_2 (ES g)];have:=numsP_len (p:=fun x=>x.below) (l:=BO L);simp only;omega
end
theorem openRow_hit {p:Int} {row:List Int} {H:Hs} {k:Nat}:∀ {j:Nat},k<j→BZ ⟨p,(k:Int),false⟩ (EW p row j H)=row.getD k 0:=by
  intro j
  induction j with
  | zero=>omega
  | succ j ih=>
    intro h;simp only [EW,HG,HKey.mk.injEq]
    by_cases e:k=j
    · subst e;simp
    · rw [if_neg (by omega),ih (by omega)]
theorem openRow_soil {p:Int} {row:List Int} {H:Hs} {q so:Int}:∀ {j:Nat},BZ ⟨q,so,true⟩ (EW p row j H)=BZ ⟨q,so,true⟩ H:=by
  intro j
  induction j with
  | zero=>rfl
  | succ j ih=>simp only [EW,HG,HKey.mk.injEq];rw [if_neg (by simp),ih]
theorem openTo_soil {st:List (List Int)} {q so:Int}:∀ {i:Nat},BZ ⟨q,so,true⟩ (FF st i)=0:=by
  intro i
  induction i with
  | zero=>rfl
  | succ i ih=>simp only [FF];rw [openRow_soil,ih]
theorem openTo_hit {st:List (List Int)} {p k:Nat} (hk:k<(st.getD p []).length):∀ {i:Nat},p<i→BZ ⟨(p:Int),(k:Int),false⟩ (FF st i)=(st.getD p []).getD k 0:=by
  intro i
  induction i with
  | zero=>omega
  | succ i ih=>
    intro h;simp only [FF]
    by_cases e:p=i
    · subst e;exact openRow_hit hk
    · rw [LZ (.inl (by simp only;omega)),ih (by omega)]
def OutK (P S:Int) (k:HKey):Prop:=¬ ((0≤k.pl∧k.pl<P)∧(0≤k.so∧k.so<S))
def ZeroOut (P S:Int) (H:Hs):Prop:=∀ k,OutK P S k→BZ k H=0
section
variable {P S:Int} {H:Hs}
theorem ZeroOut.put (h:ZeroOut P S H) {k:HKey} {v:Int} (hk:¬ OutK P S k):ZeroOut P S (GU k v H):=fun j hj=>by
  rw [HG];split
  · rename_i e;subst e;exact absurd hj hk
  · exact h j hj
theorem ZeroOut.row (h:ZeroOut P S H) {p:Int} {row:List Int} (hp:0≤p∧p<P):∀ {j:Nat},(j:Int)≤S→ZeroOut P S (EW p row j H):=by
  intro j
  induction j with
  | zero=>intro _;exact h
  | succ j ih=>intro hj;exact (ih (by omega)).put (fun ho=>ho ⟨hp,by simp only;omega⟩)
theorem ZeroOut.open {L:Lin} (g:GoodL L):ZeroOut L.places L.sorts (DV L):=by
  have key:∀ i,i≤L.start.length→ZeroOut L.places L.sorts (FF L.start i):=by
    intro i
    induction i with
    | zero=>intro _ k _;rfl
    | succ i ih=>
      intro hi;have h1:=g.start;have h2:=g.rows _ (AV (xs:=L.start) (d:=[]) (show i<L.start.length by omega));exact (ih (by omega)).row (by omega) (by omega)
  exact key _ (Nat.le_refl _)
end
section
variable {L:Lin} {i:Nat} (g:GoodL L)
include g
end
section
variable {L:Lin} {i:Nat}
end
section
variable {a r x y:Bool}
end
section
variable {L:Lin} {k:Nat} {n:Int}
end
def totX (X:List (List Int)) (so:Nat):Nat→Int
  | 0=>0
  | p+1=>totX X so p+(X.getD p []).getD (ixR so false) 0+(X.getD p []).getD (ixR so true) 0
def totH (H:Hs) (so:Int):Nat→Int
  | 0=>0
  | p+1=>totH H so p+(BZ ⟨(p:Int),so,false⟩ H+BZ ⟨(p:Int),so,true⟩ H)
theorem totH_put {H:Hs} {so:Int} {k:HKey} {v:Int}:∀ {P:Nat},(0≤k.pl∧k.pl<P)→totH (GU k v H) so P=totH H so P+(if k.so=so then v-BZ k H else 0):=by
  have no:∀ {p:Nat},(p:Int)≤k.pl→totH (GU k v H) so p=totH H so p:=by
    intro p
    induction p with
    | zero=>intro _;rfl
    | succ p ih=>
      intro hp;simp only [totH,HG];rw [ih (by omega),if_neg (fun e=>by rw [← e] at hp;simp only at hp;omega),if_neg (fun e=>by rw [← e] at hp;simp only at hp;omega)]
  intro P
  induction P with
  | zero=>intro h;omega
  | succ P ih=>
    intro h;simp only [totH,HG]
    by_cases e:k.pl=P
    · rw [no (by omega)]
      obtain ⟨kp,ks,kb⟩:=k;simp only at e;subst e;simp only [HKey.mk.injEq,true_and]
      by_cases e2:ks=so
      · subst e2;cases kb <;> simp <;> omega
      · rw [if_neg (fun h=>e2 h.1.symm),if_neg (fun h=>e2 h.1.symm),if_neg e2];omega
    · have n1:∀ b,¬ (⟨(P:Int),so,b⟩:HKey)=k:=fun b e3=>e (by rw [← e3])
      rw [ih ⟨h.1,by omega⟩,if_neg (n1 false),if_neg (n1 true)];omega
def SumOk (P:Nat) (H:Hs):Prop:=∀ so,JE so H=totH H so P
section
variable {P:Nat} {H:Hs}
theorem SumOk.put (h:SumOk P H) {k:HKey} {v:Int} (hk:0≤k.pl∧k.pl<P):SumOk P (GU k v H):=fun so=>by rw [sumK_put,totH_put hk,h so]
theorem SumOk.row (h:SumOk P H) {p:Int} {row:List Int} (hp:0≤p∧p<P):∀ {j:Nat},SumOk P (EW p row j H):=by
  intro j
  induction j with
  | zero=>exact h
  | succ j ih=>exact ih.put hp
theorem SumOk.open {L:Lin} (g:GoodL L):SumOk L.places.toNat (DV L):=by
  have z:∀ so p,totH [] so p=0:=by
    intro so p
    induction p with
    | zero=>rfl
    | succ p ih=>simp only [totH,ih,BZ];rfl
  have key:∀ i,i≤L.start.length→SumOk L.places.toNat (FF L.start i):=by
    intro i
    induction i with
    | zero=>intro _ so;exact (z _ _).symm
    | succ i ih=>
      intro hi;have h1:=g.start;exact (ih (by omega)).row (by omega)
  exact key _ (Nat.le_refl _)
theorem SumOk.slip (h:SumOk P H) {s:Slip} (hp:0≤s.place∧s.place<P) (ht:s.kind=1→0≤s.to∧s.to<P):SumOk P (doSlip s H):=by
  unfold doSlip
  split
  · rename_i e;exact (h.put hp).put (ht e)
  split;· exact (h.put hp).put hp
  split;· exact (h.put hp).put hp
  split;· exact h.put hp
  split;· exact h.put hp
  exact h.put hp
end
section
variable {L:Lin} {so n:Int} (g:GoodL L)
include g
theorem sum_at:SumOk L.places.toNat (atH L n):=by
  have h8:=g.places;have:∀ (l:List Slip) (H:Hs),(∀ s∈l,s∈L.slips)→SumOk L.places.toNat H→SumOk L.places.toNat (aft H l):=by
    intro l
    induction l with
    | nil=>intro H _ h;exact h
    | cons x r ih=>
      intro H hm h;obtain ⟨_,_,h3,h4,h5,h6,h7⟩:=HN (g.slipOf (hm x (by simp)));exact ih _ (fun s hs=>hm s (by simp [hs])) (h.slip (by omega) (fun e=>by have:=h7 e;omega))
  exact this _ _ (fun s hs=>(List.mem_filter.1 ((BM _).subset hs)).1) (SumOk.open g)
end
def nmP (o:List Int) (p:Int):Int:=o.getD p.toNat 0
def renK (o:List Int) (k:Keep):Keep:=⟨nmP o k.place,k.hour,k.who⟩
def KB (o:List Int) (s:Slip):Slip:=⟨s.num,s.hour,s.kind,nmP o s.place,if s.kind=1 then nmP o s.to else s.to,s.sort,s.soil,s.amt⟩
theorem inB_yes {n lo hi:Int} (h:lo≤n∧n≤hi):inB n lo hi=true:=by simp [inB,h.1,h.2]
structure RenB (o:List Int) (A B:Lin):Prop where
  places:B.places=A.places
  sorts:B.sorts=A.sorts
  len:B.start.length=A.start.length
  start:∀ i,i<A.start.length→B.start.getD (nmP o (i:Int)).toNat []=A.start.getD i []
  keeps:B.keeps=A.keeps.map (renK o)
  slips:B.slips=A.slips.map (KB o)
section
variable {o:List Int} {P:Nat} (ho:o.Perm (CH P))
include ho
theorem nm_len:o.length=P:=by rw [ho.length_eq,DX]
theorem nm_in {p:Int} (hp:0≤p∧p<P):0≤nmP o p∧nmP o p<P:=deal_at ho (by rw [nm_len ho];omega)
theorem nm_inj {p q:Int} (hp:0≤p∧p<P) (hq:0≤q∧q<P) (e:nmP o p=nmP o q):p=q:=by
  have hn:=FZ ho;have hl:=nm_len ho;have h1:p.toNat<o.length:=by omega
  have h2:q.toNat<o.length:=by omega
  unfold nmP at e;have e3:o[p.toNat]=o[q.toNat]:=by simpa [List.getD,h1,h2] using e
  have:=(List.getElem_inj hn).1 e3;omega
theorem nm_eq {p q:Int} (hp:0≤p∧p<P) (hq:0≤q∧q<P):decide (nmP o p=nmP o q)=decide (p=q):=by
  by_cases e:p=q
  · subst e;simp
  · rw [decide_eq_false e,decide_eq_false fun h=>e (nm_inj ho hp hq h)]
theorem nm_sur {j:Nat} (hj:j<P):∃ i:Nat,i<P∧nmP o (i:Int)=j:=by
  have h1:((j:Nat):Int)∈o:=ho.mem_iff.2 (List.mem_map.2 ⟨j,List.mem_range.2 hj,rfl⟩);obtain ⟨i,hi,e⟩:=List.mem_iff_getElem.1 h1;refine ⟨i,by rw [← nm_len ho];exact hi,?_⟩;unfold nmP;rw [show ((i:Nat):Int).toNat=i by omega];simp [List.getD,hi,e]
end
section
variable {o:List Int} {A B:Lin} (g:GoodL A) (ho:o.Perm (CH A.places.toNat)) (h:RenB o A B)
include g ho
theorem ren_slipErr {s:Slip} (hs:DC A s=0):DC A (KB o s)=0:=by
  have hP:=g.places;obtain ⟨_,_,_,h4,_,_,h7⟩:=HN hs;have hp:=nm_in ho (p:=s.place) (by omega);have e1:inB s.place 0 (A.places-1)=true:=by simp [inB];omega
  have e2:inB (nmP o s.place) 0 (A.places-1)=true:=by simp [inB];omega
  unfold DC at hs ⊢;rw [e1] at hs;rw [show inB (KB o s).place 0 (A.places-1)=true from e2]
  by_cases hk:s.kind=1
  · have h8:=h7 hk
    have ht:=nm_in ho (p:=s.to) (by omega);have e3:inB s.to 0 (A.places-1)=true:=by simp [inB];omega
    have e4:inB (nmP o s.to) 0 (A.places-1)=true:=by simp [inB];omega
    have e5:nmP o s.to≠nmP o s.place:=fun e=>h8.2.2 (nm_inj ho (by omega) (by omega) e)
    have f1:(KB o s).to=nmP o s.to:=if_pos hk;have f2:(KB o s).kind=1:=hk;rw [e3] at hs;rw [f1,e4];rw [if_neg (fun h:true=false=>nomatch h),if_neg (fun h:s.kind=1∧true=false=>nomatch h.2),if_neg (fun h:s.kind=1∧s.to=s.place=>h8.2.2 h.2),if_neg (fun h:s.kind≠1∧s.to≠0=>h.1 hk)] at hs;rw [if_neg (fun h:true=false=>nomatch h),if_neg (fun h:(KB o s).kind=1∧true=false=>nomatch h.2),if_neg (fun h:(KB o s).kind=1∧nmP o s.to=(KB o s).place=>e5 h.2),if_neg (fun h:(KB o s).kind≠1∧nmP o s.to≠0=>h.1 hk)];exact hs
  · have f1:(KB o s).to=s.to:=if_neg hk
    have f2:¬ (KB o s).kind=1:=hk;rw [if_neg (fun h:true=false=>nomatch h),if_neg (fun h:s.kind=1∧_=>hk h.1),if_neg (fun h:s.kind=1∧s.to=s.place=>hk h.1)] at hs;rw [f1,if_neg (fun h:true=false=>nomatch h),if_neg (fun h:(KB o s).kind=1∧_=>hk h.1),if_neg (fun h:(KB o s).kind=1∧s.to=(KB o s).place=>hk h.1)];exact hs
omit ho in
theorem ren_in {s:Slip} (hs:s∈A.slips):(0≤s.place∧s.place<A.places.toNat)∧(0≤s.sort∧s.sort<A.sorts)∧(s.kind=1→0≤s.to∧s.to<A.places.toNat):=by
  have hP:=g.places;obtain ⟨_,_,_,h4,h5,_,h7⟩:=HN (g.slipOf hs);exact ⟨by omega,by omega,fun e=>by have:=h7 e;omega⟩
omit ho in
theorem keep_in {k:Keep} (hk:k∈A.keeps):0≤k.place∧k.place<A.places.toNat:=by
  obtain ⟨i,hi,rfl⟩:=List.mem_iff_getElem.1 hk;have:=g.keep i hi;unfold EK at this;simp only [List.getD,List.getElem?_eq_getElem hi,Option.getD_some] at this
  split at this;· omega
  rename_i e
  have e:=EJ (by simpa using e);omega
include h
theorem LF:GoodL B:=by
  have hP:=g.places;have hl:A.start.length=A.places.toNat:=by have:=g.start;omega
  have hr:∀ r∈B.start,r∈A.start:=fun r hr=>by
    obtain ⟨j,hj,rfl⟩:=List.mem_iff_getElem.1 hr;rw [h.len,hl] at hj;obtain ⟨i,hi,e⟩:=nm_sur ho hj;have:=h.start i (by omega);rw [e] at this;have e2:B.start.getD ((j:Int)).toNat []=B.start[j]'(by rw [h.len,hl];exact hj):=by simp [List.getD,show j<B.start.length by rw [h.len,hl];exact hj]
    rw [← e2,this];exact AV (d:=[]) (by omega)
  have hkl:B.keeps.length=A.keeps.length:=by rw [h.keeps,List.length_map]
  have g1:GoodL ⟨A.places,A.sorts,B.start,B.keeps,A.slips⟩:=by
    refine ⟨g.places,g.sorts,by rw [show (⟨A.places,A.sorts,B.start,B.keeps,A.slips⟩:Lin).start=B.start from rfl,h.len];exact g.start,fun r hq=>g.rows r (hr r hq),fun r hq=>g.nums r (hr r hq),by rw [show (⟨A.places,A.sorts,B.start,B.keeps,A.slips⟩:Lin).keeps=B.keeps from rfl,hkl];exact g.keeps,fun i hi=>?_,g.slips,g.slip⟩;simp only at hi;rw [hkl] at hi;have hk:=g.keep i hi;have hm:=AV (xs:=A.keeps) (d:=AL) hi;have hin:=keep_in g hm;have hb:=nm_in ho hin;have e1:B.keeps.getD i AL=renK o (A.keeps.getD i AL):=by rw [h.keeps];simp [List.getD,hi]
    have e2:(B.keeps.take i).any (fun x=>decide (x.place=(renK o (A.keeps.getD i AL)).place)&&decide (x.hour=(renK o (A.keeps.getD i AL)).hour))=(A.keeps.take i).any fun x=>decide (x.place=(A.keeps.getD i AL).place)&&decide (x.hour=(A.keeps.getD i AL).hour):=by
      rw [h.keeps,← List.map_take,List.any_map];have aux:∀ {l:List Keep},(∀ x∈l,x∈A.keeps)→l.any ((fun x:Keep=>decide (x.place=(renK o (A.keeps.getD i AL)).place)&&decide (x.hour=(renK o (A.keeps.getD i AL)).hour)) ∘ renK o)=l.any fun x=>decide (x.place=(A.keeps.getD i AL).place)&&decide (x.hour=(A.keeps.getD i AL).hour):=by
        intro l
        induction l with
        | nil=>intro _;rfl
        | cons x r ih=>
          intro hx;rw [List.any_cons,List.any_cons,ih fun y hy=>hx y (by simp [hy])];have e3:decide ((renK o x).place=(renK o (A.keeps.getD i AL)).place)=decide (x.place=(A.keeps.getD i AL).place):=nm_eq ho (keep_in g (hx x (by simp))) hin;simp only [Function.comp];rw [e3];rfl
      exact aux fun x hx=>List.mem_of_mem_take hx
    unfold EK at hk ⊢;simp only at hk ⊢;rw [e1,e2,show inB (renK o (A.keeps.getD i AL)).place 0 (A.places-1)=true from inB_yes (by show 0≤nmP o _∧nmP o _≤_;omega)];rw [show inB (A.keeps.getD i AL).place 0 (A.places-1)=true from inB_yes (by omega)] at hk;exact hk
  have h2:=good_of g1 (l:=B.slips) (by rw [h.slips,List.length_map];exact g.slips) (fun s hs=>by
    rw [h.slips] at hs
    obtain ⟨x,hx,rfl⟩:=List.mem_map.1 hs
    exact ren_slipErr g ho (g.slipOf hx)) (by
    rw [h.slips];unfold Once;rw [List.map_map];exact g.once)
  have e:B=⟨A.places,A.sorts,B.start,B.keeps,B.slips⟩:=by rw [← h.places,← h.sorts]
  rw [e];exact h2
end
def HeapR (o:List Int) (P:Nat) (H K:Hs):Prop:=∀ p so b,0≤p∧p<(P:Int)→BZ ⟨nmP o p,so,b⟩ K=BZ ⟨p,so,b⟩ H
section
variable {o:List Int} {P:Nat} (ho:o.Perm (CH P)) {H K:Hs}
include ho
theorem HeapR.put (h:HeapR o P H K) {p so v:Int} {b:Bool} (hp:0≤p∧p<(P:Int)):HeapR o P (GU ⟨p,so,b⟩ v H) (GU ⟨nmP o p,so,b⟩ v K):=fun q so2 b2 hq=>by
  rw [HG,HG,h q so2 b2 hq];simp only [HKey.mk.injEq]
  by_cases e:q=p
  · subst e;simp
  · rw [if_neg (fun h2=>e (nm_inj ho hq hp h2.1)),if_neg (fun h2=>e h2.1)]
theorem HeapR.add (h:HeapR o P H K) {p so v:Int} {b:Bool} (hp:0≤p∧p<(P:Int)):HeapR o P (LL ⟨p,so,b⟩ v H) (LL ⟨nmP o p,so,b⟩ v K):=by
  unfold LL;rw [h p so b hp];exact h.put ho hp
theorem HeapR.slip (h:HeapR o P H K) {s:Slip} (hp:0≤s.place∧s.place<(P:Int)) (ht:s.kind=1→0≤s.to∧s.to<(P:Int)):HeapR o P (doSlip s H) (doSlip (KB o s) K):=by
  unfold doSlip
  by_cases h1:s.kind=1
  · simp only [KB,h1,if_true];exact (h.add ho hp).add ho (ht h1)
  · simp only [KB,h1,if_false]
    split;· exact (h.add ho hp).add ho hp
    split;· exact (h.add ho hp).add ho hp
    split;· exact h.put ho hp
    split;· exact h.add ho hp
    exact h.add ho hp
theorem HeapR.aft:∀ {S:List Slip} {H K:Hs},HeapR o P H K→(∀ s∈S,(0≤s.place∧s.place<(P:Int))∧(s.kind=1→0≤s.to∧s.to<(P:Int)))→HeapR o P (aft H S) (aft K (S.map (KB o))):=by
  intro S
  induction S with
  | nil=>intro H K h _;exact h
  | cons s r ih=>intro H K h hs;exact ih (h.slip ho (hs s (by simp)).1 (hs s (by simp)).2) fun x hx=>hs x (by simp [hx])
theorem ren_evs:∀ {S:List Slip} {H K:Hs},HeapR o P H K→(∀ s∈S,(0≤s.place∧s.place<(P:Int))∧(s.kind=1→0≤s.to∧s.to<(P:Int)))→(evs K (S.map (KB o))).map (fun e=>(e.slip,e.gap))=(evs H S).map fun e=>(KB o e.slip,e.gap):=by
  intro S
  induction S with
  | nil=>intro H K _ _;rfl
  | cons s r ih=>
    intro H K h hs;have h1:=hs s (by simp);simp only [List.map_cons,evs];rw [ih (h.slip ho h1.1 h1.2) fun x hx=>hs x (by simp [hx])]
    congr 1
    simp only [evOf];rw [show (KB o s).kind=s.kind from rfl,show (KB o s).amt=s.amt from rfl,show keyOf (KB o s)=⟨nmP o s.place,s.sort,s.soil⟩ from rfl,h _ _ _ h1.1];rfl
end
theorem isort_map {f:Slip→Slip} (hf:∀ a b,AC (f a) (f b)=AC a b):∀ {l:List Slip},AD AC (l.map f)=(AD AC l).map f:=by
  have ins:∀ {x:Slip} {l:List Slip},insB AC (f x) (l.map f)=(insB AC x l).map f:=by
    intro x l
    induction l with
    | nil=>rfl
    | cons y r ih=>
      simp only [List.map_cons,insB,hf]
      by_cases h:AC x y<0∧∀ z∈r,AC x z<0
      · rw [if_pos h,if_pos ⟨h.1,fun z hz=>by obtain ⟨w,hw,rfl⟩:=List.mem_map.1 hz;rw [hf];exact h.2 w hw⟩];rfl
      · rw [if_neg h,if_neg (fun h2=>h ⟨h2.1,fun z hz=>by have:=h2.2 (f z) (List.mem_map_of_mem hz);rwa [hf] at this⟩),ih];rfl
  have aux:∀ {l p:List Slip},(l.map f).foldl (fun p x=>insB AC x p) (p.map f)=(l.foldl (fun p x=>insB AC x p) p).map f:=by
    intro l
    induction l with
    | nil=>intro p;rfl
    | cons x r ih=>intro p;simp only [List.map_cons,List.foldl_cons];rw [ins,ih]
  intro l;exact aux (p:=[])
theorem ren_sort {o:List Int} {l:List Slip}:AD AC (l.map (KB o))=(AD AC l).map (KB o):=isort_map (f:=KB o) fun _ _=>rfl
section
variable {o:List Int} {A B:Lin} (g:GoodL A) (ho:o.Perm (CH A.places.toNat)) (h:RenB o A B)
include g ho h
theorem ren_open:HeapR o A.places.toNat (DV A) (DV B):=fun p so b hp=>by
  have hP:=g.places;have hS:=g.sorts;have hl:A.start.length=A.places.toNat:=by have:=g.start;omega
  have hin:=nm_in ho hp;cases b with
  | true=>unfold DV;rw [openTo_soil,openTo_soil]
  | false=>
    by_cases hs:0≤so∧so<A.sorts
    · obtain ⟨i,rfl⟩:∃ i:Nat,p=i:=⟨p.toNat,by omega⟩
      obtain ⟨k,rfl⟩:∃ k:Nat,so=k:=⟨so.toNat,by omega⟩;obtain ⟨j,hj⟩:∃ j:Nat,nmP o (i:Int)=j:=⟨(nmP o i).toNat,by omega⟩;have e:=h.start i (by omega);rw [hj] at e hin ⊢;have e:B.start.getD j []=A.start.getD i []:=e;have hr:=g.rows _ (AV (xs:=A.start) (d:=[]) (show i<A.start.length by omega));unfold DV;rw [openTo_hit (p:=i) (by omega) (by omega),openTo_hit (p:=j) (by rw [e];omega) (by rw [h.len];omega),e]
    · have z1:=ZeroOut.open g ⟨p,so,false⟩ (fun h2=>hs h2.2)
      have z2:=ZeroOut.open (LF g ho h) ⟨nmP o p,so,false⟩ (fun h2=>hs (by rw [← h.sorts];exact h2.2));rw [z1,z2]
theorem ren_events:(BO B).map (fun e=>(e.slip,e.gap))=(BO A).map fun e=>(KB o e.slip,e.gap):=by
  unfold BO;rw [h.slips,ren_sort];exact ren_evs ho (ren_open g ho h) fun s hs=>by
    have:=ren_in g ((BM _).subset hs);exact ⟨this.1,this.2.2⟩
theorem ren_gaps:FV B=FV A:=by
  rw [gapsE_2 (ES g),gapsE_2 (ES (LF g ho h))];have e:=ren_events g ho h;have aux:∀ {E F:List Sh.Event},F.map (fun e=>(e.slip,e.gap))=E.map (fun e=>(KB o e.slip,e.gap))→CN F=CN E:=by
    intro E
    induction E with
    | nil=>intro F hF;have:=List.map_eq_nil_iff.1 hF;subst this;rfl
    | cons x r ih=>
      intro F hF;cases F with
      | nil=>cases hF
      | cons y t=>
        simp only [List.map_cons,List.cons.injEq,Prod.mk.injEq] at hF;show OZ y++CN t=OZ x++CN r;rw [ih hF.2];congr 1;unfold OZ;rw [hF.1.2,hF.1.1];rfl
  rw [aux e]
omit h in
theorem ren_keeper (hk:B.keeps=A.keeps.map (renK o)) {p n:Int} (hp:0≤p∧p<(A.places.toNat:Int)):BH B (nmP o p) n=BH A p n:=by
  unfold BH HX;rw [hk,List.foldl_map];have aux:∀ {l:List Keep} {q:Int × Int},(∀ x∈l,x∈A.keeps)→l.foldl (fun q k=>PD (nmP o p) n q (renK o k)) q=l.foldl (PD p n) q:=by
    intro l
    induction l with
    | nil=>intro q _;rfl
    | cons x r ih=>
      intro q hx;simp only [List.foldl_cons];have e:PD (nmP o p) n q (renK o x)=PD p n q x:=by
        have e3:cmp .eql (renK o x).place (nmP o p)=cmp .eql x.place p:=by rw [JJ,JJ];exact nm_eq ho (keep_in g (hx x (by simp))) hp
        unfold PD;rw [e3];rfl
      rw [e];exact ih fun y hy=>hx y (by simp [hy])
  rw [aux fun _ h=>h]
omit h in
theorem ren_holders (hk:B.keeps=A.keeps.map (renK o)) {s:Slip} {since:Int} (hp:0≤s.place∧s.place<(A.places.toNat:Int)):CO B (KB o s) since=CO A s since:=by
  have aux:∀ n,BT B (nmP o s.place) since n=BT A s.place since n:=by
    intro n
    induction n with
    | zero=>rfl
    | succ n ih=>simp only [BT];rw [ih,ren_keeper g ho hk hp]
  unfold CO;show AD cmpZ (BT B (nmP o s.place) since (s.hour+1).toNat)=_;rw [aux]
def triQ (q:EvH):Int × Int × List Int:=(q.1.gap,q.1.slip.sort,q.2)
theorem ren_lack:(ED B).map triQ=(ED A).map triQ:=by
  have e:=ren_events g ho h;have hin:∀ x∈BO A,0≤x.slip.place∧x.slip.place<(A.places.toNat:Int):=fun x hx=>(ren_in g ((BM _).subset (evs_slip hx))).1
  unfold ED EI;have aux:∀ {E F:List Sh.Event} {q r:Hs × List EvH},(∀ x∈E,0≤x.slip.place∧x.slip.place<(A.places.toNat:Int))→F.map (fun e=>(e.slip,e.gap))=E.map (fun e=>(KB o e.slip,e.gap))→HeapR o A.places.toNat q.1 r.1→r.2.map triQ=q.2.map triQ→(F.foldl (LH B) r).2.map triQ=(E.foldl (LH A) q).2.map triQ:=by
    intro E
    induction E with
    | nil=>intro F q r _ hF _ h2;have:=List.map_eq_nil_iff.1 hF;subst this;exact h2
    | cons x t ih=>
      intro F q r hx hF h1 h2;cases F with
      | nil=>cases hF
      | cons y u=>
        simp only [List.map_cons,List.cons.injEq,Prod.mk.injEq] at hF;have hp:=hx x (by simp);have hs:y.slip=KB o x.slip:=hF.1.1;have hk:y.slip.kind=x.slip.kind:=by rw [hs];rfl
        have hky:keyOf y.slip=⟨nmP o x.slip.place,x.slip.sort,x.slip.soil⟩:=by rw [hs];rfl
        simp only [List.foldl_cons];refine ih (fun z hz=>hx z (by simp [hz])) hF.2 ?_ ?_
        · unfold LH
          rw [hk]
          split
          · exact h1
          · simp only;rw [hky,show y.slip.hour=x.slip.hour by rw [hs];rfl];exact h1.put ho hp
        · unfold LH
          rw [hk]
          split
          · exact h2
          · simp only
            rw [hF.1.2]
            split
            · rw [List.map_append,List.map_append,h2]
              congr 1
              simp only [List.map_cons,List.map_nil,triQ,List.cons.injEq,and_true,Prod.mk.injEq];refine ⟨hF.1.2,by rw [hs];rfl,?_⟩;rw [hky,h1 _ _ _ hp,hs,ren_holders g ho h.keeps hp];rfl
            · exact h2
  exact aux hin e (fun p so b _=>rfl) rfl
theorem ren_owed:HY B=HY A:=by
  rw [owedE_2 (ES g),owedE_2 (ES (LF g ho h))];have e:=ren_lack g ho h;have aux:∀ {l m:List EvH} {O:Ods},m.map triQ=l.map triQ→m.foldl JS O=l.foldl JS O:=by
    intro l
    induction l with
    | nil=>intro m O hm;have:=List.map_eq_nil_iff.1 hm;subst this;rfl
    | cons x t ih=>
      intro m O hm;cases m with
      | nil=>cases hm
      | cons y u=>
        simp only [List.map_cons,List.cons.injEq] at hm;simp only [List.foldl_cons];have e2:JS O y=JS O x:=by
          have h3:=hm.1;simp only [triQ,Prod.mk.injEq] at h3;unfold JS oweK;rw [h3.1,h3.2.1,h3.2.2]
        rw [e2];exact ih hm.2
  unfold EE;rw [aux e]
theorem ren_tot {n so:Int}:JE so (atH B n)=JE so (atH A n):=by
  have hP:=g.places;have gB:=LF g ho h;rw [sum_at g so,sum_at gB so,h.places];have hr:HeapR o A.places.toNat (atH A n) (atH B n):=by
    unfold atH;rw [show CP B n=(CP A n).map (KB o) by unfold CP;rw [h.slips,List.filter_map];rfl,ren_sort];exact (ren_open g ho h).aft ho fun s hs=>by
      have:=ren_in g (List.mem_filter.1 ((BM _).subset hs)).1;exact ⟨this.1,this.2.2⟩
  have tl:∀ {X:Hs} {P:Nat},totH X so P=((CH P).map fun p=>BZ ⟨p,so,false⟩ X+BZ ⟨p,so,true⟩ X).sum:=by
    intro X P
    induction P with
    | zero=>rfl
    | succ P ih=>rw [wholeL_succ,List.map_append,List.sum_append,← ih];simp [totH]
  rw [tl,tl,← sum_perm ho];have e:o=(CH A.places.toNat).map (nmP o):=by
    refine List.ext_getElem (by rw [List.length_map,ho.length_eq]) fun i h1 h2=>?_
    rw [List.getElem_map];unfold nmP CH;rw [List.getElem_map,List.getElem_range];simp [List.getD,h1]
  conv=>lhs;rw [e]
  rw [List.map_map]
  congr 1
  refine List.map_congr_left fun p hp=>?_
  obtain ⟨a,ha,rfl⟩:=List.mem_map.1 hp;have:=List.mem_range.1 ha;simp only [Function.comp];rw [hr _ _ _ (by omega),hr _ _ _ (by omega)]
theorem ren_total {n so:Int}:EX B so n=EX A so n:=by
  unfold EX;rw [ES g,ES (LF g ho h),h.sorts,ren_tot g ho h]
end
section
variable {o:List Int} {i:Nat}
def MA (o:List Int) (st:List (List Int)):Nat→List (List Int)
  | 0=>st
  | i+1=>(MA o st i).set (o.getD i 0).toNat (st.getD i [])
theorem setR_len {st:List (List Int)}:(MA o st i).length=st.length:=by
  induction i with
  | zero=>rfl
  | succ i ih=>simp only [MA,List.length_set,ih]
theorem setR_at {P:Nat} (ho:o.Perm (CH P)) {st:List (List Int)} (hl:st.length=P) {j:Nat}:∀ {i:Nat},i≤P→j<i→(MA o st i).getD (nmP o (j:Int)).toNat []=st.getD j []:=by
  intro i
  induction i with
  | zero=>intro _ h;omega
  | succ i ih=>
    intro hi hj;simp only [MA];have h1:=nm_in ho (p:=(i:Int)) (by omega);have e1:nmP o (i:Int)=o.getD i 0:=by unfold nmP;rw [show ((i:Nat):Int).toNat=i by omega]
    by_cases e:j=i
    · subst e
      rw [e1] at h1 ⊢;rw [List.getD_eq_getElem?_getD,List.getElem?_set_self (by rw [setR_len,hl];omega)];rfl
    · have h2:=nm_in ho (p:=(j:Int)) (by omega)
      have hne:nmP o (j:Int)≠nmP o (i:Int):=fun e2=>e (by have:=nm_inj ho (p:=(j:Int)) (q:=(i:Int)) (by omega) (by omega) e2;omega)
      rw [List.getD_eq_getElem?_getD,List.getElem?_set_ne (by rw [← e1];omega),← List.getD_eq_getElem?_getD];exact ih (by omega) (by omega)
def BS (o:List Int) (ks:List Keep) (i:Nat):List Keep:=(ks.take i).map (renK o)++ks.drop i
theorem renKs_len {ks:List Keep}:(BS o ks i).length=ks.length:=by unfold BS;simp;omega
theorem renKs_at {ks:List Keep} (hi:i<ks.length):(BS o ks i).getD i AL=ks.getD i AL:=by
  unfold BS;simp [List.getD,List.getElem?_append_right,Nat.min_eq_left (Nat.le_of_lt hi)]
theorem mapset_step {α:Type} {f:α→α} {l:List α} {d:α} (hi:i<l.length):((l.take i).map f++l.drop i).set i (f (l.getD i d))=(l.take (i+1)).map f++l.drop (i+1):=by
  have e:((l.take i).map f).length=i:=by rw [List.length_map,List.length_take];omega
  rw [List.set_append_right _ _ (by omega),e,Nat.sub_self,CC (d:=d) hi,List.map_append,List.append_assoc]
  congr 1
  rw [List.drop_eq_getElem_cons hi];rfl
theorem renKs_step {ks:List Keep} (hi:i<ks.length):(BS o ks i).set i (renK o (ks.getD i AL))=BS o ks (i+1):=mapset_step hi
theorem renKs_end {ks:List Keep} (hi:ks.length≤i):BS o ks i=ks.map (renK o):=by unfold BS;rw [List.take_of_length_le hi,List.drop_of_length_le hi,List.append_nil]
def BD (o:List Int) (ss:List Slip) (i:Nat):List Slip:=(ss.take i).map (KB o)++ss.drop i
theorem renSs_len {ss:List Slip}:(BD o ss i).length=ss.length:=by unfold BD;simp;omega
theorem PN {ss:List Slip} (hi:i<ss.length):(BD o ss i).getD i AB=ss.getD i AB:=by
  unfold BD;simp [List.getD,List.getElem?_append_right,Nat.min_eq_left (Nat.le_of_lt hi)]
theorem renSs_step {ss:List Slip} (hi:i<ss.length):(BD o ss i).set i (KB o (ss.getD i AB))=BD o ss (i+1):=mapset_step hi
theorem renSs_end {ss:List Slip} (hi:ss.length≤i):BD o ss i=ss.map (KB o):=by unfold BD;rw [List.take_of_length_le hi,List.drop_of_length_le hi,List.append_nil]
end
section
variable {o:List Int} {i:Nat}
theorem set_at {α:Type} {l:List α} {d x:α} (hi:i<l.length):(l.set i x).getD i d=x:=by rw [List.getD_eq_getElem?_getD,List.getElem?_set_self hi];rfl
theorem renKs_put {ks:List Keep} (hi:i<ks.length):(BS o ks i).set i { (BS o ks i).getD i AL with place:=o.getD ((BS o ks i).getD i AL).place.toNat 0 }=BS o ks (i+1):=by rw [renKs_at hi,← renKs_step hi];rfl
abbrev putP1 (o:List Int) (ss:List Slip) (i:Nat):List Slip:=(BD o ss i).set i { (BD o ss i).getD i AB with place:=o.getD ((BD o ss i).getD i AB).place.toNat 0 }
theorem put1_at {ss:List Slip} (hi:i<ss.length):(putP1 o ss i).getD i AB={ ss.getD i AB with place:=o.getD (ss.getD i AB).place.toNat 0 }:=by unfold putP1;rw [set_at (by rw [renSs_len];exact hi),PN hi]
theorem renSs_put0 {ss:List Slip} (hi:i<ss.length) (h:¬ ((putP1 o ss i).getD i AB).kind=1):putP1 o ss i=BD o ss (i+1):=by
  rw [put1_at hi] at h;have h:¬ (ss.getD i AB).kind=1:=h;rw [← renSs_step hi];unfold putP1;rw [PN hi]
  congr 1
  unfold KB;rw [if_neg h];rfl
theorem renSs_put1 {ss:List Slip} (hi:i<ss.length) (h:((putP1 o ss i).getD i AB).kind=1):(putP1 o ss i).set i { (putP1 o ss i).getD i AB with to:=o.getD ((putP1 o ss i).getD i AB).to.toNat 0 }=BD o ss (i+1):=by
  rw [put1_at hi] at h ⊢;have h:(ss.getD i AB).kind=1:=h;rw [← renSs_step hi];unfold putP1;rw [PN hi,List.set_set]
  congr 1
  unfold KB;rw [if_pos h];rfl
theorem ren_made {A:Lin} (g:GoodL A) (ho:o.Perm (CH A.places.toNat)) {a b c:Nat} (ha:o.length≤a) (ha2:a≤o.length) (hb:A.keeps.length≤b) (hc:A.slips.length≤c):RenB o A ⟨A.places,A.sorts,MA o A.start a,BS o A.keeps b,BD o A.slips c⟩:=by
  have hP:=g.places;have hl:=g.start;have hn:=nm_len ho;exact ⟨rfl,rfl,setR_len,fun i hi=>setR_at ho (by omega) (by omega) (by omega),renKs_end hb,renSs_end hc⟩
theorem total_ok {L:Lin} (g:GoodL L) {so n:Int} (hs:0≤so∧so<L.sorts) (hn:0≤n∧n≤200):(EX L so n).2=0:=by rw [totalE_4 (ES g) (inB_yes (by omega)) (inB_yes hn)]
end
end Go.Sh

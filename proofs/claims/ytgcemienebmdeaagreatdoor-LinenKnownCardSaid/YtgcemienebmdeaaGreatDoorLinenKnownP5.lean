/- A part of the proof of the laws of this seat. -/
import Derived.Test.YtgcemienebmdeaaGreatDoorLinenKnownP2
import Derived.Test.YtgcemienebmdeaaGreatDoorLinenKnownP3
import Derived.Test.YtgcemienebmdeaaGreatDoorLinenKnownP4
import Derived.Lib.Join
import Derived.Lib.ItoaNum
import Derived.Lib.ItoaLen
import Derived.Lib.SplitLaws
import Derived.Lib.CutLaws
import Derived.Lib.AtoiAll
set_option linter.unusedVariables false
set_option linter.unusedSimpArgs false
namespace Go.Proofs.YtgcemienebmdeaaGreatDoor
open Go Go.Sl Go.Sh
set_option maxRecDepth 100000
noncomputable def c_isNaN:=cod Tryz.f164
theorem isNaN_ct (I:Imm) (x:Int):CtV Tryz.prog 164 #[vI x] I (.bool false):=by
 refine fr (args:=[_]) (N:=6) Tryz.func164 (fun F=>?_);show Run _ _ (c_isNaN []) _ _ [(0,_)] _ _;refine rnm (rqr ?_);refine sp 1 [(2,.bool false)] (sn (sp 4 [(2,.bool (!(cmp .eql x x)))] (se (BB (rt1 2 rfl (IR _) ?_)))));exact ⟨congrArg Value.bool (by simp [cmp]),rfl⟩
noncomputable def c_Less:=cod Tryz.f140
theorem Less_ct (I:Imm) (x:Int) (y:Int):CtV Tryz.prog 140 #[vI x,vI y] I (.bool (cmp .lss (cmpZ x y) 0)):=by
 refine fr (args:=[_,_]) (N:=17) Tryz.func140 (fun F=>?_);show Run _ _ (c_Less []) _ _ [(0,_),(1,_)] _ _;refine rnm (rqr ?_);refine sp 1 [(4,.bool false)] (se (rq ?_));refine DS (fun a w=>SE 17 [(4,.bool (cmp .lss x y))] I F a w) ?_ ?_
 ·
  refine rr (sp 1 [(5,vI x)] (sd (dc 6 (fun I' hI=>(isNaN_ct I' x :))) (sp 11 [(4,.bool (cmp .lss x y))] (ee ?_))));refine AO (fun a w hS hD hW=>⟨hS.sub su,hD,hW⟩)
 rintro a w ⟨hS,hD,hW⟩
 refine AW hS hD hW ?_;refine BB (rt1 4 rfl (IR _) ?_);exact ⟨congrArg Value.bool less_cmpZ,rfl⟩
noncomputable def c_Len64:=cod Tryz.f144
theorem Len64_ct (I:Imm) (m:Nat) (hm:m<200):Ct Tryz.prog 144 #[.int .u64 (m:Int)] I [] (fun v I' M'=>∃ z:Int,v=vI z∧M'=[]):=by
 refine fr (args:=[_]) (N:=25) Tryz.func144 (fun F=>?_);show Run _ _ (c_Len64 []) _ _ [(0,_)] _ _;refine rnm (rqr ?_);refine sp 1 [(2,vI 0)] (se (rq (rqr (sp 2 [(4,.bool (cmp .geq (m:Int) 4294967296))] (se (rc 4 rfl (fun h1=>?_) (fun h1=>?_)))))))
 ·
  have a0:=h1;have h1:=geq_t h1;omega
 have a0:=h1;have h1:=geq_f h1;refine AM (NX (rq (rqr (sp 2 [(8,.bool (cmp .geq (m:Int) 65536))] (se (rc 8 rfl (fun h2=>?_) (fun h2=>?_)))))))
 ·
  have a1:=h2;have h2:=geq_t h2;omega
 have a1:=h2;have h2:=geq_f h2;refine AM (NX (rq (rqr (sp 2 [(14,.bool (cmp .geq (m:Int) 256))] (se (rc 14 rfl (fun h3=>?_) (fun h3=>?_)))))))
 ·
  have a2:=h3;have h3:=geq_t h3;omega
 have a2:=h3;have h3:=geq_f h3;refine AM (NX (rqr (sp 3 [(21,.int .u8 (IntKind.u8.wrap (m:Int))),(19,vI 0)] (CM 21 rfl (show (.int .u8 (IntKind.u8.wrap (m:Int)):Value)=.int .u8 (m:Int) from congrArg (Value.int .u8) (u8_id (by omega))) (sd (det_indexS (x:=(.const (.string { data:=#[0,1,2,2,3,3,3,3,4,4,4,4,4,4,4,4,5,5,5,5,5,5,5,5,5,5,5,5,5,5,5,5,6,6,6,6,6,6,6,6,6,6,6,6,6,6,6,6,6,6,6,6,6,6,6,6,6,6,6,6,6,6,6,6,7,7,7,7,7,7,7,7,7,7,7,7,7,7,7,7,7,7,7,7,7,7,7,7,7,7,7,7,7,7,7,7,7,7,7,7,7,7,7,7,7,7,7,7,7,7,7,7,7,7,7,7,7,7,7,7,7,7,7,7,7,7,7,7,8,8,8,8,8,8,8,8,8,8,8,8,8,8,8,8,8,8,8,8,8,8,8,8,8,8,8,8,8,8,8,8,8,8,8,8,8,8,8,8,8,8,8,8,8,8,8,8,8,8,8,8,8,8,8,8,8,8,8,8,8,8,8,8,8,8,8,8,8,8,8,8,8,8,8,8,8,8,8,8,8,8,8,8,8,8,8,8,8,8,8,8,8,8,8,8,8,8,8,8,8,8,8,8,8,8,8,8,8,8,8,8,8,8,8,8,8,8,8,8,8,8,8,8,8,8,8,8] }))) (y:=(.tmp 21)) (T:=9) m (d:=22) (ty:=5) (gd:=none) (by kernel_rfl) rfl (by kernel_rfl) rfl rfl (by show m<256;omega)) ?_)))));obtain ⟨bz,hbz⟩:∃ z:Int,z=byteAt ([0,1,2,2,3,3,3,3,4,4,4,4,4,4,4,4,5,5,5,5,5,5,5,5,5,5,5,5,5,5,5,5,6,6,6,6,6,6,6,6,6,6,6,6,6,6,6,6,6,6,6,6,6,6,6,6,6,6,6,6,6,6,6,6,7,7,7,7,7,7,7,7,7,7,7,7,7,7,7,7,7,7,7,7,7,7,7,7,7,7,7,7,7,7,7,7,7,7,7,7,7,7,7,7,7,7,7,7,7,7,7,7,7,7,7,7,7,7,7,7,7,7,7,7,7,7,7,7,8,8,8,8,8,8,8,8,8,8,8,8,8,8,8,8,8,8,8,8,8,8,8,8,8,8,8,8,8,8,8,8,8,8,8,8,8,8,8,8,8,8,8,8,8,8,8,8,8,8,8,8,8,8,8,8,8,8,8,8,8,8,8,8,8,8,8,8,8,8,8,8,8,8,8,8,8,8,8,8,8,8,8,8,8,8,8,8,8,8,8,8,8,8,8,8,8,8,8,8,8,8,8,8,8,8,8,8,8,8,8,8,8,8,8,8,8,8,8,8,8,8,8,8,8,8,8,8]:List UInt8) m:=⟨_,rfl⟩;have a3:0≤bz∧bz≤255:=hbz▸byteAt_range;rw [← hbz];clear hbz;refine sp 1 [(23,vI (IntKind.i64.wrap bz))] (CM 23 rfl (show (vI (IntKind.i64.wrap bz):Value)=vI bz from congrArg (Value.int .i64) (QL (by omega))) (sd (da 24 0 bz) (sp 1 [(2,vI (0+bz))] (se (BB (rt1 2 rfl (IR _) ?_))))));exact ⟨_,rfl,rfl⟩
noncomputable def c_Len:=cod Tryz.f98
theorem Len_ct (I:Imm) (m:Nat) (hm:m<200):Ct Tryz.prog 98 #[.int .u64 (m:Int)] I [] (fun v I' M'=>∃ z:Int,v=vI z∧M'=[]):=by
 refine fr (args:=[_]) (N:=8) Tryz.func98 (fun F=>?_);show Run _ _ (c_Len []) _ _ [(0,_)] _ _;refine rnm (rqr ?_);refine sp 1 [(2,vI 0)] (se (rq ?_));refine NY (x:=c_Len [1,0,0]) (y:=c_Len [1,0,1]) (t:=(.const (.bool false))) (by kernel_rfl) rfl (AM (NX (rqr (sp 1 [(6,.int .u64 (m:Int))] (sS (sc (some 7) (F:=(F)) (Len64_ct I m (by omega) :) (.refl _) (fun _ I1 _ a0 a1=>?_)))))));obtain ⟨a2,rfl,rfl⟩:=a1;refine nm ?_;refine sp 1 [(2,vI a2)] (se (BB (rt1 2 rfl a0 ?_)));exact ⟨_,rfl,rfl⟩
noncomputable def c_insSortI:=cod Tryz.f134
theorem insSortI_ct (I:Imm) (d:Value) (xs:List Int) (d_Ms:Seg) (u:Nat) (v:Nat) (d_h:Own 3 1 AK d xs d_Ms) (h0:u=0) (hb:v=xs.length) (hl:xs.length≤1000000):Ct Tryz.prog 134 #[d,vI ↑u,vI ↑v] I d_Ms (fun v I' M'=>∃ d_Mt:Seg,v=.tuple #[]∧M'=d_Mt∧Own 3 1 AK d (AF cmpZ xs) d_Mt):=by
 obtain ⟨a3,a4,rfl,c5⟩:=d_h.shape;refine fr (args:=[_,_,_]) (N:=49) Tryz.func134 (fun F=>?_);show Run _ _ (c_insSortI []) _ _ [(0,_),(1,_),(2,_)] _ _;refine rnm (rqr ?_);refine sp 1 [(8,vI ↑u)] (sd (da 9 ↑u 1) (CM 9 rfl (show (vI (↑u+1):Value)=vI (↑(1:Nat)) from congrArg (Value.int .i64) (by omega)) (sp 1 [(6,vI (↑(1:Nat)))] (se (rb 0 ?_)))));refine rl (fun mz a w=>∃ i:Nat,∃ zs:List Int,∃ a2:Seg,(1≤i)∧(InsI cmpZ xs zs i)∧(Own 3 1 AK (vS a3 xs.length a4) zs a2)∧SD 49 [(0,(vS a3 xs.length a4)),(6,vI ↑i),(1,vI ↑u),(2,vI ↑v)] I (a2++F) a w (mz=xs.length-i)) ?_ ?_
 ·intro a w hS hD hW;exact ⟨_,1,xs,d_Ms,Nat.le_refl _,InsI.start,d_h,hS.sub su,hD,hW,rfl⟩
 rintro mz a w ⟨i,zs,a2,c6,a9,a7,hS,hD,hW,rfl⟩
 refine AW hS hD hW ?_;have c9:=a9.len;refine rq (rqr (sp 3 [(12,.bool (cmp .lss ↑i ↑v))] (se (rc 12 rfl (fun h1=>?_) (fun h1=>?_)))))
 ·
  have b9:=h1;have h1:=CQ h1;refine AM (NX (rq (rb 1 (rqr (sp 2 [(7,vI ↑i)] (se (rb 2 ?_)))))));refine rl (fun mz a w=>∃ j:Nat,∃ ys:List Int,∃ a0:Seg,(InsAt cmpZ 0 xs ys i j)∧(Own 3 1 AK (vS a3 xs.length a4) ys a0)∧SD 49 [(0,(vS a3 xs.length a4)),(7,vI ↑j),(1,vI ↑u),(2,vI ↑v),(6,vI ↑i)] I (a0++F) a w (mz=j+1)) ?_ ?_
  ·intro a w hS hD hW;exact ⟨_,i,zs,a2,a9.into (by omega),a7,hS.sub su,hD,hW,rfl⟩
  rintro mz a w ⟨j,ys,a0,b7,a1,hS,hD,hW,rfl⟩
  refine AW hS hD hW ?_;have c8:=b7.len;have c7:=b7.1;refine rq (rq ?_);refine DS (fun a w=>SE 49 [(0,vS a3 xs.length a4),(1,vI ↑u),(2,vI ↑v),(6,vI ↑i),(7,vI ↑j),(30,.bool ((cmp .gtr ↑j ↑u)&&(cmp .lss (cmpZ (ys.getD j 0) (ys.getD ((↑j-1:Int).toNat) 0)) 0)))] I (a0++F) a w) ?_ ?_
  ·
   refine rd0 13 (ox 4 [(19,.bool (cmp .gtr ↑j ↑u))] ?_);refine MU 19 (fun h2=>?_) (fun h2=>?_)
   ·
    have a5:=h2;have a5:=SW a5;refine ox 2 [(21,vI ↑j),(20,vS a3 xs.length a4)] ?_;obtain ⟨d0,b3⟩:=a1.row 0;refine AE (di 22 1 j (fun _=>b3.addr (by omega)) (n:=xs.length)) ?_;refine AE (dl 23 (b3.get j (by omega) 0 (by decide) _ _ (fun x hx=>by simp [hx]))) (ox 2 [(25,vI ↑j),(24,vS a3 xs.length a4)] ?_);refine AE (dsb 26 ↑j 1) ?_;obtain ⟨d1,b4⟩:=a1.row 0;refine AE (diI 27 1 (↑j-1) (fun _=>b4.addr (by omega)) (n:=xs.length)) ?_;refine AE (dl 28 (b4.get ((↑j-1:Int).toNat) (by omega) 0 (by decide) _ _ (fun x hx=>by simp [hx]))) ?_;refine BT (sd (dc 29 (fun I' hI=>(Less_ct I' (ys.getD j 0) (ys.getD ((↑j-1:Int).toNat) 0) :))) (sp 1 [(30,.bool (cmp .lss (cmpZ (ys.getD j 0) (ys.getD ((↑j-1:Int).toNat) 0)) 0))] (ee ?_)));refine AO (fun a w hS hD hW=>⟨hS.sub (sun 5 (.consE 30 rfl (congrArg Value.bool (by simp only [h2,kk])) (.nil _))),hD,hW⟩)
   have a5:=h2;have a5:=gtr_f a5;refine ox 9 [(28,undef),(23,undef)] ?_;refine BT (sp 2 [(30,.bool false)] (ee ?_));refine AO (fun a w hS hD hW=>⟨hS.sub (sun 5 (.consE 30 rfl (congrArg Value.bool (by simp only [h2,kk])) (.nil _))),hD,hW⟩)
  rintro a w ⟨hS,hD,hW⟩
  refine AW hS hD hW ?_;refine rc 30 rfl (fun h3=>?_) (fun h3=>?_)
  ·
   have c1:=h3;obtain ⟨b1,c0⟩:=and_t h3;have b1:=SW b1;refine AM (NX (rq (rb 3 ?_)));refine rdX (M:=(a0++[])) (F0:=F) [] 16 [(0,true),(1,true),(2,true),(3,true),(4,true),(5,true),(6,true),(7,true),(8,true),(9,true),(10,true),(11,true),(12,true),(13,true),(14,true),(15,false)] (by simp only [AA,CA,NA,List.append_nil];exact PR _) JH ?_;refine AG (dpv 33 (vS a3 xs.length a4)) ?_;refine AG (dpv 34 (vI ↑j)) ?_;refine BH (dpv 35 (vS a3 xs.length a4)) ?_;refine BH (dpv 36 (vI ↑j)) ?_;refine BH (dsb 37 ↑j 1) ?_;refine AG (dpv 38 (vS a3 xs.length a4)) ?_;refine AG (dpv 39 (vI ↑j)) ?_;refine AG (dsb 40 ↑j 1) ?_;obtain ⟨d2,b5⟩:=a1.row 0;refine AG (diI 41 1 (↑j-1) (fun _=>b5.addr (by omega)) (n:=xs.length)) ?_;refine AG (dl 42 (b5.get ((↑j-1:Int).toNat) (by omega) 0 (by decide) _ _ (fun x hx=>by simp [hx]))) ?_;refine AG (dpv 43 (vS a3 xs.length a4)) ?_;refine AG (dpv 44 (vI ↑j)) ?_;obtain ⟨d3,b6⟩:=a1.row 0;refine AG (di 45 1 j (fun _=>b6.addr (by omega)) (n:=xs.length)) ?_;refine AG (dl 46 (b6.get j (by omega) 0 (by decide) _ _ (fun x hx=>by simp [hx]))) ?_;obtain ⟨d4,a8⟩:=a1.row 0;refine AG (di 47 1 j (fun _=>a8.addr (by omega)) (n:=xs.length)) ?_;refine EZ (Mx:=fun FX=>(a0++FX)) rfl (fun FX=>by simp only [AA,CA,NA,List.append_nil];exact PR _) (fun FX=>?_);refine id (CE (T:=3) (x:=(.tmp 47)) (y:=(.tmp 42)) (rc:=fun i f=>AK ((ys).getD i 0) f) 0 j 0 (ys.getD ((↑j-1:Int).toNat) 0) (ty:=0) (gd:=none) (by kernel_rfl) rfl a1 a8 (by omega) (by decide) rfl rfl (by kernel_rfl) rfl rfl (by intro f hf;match f,hf with | 0,_=>rfl) (PR _) (fun b0 b2=>?_));refine HJ (M1:=(b0++[])) (by simp only [AA,CA,NA,List.append_nil];exact (PR _)) (.wt (.wt (.wt (.wt (.wt (.wt (.wt (.wt (.wt (.wt (.none (.none (.none (.wt (.wt .nil))))))))))))))) ?_;refine GM (BA (M':=(b0++F)) (fun w h=>by simpa only [AA,CA,NA,List.append_nil] using h) (nm ?_));obtain ⟨c4,a6⟩:=b2.row 0;simp only [LS] at a6;refine sd (diI 48 1 (↑j-1) (fun _=>a6.addr (by omega)) (n:=xs.length)) (sS (CE (T:=3) (x:=(.tmp 48)) (y:=(.tmp 46)) (rc:=fun i f=>AK ((ys.set j (ys.getD ((↑j-1:Int).toNat) 0)).getD i 0) f) 0 ((↑j-1:Int).toNat) 0 (ys.getD j 0) (ty:=0) (gd:=none) (by kernel_rfl) rfl b2 (by simpa only [LS] using a6) (by simp only [LS];omega) (by decide) rfl rfl (by kernel_rfl) rfl rfl (by intro f hf;match f,hf with | 0,_=>rfl) (PR _) (fun b8 c2=>(nm (ee (NB (NX (rr ?_))))))));refine sp 1 [(31,vI ↑j)] (sd (dsb 32 ↑j 1) (sp 1 [(7,vI (↑j-1))] (ee ?_)));refine AN ((↑j-1:Int).toNat+1) (by omega) ?_;intro a w hS hD hW;exact ⟨(↑j-1:Int).toNat,(ys.set j (ys.getD ((↑j-1:Int).toNat) 0)).set ((↑j-1:Int).toNat) (ys.getD j 0),b8,b7.step (by omega) (CQ c0),c2,hS.sub (.consE 0 rfl rfl (.consE 7 rfl (congrArg (Value.int .i64) (by omega)) su)),hD,hW,rfl⟩
  have c1:=h3;refine CH 2 (EP (EP (EB (NB (NX (rr (sp 1 [(13,vI ↑i)] (sd (da 14 ↑i 1) (sp 1 [(6,vI (↑i+1))] (ee ?_))))))))));refine AN (xs.length-(i+1)) (by omega) ?_;intro a w hS hD hW;exact ⟨i+1,ys,a0,by omega,b7.done2 h0 h3,a1,hS.sub su,hD,hW,rfl⟩
 have b9:=h1;have h1:=CU h1;refine CH 0 (EP (EP (EB ?_)));refine DP a2 (by kernel_rfl) (TA (TR _) _) (IR _) ?_;exact ⟨_,rfl,rfl,((a9.done (by omega))▸a7)⟩
noncomputable def c_pdq:=cod Tryz.f97
theorem pdq_ct (I:Imm) (d:Value) (xs:List Int) (d_Ms:Seg) (u:Nat) (v:Nat) (lim:Int) (d_h:Own 3 1 AK d xs d_Ms) (h0:u=0) (hb:v=xs.length) (hl:xs.length≤12):Ct Tryz.prog 97 #[d,vI ↑u,vI ↑v,vI lim] I d_Ms (fun v I' M'=>∃ d_Mt:Seg,v=.tuple #[]∧M'=d_Mt∧Own 3 1 AK d (AF cmpZ xs) d_Mt):=by
 obtain ⟨a1,a2,rfl,b0⟩:=d_h.shape;refine fr (args:=[_,_,_,_]) (N:=134) Tryz.func97 (fun F=>?_);show Run _ _ (c_pdq []) _ _ [(0,_),(1,_),(2,_),(3,_)] _ _;refine rnm (rqr ?_);refine sp 1 [(8,.bool true)] (sn (sp 1 [(9,.bool true)] (se (rb 0 ?_))));refine rl (fun mz a w=>∃ k:Nat,(k=0)∧SD 134 [(1,vI ↑u),(2,vI ↑v),(3,vI lim),(8,.bool true),(9,.bool true),(0,vS a1 xs.length a2)] I (d_Ms++F) a w (mz=k+1)) ?_ ?_
 ·intro a w hS hD hW;exact ⟨_,0,rfl,hS.sub su,hD,hW,rfl⟩
 rintro mz a w ⟨k,b1,hS,hD,hW,rfl⟩
 refine AW hS hD hW ?_;refine rb 1 (rqr (sp 2 [(20,vI ↑u),(19,vI ↑v)] (sd (dsb 21 ↑v ↑u) (sp 1 [(10,vI (↑v-↑u))] (se (rq (rqr (sp 2 [(23,.bool (cmp .leq (↑v-↑u) 12))] (se (rc 23 rfl (fun h1=>?_) (fun h1=>?_)))))))))))
 ·
  have a3:=h1;have h1:=leq_t h1;refine rqr (sp 3 [(26,vI ↑v),(25,vI ↑u),(24,vS a1 xs.length a2)] (sS (sc (some 27) (F:=(F)) (insSortI_ct _ _ _ _ u v d_h (by first | rfl | assumption) (by omega) (by omega) :) (.refl _) (fun b3 I1 b2 a4 a9=>?_))));obtain ⟨a0,a7,a6,a5⟩:=a9;rw [a7,a6];clear a7 a6;refine nm (se (BB ?_));refine (RP (RB (RP (RB (pst_ret0 a0 (by kernel_rfl) (TA (TR _) _) a4 ?_)))));exact ⟨_,rfl,rfl,a5⟩
 have a3:=h1;have h1:=leq_f h1;omega
noncomputable def c_SortI:=cod Tryz.f53
theorem SortI_ct (I:Imm) (d:Value) (xs:List Int) (d_Ms:Seg) (d_h:Own 3 1 AK d xs d_Ms) (hl:xs.length≤12):Ct Tryz.prog 53 #[d] I d_Ms (fun v I' M'=>∃ d_Mt:Seg,v=.tuple #[]∧M'=d_Mt∧Own 3 1 AK d (AF cmpZ xs) d_Mt):=by
 obtain ⟨a4,a5,rfl,b4⟩:=d_h.shape;refine fr (args:=[_]) (N:=11) Tryz.func53 (fun F=>?_);show Run _ _ (c_SortI []) _ _ [(0,_)] _ _;refine rnm (rqr ?_);refine sp 3 [(2,vI (↑(xs.length)))] (se (rr (sp 4 [(8,.int .u64 (IntKind.u64.wrap (↑(xs.length)))),(6,vI (↑(xs.length))),(5,vS a4 xs.length a5)] (CM 8 rfl (show (.int .u64 (IntKind.u64.wrap (↑(xs.length))):Value)=.int .u64 ↑xs.length from congrArg (Value.int .u64) (u64_id (by omega))) (sS (sc (some 9) (F:=(d_Ms++F)) (Len_ct I xs.length (by omega) :) (.refl _) (fun _ I1 _ a2 a9=>?_)))))));obtain ⟨b1,rfl,rfl⟩:=a9;refine nm ?_;refine sS (sc (some 10) (F:=(F)) (pdq_ct _ _ _ _ 0 xs.length b1 d_h (by rfl) (by omega) (by omega) :) (.refl _) (fun b3 I5 b2 a3 b0=>?_));obtain ⟨a0,a7,a6,a1⟩:=b0;rw [a7,a6];clear a7 a6;refine nm (ee ?_);refine DP a0 (by kernel_rfl) (TA (TR _) _) (IT a2 a3) ?_;exact ⟨_,rfl,rfl,a1⟩
noncomputable def c_keeper:=cod Tryz.f132
theorem keeper_ct (I:Imm) (b:Nat) (b_1 b_2 b_3:Value) (b_r:Nat) (L:Lin) (pl:Int) (hr:Int) (b_b:IsBook 96 I b b_1 b_2 b_3 b_r L):CtV Tryz.prog 132 #[vP b 0,vI pl,vI hr] I (vI (BS L pl hr)):=by
 obtain ⟨d8,a9,b2,b4⟩:=id b_b;obtain ⟨b9,c1,c0,c4,b6,rfl,c2,c3,c5,c6⟩:=id a9;obtain ⟨a0,a1,c7,d0,rfl,c8,c9,a7⟩:=id b2;obtain ⟨d1,d3,d2,d6,rfl,d4,d5,d7⟩:=id b4;refine fr (args:=[_,_,_]) (N:=43) Tryz.func132 (fun F=>?_);show Run _ _ (c_keeper []) _ _ [(0,_),(1,_),(2,_)] _ _;refine rnm (rqr ?_);refine sp 1 [(6,vI 0)] (sn (sp 2 [(8,vI (-1)),(7,vI 0)] (se (rq (rqr (sp 2 [(12,vP b 0)] (sd (dfa 13 12 96 0 0 0 rfl) (sd (dfa 14 13 26 3 3 0 rfl) (sd (dld 15 14 23 (vS a0 L.keeps.length a1) rfl (AR d8 rfl)) (sp 2 [(17,vI 0),(16,vI (↑(L.keeps.length)))] (se (rb 0 ?_))))))))))));refine rl (fun mz a w=>∃ k:Nat,(k≤L.keeps.length)∧SD 43 [(7,vI ((KV pl hr (L.keeps.take k)).1)),(8,vI ((KV pl hr (L.keeps.take k)).2)),(17,vI ↑k),(1,vI pl),(2,vI hr),(6,vI 0),(15,vS a0 L.keeps.length a1),(16,vI (↑(L.keeps.length)))] I F a w (mz=L.keeps.length-k)) ?_ ?_
 ·intro a w hS hD hW;exact ⟨_,0,Nat.zero_le _,hS.sub su,hD,hW,rfl⟩
 rintro mz a w ⟨k,hk,hS,hD,hW,rfl⟩
 refine AW hS hD hW ?_;refine rqr (sp 1 [(18,.bool (cmp .lss ↑k (↑(L.keeps.length))))] (se (rq (rc 18 rfl (fun h1=>?_) (fun h1=>?_)))))
 ·
  have b7:=h1;have h1:=CQ h1;refine AM (NX (rq (rb 1 (rqr (sd (di 19 3 k a7.addr) (sd (dln 20 19 75 (PH (L.keeps.getD k AL)) rfl (BI (vals:=IE) (fun _=>rfl) a7 k (by omega))) (sS (sal 10 75 #[vI 0,vI 0,vI 0] (fun b1=>(sS (ss 0 0 b1 (PH (L.keeps.getD k AL)) (PH (L.keeps.getD k AL)) (_::_) (cs:=[_,_,_]) rfl rfl (se (rq ?_)))))))))))));refine DS (fun a w=>SE 43 [(1,vI pl),(2,vI hr),(6,vI 0),(7,vI ((KV pl hr (L.keeps.take k)).1)),(8,vI ((KV pl hr (L.keeps.take k)).2)),(10,vP b1 0),(15,vS a0 L.keeps.length a1),(16,vI (↑(L.keeps.length))),(17,vI ↑k),(36,.bool ((cmp .eql ((L.keeps.getD k AL).place) pl)&&((cmp .leq ((L.keeps.getD k AL).hour) hr)&&(cmp .gtr ((L.keeps.getD k AL).hour) ((KV pl hr (L.keeps.take k)).2)))))] I ((bX b1 (keepA (L.keeps.getD k AL)) 75)::F) a w) ?_ ?_
  ·
   refine rr (sp 1 [(21,vP b1 0)] (sd (dlb 22 0 0 b1 (vI ((L.keeps.getD k AL).place))) (sp 3 [(25,.bool (cmp .eql ((L.keeps.getD k AL).place) pl))] ?_)));refine BU 25 rfl (fun h2=>?_) (fun h2=>?_)
   ·
    have a2:=h2;have a2:=BQ a2;refine sp 1 [(26,vP b1 1)] (sd (dlb 27 0 1 b1 (vI ((L.keeps.getD k AL).hour))) (sp 4 [(31,.bool (cmp .leq ((L.keeps.getD k AL).hour) hr))] ?_));refine BU 31 rfl (fun h3=>?_) (fun h3=>?_)
    ·
     have a3:=h3;have a3:=leq_t a3;refine sp 1 [(32,vP b1 1)] (sd (dlb 33 0 1 b1 (vI ((L.keeps.getD k AL).hour))) (sp 3 [(36,.bool (cmp .gtr ((L.keeps.getD k AL).hour) ((KV pl hr (L.keeps.take k)).2)))] (ee ?_)));refine AO (fun a w hS hD hW=>⟨hS.sub (sun 9 (.consE 36 rfl (congrArg Value.bool (by simp only [h2,h3,kk])) (.nil _))),hD,hW⟩)
    have a3:=h3;have a3:=leq_f a3;refine sp 5 [(36,.bool false)] (ee ?_);refine AO (fun a w hS hD hW=>⟨hS.sub (sun 9 (.consE 36 rfl (congrArg Value.bool (by simp only [h2,h3,kk])) (.nil _))),hD,hW⟩)
   have a2:=h2;have a2:=BV a2;refine sp 11 [(36,.bool false)] (ee ?_);refine AO (fun a w hS hD hW=>⟨hS.sub (sun 9 (.consE 36 rfl (congrArg Value.bool (by simp only [h2,kk])) (.nil _))),hD,hW⟩)
  rintro a w ⟨hS,hD,hW⟩
  refine AW hS hD hW ?_;refine rc 36 rfl (fun h4=>?_) (fun h4=>?_)
  ·
   have a6:=h4;obtain ⟨b5,b8⟩:=and_t h4;have b5:=BQ b5;obtain ⟨a4,a5⟩:=and_t b8;have a4:=leq_t a4;have a5:=SW a5;refine rd0 5 (ox 1 [(37,vP b1 2)] ?_);refine AE (dlb 38 0 2 b1 (vI ((L.keeps.getD k AL).who))) (ox 1 [(39,vP b1 1)] ?_);refine AE (dlb 40 0 1 b1 (vI ((L.keeps.getD k AL).hour))) (ox 1 [(7,vI ((L.keeps.getD k AL).who))] ?_);refine BT (sp 1 [(8,vI ((L.keeps.getD k AL).hour))] (ee (NB (NX (rr (sd (da 41 ↑k 1) (sp 1 [(17,vI (↑k+1))] (ee ?_))))))));refine AN (L.keeps.length-(k+1)) (by omega) ?_;intro a w hS hD hW;exact ⟨k+1,by omega,hS.sub (.consE 7 rfl (congrArg (fun q:Int × Int=>Value.int .i64 q.1) (kfold_t (by omega) a6)) (.consE 8 rfl (congrArg (fun q:Int × Int=>Value.int .i64 q.2) (kfold_t (by omega) a6)) su)),hD,(hW.perm (PR _)).sub (TC _ (TR _)),rfl⟩
  have a6:=h4;refine AM (NB (NX (rr (sd (da 41 ↑k 1) (sp 1 [(17,vI (↑k+1))] (ee ?_))))));refine AN (L.keeps.length-(k+1)) (by omega) ?_;intro a w hS hD hW;exact ⟨k+1,by omega,hS.sub (.consE 7 rfl (congrArg (fun q:Int × Int=>Value.int .i64 q.1) (kfold_f (by omega) a6)) (.consE 8 rfl (congrArg (fun q:Int × Int=>Value.int .i64 q.2) (kfold_f (by omega) a6)) su)),hD,(hW.perm (PR _)).sub (TC _ (TR _)),rfl⟩
 have b7:=h1;have h1:=CU h1;refine CH 0 (EP (EP (EB (NX (rqr (sp 2 [(6,vI ((KV pl hr (L.keeps.take k)).1))] (se (BB (rt1 6 rfl (IR _) ?_)))))))));exact ⟨congrArg (fun q:Int × Int=>Value.int .i64 q.1) (show KV pl hr (L.keeps.take k)=KV pl hr L.keeps from by rw [List.take_of_length_le (by omega)]),rfl⟩
noncomputable def c_holders:=cod Tryz.f94
theorem holders_ct (I:Imm) (b:Nat) (b_1 b_2 b_3:Value) (b_r:Nat) (L:Lin) (s:Slip) (snc:Int) (b_b:IsBook 96 I b b_1 b_2 b_3 b_r L) (hk4:L.keeps.length≤4) (hs:0≤s.hour∧s.hour≤200):Ct Tryz.prog 94 #[vP b 0,.agg #[vI s.num,vI s.hour,vI s.kind,vI s.place,vI s.to,vI s.sort,.bool s.soil,vI s.amt],vI snc] I ([]) (fun v I' M'=>∃ u:Value,∃ Ms:Seg,v=u∧M'=Ms∧Own 3 1 AK u (DZ L s snc) Ms):=by
 obtain ⟨b3,b6,b8,c0⟩:=id b_b;obtain ⟨d3,d5,d4,d8,c9,rfl,d6,d7,d9,e0⟩:=id b6;obtain ⟨e1,e3,e2,e6,rfl,e4,e5,e7⟩:=id b8;obtain ⟨e8,f0,e9,f3,rfl,f1,f2,f4⟩:=id c0;refine fr (args:=[_,_,_]) (N:=41) Tryz.func94 (fun F=>?_);show Run _ _ (c_holders []) _ _ [(0,_),(1,_),(2,_)] _ _;refine rnm (rqr ?_);refine sS (sb 4 29 (AY s) (fun b1=>(sp 1 [(6,vN)] (se ?_))));refine run_scope (x:=c_holders [1,0]) (by kernel_rfl) (rqr (sp 1 [(7,vN)] (se (rq ?_))));refine rlab 0 (NX (rq (rqr (sp 1 [(10,vP b1 1)] (sd (dlb 11 0 1 b1 (vI s.hour)) (sd (da 12 s.hour 1) (sp 1 [(13,vI 0)] (se (rb 0 ?_)))))))));refine rl (fun mz a w=>∃ J0:Imm,∃ n:Nat,∃ a7:Value,∃ a2:Seg,(I.le J0)∧((n:Int)≤s.hour+1)∧(Own 3 1 AK a7 (CP L s.place snc n) a2)∧SD 41 [(7,a7),(13,vI ↑n),(0,vP b 0),(2,vI snc),(4,vP b1 0),(6,vN),(12,vI (s.hour+1))] J0 ((bX b1 (AY s) 29)::(a2++F)) a w (mz=(s.hour+1).toNat-n)) ?_ ?_
 ·intro a w hS hD hW;exact ⟨_,I,0,(vN),[],IR _,by omega,(Own.nil _ _ _),hS.sub su,hD,hW,rfl⟩
 rintro mz a w ⟨J0,n,a7,a2,hJ0,hn,a3,hS,hD,hW,rfl⟩
 refine AW hS hD hW ?_;replace b_b:=b_b.mono hJ0;replace b3:=hJ0.blk _ _ b3;obtain ⟨a0,a1,rfl,c8⟩:=a3.shape;have g3:=holdTo_len (L:=L) (p:=s.place) (since:=snc) (n:=n) hk4;refine rqr (sp 1 [(14,.bool (cmp .lss ↑n (s.hour+1)))] (se (rq (rc 14 rfl (fun h1=>?_) (fun h1=>?_)))))
 ·
  have d0:=h1;have h1:=CQ h1;refine AM (NX (rq (rb 1 (rqr (sp 2 [(8,vI ↑n)] (sn (sp 2 [(17,vP b1 3),(16,vP b 0)] (sd (dlb 18 0 3 b1 (vI s.place)) (sp 1 [(19,vI ↑n)] (sd (dc 20 (fun I' hI=>(keeper_ct I' b _ _ _ _ L s.place ↑n (b_b.mono hI) :))) (sp 1 [(9,vI (BS L s.place ↑n))] (se (rq (rqr (sp 4 [(24,.bool (cmp .lss ↑n snc))] ?_)))))))))))))));refine BU 24 rfl (fun h2=>?_) (fun h2=>?_)
  ·
   have a4:=h2;have a4:=CQ a4;refine sp 8 [(32,.bool true)] (se (rct 32 rfl (CH 1 (EP (EB (NX (rr (sd (da 37 ↑n 1) (sp 1 [(13,vI (↑n+1))] (ee ?_))))))))));refine AN ((s.hour+1).toNat-(n+1)) (by omega) ?_;intro a w hS hD hW;exact ⟨J0,n+1,vS a0 (CP L s.place snc n).length a1,a2,hJ0,by omega,(holdTo_1 (L:=L) (p:=s.place) (since:=snc) (n:=n) a4▸a3),hS.sub su,hD,hW,rfl⟩
  have a4:=h2;have a4:=CU a4;refine sp 4 [(28,.bool (cmp .eql (BS L s.place ↑n) 0))] ?_;refine BU 28 rfl (fun h3=>?_) (fun h3=>?_)
  ·
   have a5:=h3;have a5:=BQ a5;refine sp 4 [(32,.bool true)] (se (rct 32 rfl (CH 1 (EP (EB (NX (rr (sd (da 37 ↑n 1) (sp 1 [(13,vI (↑n+1))] (ee ?_))))))))));refine AN ((s.hour+1).toNat-(n+1)) (by omega) ?_;intro a w hS hD hW;exact ⟨J0,n+1,vS a0 (CP L s.place snc n).length a1,a2,hJ0,by omega,(holdTo_2 (L:=L) (p:=s.place) (since:=snc) (n:=n) (Int.not_lt.2 a4) a5▸a3),hS.sub su,hD,hW,rfl⟩
  have a5:=h3;have a5:=BV a5;refine sp 2 [(30,vI (BS L s.place ↑n)),(29,vS a0 (CP L s.place snc n).length a1)] ?_;have c1:=ct_own (I:=J0) 0 a3 (by omega) (fun I' hI hs_l=>(OD I' _ _ (BS L s.place ↑n) hs_l :));refine sS (sc (some 31) (F:=((bX b1 (AY s) 29)::F)) (c1 :) PM.symm (fun g5 I3 g4 b2 f7=>?_));obtain ⟨f6,f5⟩:=f7;rw [f6,f5];clear f6 f5;replace b3:=b2.blk _ _ b3;refine pm (M':=((bX b1 (AY s) 29)::(a2++F))) PM ?_;show Seq _ _ _ _ _ _ ((31,.bool (decide ((BS L s.place ↑n)∈(CP L s.place snc n))))::_) _ _;refine sp 1 [(32,.bool (decide ((BS L s.place ↑n)∈(CP L s.place snc n))))] (se (rc 32 rfl (fun h4=>?_) (fun h4=>?_)))
  ·
   have b0:=h4;have h4:=NR h4;refine CH 1 (EP (EB (NX (rr (sd (da 37 ↑n 1) (sp 1 [(13,vI (↑n+1))] (ee ?_)))))));refine AN ((s.hour+1).toNat-(n+1)) (by omega) ?_;intro a w hS hD hW;exact ⟨I3,n+1,vS a0 (CP L s.place snc n).length a1,a2,(IT hJ0 b2),by omega,(holdTo_3 (L:=L) (p:=s.place) (since:=snc) (n:=n) (Int.not_lt.2 a4) a5 (of_decide_eq_true b0)▸a3),hS.sub su,hD,hW,rfl⟩
  have b0:=h4;have h4:=QQ h4;refine AM (NX (rr (sp 2 [(34,vI (BS L s.place ↑n)),(33,vS a0 (CP L s.place snc n).length a1)] (sS (sbs 35 3 1 #[vI (BS L s.place ↑n)] (fun g2=>(sS (sap (d:=36) 33 35 33 3 1 8 (vI 0) AK (CP L s.place snc n) [((BS L s.place ↑n):Int)] a2 rfl rfl a3 (PU PM.symm) (HE _) (HG 0 rfl rfl) (fun g6 b4 c3=>(BA (M':=((bX b1 (AY s) 29)::(b4++F))) (fun w h=>(h.perm (PW PM)).sub (TC _ (TR _))) ?_))))))))));obtain ⟨c5,c6,rfl,f8⟩:=c3.shape;refine sp 1 [(7,vS c5 ((CP L s.place snc n)++([((BS L s.place ↑n):Int)])).length c6)] (ee (NB (NX (rr (sd (da 37 ↑n 1) (sp 1 [(13,vI (↑n+1))] (ee ?_)))))));refine AN ((s.hour+1).toNat-(n+1)) (by omega) ?_;intro a w hS hD hW;exact ⟨I3,n+1,vS c5 ((CP L s.place snc n)++([((BS L s.place ↑n):Int)])).length c6,b4,(IT hJ0 b2),by omega,(holdTo_4 (L:=L) (p:=s.place) (since:=snc) (n:=n) (Int.not_lt.2 a4) a5 (of_decide_eq_false b0)▸c3),hS.sub su,hD,hW,rfl⟩
 have d0:=h1;have h1:=CU h1;refine CH 0 (EP (EP (EB (NX (rqr (sp 1 [(38,vS a0 (CP L s.place snc n).length a1)] (sS (sc (some 39) (F:=((bX b1 (AY s) 29)::F)) (SortI_ct _ _ _ _ a3 (by omega) :) PM.symm (fun g0 g1 f9 a9 d1=>?_)))))))));obtain ⟨a6,c4,c2,c7⟩:=d1;rw [c4,c2];clear c4 c2;replace b3:=a9.blk _ _ b3;refine pm (M':=((bX b1 (AY s) 29)::(a6++F))) PM (sn (sp 2 [(6,vS a0 (CP L s.place snc n).length a1)] (se (BB (pst_ret_scope (ppm (M':=(a6++(bX b1 (AY s) 29)::F)) PM.symm (GU 6 a6 rfl (TA (TC _ (TR _)) _) (IT hJ0 a9) ?_)))))));exact ⟨_,_,rfl,rfl,((holdersOf_at (L:=L) (s:=s) (since:=snc) (n:=n) (by omega))▸c7)⟩
noncomputable def c_gaps:=cod Tryz.f50
theorem gaps_ct (I:Imm) (b:Nat):Ct Tryz.prog 50 #[vP b 0] I ([]) (fun v I' M'=>∃ b1:Nat,v=.func (.func 93) #[] #[vP b1 0]∧M'=[]∧(I'.blk b1=some (Obj.cells #[vP b 0] 92 (0,0)))):=by
 refine fr (args:=[_]) (N:=4) Tryz.func50 (fun F=>?_);show Run _ _ (c_gaps []) _ _ [(0,_)] _ _;refine rnm (rqr ?_);refine sS (sb 1 92 #[vP b 0] (fun b1=>(sp 1 [(2,.nilFunc)] (se (rq ?_)))));refine DA (b:=b1) (o:=Obj.cells #[vP b 0] 92 (0,0)) (M0:=(F)) (PR _) (fun I3 a0 a1=>(rr (sp 2 [(2,.func (.func 93) #[] #[vP b1 0])] (se (BB (rt1 2 rfl a0 ?_))))));exact ⟨_,rfl,rfl,a1⟩
noncomputable def c_gaps1:=cod Tryz.f93
set_option maxHeartbeats 1000000 in
theorem gaps1_iter (I0:Imm) (b bk1 b_r:Nat) (b_1 b_2 b_3:Value) (L:Lin) (b_b:IsBook 96 I0 b b_1 b_2 b_3 b_r L) (hb1:I0.blk bk1=some (Obj.cells #[vP b 0] 92 (0,0))) (hg:GoodL L):IterE Tryz.prog 93 [vP bk1 0] encEvH Prod.fst (FU L) (fun x I=>DB I (vS x.2.1 x.1.2.length x.2.2) x.1.2) (fun _ M=>∃ es cl,M=[(b_r,Obj.map es cl)]∧MapH es cl (EH L)) I0:=by
 intro _ L_ Cl Sp hmono hround I Mr M hI0 hR hCl;obtain ⟨d3,d2,rfl,e6⟩:=hR;replace b_b:=b_b.mono hI0;replace hb1:=hI0.blk _ _ hb1;have j6:=hg.keeps;obtain ⟨a8,c7,c9,d1⟩:=id b_b;obtain ⟨g4,g6,g5,g9,e5,rfl,g7,g8,h0,h5⟩:=id c7;obtain ⟨h6,h8,h7,i1,rfl,h9,i0,i2⟩:=id c9;obtain ⟨i3,i5,i4,i8,rfl,i6,i7,i9⟩:=id d1;refine fnMA_of_run (fn:=Tryz.f93) (args:=[_,_]) (N:=48) Tryz.func93 rfl (by kernel_rfl) (Nat.le_of_ble_eq_true rfl) (fun F=>?_);show Run _ _ (c_gaps1 []) _ _ [(0,_),(1,_)] _ _;refine rmA (M':=((b_r,Obj.map d3 d2)::(M++F))) (rnm (rqr ?_));refine sS (sb 2 158 #[.func (.yield L_) #[] #[]] (fun b1=>(sn (sS (IC (d:=7) (T:=94) (ty:=94) (gd:=none) (by kernel_rfl) rfl (fun b3=>(sS (sal 3 94 #[.map none] (fun b5=>(sS (ss 0 0 b5 [.map (some b3)] [.map (some b3)] (_::_::_::_::_) (cs:=[_]) rfl rfl (sn (sd (dld 8 1 92 (vP b 0) rfl (AR hb1 rfl)) ?_)))))))))))));have d4:=MQ I b;refine sS (sc (some 9) (d4 :) (.refl _) (fun k3 I7 k1 b0 j7=>?_));obtain ⟨c4,c5,k0,j1,j0,d8,d6,a2,a3,a4,g2⟩:=j7;rw [d8,d6];clear d8 d6;replace hb1:=b0.blk _ _ hb1;replace hCl:=hmono _ _ _ _ b0 hCl;replace b_b:=b_b.mono b0;replace a8:=b0.blk _ _ a8;refine nm (se (rb 0 ?_))
 refine GV (α:=Sh.Event) (g:=(.tmp 9)) (ps:=#[10]) (assign:=c_gaps1 [1,1,1,0,0]) (body:=c_gaps1 [1,1,1,0,1]) (gf:=126) (cv:=[vP c4 0,vP c5 0]) (enc:=encEv) (seq:=(evs (EH L) (AF AC L.slips))) (R:=fun xs _ M=>EvR b_r (EH L) (AF AC L.slips) xs.length M) (Mr:=[(b_r,Obj.map d3 d2)]) (M0:=((bX b1 #[.func (.yield L_) #[] #[]] 158)::(bX b5 #[.map (some b3)] 94)::(b3,Obj.map #[] 0)::M)) (F0:=(F))
  (fun xs I M=>∃ es cl Mc,M=(bX b1 #[.func (.yield L_) #[] #[]] 158)::(bX b5 #[.map (some b3)] 94)::(b3,Obj.map es cl)::Mc∧MapH es cl (FD L xs).1∧Cl (FD L xs).2 I Mc) (fun c _ I M=>c=Code.ret∧∃ ys,Sp ys I M) (fun x k=>[(1,vP bk1 0),(2,vP b1 0),(3,vP b5 0),(4,vP k 0)]) (fun x k=>[(bX k (EW x) 90)])
  (by kernel_rfl) rfl (by kernel_rfl) (fun _=>rfl) (by kernel_rfl) (II _ b c4 c5 k0 b_r _ _ _ _ _ L (EH L) b_b a2 a3 a4 g2 hg.goodS hg.within) (fun xs I J M le ⟨es,cl,Mc,e,h1,h2⟩=>⟨es,cl,Mc,e,h1,hmono _ _ _ _ le h2⟩) (by simpa only [AA,CA,NA] using (((PC _ ((PC _ (PS _ _ _)).trans (PS _ _ _))).trans (PS _ _ _)).trans (PC _ ((PC _ (PS _ _ _)).trans (PS _ _ _))))) ⟨_,_,rfl,e6⟩ ⟨_,_,M,rfl,(MapH.nil _),hCl⟩ ?_ ?_ ?_ ?_
 ·intro Lq x I1 M1;refine OL (l':=[(1,vP bk1 0),(2,vP b1 0),(3,vP b5 0),(10,.agg (EW x))]) su (rr (sS (sal 4 90 #[vI 0,vI 0,vI 0,vI 0,vI 0,vI 0,.bool false,vI 0,vI 0,.bool false] (fun g3=>(sS (ss 0 0 g3 (evntL x) (evntL x) (_::_) (cs:=[_,_,_,_,_,_,_,_,_,_]) rfl rfl (ee ?_)))))));exact AO (fun a w hS hD hW=>⟨g3,hS.sub su,hD,hW⟩)
 ·intro Lq x k xs I1 Mr1 M1 F1 hpre hle1 hR1 hC1;replace hb1:=hle1.blk _ _ hb1;replace hCl:=hmono _ _ _ _ hle1 hCl;replace b_b:=b_b.mono hle1;replace a8:=hle1.blk _ _ a8;replace a2:=hle1.blk _ _ a2;replace a3:=hle1.blk _ _ a3;replace a4:=hle1.blk _ _ a4;obtain ⟨e3,e2,b2,rfl,c2,a7⟩:=hC1;have j9:=hg.ofEv hpre;refine rmA (M':=((bX k (EW x) 90)::(Mr1++(bX b1 #[.func (.yield L_) #[] #[]] 158)::(bX b5 #[.map (some b3)] 94)::(b3,Obj.map e3 e2)::(b2++F1)))) ?_;refine rpm (M':=((bX k (EW x) 90)::(bX b1 #[.func (.yield L_) #[] #[]] 158)::(bX b5 #[.map (some b3)] 94)::(b3,Obj.map e3 e2)::(Mr1++(b2++F1)))) (PC _ (PW (PW PM))) (rb 1 (rq (rqr (sp 2 [(12,vP k 2),(11,vP k 0)] (sd (dlb 13 0 2 k (vI x.slip.kind)) (sp 1 [(14,.bool (!(cmp .eql x.slip.kind 4)))] (se (rc 14 rfl (fun h1=>?_) (fun h1=>?_)))))))))
  ·
   have f8:=h1;have h1:=BV (BM h1);refine CH 1 (EP (EB (ppm (M':=((bX k (EW x) 90)::(Mr1++(bX b1 #[.func (.yield L_) #[] #[]] 158)::(bX b5 #[.map (some b3)] 94)::(b3,Obj.map e3 e2)::(b2++F1)))) (PC _ (PU (PU PM.symm))) ?_)));refine FO (M':=(Mr1++((bX b1 #[.func (.yield L_) #[] #[]] 158)::(bX b5 #[.map (some b3)] 94)::(b3,Obj.map e3 e2)::b2))) (IR _) ?_ (by simp only [AA,NA,CA];exact (TC _ (TR _)));exact ⟨Mr1,_,rfl,hR1,⟨_,_,_,rfl,(gfold_1 (L:=L) (xs:=xs) h1▸c2),(gfold_1 (L:=L) (xs:=xs) h1▸a7)⟩⟩
  have f8:=h1;have h1:=BQ (BE h1);refine AM (NX (rqr (sp 2 [(16,vP k 3),(15,vP k 0)] (sd (dlb 17 0 3 k (vI x.slip.place)) (sp 2 [(19,vP k 5),(18,vP k 0)] (sd (dlb 20 0 5 k (vI x.slip.sort)) (sp 2 [(22,vP k 6),(21,vP k 0)] (sd (dlb 23 0 6 k (.bool x.slip.soil)) (sp 1 [(24,.agg #[vI x.slip.place,vI x.slip.sort,.bool x.slip.soil])] (sS (sal 5 98 #[vI 0,vI 0,.bool false] (fun a9=>(sS (ss 0 0 a9 [vI x.slip.place,vI x.slip.sort,.bool x.slip.soil] [vI x.slip.place,vI x.slip.sort,.bool x.slip.soil] (_::_::_::_::_::_) (cs:=[_,_,_]) rfl rfl (sn (sd (dlb 25 3 0 b5 (.map (some b3))) (sd (dnb 26 0 0 a9 [vI x.slip.place,vI x.slip.sort,.bool x.slip.soil]) (sd (HI (x:=(.tmp 25)) (y:=(.tmp 26)) (T:=94) (kt:=98) (et:=3) (k:=(⟨x.slip.place,x.slip.sort,x.slip.soil⟩:HKey)) (z:=vI 0) (kvs:=intV ((FD L xs).1)) (d:=27) (ty:=3) (gd:=none) (by kernel_rfl) rfl (by kernel_rfl) (BD (by kernel_rfl) (by kernel_rfl)) rfl rfl (by kernel_rfl) (.inl (List.mem_of_getElem? (i:=4) rfl)) c2.1.1 (BR (⟨x.slip.place,x.slip.sort,x.slip.soil⟩:HKey) ((FD L xs).1))) (sp 1 [(6,vI (CY (⟨x.slip.place,x.slip.sort,x.slip.soil⟩:HKey) ((FD L xs).1)))] (sn (sd (dlb 28 3 0 b5 (.map (some b3))) (sd (dnb 29 0 0 a9 [vI x.slip.place,vI x.slip.sort,.bool x.slip.soil]) (sp 2 [(31,vP k 1),(30,vP k 0)] (sd (dlb 32 1 1 k (vI x.slip.hour)) (sS (stp_putH (x:=(.tmp 28)) (y:=(.tmp 29)) (u:=(.tmp 32)) (T:=94) (kt:=98) (et:=3) (k:=(⟨x.slip.place,x.slip.sort,x.slip.soil⟩:HKey)) (H:=(FD L xs).1) (v:=x.slip.hour) 4 (ty:=0) (gd:=none) (by kernel_rfl) rfl (by kernel_rfl) (BD (by kernel_rfl) (by kernel_rfl)) rfl rfl rfl rfl c2 (fun a6 a5 b8=>(nm (se (rq ?_))))))))))))))))))))))))))))));rcases Bool.eq_false_or_eq_true (!(cmp .eql x.gap 0)) with h2 | h2
  ·
   refine rd 12 [(0,true),(1,true),(2,true),(3,true),(4,true),(5,true),(6,true),(7,true),(8,true),(9,true),(10,false),(11,true)] ((bX a9 #[vI x.slip.place,vI x.slip.sort,.bool x.slip.soil] 98)::(bX k (EW x) 90)::(bX b1 #[.func (.yield L_) #[] #[]] 158)::(bX b5 #[.map (some b3)] 94)::(b3,Obj.map a6 a5)::[]) (Mr1++(b2++F1)) (ox 1 [(33,vP k 8)] ?_);refine AE (dlb 34 1 8 k (vI x.gap)) (ox 2 [(36,.bool (!(cmp .eql x.gap 0))),(35,.bool (!(cmp .eql x.gap 0)))] ?_);refine MU 36 (fun h3=>?_) (fun h3=>?_)
   ·
    have c0:=h3;have c0:=BV (BM c0);refine AE (dlb 37 2 0 b1 (.func (.yield L_) #[] #[])) ?_;refine AE (dnb 38 1 0 k (evntL x)) ?_;refine AE (OY (v:=vP b 0) (x:=(.tmp 1)) (T:=92) (d:=39) (ty:=92) (gd:=(some (3,true))) (by kernel_rfl) (by kernel_rfl) (by kernel_rfl) rfl (AR hb1 rfl)) (ox 1 [(40,vP k 0)] ?_);refine AE (dnb 41 1 0 k (ET x.slip)) (ox 1 [(42,vI (CY (⟨x.slip.place,x.slip.sort,x.slip.soil⟩:HKey) ((FD L xs).1)))] ?_);have d5:=holders_ct I1 b _ _ _ _ L (⟨x.slip.num,x.slip.hour,x.slip.kind,x.slip.place,x.slip.to,x.slip.sort,x.slip.soil,x.slip.amt⟩:Slip) (CY (⟨x.slip.place,x.slip.sort,x.slip.soil⟩:HKey) ((FD L xs).1)) b_b (by omega) (by exact j9);refine PQ (sc (some 43) (F:=((bX a9 #[vI x.slip.place,vI x.slip.sort,.bool x.slip.soil] 98)::(bX k (EW x) 90)::(bX b1 #[.func (.yield L_) #[] #[]] 158)::(bX b5 #[.map (some b3)] 94)::(b3,Obj.map a6 a5)::(Mr1++(b2++F1)))) (d5 :) (PR _) (fun k4 k5 k2 a0 g1=>?_));obtain ⟨k8,e4,d9,d7,e0⟩:=g1;rw [d9,d7];clear d9 d7;replace hb1:=a0.blk _ _ hb1;replace hCl:=hmono _ _ _ _ a0 hCl;replace a8:=a0.blk _ _ a8;replace a2:=a0.blk _ _ a2;replace a3:=a0.blk _ _ a3;replace a4:=a0.blk _ _ a4;replace a7:=hmono _ _ _ _ a0 a7;obtain ⟨b6,b7,rfl,j3⟩:=e0.shape;refine hk_mem (M':=(e4++(bX a9 #[vI x.slip.place,vI x.slip.sort,.bool x.slip.soil] 98)::(bX k (EW x) 90)::(bX b1 #[.func (.yield L_) #[] #[]] 158)::(bX b5 #[.map (some b3)] 94)::(b3,Obj.map a6 a5)::(Mr1++(b2++F1)))) (fun w h=>by simpa only [AA,CA,NA] using h) ?_;have k7:(DZ L (⟨x.slip.num,x.slip.hour,x.slip.kind,x.slip.place,x.slip.to,x.slip.sort,x.slip.soil,x.slip.amt⟩:Slip) (CY (⟨x.slip.place,x.slip.sort,x.slip.soil⟩:HKey) ((FD L xs).1))).length≤4:=holdersOf_len j6;refine LH (B:=((bX a9 #[vI x.slip.place,vI x.slip.sort,.bool x.slip.soil] 98)::(bX k (EW x) 90)::(bX b1 #[.func (.yield L_) #[] #[]] 158)::(bX b5 #[.map (some b3)] 94)::(b3,Obj.map a6 a5)::(Mr1++(b2++F1)))) 0 e0 (by first | omega | (simp only [LS,LC,LN,LA,LK,LD] <;> omega) | decide) (PR _) (PR _) (fun k6 a1 b4=>?_);replace hb1:=a1.blk _ _ hb1;replace hCl:=hmono _ _ _ _ a1 hCl;replace a8:=a1.blk _ _ a8;replace a2:=a1.blk _ _ a2;replace a3:=a1.blk _ _ a3;replace a4:=a1.blk _ _ a4;replace a7:=hmono _ _ _ _ a1 a7;obtain ⟨f1,f3,f2,f6,b9,f4,f5,f7⟩:=id b4;cases b9;refine RA ?_;refine AX (S':=(Mr1++(b2++F1))) (PR _) ?_;show OFP _ _ _ _ _ _ ((43,vS b6 (DZ L (⟨x.slip.num,x.slip.hour,x.slip.kind,x.slip.place,x.slip.to,x.slip.sort,x.slip.soil,x.slip.amt⟩:Slip) (CY (⟨x.slip.place,x.slip.sort,x.slip.soil⟩:HKey) ((FD L xs).1))).length b7)::_) _ _;refine ox 1 [(44,.agg #[vI x.slip.num,vI x.slip.hour,vI x.slip.kind,vI x.slip.place,vI x.slip.to,vI x.slip.sort,.bool x.slip.soil,vI x.slip.amt,vI x.gap,.bool x.below,vS b6 (DZ L (⟨x.slip.num,x.slip.hour,x.slip.kind,x.slip.place,x.slip.to,x.slip.sort,x.slip.soil,x.slip.amt⟩:Slip) (CY (⟨x.slip.place,x.slip.sort,x.slip.soil⟩:HKey) ((FD L xs).1))).length b7])] ?_;refine FS (nm (nm ?_));have j2:(FD L xs).2++[(x,DZ L x.slip (CY ⟨x.slip.place,x.slip.sort,x.slip.soil⟩ (FD L xs).1))]=(FD L (xs++[x])).2:=gfold_4 h1 c0;have j8:(FD L xs).2++[(x,DZ L x.slip (CY ⟨x.slip.place,x.slip.sort,x.slip.soil⟩ (FD L xs).1))] <+: FU L:=by rw [j2];exact gfold_pre hpre
    refine sS (stp_yield (d:=some 45) (f:=(.tmp 37)) (args:=#[(.tmp 44)]) (tys:=#[105]) (pre:=([]++b2)) (F:=((bX a9 #[vI x.slip.place,vI x.slip.sort,.bool x.slip.soil] 98)::(bX k (EW x) 90)::(bX b1 #[.func (.yield L_) #[] #[]] 158)::(bX b5 #[.map (some b3)] 94)::(b3,Obj.map a6 a5)::(Mr1++F1))) (ty:=4) (gd:=(some (3,true))) (by kernel_rfl) (by kernel_rfl) rfl rfl (hround (FD L xs).2 ((x,DZ L x.slip (CY ⟨x.slip.place,x.slip.sort,x.slip.soil⟩ (FD L xs).1)),(b6,b7)) _ [] b2 j8 (IT (IT hI0 b0) (IT hle1 (IT a0 a1))) b4 a7) (by simpa only [AA,CA,NA] using (PU (PU (PU (PU (PU (PO _ _ _))))))) (fun yv IY MY hIY hYP=>?_));rcases hYP with ⟨rfl,Mc4,hMe,hCl4⟩ | ⟨rfl,hSp4⟩
    ·
     replace hb1:=hIY.blk _ _ hb1;replace hCl:=hmono _ _ _ _ hIY hCl;replace a8:=hIY.blk _ _ a8;replace a2:=hIY.blk _ _ a2;replace a3:=hIY.blk _ _ a3;replace a4:=hIY.blk _ _ a4;replace a7:=hmono _ _ _ _ hIY a7;have hMf:Mc4=MY:=hMe.symm;subst hMf;clear hMe;rw [j2] at hCl4;refine BA (M':=(Mc4++(bX a9 #[vI x.slip.place,vI x.slip.sort,.bool x.slip.soil] 98)::(bX k (EW x) 90)::(bX b1 #[.func (.yield L_) #[] #[]] 158)::(bX b5 #[.map (some b3)] 94)::(b3,Obj.map a6 a5)::(Mr1++F1))) (fun w h=>by simpa only [AA,CA,NA] using h) (pm (M':=((bX a9 #[vI x.slip.place,vI x.slip.sort,.bool x.slip.soil] 98)::(bX k (EW x) 90)::(bX b1 #[.func (.yield L_) #[] #[]] 158)::(bX b5 #[.map (some b3)] 94)::(b3,Obj.map a6 a5)::(Mc4++(Mr1++F1)))) (PW (PW (PW (PW PM)))) (sp 2 [(47,.bool (!(true))),(46,.bool (!(true)))] (se (rcf 47 rfl (AM (NB (ppm (M':=((bX a9 #[vI x.slip.place,vI x.slip.sort,.bool x.slip.soil] 98)::(bX k (EW x) 90)::(Mr1++(bX b1 #[.func (.yield L_) #[] #[]] 158)::(bX b5 #[.map (some b3)] 94)::(b3,Obj.map a6 a5)::(Mc4++F1)))) (PC _ (PC _ (PU (PU (PU (PO _ _ _)))))) ?_)))))));refine FO (M':=(Mr1++((bX b1 #[.func (.yield L_) #[] #[]] 158)::(bX b5 #[.map (some b3)] 94)::(b3,Obj.map a6 a5)::Mc4))) (IT (IT a0 a1) hIY) ?_ (by simp only [AA,NA,CA];exact (TC _ (TC _ (TR _))));exact ⟨Mr1,_,rfl,hR1,⟨_,_,_,rfl,((gfold_2 (L:=L) (xs:=xs) h1).symm▸b8),hCl4⟩⟩
    replace hb1:=hIY.blk _ _ hb1;replace hCl:=hmono _ _ _ _ hIY hCl;replace a8:=hIY.blk _ _ a8;replace a2:=hIY.blk _ _ a2;replace a3:=hIY.blk _ _ a3;replace a4:=hIY.blk _ _ a4;replace a7:=hmono _ _ _ _ hIY a7;refine BA (M':=(MY++(bX a9 #[vI x.slip.place,vI x.slip.sort,.bool x.slip.soil] 98)::(bX k (EW x) 90)::(bX b1 #[.func (.yield L_) #[] #[]] 158)::(bX b5 #[.map (some b3)] 94)::(b3,Obj.map a6 a5)::(Mr1++F1))) (fun w h=>by simpa only [AA,CA,NA] using h) (pm (M':=((bX a9 #[vI x.slip.place,vI x.slip.sort,.bool x.slip.soil] 98)::(bX k (EW x) 90)::(bX b1 #[.func (.yield L_) #[] #[]] 158)::(bX b5 #[.map (some b3)] 94)::(b3,Obj.map a6 a5)::(MY++(Mr1++F1)))) (PW (PW (PW (PW PM)))) (sp 2 [(47,.bool (!(false))),(46,.bool (!(false)))] (se (rct 47 rfl (BB (RB (ppm (M':=((bX a9 #[vI x.slip.place,vI x.slip.sort,.bool x.slip.soil] 98)::(bX k (EW x) 90)::(bX b1 #[.func (.yield L_) #[] #[]] 158)::(bX b5 #[.map (some b3)] 94)::(b3,Obj.map a6 a5)::(Mr1++(MY++F1)))) (PC _ (PC _ (PC _ (PC _ (PC _ (PO _ _ _)))))) ?_)))))));refine MF (M':=(MY)) (IT (IT a0 a1) hIY) ?_ (TC _ (TC _ (TC _ (TC _ (TC _ (TT (TR _) (TB _ _)))))));exact ⟨rfl,_,hSp4⟩
   exact absurd (h3.symm.trans h2) (by decide)
  refine rd0 12 (ox 1 [(33,vP k 8)] ?_);refine AE (dlb 34 1 8 k (vI x.gap)) (ox 2 [(36,.bool (!(cmp .eql x.gap 0))),(35,.bool (!(cmp .eql x.gap 0)))] ?_);refine MU 36 (fun h4=>?_) (fun h4=>?_)
  ·
   exact absurd (h4.symm.trans h2) (by decide)
  have c1:=h4;have c1:=BQ (BE c1);refine ox 8 [(44,undef),(43,undef),(42,undef),(41,undef),(40,undef),(39,undef),(38,undef),(37,undef)] ?_;refine BT (sp 3 [(47,.bool false),(46,undef),(45,undef)] (se (rcf 47 rfl (AM (NB (ppm (M':=((bX a9 #[vI x.slip.place,vI x.slip.sort,.bool x.slip.soil] 98)::(bX k (EW x) 90)::(Mr1++(bX b1 #[.func (.yield L_) #[] #[]] 158)::(bX b5 #[.map (some b3)] 94)::(b3,Obj.map a6 a5)::(b2++F1)))) (PC _ (PC _ (PU (PU PM.symm)))) ?_))))));refine FO (M':=(Mr1++((bX b1 #[.func (.yield L_) #[] #[]] 158)::(bX b5 #[.map (some b3)] 94)::(b3,Obj.map a6 a5)::b2))) (IR _) ?_ (by simp only [AA,NA,CA];exact (TC _ (TC _ (TR _))));exact ⟨Mr1,_,rfl,hR1,⟨_,_,_,rfl,((gfold_2 (L:=L) (xs:=xs) h1).symm▸b8),(gfold_3 (L:=L) (xs:=xs) h1 c1▸a7)⟩⟩
 ·intro D I2 Mr2 M2 hle2 hR2 hC2;replace hb1:=hle2.blk _ _ hb1;replace hCl:=hmono _ _ _ _ hle2 hCl;replace a8:=hle2.blk _ _ a8;replace a2:=hle2.blk _ _ a2;replace a3:=hle2.blk _ _ a3;replace a4:=hle2.blk _ _ a4;obtain ⟨f0,e8,rfl,j5⟩:=EvR.full hR2 GD;obtain ⟨e9,e7,c3,rfl,j4,f9⟩:=hC2;refine MX (M':=((D,Obj.deferred (some []))::(b_r,Obj.map f0 e8)::(bX b1 #[.func (.yield L_) #[] #[]] 158)::(bX b5 #[.map (some b3)] 94)::(b3,Obj.map e9 e7)::(c3++F))) (fun w h=>by simpa only [AA,CA,NA] using h) (NB ?_);refine EC (R:=((b_r,Obj.map f0 e8)::(bX b1 #[.func (.yield L_) #[] #[]] 158)::(bX b5 #[.map (some b3)] 94)::(b3,Obj.map e9 e7)::(c3++F))) [D] (.inr rfl) (PR _) (ppm (M':=(c3++(b_r,Obj.map f0 e8)::(bX b1 #[.func (.yield L_) #[] #[]] 158)::(bX b5 #[.map (some b3)] 94)::(b3,Obj.map e9 e7)::F)) (PU (PU (PU PM.symm))) ?_);refine DP c3 (by kernel_rfl) (TA (TC _ (TC _ (TC _ (TC _ (TR _))))) _) (IT b0 hle2) ?_;exact .inl ⟨[],c3,rfl,f9⟩
 intro D c xs I2 M2 hle2 hS2;replace hb1:=hle2.blk _ _ hb1;replace hCl:=hmono _ _ _ _ hle2 hCl;replace a8:=hle2.blk _ _ a8;replace a2:=hle2.blk _ _ a2;replace a3:=hle2.blk _ _ a3;replace a4:=hle2.blk _ _ a4;obtain ⟨rfl,k9,g0⟩:=hS2;refine rmA (M':=((D,Obj.deferred (some []))::(M2++F))) (rnm ?_);refine run_ret rfl (RB ?_);refine EC (R:=(M2++F)) [D] (.inl rfl) (PR _) (pst_ret0 M2 (by kernel_rfl) (TA (TR _) _) (IT b0 hle2) ?_);exact .inr ⟨_,g0⟩
noncomputable def QO:=cod Tryz.f14
theorem LHolders_ct (I:Imm) (l:Value) (L:Lin) (n:Int) (l_f:IsLin I l L):Ct Tryz.prog 14 #[l,vI n] I ([]) (fun v I' M'=>∃ u0:Value,v=.tuple #[u0,vI ((BZ L n).2)]∧M'=[]∧DB I' u0 ((BZ L n).1)):=by
 obtain ⟨l1,l2,l3,rfl,b8,b9,b4⟩:=id l_f;obtain ⟨a2,a3,j5,j8,j3,rfl,j6,j7,j9,k0⟩:=id b8;obtain ⟨a4,a5,k1,k4,rfl,k2,k3,k5⟩:=id b9;obtain ⟨a0,a1,h6,h8,rfl,k6,k7,c0⟩:=id b4;refine JP (fn:=Tryz.f14) (args:=[_,_]) (N:=42) Tryz.func14 rfl (by kernel_rfl) (Nat.le_of_ble_eq_true rfl) (fun F=>?_);show Run _ _ (QO []) _ _ [(0,_),(1,_)] _ _;refine rnm (rqr ?_);refine sS (sb 2 26 (AQ L (vS a2 L.start.length a3) (vS a4 L.keeps.length a5) (vS a0 L.slips.length a1)) (fun b1=>(sS (sb 3 3 #[vI n] (fun b3=>(sS (sal 4 33 #[vN] (fun b5=>(sS (sal 5 31 #[vI 0] (fun b7=>(se (rq (rqr (sd (dnb 9 3 0 b1 (DE L (vS a2 L.start.length a3) (vS a4 L.keeps.length a5) (vS a0 L.slips.length a1))) (sd (dc 10 (fun I' hI=>(DJ I' _ L ((CN b8 b9 b4).mono hI) :))) (sp 1 [(6,vI (AH L))] (sn (sp 2 [(12,.bool (!(cmp .eql (AH L) 0)))] (se (rc 12 rfl (fun h1=>?_) (fun h1=>?_))))))))))))))))))))))
 ·
  have g3:=h1;have h1:=BV (BM h1);refine rqr (sp 1 [(13,vI (AH L))] (sS (ss 1 0 b5 [vN] [vN] (_::_::_::_::_) (cs:=[_]) rfl rfl (sS (ss 0 0 b7 [vI (AH L)] [vI (AH L)] (_::_::_::_::_) (cs:=[_]) rfl rfl (se (BB (RP ?_))))))));have hE:=holdersE_1 (L:=L) (n:=n) h1;refine EC (R:=((bX b7 #[vI (AH L)] 31)::(bX b5 #[vN] 33)::(bX b3 #[vI n] 3)::(bX b1 (AQ L (vS a2 L.start.length a3) (vS a4 L.keeps.length a5) (vS a0 L.slips.length a1)) 26)::F)) [] (.inl rfl) (PR _) (MZ (t:=4) (T:=33) (n:=1) (u:=5) (U:=31) (n2:=1) [] (by kernel_rfl) rfl (by kernel_rfl) rfl (snm [vN] b5 33) (.inr ⟨by kernel_rfl,rfl⟩) rfl (by kernel_rfl) rfl (snm [vI (AH L)] b7 31) (.inr ⟨by kernel_rfl,rfl⟩) (TC _ (TC _ (TC _ (TC _ (TR _))))) (IR _) ?_);exact ⟨_,(by rw [hE]),rfl,((show []=(BZ L n).1 from by rw [hE])▸(IsSl.nil _))⟩
 have g3:=h1;have h1:=BQ (BE h1);refine AM (NX (rq ?_));have hz:AH L=0:=by omega
 have hg:=GG hz;refine rd 4 [(0,true),(1,true),(2,true),(3,false)] ((bX b7 #[vI 0] 31)::(bX b5 #[vN] 33)::(bX b3 #[vI n] 3)::(bX b1 (AQ L (vS a2 L.start.length a3) (vS a4 L.keeps.length a5) (vS a0 L.slips.length a1)) 26)::[]) F (ox 1 [(14,vP b1 4)] ?_);refine AE (dlb 15 3 4 b1 (vS a0 L.slips.length a1)) ?_;refine AE (dlb 16 2 0 b3 (vI n)) ?_;refine CV (sc (some 17) (F:=((bX b7 #[vI 0] 31)::(bX b5 #[vN] 33)::(bX b3 #[vI n] 3)::(bX b1 (AQ L (vS a2 L.start.length a3) (vS a4 L.keeps.length a5) (vS a0 L.slips.length a1)) 26)::F)) (KA _ n :) (PR _) (fun l5 I9 k9 a6 g7=>?_));obtain ⟨c8,d4,d1,a8⟩:=g7;rw [d4,d1];clear d4 d1;replace b8:=b8.mono a6;replace b9:=b9.mono a6;replace b4:=b4.mono a6;replace c0:=c0.mono a6;refine AX (S':=(F)) (PR _) ?_;show OFP _ _ _ _ _ _ ((17,.func (.func 89) #[] #[vP c8 0])::_) _ _;refine FS (nm (nm ?_));refine sd (dc 18 (fun I' hI=>(NG I' _ _ 89 ([vP c8 0]) (fun x=>decide (x.num=n)) (b4.mono hI) (by kernel_rfl) (fun J hJ x=>num1_ct J x n c8 ((IT hI hJ).blk _ _ a8)) :))) (sp 1 [(7,vI (MA (fun x=>decide (x.num=n)) L.slips))] (se (rq (rb 0 (rqr (sp 3 [(19,.bool (cmp .lss (MA (fun x=>decide (x.num=n)) L.slips) 0))] (se (rc 19 rfl (fun h2=>?_) (fun h2=>?_)))))))))
 ·
  have g4:=h2;have h2:=CQ h2;refine rqr (sS (ss 1 0 b5 [vN] [vN] (_::_::_::_::_) (cs:=[_]) rfl rfl (sS (ss 0 0 b7 [vI 3] [vI 3] (_::_::_::_::_) (cs:=[_]) rfl rfl (se (BB (RB (RP ?_))))))));have hE:=holdersE_2 (L:=L) (n:=n) hz h2;refine EC (R:=((bX b7 #[vI 3] 31)::(bX b5 #[vN] 33)::(bX b3 #[vI n] 3)::(bX b1 (AQ L (vS a2 L.start.length a3) (vS a4 L.keeps.length a5) (vS a0 L.slips.length a1)) 26)::F)) [] (.inl rfl) (PR _) (MZ (t:=4) (T:=33) (n:=1) (u:=5) (U:=31) (n2:=1) [] (by kernel_rfl) rfl (by kernel_rfl) rfl (snm [vN] b5 33) (.inr ⟨by kernel_rfl,rfl⟩) rfl (by kernel_rfl) rfl (snm [vI 3] b7 31) (.inr ⟨by kernel_rfl,rfl⟩) (TC _ (TC _ (TC _ (TC _ (TR _))))) a6 ?_);exact ⟨_,(by rw [hE]),rfl,((show []=(BZ L n).1 from by rw [hE])▸(IsSl.nil _))⟩
 have g4:=h2;have h2:=CU h2;refine rq ?_;obtain ⟨i0,d0,m3,m4,m5⟩:=idxF_spec (p:=(fun x:Slip=>decide (x.num=n))) (l:=L.slips) (d:=AB) (by omega);rw [d0];refine rr (sp 1 [(23,vP b1 4)] (sd (dlb 24 3 4 b1 (vS a0 L.slips.length a1)) (sp 1 [(25,vI ↑i0)] (sd (di 26 8 i0 c0.addr) (sp 1 [(27,.pointer (some ⟨h6,h8+i0*8+2,none⟩))] (sd (dl 28 (rec_get c0 i0 (by omega) 2 (by decide) (v:=vI ((L.slips.getD i0 AB).kind)) rfl)) (sp 2 [(22,.bool (!(cmp .eql ((L.slips.getD i0 AB).kind) 4)))] (se (rc 22 rfl (fun h3=>?_) (fun h3=>?_))))))))))
 ·
  have g5:=h3;have h3:=BV (BM h3);refine rqr (sS (ss 1 0 b5 [vN] [vN] (_::_::_::_::_) (cs:=[_]) rfl rfl (sS (ss 0 0 b7 [vI 8] [vI 8] (_::_::_::_::_) (cs:=[_]) rfl rfl (se (BB (RB (RP ?_))))))));have hE:=holdersE_3 (L:=L) (n:=n) hz d0 h3;refine EC (R:=((bX b7 #[vI 8] 31)::(bX b5 #[vN] 33)::(bX b3 #[vI n] 3)::(bX b1 (AQ L (vS a2 L.start.length a3) (vS a4 L.keeps.length a5) (vS a0 L.slips.length a1)) 26)::F)) [] (.inl rfl) (PR _) (MZ (t:=4) (T:=33) (n:=1) (u:=5) (U:=31) (n2:=1) [] (by kernel_rfl) rfl (by kernel_rfl) rfl (snm [vN] b5 33) (.inr ⟨by kernel_rfl,rfl⟩) rfl (by kernel_rfl) rfl (snm [vI 8] b7 31) (.inr ⟨by kernel_rfl,rfl⟩) (TC _ (TC _ (TC _ (TC _ (TR _))))) a6 ?_);exact ⟨_,(by rw [hE]),rfl,((show []=(BZ L n).1 from by rw [hE])▸(IsSl.nil _))⟩
 have g5:=h3;have h3:=BQ (BE h3);refine AM (NB (NX (rq (rqr (sd (dnb 30 3 0 b1 (DE L (vS a2 L.start.length a3) (vS a4 L.keeps.length a5) (vS a0 L.slips.length a1))) (sS (sc (some 31) (RD _ _ L (CN b8 b9 b4) :) (.refl _) (fun l6 m1 l0 b6 g8=>?_))))))));obtain ⟨j4,l8,l9,m0,i2,g2,g1,d5,d2,h9,i1⟩:=g8;rw [d5,d2];clear d5 d2;replace a8:=b6.blk _ _ a8;have b2:=h9;obtain ⟨a7,c2,c4,c6⟩:=id b2;obtain ⟨d9,e1,e0,e4,d7,rfl,e2,e3,e5,e6⟩:=id c2;obtain ⟨e7,e9,e8,f2,rfl,f0,f1,f3⟩:=id c4;obtain ⟨f4,f6,f5,f9,rfl,f7,f8,g0⟩:=id c6;refine nm ?_;refine sS (sc (some 32) (gaps_ct _ j4 :) (.refl _) (fun l7 m2 l4 a9 g9=>?_));obtain ⟨c9,d6,d3,b0⟩:=g9;rw [d6,d3];clear d6 d3;replace a8:=a9.blk _ _ a8;replace b2:=b2.mono a9;replace a7:=a9.blk _ _ a7;refine nm (se (rb 1 ?_))
 refine NZ (α:=EvH) (β:=EvH × (Option Addr × Nat)) (pr:=Prod.fst) (E:=fun x I=>DB I (vS x.2.1 x.1.2.length x.2.2) x.1.2) (g:=(.tmp 32)) (ps:=#[33]) (assign:=QO [1,1,1,1,0,1,0,0]) (body:=QO [1,1,1,1,0,1,0,1]) (gf:=93) (cv:=[vP c9 0]) (enc:=encEvH) (seq:=FU L) (R:=fun _ M=>∃ es cl,M=[(i2,Obj.map es cl)]∧MapH es cl (EH L)) (Mr:=[(i2,Obj.map g2 g1)]) (M0:=((bX b3 #[vI n] 3)::(bX b5 #[vN] 33)::(bX b7 #[vI 0] 31)::[])) (F0:=((bX b1 (AQ L (vS a2 L.start.length a3) (vS a4 L.keeps.length a5) (vS a0 L.slips.length a1)) 26)::F))
  (fun xs I M=>M=[(bX b3 #[vI n] 3),(bX b5 #[vN] 33),(bX b7 #[vI 0] 31)]∧∀ q∈xs,q.1.slip.num≠n) (fun c xs I M=>c=Code.ret∧∃ v l,M=[(bX b3 #[vI n] 3),(bX b5 #[v] 33),(bX b7 #[vI 0] 31)]∧DB I v l∧SI n (FU L)=some l) (fun x k=>[(3,vP b3 0),(4,vP b5 0),(5,vP b7 0),(8,vP k 0)]) (fun x k=>[(bX k #[vI x.1.1.slip.num,vI x.1.1.slip.hour,vI x.1.1.slip.kind,vI x.1.1.slip.place,vI x.1.1.slip.to,vI x.1.1.slip.sort,.bool x.1.1.slip.soil,vI x.1.1.slip.amt,vI x.1.1.gap,.bool x.1.1.below,vS x.2.1 x.1.2.length x.2.2] 105)])
  (by kernel_rfl) rfl (by kernel_rfl) (fun _=>rfl) (by kernel_rfl) (gaps1_iter _ j4 c9 i2 _ _ _ L b2 b0 hg) (fun xs I J M _ h=>h) (by simpa only [AA,CA,NA] using (PC _ (((PC _ (PS _ _ _)).trans (PS _ _ _)).trans (PC _ (PS _ _ _))))) ⟨_,_,rfl,i1⟩ ⟨rfl,fun q hq=>by cases hq⟩ ?_ ?_ ?_ ?_
 ·intro Lq x I1 M1;refine OL (l':=[(3,vP b3 0),(4,vP b5 0),(5,vP b7 0),(33,.agg #[vI x.1.1.slip.num,vI x.1.1.slip.hour,vI x.1.1.slip.kind,vI x.1.1.slip.place,vI x.1.1.slip.to,vI x.1.1.slip.sort,.bool x.1.1.slip.soil,vI x.1.1.slip.amt,vI x.1.1.gap,.bool x.1.1.below,vS x.2.1 x.1.2.length x.2.2])]) su (rr (sS (sal 8 105 #[vI 0,vI 0,vI 0,vI 0,vI 0,vI 0,.bool false,vI 0,vI 0,.bool false,vN] (fun i3=>(sS (ss 0 0 i3 [vI x.1.1.slip.num,vI x.1.1.slip.hour,vI x.1.1.slip.kind,vI x.1.1.slip.place,vI x.1.1.slip.to,vI x.1.1.slip.sort,.bool x.1.1.slip.soil,vI x.1.1.slip.amt,vI x.1.1.gap,.bool x.1.1.below,vS x.2.1 x.1.2.length x.2.2] [vI x.1.1.slip.num,vI x.1.1.slip.hour,vI x.1.1.slip.kind,vI x.1.1.slip.place,vI x.1.1.slip.to,vI x.1.1.slip.sort,.bool x.1.1.slip.soil,vI x.1.1.slip.amt,vI x.1.1.gap,.bool x.1.1.below,vS x.2.1 x.1.2.length x.2.2] (_::_) (cs:=[_,_,_,_,_,_,_,_,_,_,_]) rfl rfl (ee ?_)))))));exact AO (fun a w hS hD hW=>⟨i3,hS.sub su,hD,hW⟩)
 ·intro Lq x k xs I1 Mr1 M1 F1 hpre hle1 hR1 hC1;replace a8:=hle1.blk _ _ a8;replace a7:=hle1.blk _ _ a7;replace b0:=hle1.blk _ _ b0;obtain ⟨rfl,d8⟩:=hC1;refine rmA (M':=((bX k #[vI x.1.1.slip.num,vI x.1.1.slip.hour,vI x.1.1.slip.kind,vI x.1.1.slip.place,vI x.1.1.slip.to,vI x.1.1.slip.sort,.bool x.1.1.slip.soil,vI x.1.1.slip.amt,vI x.1.1.gap,.bool x.1.1.below,vS x.2.1 x.1.2.length x.2.2] 105)::(Mr1++(bX b3 #[vI n] 3)::(bX b5 #[vN] 33)::(bX b7 #[vI 0] 31)::F1))) ?_;refine rpm (M':=((bX k #[vI x.1.1.slip.num,vI x.1.1.slip.hour,vI x.1.1.slip.kind,vI x.1.1.slip.place,vI x.1.1.slip.to,vI x.1.1.slip.sort,.bool x.1.1.slip.soil,vI x.1.1.slip.amt,vI x.1.1.gap,.bool x.1.1.below,vS x.2.1 x.1.2.length x.2.2] 105)::(bX b3 #[vI n] 3)::(bX b5 #[vN] 33)::(bX b7 #[vI 0] 31)::(Mr1++F1))) (PC _ (PW (PW PM))) (rb 2 (rqr (sp 3 [(36,vP k 0),(35,vP k 0),(34,vP k 0)] (sd (dlb 37 0 0 k (vI x.1.1.slip.num)) (sd (dlb 38 1 0 b3 (vI n)) (sp 1 [(39,.bool (cmp .eql x.1.1.slip.num n))] (se (rc 39 rfl (fun h4=>?_) (fun h4=>?_)))))))))
  ·
   have g6:=h4;have h4:=BQ h4;refine rqr (sp 1 [(40,vP k 10)] (sd (dlb 41 0 10 k (vS x.2.1 x.1.2.length x.2.2)) (sS (ss 2 0 b5 [vS x.2.1 x.1.2.length x.2.2] [vS x.2.1 x.1.2.length x.2.2] (_::_::_::_::_) (cs:=[_]) rfl rfl (sS (ss 3 0 b7 [vI 0] [vI 0] (_::_::_::_::_) (cs:=[_]) rfl rfl (se (BB (RB (ppm (M':=((bX k #[vI x.1.1.slip.num,vI x.1.1.slip.hour,vI x.1.1.slip.kind,vI x.1.1.slip.place,vI x.1.1.slip.to,vI x.1.1.slip.sort,.bool x.1.1.slip.soil,vI x.1.1.slip.amt,vI x.1.1.gap,.bool x.1.1.below,vS x.2.1 x.1.2.length x.2.2] 105)::(Mr1++(bX b3 #[vI n] 3)::(bX b5 #[vS x.2.1 x.1.2.length x.2.2] 33)::(bX b7 #[vI 0] 31)::F1))) (PC _ (PU (PU PM.symm))) ?_))))))))));refine MF (M':=((bX b3 #[vI n] 3)::(bX b5 #[vS x.2.1 x.1.2.length x.2.2] 33)::(bX b7 #[vI 0] 31)::[])) (IR _) ?_ (TC _ (TT (TR _) (TB _ _)));exact ⟨rfl,_,_,rfl,hR1,lackAt_hit hpre d8 h4⟩
  have g6:=h4;have h4:=BV h4;refine AM (NB (ppm (M':=((bX k #[vI x.1.1.slip.num,vI x.1.1.slip.hour,vI x.1.1.slip.kind,vI x.1.1.slip.place,vI x.1.1.slip.to,vI x.1.1.slip.sort,.bool x.1.1.slip.soil,vI x.1.1.slip.amt,vI x.1.1.gap,.bool x.1.1.below,vS x.2.1 x.1.2.length x.2.2] 105)::(Mr1++(bX b3 #[vI n] 3)::(bX b5 #[vN] 33)::(bX b7 #[vI 0] 31)::F1))) (PC _ (PU (PU PM.symm))) ?_));refine FO (M':=(Mr1++((bX b3 #[vI n] 3)::(bX b5 #[vN] 33)::(bX b7 #[vI 0] 31)::[]))) (IR _) ?_ (by simp only [AA,NA,CA];exact (TC _ (TR _)));exact ⟨_,rfl,rfl,ne_snoc (p:=fun q:EvH=>q.1.slip.num≠n) d8 h4⟩
 ·intro D I2 Mr2 M2 hle2 hC2;replace a8:=hle2.blk _ _ a8;replace a7:=hle2.blk _ _ a7;replace b0:=hle2.blk _ _ b0;obtain ⟨rfl,d8⟩:=hC2;refine MX (M':=((D,Obj.deferred (some []))::(Mr2++(bX b3 #[vI n] 3)::(bX b5 #[vN] 33)::(bX b7 #[vI 0] 31)::(bX b1 (AQ L (vS a2 L.start.length a3) (vS a4 L.keeps.length a5) (vS a0 L.slips.length a1)) 26)::F))) (fun w h=>by simpa only [AA,CA,NA] using h) (ppm (M':=((D,Obj.deferred (some []))::(bX b3 #[vI n] 3)::(bX b5 #[vN] 33)::(bX b7 #[vI 0] 31)::(bX b1 (AQ L (vS a2 L.start.length a3) (vS a4 L.keeps.length a5) (vS a0 L.slips.length a1)) 26)::(Mr2++F))) (PC _ (PW (PW (PW PM)))) (NB (NX (rqr (sS (ss 2 0 b5 [vN] [vN] (_::_::_::_::_::_) (cs:=[_]) rfl rfl (sS (ss 3 0 b7 [vI 11] [vI 11] (_::_::_::_::_::_) (cs:=[_]) rfl rfl (se (BB ?_))))))))));have hE:=holdersE_5 (L:=L) (n:=n) hz d0 h3 (lackAt_none d8);refine EC (R:=((bX b3 #[vI n] 3)::(bX b5 #[vN] 33)::(bX b7 #[vI 11] 31)::(bX b1 (AQ L (vS a2 L.start.length a3) (vS a4 L.keeps.length a5) (vS a0 L.slips.length a1)) 26)::(Mr2++F))) [D] (.inl rfl) (PR _) (MZ (t:=4) (T:=33) (n:=1) (u:=5) (U:=31) (n2:=1) [] (by kernel_rfl) rfl (by kernel_rfl) rfl (snm [vN] b5 33) (.inr ⟨by kernel_rfl,rfl⟩) rfl (by kernel_rfl) rfl (snm [vI 11] b7 31) (.inr ⟨by kernel_rfl,rfl⟩) (TC _ (TC _ (TC _ (TC _ (TT (TR _) (TB _ _)))))) (IT (IT (IT a6 b6) a9) hle2) ?_);exact ⟨_,(by rw [hE]),rfl,((show []=(BZ L n).1 from by rw [hE])▸(IsSl.nil _))⟩
 intro D c xs I2 M2 hle2 hS2;replace a8:=hle2.blk _ _ a8;replace a7:=hle2.blk _ _ a7;replace b0:=hle2.blk _ _ b0;obtain ⟨rfl,hv,hl,rfl,c7,i4⟩:=hS2;obtain ⟨i5,i7,i6,j1,i8,i9,j0,j2⟩:=id c7;refine rmA (M':=((D,Obj.deferred (some []))::(bX b3 #[vI n] 3)::(bX b5 #[hv] 33)::(bX b7 #[vI 0] 31)::(bX b1 (AQ L (vS a2 L.start.length a3) (vS a4 L.keeps.length a5) (vS a0 L.slips.length a1)) 26)::F)) (rnm ?_);refine run_ret rfl (RB (RP ?_));refine EC (R:=((bX b3 #[vI n] 3)::(bX b5 #[hv] 33)::(bX b7 #[vI 0] 31)::(bX b1 (AQ L (vS a2 L.start.length a3) (vS a4 L.keeps.length a5) (vS a0 L.slips.length a1)) 26)::F)) [D] (.inl rfl) (PR _) (MZ (t:=4) (T:=33) (n:=1) (u:=5) (U:=31) (n2:=1) [] (by kernel_rfl) rfl (by kernel_rfl) rfl (snm [hv] b5 33) (.inr ⟨by kernel_rfl,rfl⟩) rfl (by kernel_rfl) rfl (snm [vI 0] b7 31) (.inr ⟨by kernel_rfl,rfl⟩) (TC _ (TC _ (TC _ (TC _ (TR _))))) (IT (IT (IT a6 b6) a9) hle2) ?_);exact ⟨_,(by rw [holdersE_4 hz d0 h3 i4]),rfl,(show DB _ _ (BZ L n).1 from by rw [holdersE_4 hz d0 h3 i4];exact c7)⟩
noncomputable def c_right:=cod Tryz.f55
theorem right_ct (I:Imm) (l:Value) (L:Lin) (l_f:IsLin I l L) (hgs:GoodS L.slips) (hw:Within 1000 (EH L)):Ct Tryz.prog 55 #[l] I ([]) (fun v I' M'=>v=.bool (rightE L)∧M'=[]):=by
 obtain ⟨l1,l2,l3,rfl,c7,c8,c9⟩:=id l_f;obtain ⟨a1,a2,h7,i0,h0,rfl,h8,h9,i1,i2⟩:=id c7;obtain ⟨a3,a4,i3,i6,rfl,i4,i5,i7⟩:=id c8;obtain ⟨a5,a6,i8,j1,rfl,i9,j0,j2⟩:=id c9;refine JP (fn:=Tryz.f55) (args:=[_]) (N:=15) Tryz.func55 rfl (by kernel_rfl) (Nat.le_of_ble_eq_true rfl) (fun F=>?_);show Run _ _ (c_right []) _ _ [(0,_)] _ _;refine rnm (rqr ?_);refine sS (sb 1 26 (AQ L (vS a1 L.start.length a2) (vS a3 L.keeps.length a4) (vS a5 L.slips.length a6)) (fun b1=>(sS (sal 2 4 #[.bool false] (fun b3=>(se (rq (rqr (sd (dnb 4 1 0 b1 (DE L (vS a1 L.start.length a2) (vS a3 L.keeps.length a4) (vS a5 L.slips.length a6))) (sS (sc (some 5) (RD _ _ L (CN c7 c8 c9) :) (.refl _) (fun j7 I5 j5 c4 h6=>?_))))))))))));obtain ⟨h3,j9,k0,k1,g4,f4,f3,g9,g8,g1,g2⟩:=h6;rw [g9,g8];clear g9 g8;have b2:=g1;obtain ⟨a0,b6,b8,c0⟩:=id b2;obtain ⟨d1,d3,d2,d6,d0,rfl,d4,d5,d7,d8⟩:=id b6;obtain ⟨d9,e1,e0,e4,rfl,e2,e3,e5⟩:=id b8;obtain ⟨e6,e8,e7,f1,rfl,e9,f0,f2⟩:=id c0;refine nm ?_;refine sS (sc (some 6) (MQ _ h3 :) (.refl _) (fun j8 k2 j6 b0 f7=>?_));obtain ⟨c1,c2,j4,g7,g6,c6,c5,a7,a8,a9,g3⟩:=f7;rw [c6,c5];clear c6 c5;replace b2:=b2.mono b0;replace a0:=b0.blk _ _ a0;refine nm (se (rb 0 ?_))
 refine GV (α:=Sh.Event) (g:=(.tmp 6)) (ps:=#[7]) (assign:=c_right [1,0,1,0,0]) (body:=c_right [1,0,1,0,1]) (gf:=126) (cv:=[vP c1 0,vP c2 0]) (enc:=encEv) (seq:=(evs (EH L) (AF AC L.slips))) (R:=fun xs _ M=>EvR g4 (EH L) (AF AC L.slips) xs.length M) (Mr:=[(g4,Obj.map f4 f3)]) (M0:=((bX b3 #[.bool false] 4)::[])) (F0:=((bX b1 (AQ L (vS a1 L.start.length a2) (vS a3 L.keeps.length a4) (vS a5 L.slips.length a6)) 26)::F))
  (fun xs I M=>M=[(bX b3 #[.bool false] 4)]∧∀ e∈xs,evOk e=true) (fun c xs I M=>c=Code.ret∧M=[(bX b3 #[.bool false] 4)]∧rightE L=false) (fun x k=>[(2,vP b3 0),(3,vP k 0)]) (fun x k=>[(bX k (EW x) 90)])
  (by kernel_rfl) rfl (by kernel_rfl) (fun _=>rfl) (by kernel_rfl) (II _ h3 c1 c2 j4 g4 _ _ _ _ _ L (EH L) b2 a7 a8 a9 g3 hgs hw) (fun xs I J M _ h=>h) (PR _) ⟨_,_,rfl,g2⟩ ⟨rfl,fun e he=>by cases he⟩ ?_ ?_ ?_ ?_
 ·intro Lq x I1 M1;refine OL (l':=[(2,vP b3 0),(7,.agg (EW x))]) su (rr (sS (sal 3 90 #[vI 0,vI 0,vI 0,vI 0,vI 0,vI 0,.bool false,vI 0,vI 0,.bool false] (fun g5=>(sS (ss 0 0 g5 (evntL x) (evntL x) (_::_) (cs:=[_,_,_,_,_,_,_,_,_,_]) rfl rfl (ee ?_)))))));exact AO (fun a w hS hD hW=>⟨g5,hS.sub su,hD,hW⟩)
 ·intro Lq x k xs I1 Mr1 M1 F1 hpre hle1 hR1 hC1;replace a0:=hle1.blk _ _ a0;replace a7:=hle1.blk _ _ a7;replace a8:=hle1.blk _ _ a8;replace a9:=hle1.blk _ _ a9;obtain ⟨rfl,f6⟩:=hC1;refine rmA (M':=((bX k (EW x) 90)::(Mr1++(bX b3 #[.bool false] 4)::F1))) ?_;refine rpm (M':=((bX k (EW x) 90)::(bX b3 #[.bool false] 4)::(Mr1++F1))) (PC _ PM) (rb 1 (rq ?_));refine DS (fun a w=>SE 15 [(2,vP b3 0),(14,.bool ((!(cmp .eql x.gap 0))||(x.below)))] I1 ((bX k (EW x) 90)::(bX b3 #[.bool false] 4)::(Mr1++F1)) a w) ?_ ?_
  ·
   refine rr (sp 1 [(8,vP k 8)] (sd (dlb 9 0 8 k (vI x.gap)) (sp 2 [(11,.bool (!(cmp .eql x.gap 0)))] ?_)));refine BU 11 rfl (fun h1=>?_) (fun h1=>?_)
   ·
    have b4:=h1;have b4:=BV (BM b4);refine sp 3 [(14,.bool true)] (ee ?_);refine AO (fun a w hS hD hW=>⟨hS.sub (.cons 2 rfl (.consE 14 rfl (congrArg Value.bool (by simp only [h1,kk])) (.nil _))),hD,hW⟩)
   have b4:=h1;have b4:=BQ (BE b4);refine sp 1 [(12,vP k 9)] (sd (dlb 13 0 9 k (.bool x.below)) (sp 1 [(14,.bool x.below)] (ee ?_)));refine AO (fun a w hS hD hW=>⟨hS.sub (.cons 2 rfl (.consE 14 rfl (congrArg Value.bool (by simp only [h1,kk])) (.nil _))),hD,hW⟩)
  rintro a w ⟨hS,hD,hW⟩
  refine AW hS hD hW ?_;refine rc 14 rfl (fun h2=>?_) (fun h2=>?_)
  ·
   have f5:=h2;refine rqr (sS (ss 1 0 b3 [.bool false] [.bool false] (_::_::_) (cs:=[_]) rfl rfl (se (BB (RB (ppm (M':=((bX k (EW x) 90)::(Mr1++(bX b3 #[.bool false] 4)::F1))) (PC _ PM.symm) ?_))))));refine MF (M':=((bX b3 #[.bool false] 4)::[])) (IR _) ?_ (TC _ (TT (TR _) (TB _ _)));exact ⟨rfl,rfl,rightE_no hpre (by unfold evOk;cases hq:cmp .eql x.gap 0 <;> simp_all)⟩
  have f5:=h2;obtain ⟨c3,h4⟩:=or_f h2;have c3:=BQ (BE c3);refine AM (NB (ppm (M':=((bX k (EW x) 90)::(Mr1++(bX b3 #[.bool false] 4)::F1))) (PC _ PM.symm) ?_));refine FO (M':=(Mr1++((bX b3 #[.bool false] 4)::[]))) (IR _) ?_ (by simp only [AA,NA,CA];exact (TC _ (TR _)));exact ⟨Mr1,_,rfl,hR1,⟨rfl,ne_snoc (p:=fun e=>evOk e=true) f6 (by unfold evOk;cases hq:cmp .eql x.gap 0 <;> simp_all)⟩⟩
 ·intro D I2 Mr2 M2 hle2 hR2 hC2;replace a0:=hle2.blk _ _ a0;replace a7:=hle2.blk _ _ a7;replace a8:=hle2.blk _ _ a8;replace a9:=hle2.blk _ _ a9;obtain ⟨rfl,f6⟩:=hC2;refine MX (M':=((D,Obj.deferred (some []))::(Mr2++(bX b3 #[.bool false] 4)::(bX b1 (AQ L (vS a1 L.start.length a2) (vS a3 L.keeps.length a4) (vS a5 L.slips.length a6)) 26)::F))) (fun w h=>by simpa only [AA,CA,NA] using h) (ppm (M':=((D,Obj.deferred (some []))::(bX b3 #[.bool false] 4)::(bX b1 (AQ L (vS a1 L.start.length a2) (vS a3 L.keeps.length a4) (vS a5 L.slips.length a6)) 26)::(Mr2++F))) (PC _ (PW PM)) (NB (NX (rqr (sS (ss 1 0 b3 [.bool true] [.bool true] (_::_::_::_) (cs:=[_]) rfl rfl (se (BB ?_))))))));refine EC (R:=((bX b3 #[.bool true] 4)::(bX b1 (AQ L (vS a1 L.start.length a2) (vS a3 L.keeps.length a4) (vS a5 L.slips.length a6)) 26)::(Mr2++F))) [D] (.inl rfl) (PR _) (IV (t:=2) (T:=4) (n:=1) [] (by kernel_rfl) rfl (by kernel_rfl) rfl (snm [.bool true] b3 4) (.inr ⟨by kernel_rfl,rfl⟩) (TC _ (TC _ (TT (TR _) (TB _ _)))) (IT (IT c4 b0) hle2) ?_);exact ⟨congrArg Value.bool (rightE_yes f6).symm,rfl⟩
 intro D c xs I2 M2 hle2 hS2;replace a0:=hle2.blk _ _ a0;replace a7:=hle2.blk _ _ a7;replace a8:=hle2.blk _ _ a8;replace a9:=hle2.blk _ _ a9;obtain ⟨rfl,rfl,h5⟩:=hS2;refine rmA (M':=((D,Obj.deferred (some []))::(bX b3 #[.bool false] 4)::(bX b1 (AQ L (vS a1 L.start.length a2) (vS a3 L.keeps.length a4) (vS a5 L.slips.length a6)) 26)::F)) (rnm ?_);refine run_ret rfl (RB (RP ?_));refine EC (R:=((bX b3 #[.bool false] 4)::(bX b1 (AQ L (vS a1 L.start.length a2) (vS a3 L.keeps.length a4) (vS a5 L.slips.length a6)) 26)::F)) [D] (.inl rfl) (PR _) (IV (t:=2) (T:=4) (n:=1) [] (by kernel_rfl) rfl (by kernel_rfl) rfl (snm [.bool false] b3 4) (.inr ⟨by kernel_rfl,rfl⟩) (TC _ (TC _ (TR _))) (IT (IT c4 b0) hle2) ?_);exact ⟨congrArg Value.bool h5.symm,rfl⟩
noncomputable def c_wo1:=cod Tryz.f99
theorem wo1_ct (I:Imm) (x:Slip) (v:Value) (ns:List Int) (b:Nat) (v_f:DB I v ns) (hb:I.blk b=some (Obj.cells #[v] 33 (0,0))):CtV Tryz.prog 99 #[.agg #[vI x.num,vI x.hour,vI x.kind,vI x.place,vI x.to,vI x.sort,.bool x.soil,vI x.amt],vP b 0] I (.bool (decide (x.num∈ns))):=by
 obtain ⟨a0,a1,a3,a6,rfl,a4,a5,a7⟩:=id v_f;refine fr (args:=[_,_]) (N:=8) Tryz.func99 (fun F=>?_);show Run _ _ (c_wo1 []) _ _ [(0,_),(1,_)] _ _;refine rnm (rqr ?_);refine sS (sb 2 29 (AY x) (fun b1=>(sp 1 [(3,.bool false)] (sn (sd (dld 4 1 33 (vS a0 ns.length a1) rfl (AR hb rfl)) (sp 1 [(5,vP b1 0)] (sd (dlb 6 0 0 b1 (vI x.num)) (sd (dc 7 (fun I' hI=>(OD I' _ _ x.num (v_f.mono hI) :))) (sp 1 [(3,.bool (decide (x.num∈ns)))] (se (BB (GU 3 [] rfl (TC _ (TR _)) (IR _) ?_))))))))))));exact ⟨rfl,rfl⟩
noncomputable def c_without:=cod Tryz.f56
theorem without_ct (I:Imm) (l:Value) (L:Lin) (ns:Value) (N:List Int) (l_f:IsLin I l L) (ns_f:DB I ns N) (hl8:L.slips.length≤8):Ct Tryz.prog 56 #[l,ns] I ([]) (fun v I' M'=>∃ u:Value,v=u∧M'=[]∧IsLin I' u (woL L N)):=by
 obtain ⟨l1,l2,l3,rfl,a4,a5,c6⟩:=id l_f;obtain ⟨a0,a1,e9,f2,e3,rfl,f0,f1,f3,f4⟩:=id a4;obtain ⟨a2,a3,f5,f8,rfl,f6,f7,f9⟩:=id a5;obtain ⟨a8,a9,g0,g3,rfl,g1,g2,g4⟩:=id c6;obtain ⟨c0,c1,g6,g9,rfl,g7,g8,h0⟩:=id ns_f;refine fr (args:=[_,_]) (N:=12) Tryz.func56 (fun F=>?_);show Run _ _ (c_without []) _ _ [(0,_),(1,_)] _ _;refine rnm ?_;have h6:(woS L N).length≤8:=Nat.le_trans (List.length_filter_le _ _) hl8;refine rqr (sS (sb 2 26 (AQ L (vS a0 L.start.length a1) (vS a2 L.keeps.length a3) (vS a8 L.slips.length a9)) (fun b1=>(sS (sb 3 33 #[vS c0 N.length c1] (fun b3=>(sS (sal 4 26 AZ (fun b5=>(sn (sp 1 [(5,vP b1 4)] (sd (dlb 6 2 4 b1 (vS a8 L.slips.length a9)) (sS (sc (some 7) (KJ _ _ _ c6 (by omega) :) (.refl _) (fun h2 I7 h1 b7 e8=>?_)))))))))))))));obtain ⟨h7,c2,c5,c4,c7⟩:=e8;rw [c5,c4];clear c5 c4;replace a4:=a4.mono b7;replace a5:=a5.mono b7;replace ns_f:=ns_f.mono b7;obtain ⟨c8,c9,rfl,e5⟩:=c7.shape;refine pm (M':=((bX b5 AZ 26)::(bX b3 #[vS c0 N.length c1] 33)::(bX b1 (AQ L (vS a0 L.start.length a1) (vS a2 L.keeps.length a3) (vS a8 L.slips.length a9)) 26)::(c2++F))) (PW (PW PM)) ?_;refine QD (b:=b3) (o:=Obj.cells #[vS c0 N.length c1] 33 (0,0)) (M0:=((bX b5 AZ 26)::(bX b1 (AQ L (vS a0 L.start.length a1) (vS a2 L.keeps.length a3) (vS a8 L.slips.length a9)) 26)::(c2++F))) (PS _ _ _) (fun e6 b0 b6=>?_);replace a4:=a4.mono b0;replace a5:=a5.mono b0;replace ns_f:=ns_f.mono b0;refine sp 1 [(8,.func (.func 99) #[] #[vP b3 0])] ?_;have e7:=DelSlip_ct e6 (vS c8 L.slips.length c9) L.slips c2 99 [vP b3 0] (fun x=>decide (x.num∈N)) c7 (by kernel_rfl) (fun J hJ x=>wo1_ct J x _ N b3 (ns_f.mono hJ) (hJ.blk _ _ b6)) (by omega);refine sS (KR (d:=some 9) (f:=(.func 90)) (fid:=90) (args:=#[(.tmp 7),(.tmp 8)]) (tys:=#[24,86]) (cv:=[]) (F:=((bX b5 AZ 26)::(bX b1 (AQ L (vS a0 L.start.length a1) (vS a2 L.keeps.length a3) (vS a8 L.slips.length a9)) 26)::F)) (ty:=24) (gd:=none) (by kernel_rfl) rfl rfl rfl (by kernel_rfl) rfl e7 (PU PM.symm) (fun h3 ID e4 b8 b9=>?_));replace b9:Own 29 8 AV h3 (woS L N) e4:=b9;replace a4:=a4.mono b8;replace a5:=a5.mono b8;replace b6:=b8.blk _ _ b6;obtain ⟨a6,a7,rfl,h4⟩:=b9.shape;refine pm (M':=((bX b5 AZ 26)::(bX b1 (AQ L (vS a0 L.start.length a1) (vS a2 L.keeps.length a3) (vS a8 L.slips.length a9)) 26)::(e4++F))) (PW PM) (sp 1 [(10,vP b1 4)] (sS (ss 1 4 b1 [vS a6 (woS L N).length a7] (DE L (vS a0 L.start.length a1) (vS a2 L.keeps.length a3) (vS a6 (woS L N).length a7)) (_::_::_) (cs:=[_,_,_,_,_]) rfl rfl (se (rq ?_)))));refine DL (B:=((bX b5 AZ 26)::(bX b1 (AQ L (vS a0 L.start.length a1) (vS a2 L.keeps.length a3) (vS a6 (woS L N).length a7)) 26)::F)) AB b9 (by first | omega | (simp only [LS,LC,LN,LA,LK,LD] <;> omega) | decide) (PU PM.symm) (PR _) (fun h5 b2 b4=>?_);replace a4:=a4.mono b2;replace a5:=a5.mono b2;replace b6:=b2.blk _ _ b6;obtain ⟨d1,d3,d2,d6,c3,d4,d5,d7⟩:=id b4;cases c3;refine rr (sd (dnb 11 1 0 b1 (DE L (vS a0 L.start.length a1) (vS a2 L.keeps.length a3) (vS a6 (woS L N).length a7))) (sS (ss 0 0 b5 (DE L (vS a0 L.start.length a1) (vS a2 L.keeps.length a3) (vS a6 (woS L N).length a7)) (DE L (vS a0 L.start.length a1) (vS a2 L.keeps.length a3) (vS a6 (woS L N).length a7)) (_::_::_) (cs:=[_,_,_,_,_]) rfl rfl (se (BB (IV (t:=4) (T:=26) (n:=5) [] (by kernel_rfl) rfl (by kernel_rfl) rfl (DC (n:=5) (cs:=(AQ L (vS a0 L.start.length a1) (vS a2 L.keeps.length a3) (vS a6 (woS L N).length a7))) (b:=b5) (off:=0) (T:=26) (fz:=(0,0)) (vs:=(DE L (vS a0 L.start.length a1) (vS a2 L.keeps.length a3) (vS a6 (woS L N).length a7))) (by simp) rfl) (.inl ⟨by kernel_rfl,rfl⟩) (TC _ (TC _ (TR _))) (IT (IT (IT b7 b0) b8) b2) ?_))))));exact ⟨_,rfl,rfl,(CN a4 a5 b4)⟩
def WrongAt (m:Nat):Prop:=∀ (I:Imm) (v:Value) (begun:List Int) (j:Nat) (jj mm:Int) (hj:jj=(j:Int)) (hm:mm=(m:Int)) (b3 b4 b5:Nat) (v1 v2 v3 v4:Value) (L:Lin) (all:List Int) (v_f:DB I v begun) (hb3:I.blk b3=some (Obj.cells #[vI L.places,vI L.sorts,v1,v2,v3] 26 (0,0))) (v1_f:IsRows I v1 L.start) (v2_f:GK I v2 L.keeps) (v3_f:HM I v3 L.slips) (hb4:I.blk b4=some (Obj.cells #[v4] 33 (0,0))) (v4_f:DB I v4 all) (hb5:I.blk b5=some (Obj.cells #[.func (.func 54) #[] #[vP b3 0,vP b4 0,vP b5 0]] 110 (0,0))) (hg:GoodL L) (hal:all.length≤8) (hbg:begun.length+m≤10),Ct Tryz.prog 54 #[v,vI jj,vI mm,vP b3 0,vP b4 0,vP b5 0] I [] (fun u I' M'=>∃ uw:Value,u=.tuple #[uw,.bool (GL L all m begun j).2]∧M'=[]∧DB I' uw (GL L all m begun j).1)
noncomputable def c_Wrong1:=cod Tryz.f54
set_option maxHeartbeats 1000000 in
theorem wrong_of (m:Nat) (ihm:∀ q,m=q+1→WrongAt q) (I:Imm) (v:Value) (begun:List Int) (j:Nat) (jj mm:Int) (hj:jj=(j:Int)) (hm:mm=(m:Int)) (b3 b4 b5:Nat) (v1 v2 v3 v4:Value) (L:Lin) (all:List Int) (v_f:DB I v begun) (hb3:I.blk b3=some (Obj.cells #[vI L.places,vI L.sorts,v1,v2,v3] 26 (0,0))) (v1_f:IsRows I v1 L.start) (v2_f:GK I v2 L.keeps) (v3_f:HM I v3 L.slips) (hb4:I.blk b4=some (Obj.cells #[v4] 33 (0,0))) (v4_f:DB I v4 all) (hb5:I.blk b5=some (Obj.cells #[.func (.func 54) #[] #[vP b3 0,vP b4 0,vP b5 0]] 110 (0,0))) (hg:GoodL L) (hal:all.length≤8) (hbg:begun.length+m≤10):Ct Tryz.prog 54 #[v,vI jj,vI mm,vP b3 0,vP b4 0,vP b5 0] I [] (fun u I' M'=>∃ uw:Value,u=.tuple #[uw,.bool (GL L all m begun j).2]∧M'=[]∧DB I' uw (GL L all m begun j).1):=by
 subst hj hm;obtain ⟨b2,b6,o8,p1,n6,o9,p0,p2⟩:=id v_f;obtain ⟨g0,g1,l6,l9,j8,g2,l7,l8,m0,m1⟩:=id v1_f;obtain ⟨g3,g4,m2,m5,g5,m3,m4,m6⟩:=id v2_f;obtain ⟨g6,g7,m7,n0,g8,m8,m9,n1⟩:=id v3_f;obtain ⟨d7,d8,n2,n5,g9,n3,n4,a5⟩:=id v4_f;subst n6;subst g2;subst g5;subst g8;subst g9;refine fr (args:=[_,_,_,_,_,_]) (N:=47) Tryz.func54 (fun F=>?_);show Run _ _ (c_Wrong1 []) _ _ [(0,_),(1,_),(2,_),(3,_),(4,_),(5,_)] _ _;refine rnm ?_;have o0:=hg.wo (ns:=begun);have n9:=hg.woW (ns:=begun);have k4:=hg.slips;refine rqr (sp 2 [(10,.bool false),(9,vN)] (se (rq (rqr (sp 2 [(15,.bool (cmp .eql ↑m 0))] (se (rc 15 rfl (fun h1=>?_) (fun h1=>?_))))))))
 ·
  have e7:=h1;have h1:=BQ h1;refine rqr (sp 1 [(16,vS b2 begun.length b6)] (sd (dln 17 3 26 (DE L (vS g0 L.start.length g1) (vS g3 L.keeps.length g4) (vS g6 L.slips.length g7)) rfl (DX (n:=5) hb3 rfl)) (sp 1 [(18,vS b2 begun.length b6)] ?_)));have b7:=without_ct I _ L _ _ (CN v1_f v2_f v3_f) v_f (by assumption);refine sS (sc (some 19) (b7 :) (.refl _) (fun o2 I1 o1 a3 k3=>?_));obtain ⟨u6,h4,h0,k6⟩:=k3;rw [h4,h0];clear h4 h0;replace hb3:=a3.blk _ _ hb3;replace hb4:=a3.blk _ _ hb4;replace hb5:=a3.blk _ _ hb5;replace v_f:=v_f.mono a3;replace v1_f:=v1_f.mono a3;replace v2_f:=v2_f.mono a3;replace v3_f:=v3_f.mono a3;replace v4_f:=v4_f.mono a3;replace a5:=a5.mono a3;have d5:=k6;obtain ⟨o4,o5,o6,rfl,d0,d2,d4⟩:=id d5;obtain ⟨h6,h8,h7,i1,f7,rfl,h9,i0,i2,i3⟩:=id d0;obtain ⟨i4,i6,i5,i9,rfl,i7,i8,j0⟩:=id d2;obtain ⟨j1,j3,j2,j6,rfl,j4,j5,j7⟩:=id d4;refine nm ?_;have b8:=right_ct I1 _ (woL L begun) d5 (by assumption) (by assumption);refine sS (sc (some 20) (b8 :) (.refl _) (fun k9 n7 k7 a0 f1=>?_));obtain ⟨c3,c0⟩:=f1;rw [c3,c0];clear c3 c0;replace hb3:=a0.blk _ _ hb3;replace hb4:=a0.blk _ _ hb4;replace hb5:=a0.blk _ _ hb5;replace v_f:=v_f.mono a0;replace v1_f:=v1_f.mono a0;replace v2_f:=v2_f.mono a0;replace v3_f:=v3_f.mono a0;replace v4_f:=v4_f.mono a0;replace a5:=a5.mono a0;refine nm ?_;refine sp 2 [(10,.bool (rightE (woL L begun))),(9,vS b2 begun.length b6)] (se (BB (RP (rt2 9 10 rfl rfl (IT a3 a0) ?_))));have k2:m=0:=by omega
  subst k2;exact ⟨_,rfl,rfl,v_f⟩
 have e7:=h1;have h1:=BV h1;refine AM (NX (rq (rq ?_)));obtain ⟨q,rfl⟩:∃ q,m=q+1:=⟨m-1,by omega⟩;have ih:=ihm q rfl;refine rr (sp 2 [(11,vI ↑j)] (se (rb 0 ?_)));refine rl (fun mz a w=>∃ J0:Imm,∃ i:Nat,(I.le J0)∧(GL L all (q+1) begun j=JW (fun i=>GL L all q (begun++[all.getD i 0]) (i+1)) i (all.length-i))∧SD 47 [(11,vI ↑i),(0,vS b2 begun.length b6),(2,vI (↑(q+1))),(4,vP b4 0),(5,vP b5 0)] J0 F a w (mz=all.length-i)) ?_ ?_
 ·intro a w hS hD hW;exact ⟨_,I,j,IR _,rfl,hS.sub su,hD,hW,rfl⟩
 rintro mz a w ⟨J0,i,hJ0,f0,hS,hD,hW,rfl⟩
 refine AW hS hD hW ?_;replace hb3:=hJ0.blk _ _ hb3;replace hb4:=hJ0.blk _ _ hb4;replace hb5:=hJ0.blk _ _ hb5;replace v_f:=v_f.mono hJ0;replace v1_f:=v1_f.mono hJ0;replace v2_f:=v2_f.mono hJ0;replace v3_f:=v3_f.mono hJ0;replace v4_f:=v4_f.mono hJ0;replace a5:=a5.mono hJ0;refine rq (rqr (sp 1 [(22,vI ↑i)] (sd (dld 23 4 33 (vS d7 all.length d8) rfl (AR hb4 rfl)) (sp 2 [(25,.bool (cmp .lss ↑i (↑(all.length))))] (se (rc 25 rfl (fun h2=>?_) (fun h2=>?_)))))))
 ·
  have e8:=h2;have h2:=CQ h2;refine AM (NX (rq (rb 1 (rq ?_))));refine rdY (M:=([])) (F0:=F) [(35,vI (all.getD i 0))] [7] [(7,36,.bs 3 1 #[vI (all.getD i 0)])] 18 [(0,true),(1,true),(3,true),(4,true),(5,true),(6,true),(9,true),(10,true),(11,true),(12,true),(2,false),(7,false),(8,false),(13,false),(14,true),(15,true),(16,true),(17,true)] (by simp only [AA,CA,NA,List.append_nil];exact PR _) (OI (alOk_bsL (ops:=FY (c_Wrong1 [1,1,0,1,0,0,1,0,0,0])) (i:=7) (d:=36) (by kernel_rfl) rfl (by kernel_rfl) (by kernel_rfl)) JH) ?_;refine BH (dld 29 5 110 (.func (.func 54) #[] #[vP b3 0,vP b4 0,vP b5 0]) rfl (AR hb5 rfl)) ?_;refine AG (dpv 30 (vS b2 begun.length b6)) ?_;refine BH (dld 32 4 33 (vS d7 all.length d8) rfl (AR hb4 rfl)) ?_;refine BH (dpv 33 (vI ↑i)) ?_;refine BH (di 34 1 i a5.addr) ?_;refine BH (dl 35 (EM a5 i (by omega))) ?_;refine BH (dpv 38 (vI ↑i)) ?_;refine BH (da 39 ↑i 1) ?_;refine BH (dpv 40 (vI (↑(q+1)))) ?_;refine BH (dsb 41 (↑(q+1)) 1) ?_;refine EZ (Mx:=fun FX=>(FX)) rfl (fun FX=>by simp only [AA,CA,NA,List.append_nil];exact PR _) (fun FX=>?_);have b9:=RT J0 _ _ v_f (by omega);refine id (sc (some 31) (F:=(FX)) (b9 :) (PR _) (fun l0 n8 k8 a1 f2=>?_));obtain ⟨o3,b0,c4,c1,c5⟩:=f2;rw [c4,c1];clear c4 c1;replace hb3:=a1.blk _ _ hb3;replace hb4:=a1.blk _ _ hb4;replace hb5:=a1.blk _ _ hb5;replace v1_f:=v1_f.mono a1;replace v2_f:=v2_f.mono a1;replace v3_f:=v3_f.mono a1;replace v4_f:=v4_f.mono a1;obtain ⟨c6,c7,rfl,h5⟩:=c5.shape;refine HJ (M1:=(b0++[])) (by simp only [AA,CA,NA,List.append_nil];exact (PR _)) (.none (.none (.none (.none (.none (.none (.none (.none (.wt (.none .nil)))))))))) ?_;show OFPX _ _ _ _ _ _ _ _ _ _ ((31,vS c6 begun.length c7)::_) _ _;refine ofx_bs rfl (fun a9=>?_);refine EZ (Mx:=fun FX=>((bX a9 #[vI (all.getD i 0)] 3)::(b0++FX))) rfl (fun FX=>by simp only [AA,CA,NA,List.append_nil];exact PR _) (fun FX=>?_);refine stp_hk (sap (d:=37) 31 36 33 3 1 8 (vI 0) AK begun [(all.getD i 0:Int)] b0 rfl rfl c5 PM.symm (HE _) (HG 0 rfl rfl) (fun o7 d9 c2=>?_));obtain ⟨f4,f5,rfl,k5⟩:=c2.shape;refine hk_mem (M':=(d9++(bX a9 #[vI (all.getD i 0)] 3)::FX)) (fun w h=>h) ?_;refine LH (B:=((bX a9 #[vI (all.getD i 0)] 3)::FX)) 0 c2 (by first | omega | (simp only [LS,LC,LN,LA,LK,LD] <;> omega) | decide) (PR _) (PR _) (fun j9 a2 a6=>?_);replace hb3:=a2.blk _ _ hb3;replace hb4:=a2.blk _ _ hb4;replace hb5:=a2.blk _ _ hb5;replace v1_f:=v1_f.mono a2;replace v2_f:=v2_f.mono a2;replace v3_f:=v3_f.mono a2;replace v4_f:=v4_f.mono a2;obtain ⟨e0,e2,e1,e5,b1,e3,e4,e6⟩:=id a6;cases b1;refine RA ?_;refine HJ (M1:=((bX a9 #[vI (all.getD i 0)] 3)::[])) (by exact (PR _)) (.none (.none (.none (.none (.wt (.wt (.wt (.wt (.wt (.none .nil)))))))))) ?_;show OFPX _ _ _ _ _ _ _ _ _ _ ((37,vS f4 (begun++([(all.getD i 0:Int)])).length f5)::_) _ _;refine EZ (Mx:=fun FX=>((bX a9 #[vI (all.getD i 0)] 3)::FX)) rfl (fun FX=>by simp only [AA,CA,NA,List.append_nil];exact PR _) (fun FX=>?_);have k1:=ih j9 _ (begun++[all.getD i 0]) (i+1) (↑i+1) ((↑(q+1))-1) (by omega) (by omega) b3 b4 b5 _ _ _ _ L all a6 hb3 v1_f v2_f v3_f hb4 v4_f hb5 hg hal (by simp only [LA,LC,LN];omega);refine id (sc (some 42) (F:=((bX a9 #[vI (all.getD i 0)] 3)::FX)) (k1 :) (PR _) (fun _ k0 _ a4 f3=>?_));obtain ⟨uw,rfl,rfl,d6⟩:=f3;replace hb3:=a4.blk _ _ hb3;replace hb4:=a4.blk _ _ hb4;replace hb5:=a4.blk _ _ hb5;obtain ⟨a7,a8,l1,l4,rfl,l2,l3,l5⟩:=id d6;refine HJ (M1:=((bX a9 #[vI (all.getD i 0)] 3)::[])) (by exact (PR _)) (.wt (.wt (.wt (.wt (.wt (.wt (.wt (.wt (.wt (.wt .nil)))))))))) ?_;show OFPX _ _ _ _ _ _ _ _ _ _ ((42,.tuple #[vS a7 ((GL L all q (begun++[all.getD i 0]) (i+1)).1).length a8,.bool ((GL L all q (begun++[all.getD i 0]) (i+1)).2)])::_) _ _;refine AG (dpv 28 (.tuple #[vS a7 ((GL L all q (begun++[all.getD i 0]) (i+1)).1).length a8,.bool ((GL L all q (begun++[all.getD i 0]) (i+1)).2)])) ?_;refine AG (dpv 43 (vS a7 ((GL L all q (begun++[all.getD i 0]) (i+1)).1).length a8)) ?_;refine AG (dpv 44 (.bool ((GL L all q (begun++[all.getD i 0]) (i+1)).2))) ?_;refine AG (dpv 12 (vS a7 ((GL L all q (begun++[all.getD i 0]) (i+1)).1).length a8)) ?_;refine GM (BA (M':=((bX a9 #[vI (all.getD i 0)] 3)::F)) (fun w h=>by simpa only [AA,CA,NA,List.append_nil] using h) (nm ?_));refine sp 1 [(13,.bool ((GL L all q (begun++[all.getD i 0]) (i+1)).2))] (sn (sp 1 [(45,.bool ((GL L all q (begun++[all.getD i 0]) (i+1)).2))] (se (rc 45 rfl (fun h3=>?_) (fun h3=>?_)))))
  ·
   have e9:=h3;refine rqr (sp 3 [(10,.bool true),(9,vS a7 ((GL L all q (begun++[all.getD i 0]) (i+1)).1).length a8)] (se (BB (RB (RP (RP (RB (RP (rt2s 9 10 [] rfl rfl (TC _ (TR _)) (IT (IT (IT hJ0 a1) a2) a4) ?_)))))))));have hE:=f0.trans (firstW_hit (f:=(fun i=>GL L all q (begun++[all.getD i 0]) (i+1))) (by omega) h3);exact ⟨_,(by rw [hE]),rfl,(show DB _ _ (GL L all (q+1) begun j).1 from by rw [hE];exact d6)⟩
  have e9:=h3;refine AM (NB (NX (rr (sp 1 [(26,vI ↑i)] (sd (da 27 ↑i 1) (sp 1 [(11,vI (↑i+1))] (ee ?_)))))));refine AN (all.length-(i+1)) (by omega) ?_;intro a w hS hD hW;exact ⟨k0,i+1,(IT (IT (IT hJ0 a1) a2) a4),f0.trans (firstW_miss (by omega) h3),hS.sub su,hD,(hW.perm (PR _)).sub (TC _ (TR _)),rfl⟩
 have e8:=h2;have h2:=CU h2;refine CH 0 (EP (EP (EB (NX (rqr (sp 2 [(10,.bool false),(9,vN)] (se (BB (rt2 9 10 rfl rfl hJ0 ?_)))))))));have hE:=f0.trans (firstW_none (by omega));exact ⟨_,(by rw [hE]),rfl,(show DB _ _ (GL L all (q+1) begun j).1 from by rw [hE];exact IsSl.nil _)⟩
theorem wrong_all (m:Nat):WrongAt m:=by
 induction m with
 | zero=>intro I v begun j jj mm hj hm b3 b4 b5 v1 v2 v3 v4 L all v_f hb3 v1_f v2_f v3_f hb4 v4_f hb5 hg hal hbg;exact wrong_of 0 (fun m h=>by omega) I v begun j jj mm hj hm b3 b4 b5 v1 v2 v3 v4 L all v_f hb3 v1_f v2_f v3_f hb4 v4_f hb5 hg hal hbg
 | succ m ih=>intro I v begun j jj mm hj hm b3 b4 b5 v1 v2 v3 v4 L all v_f hb3 v1_f v2_f v3_f hb4 v4_f hb5 hg hal hbg;exact wrong_of (m+1) (fun q h=>(show m=q by omega)▸ih) I v begun j jj mm hj hm b3 b4 b5 v1 v2 v3 v4 L all v_f hb3 v1_f v2_f v3_f hb4 v4_f hb5 hg hal hbg
noncomputable def c_LWrong:=cod Tryz.f19
set_option maxHeartbeats 1000000 in
theorem LWrong_ct (I:Imm) (l:Value) (L:Lin) (l_f:IsLin I l L):Ct Tryz.prog 19 #[l] I ([]) (fun v I' M'=>∃ u0:Value,v=.tuple #[u0,vI ((FV L).2)]∧M'=[]∧DB I' u0 ((FV L).1)):=by
 obtain ⟨l1,l2,l3,rfl,a4,a5,a6⟩:=id l_f;obtain ⟨b9,c0,h5,h8,g7,rfl,h6,h7,h9,i0⟩:=id a4;obtain ⟨c1,c2,i1,i4,rfl,i2,i3,i5⟩:=id a5;obtain ⟨a9,b0,i6,i9,rfl,i7,i8,d9⟩:=id a6;refine fr (args:=[_]) (N:=45) Tryz.func19 (fun F=>?_);show Run _ _ (c_LWrong []) _ _ [(0,_)] _ _;refine rnm (rqr ?_);refine sS (sb 1 26 (AQ L (vS b9 L.start.length c0) (vS c1 L.keeps.length c2) (vS a9 L.slips.length b0)) (fun b1=>(sp 2 [(3,vI 0),(2,vN)] (se (rq (rqr (sd (dnb 12 0 0 b1 (DE L (vS b9 L.start.length c0) (vS c1 L.keeps.length c2) (vS a9 L.slips.length b0))) (sd (dc 13 (fun I' hI=>(DJ I' _ L ((CN a4 a5 a6).mono hI) :))) (sp 1 [(4,vI (AH L))] (sn (sp 2 [(15,.bool (!(cmp .eql (AH L) 0)))] (se (rc 15 rfl (fun h1=>?_) (fun h1=>?_))))))))))))))
 ·
  have e9:=h1;have h1:=BV (BM h1);refine rqr (sp 3 [(3,vI (AH L)),(2,vN)] (se (BB (RP ?_))));have hE:=wrongE_1 (L:=L) h1;refine EE (t:=2) (u:=3) [] (by kernel_rfl) rfl rfl (TC _ (TR _)) (IR _) ?_;exact ⟨_,(by rw [hE]),rfl,((show []=(FV L).1 from by rw [hE])▸(IsSl.nil _))⟩
 have e9:=h1;have h1:=BQ (BE h1);refine AM (NX (rq ?_));have hz:AH L=0:=by omega
 have hg:=GG hz;have g5:=hg.slips;refine rr (sS (sal 5 33 #[vN] (fun b3=>(se (rq (rqr (sp 1 [(17,vP b1 4)] (sd (dlb 18 1 4 b1 (vS a9 L.slips.length b0)) (sp 2 [(20,vI 0),(19,vI (↑(L.slips.length)))] (se (rb 0 ?_)))))))))));refine rl (fun mz a w=>∃ k:Nat,∃ b4:Value,∃ a3:Seg,(k≤L.slips.length)∧(Own 3 1 AK b4 ((L.slips.take k).map fun s=>s.num) a3)∧SD 45 [(20,vI ↑k),(1,vP b1 0),(2,vN),(3,vI 0),(5,vP b3 0),(18,vS a9 L.slips.length b0),(19,vI (↑(L.slips.length)))] I ((bX b3 #[b4] 33)::(bX b1 (AQ L (vS b9 L.start.length c0) (vS c1 L.keeps.length c2) (vS a9 L.slips.length b0)) 26)::(a3++F)) a w (mz=L.slips.length-k)) ?_ ?_
 ·intro a w hS hD hW;exact ⟨_,0,(vN),[],Nat.zero_le _,(Own.nil _ _ _),hS.sub su,hD,hW,rfl⟩
 rintro mz a w ⟨k,b4,a3,hk,b2,hS,hD,hW,rfl⟩
 refine AW hS hD hW ?_;obtain ⟨a0,a1,rfl,d2⟩:=b2.shape;have k4:((L.slips.take k).map fun s=>s.num).length≤8:=by rw [List.length_map,LK];omega
 refine rqr (sp 1 [(21,.bool (cmp .lss ↑k (↑(L.slips.length))))] (se (rq (rc 21 rfl (fun h2=>?_) (fun h2=>?_)))))
 ·
  have f0:=h2;have h2:=CQ h2;refine AM (NX (rq (rb 1 (rqr (sd (di 22 8 k d9.addr) (sd (dln 23 22 29 (ET (L.slips.getD k AB)) rfl (BI (vals:=BW) (fun _=>rfl) d9 k (by omega))) (sS (sal 7 29 zSlpA (fun b5=>(sS (ss 0 0 b5 (ET (L.slips.getD k AB)) (ET (L.slips.getD k AB)) (_::_::_::_) (cs:=[_,_,_,_,_,_,_,_]) rfl rfl (se (rr (sd (dlb 24 1 0 b3 (vS a0 ((L.slips.take k).map fun s=>s.num).length a1)) (sp 1 [(25,vP b5 0)] (sd (dlb 26 0 0 b5 (vI ((L.slips.getD k AB).num))) (sS (sbs 27 3 1 #[vI ((L.slips.getD k AB).num)] (fun b7=>(sS (sap (d:=28) 24 27 33 3 1 8 (vI 0) AK ((L.slips.take k).map fun s=>s.num) [((L.slips.getD k AB).num:Int)] a3 rfl rfl b2 (PU (PU (PU PM.symm))) (HE _) (HG 0 rfl rfl) (fun v9 g4 g6=>(BA (M':=((bX b5 (AY (L.slips.getD k AB)) 29)::(bX b3 #[vS a0 ((L.slips.take k).map fun s=>s.num).length a1] 33)::(bX b1 (AQ L (vS b9 L.start.length c0) (vS c1 L.keeps.length c2) (vS a9 L.slips.length b0)) 26)::(g4++F))) (fun w h=>(h.perm (PW (PW (PW PM)))).sub (TC _ (TR _))) ?_)))))))))))))))))))))));obtain ⟨g0,g1,rfl,k5⟩:=g6.shape;refine sS (ss 1 0 b3 [vS g0 (((L.slips.take k).map fun s=>s.num)++([((L.slips.getD k AB).num:Int)])).length g1] [vS g0 (((L.slips.take k).map fun s=>s.num)++([((L.slips.getD k AB).num:Int)])).length g1] (_::_::_::_) (cs:=[_]) rfl rfl (ee (NB (NX (rr (sd (da 29 ↑k 1) (sp 1 [(20,vI (↑k+1))] (ee ?_))))))));refine AN (L.slips.length-(k+1)) (by omega) ?_;intro a w hS hD hW;exact ⟨k+1,vS g0 (((L.slips.take k).map fun s=>s.num)++([((L.slips.getD k AB).num:Int)])).length g1,g4,by omega,(by rw [BO (d:=AB) (by omega),List.map_append];exact g6),hS.sub su,hD,(hW.perm (PR _)).sub (TC _ (TR _)),rfl⟩
 have f0:=h2;have h2:=CU h2;refine CH 0 (EP (EP (EB (NX (rq ?_)))));have f3:(L.slips.map fun s=>s.num).length≤8:=by rw [List.length_map];exact g5
 have d6:Own 3 1 AK (vS a0 ((L.slips.take k).map fun s=>s.num).length a1) (L.slips.map fun s=>s.num) a3:=by have hq:=b2;rw [show L.slips.take k=L.slips from List.take_of_length_le (by omega)] at hq ⊢;exact hq
 refine rr (sd (dlb 30 0 0 b3 (vS a0 ((L.slips.take k).map fun s=>s.num).length a1)) ?_);have d5:=SortI_ct I _ _ _ d6 (by omega);refine sS (sc (some 31) (F:=((bX b3 #[vS a0 ((L.slips.take k).map fun s=>s.num).length a1] 33)::(bX b1 (AQ L (vS b9 L.start.length c0) (vS c1 L.keeps.length c2) (vS a9 L.slips.length b0)) 26)::F)) (d5 :) (PU PM.symm) (fun j3 j9 j2 c3 f5=>?_));obtain ⟨d1,d8,d7,e0⟩:=f5;rw [d8,d7];clear d8 d7;replace a4:=a4.mono c3;replace a5:=a5.mono c3;replace a6:=a6.mono c3;refine pm (M':=((bX b3 #[vS a0 ((L.slips.take k).map fun s=>s.num).length a1] 33)::(bX b1 (AQ L (vS b9 L.start.length c0) (vS c1 L.keeps.length c2) (vS a9 L.slips.length b0)) 26)::(d1++F))) (PW PM) (sn (sS (sal 8 110 #[.nilFunc] (fun c6=>(sn (sp 1 [(32,.func (.func 54) #[] #[vP b1 0,vP b3 0,vP c6 0])] (sS (ss 0 0 c6 [.func (.func 54) #[] #[vP b1 0,vP b3 0,vP c6 0]] [.func (.func 54) #[] #[vP b1 0,vP b3 0,vP c6 0]] (_::_::_::_) (cs:=[_]) rfl rfl (se (rq (rq ?_)))))))))));have g9:(AF cmpZ (L.slips.map fun s=>s.num)).length≤8:=by rw [(DM _).length_eq];exact f3
 refine DL (B:=((bX c6 #[.func (.func 54) #[] #[vP b1 0,vP b3 0,vP c6 0]] 110)::(bX b3 #[vS a0 ((L.slips.take k).map fun s=>s.num).length a1] 33)::(bX b1 (AQ L (vS b9 L.start.length c0) (vS c1 L.keeps.length c2) (vS a9 L.slips.length b0)) 26)::F)) 0 e0 (by first | omega | (simp only [LS,LC,LN,LA,LK,LD] <;> omega) | decide) (PU (PU PM.symm)) (PR _) (fun k0 c4 a2=>?_);replace a4:=a4.mono c4;replace a5:=a5.mono c4;replace a6:=a6.mono c4;obtain ⟨e2,e4,e3,e7,d0,e5,e6,e8⟩:=id a2
 first | cases d0 | (injection d0 with fz25_e1 fz25_e2 fz25_e3;subst fz25_e1;subst fz25_e3;try rw [← fz25_e2] at a2)
 refine DA (b:=b1) (o:=Obj.cells (AQ L (vS b9 L.start.length c0) (vS c1 L.keeps.length c2) (vS a9 L.slips.length b0)) 26 (0,0)) (M0:=((bX c6 #[.func (.func 54) #[] #[vP b1 0,vP b3 0,vP c6 0]] 110)::(bX b3 #[vS a0 ((L.slips.take k).map fun s=>s.num).length a1] 33)::F)) ((PC _ (PS _ _ _)).trans (PS _ _ _)) (fun k1 b6 b8=>?_);replace a4:=a4.mono b6;replace a5:=a5.mono b6;replace a6:=a6.mono b6;replace a2:=a2.mono b6;refine DA (b:=b3) (o:=Obj.cells #[vS a0 ((L.slips.take k).map fun s=>s.num).length a1] 33 (0,0)) (M0:=((bX c6 #[.func (.func 54) #[] #[vP b1 0,vP b3 0,vP c6 0]] 110)::F)) (PS _ _ _) (fun k2 a8 c7=>?_);replace a4:=a4.mono a8;replace a5:=a5.mono a8;replace a6:=a6.mono a8;replace a2:=a2.mono a8;replace b8:=a8.blk _ _ b8;refine DA (b:=c6) (o:=Obj.cells #[.func (.func 54) #[] #[vP b1 0,vP b3 0,vP c6 0]] 110 (0,0)) (M0:=(F)) (PR _) (fun g3 a7 c9=>?_);replace a4:=a4.mono a7;replace a5:=a5.mono a7;replace a6:=a6.mono a7;replace a2:=a2.mono a7;replace b8:=a7.blk _ _ b8;replace c7:=a7.blk _ _ c7;refine rr (sp 1 [(33,vI 0)] (se (rb 2 ?_)));refine rl (fun mz a w=>∃ J1:Imm,∃ m:Nat,(g3.le J1)∧(m≤3)∧(JW (fun m=>GL L (allN L) m [] 0) 0 3=JW (fun m=>GL L (allN L) m [] 0) m (3-m))∧SD 45 [(33,vI ↑m),(8,vP c6 0)] J1 F a w (mz=3-m)) ?_ ?_
 ·intro a w hS hD hW;exact ⟨_,g3,0,IR _,Nat.zero_le _,rfl,hS.sub su,hD,hW,rfl⟩
 rintro mz a w ⟨J1,m,hJ1,k3,f4,hS,hD,hW,rfl⟩
 refine AW hS hD hW ?_;replace a4:=a4.mono hJ1;replace a5:=a5.mono hJ1;replace a6:=a6.mono hJ1;replace a2:=a2.mono hJ1;replace b8:=hJ1.blk _ _ b8;replace c7:=hJ1.blk _ _ c7;replace c9:=hJ1.blk _ _ c9;refine rqr (sp 1 [(34,.bool (cmp .lss ↑m 3))] (se (rq (rc 34 rfl (fun h3=>?_) (fun h3=>?_)))))
 ·
  have f1:=h3;have h3:=CQ h3;refine AM (NX (rq (rb 3 (rqr (sp 2 [(9,vI ↑m)] (sn (sd (dld 37 8 110 (.func (.func 54) #[] #[vP b1 0,vP b3 0,vP c6 0]) rfl (AR c9 rfl)) (sp 1 [(38,vI ↑m)] ?_))))))));have h0:=wrong_all m J1 _ [] 0 0 (m:Int) rfl rfl b1 b3 c6 _ _ _ _ L (allN L) (IsSl.nil _) b8 a4 a5 a6 c7 a2 c9 hg (by rw [allN_len];exact g5) (by simp only [LN];omega);refine sS (KR (d:=some 39) (f:=(.tmp 37)) (fid:=54) (args:=#[(.const vN),(.const (vI 0)),(.tmp 38)]) (tys:=#[33,3,3]) (cv:=[vP b1 0,vP b3 0,vP c6 0]) (F:=(F)) (ty:=112) (gd:=none) (by kernel_rfl) rfl rfl rfl (by kernel_rfl) rfl h0 (PR _) (fun _ g8 _ c5 f6=>?_));obtain ⟨uw,rfl,rfl,e1⟩:=f6;replace b8:=c5.blk _ _ b8;replace c7:=c5.blk _ _ c7;replace c9:=c5.blk _ _ c9;obtain ⟨d3,d4,j4,j7,rfl,j5,j6,j8⟩:=id e1;refine nm ?_;show Seq _ _ _ _ _ _ ((39,.tuple #[vS d3 ((GL L (allN L) m [] 0).1).length d4,.bool ((GL L (allN L) m [] 0).2)])::_) _ _;refine sp 5 [(11,.bool ((GL L (allN L) m [] 0).2)),(10,vS d3 ((GL L (allN L) m [] 0).1).length d4)] (sn (sp 1 [(42,.bool ((GL L (allN L) m [] 0).2))] (se (rc 42 rfl (fun h4=>?_) (fun h4=>?_)))))
  ·
   have f2:=h4;refine rqr (sp 3 [(3,vI 0),(2,vS d3 ((GL L (allN L) m [] 0).1).length d4)] (se (BB (RB (RP (RP (RB (RP ?_))))))));have hE:=wrongE_2 hz (f4.trans (firstW_hit (by omega) h4));refine EE (t:=2) (u:=3) [] (by kernel_rfl) rfl rfl (TR _) (IT (IT (IT (IT (IT (IT c3 c4) b6) a8) a7) hJ1) c5) ?_;exact ⟨_,(by rw [hE]),rfl,((show (GL L (allN L) m [] 0).1=(FV L).1 from by rw [hE])▸e1)⟩
  have f2:=h4;refine AM (NB (NX (rr (sd (da 44 ↑m 1) (sp 1 [(33,vI (↑m+1))] (ee ?_))))));refine AN (3-(m+1)) (by omega) ?_;intro a w hS hD hW;exact ⟨g8,m+1,(IT hJ1 c5),by omega,f4.trans (firstW_miss (by omega) h4),hS.sub su,hD,hW,rfl⟩
 have f1:=h3;have h3:=CU h3;refine CH 2 (EP (EP (EB (NX (rqr (sp 2 [(3,vI 11),(2,vN)] (se (BB ?_))))))));have hE:=wrongE_3 hz (f4.trans (firstW_none (by omega)));refine EE (t:=2) (u:=3) [] (by kernel_rfl) rfl rfl (TR _) (IT (IT (IT (IT (IT c3 c4) b6) a8) a7) hJ1) ?_;exact ⟨_,(by rw [hE]),rfl,((show []=(FV L).1 from by rw [hE])▸(IsSl.nil _))⟩
noncomputable def c_counting:=cod Tryz.f7
theorem counting_ct (I:Imm):Ct Tryz.prog 7 #[] I ([]) (fun v I' M'=>v=.bool true∧M'=[]):=by
 refine fr (args:=[]) (N:=84) Tryz.func7 (fun F=>?_);show Run _ _ (c_counting []) _ _ [] _ _;refine rnm (rqr ?_);refine sp 1 [(0,.bool false)] (sn ?_);have m3:=exturned_ct I;refine sS (sc (some 12) (m3 :) (.refl _) (fun Y6 I1 Y0 J0 X9=>?_));obtain ⟨u16,u27,u38,Ms9,T1,T0,p8,p4,q2⟩:=X9;rw [T1,T0];clear T1 T0;have e9:=p8;have f0:=p4;obtain ⟨U0,U2,U1,U5,O1,q7,U3,U4,U6,U7⟩:=id e9;obtain ⟨U8,V0,U9,V3,q8,V1,V2,V4⟩:=id f0;subst q7;subst q8;obtain ⟨V5,V6,rfl,V7⟩:=q2.shape;refine nm ?_;refine sfz AB q2 (.refl _) (fun W3 f5 f2=>?_);replace e9:=e9.mono f5;replace f0:=f0.mono f5;obtain ⟨D9,E1,E0,E4,k0,E2,E3,E5⟩:=id f2;cases k0;have m4:=Stock_ct W3 _ turnedL 9 (CN e9 f0 f2);refine sS (sc (some 13) (m4 :) (.refl _) (fun Y7 X0 Y1 m9 J1=>?_));obtain ⟨Z2,j6,a6,o7,n0,q3,a2⟩:=J1;rw [o7,n0];clear o7 n0;obtain ⟨g1,g2,rfl,J8⟩:=q3.shape;have g0:=a2.1
 try simp only [LS,LA,LC,LN,LK] at g0
 refine nm ?_;refine sp 5 [(2,vI ((GJ turnedL 9).2)),(1,vS g1 j6.length g2)] (sn ?_);have m5:=EX X0;refine sS (sc (some 17) (F:=(a6++F)) (m5 :) (.refl _) (fun Y8 I32 Y2 i6 J2=>?_));obtain ⟨Z5,Z8,a0b,X6,o8,n1,p9,p5,q4⟩:=J2;rw [o8,n1];clear o8 n1;replace a2:=a2.mono i6;have c3:=p9;have c6:=p5;obtain ⟨K5,K7,K6,M0,D3,l0,K8,K9,M1,M2⟩:=id c3;obtain ⟨P0,P2,P1,P5,l3,P3,P4,P6⟩:=id c6;subst l0;subst l3;obtain ⟨R1,R2,rfl,R3⟩:=q4.shape;refine nm ?_;refine sfz AB q4 (.refl _) (fun X2 e3 f3=>?_);replace a2:=a2.mono e3;replace c3:=c3.mono e3;replace c6:=c6.mono e3;obtain ⟨E6,E8,E7,G1,k1,E9,G0,G2⟩:=id f3;cases k1;have m6:=Gaps_ct X2 _ bookL (CN c3 c6 f3);refine sS (sc (some 18) (F:=(a6++F)) (m6 :) (.refl _) (fun Y9 X3 Y3 i7 J3=>?_));obtain ⟨Z3,a3,o9,n2,q5⟩:=J3;rw [o9,n2];clear o9 n2;replace a2:=a2.mono i7;obtain ⟨g3,g4,rfl,J9⟩:=q5.shape;refine nm ?_;refine sp 5 [(4,vI ((PD bookL).2)),(3,vS g3 ((PD bookL).1).length g4)] (sn ?_);have m7:=EX X3;refine sS (sc (some 22) (F:=(a3++(a6++F))) (m7 :) (.refl _) (fun Z0 I61 Y4 i8 J4=>?_));obtain ⟨Z6,Z9,a0c,X7,p0,n3,q0,p6,q6⟩:=J4;rw [p0,n3];clear p0 n3;replace a2:=a2.mono i8;have c4:=q0;have c7:=p6;obtain ⟨M3,M5,M4,M8,D4,l1,M6,M7,M9,O0⟩:=id c4;obtain ⟨P7,P9,P8,Q2,l4,Q0,Q1,Q3⟩:=id c7;subst l1;subst l4;obtain ⟨R4,R5,rfl,R6⟩:=q6.shape;refine nm ?_;refine sfz AB q6 (.refl _) (fun X4 e4 f4=>?_);replace a2:=a2.mono e4;replace c4:=c4.mono e4;replace c7:=c7.mono e4;obtain ⟨G3,G5,G4,G8,k2,G6,G7,G9⟩:=id f4;cases k2;have m8:=LHolders_ct X4 _ bookL 3 (CN c4 c7 f4);refine sS (sc (some 23) (F:=(a3++(a6++F))) (m8 :) (.refl _) (fun Z1 X5 Y5 i9 J5=>?_));obtain ⟨Z4,p1,n4,J7⟩:=J5;rw [p1,n4];clear p1 n4;replace a2:=a2.mono i9;have a1:=J7;obtain ⟨g5,g6,K0,K3,rfl,K1,K2,K4⟩:=id a1;refine nm ?_;refine sp 5 [(6,vI ((BZ bookL 3).2)),(5,vS g5 ((BZ bookL 3).1).length g6)] (sn ?_);have k3:=EX X5;refine sS (sc (some 27) (F:=(a3++(a6++F))) (k3 :) (.refl _) (fun T5 I89 T2 f9 J6=>?_));obtain ⟨Z7,a0a,a0d,X8,p2,n5,q1,p7,j4⟩:=J6;rw [p2,n5];clear p2 n5;replace a2:=a2.mono f9;replace a1:=a1.mono f9;have c5:=q1;have c8:=p7;obtain ⟨O2,O4,O3,O7,D5,l2,O5,O6,O8,O9⟩:=id c5;obtain ⟨Q4,Q6,Q5,Q9,l5,Q7,Q8,R0⟩:=id c8;subst l2;subst l5;obtain ⟨R7,R8,rfl,R9⟩:=j4.shape;refine nm ?_;refine sfz AB j4 (.refl _) (fun D6 b3 d4=>?_);replace a2:=a2.mono b3;replace a1:=a1.mono b3;replace c5:=c5.mono b3;replace c8:=c8.mono b3;obtain ⟨s6,s8,s7,t1,h1,s9,t0,t2⟩:=id d4;cases h1;have k4:=LWrong_ct D6 _ bookL (CN c5 c8 d4);refine sS (sc (some 28) (F:=(a3++(a6++F))) (k4 :) (.refl _) (fun T6 V8 T3 d0 o5=>?_));obtain ⟨T8,j2,j0,p3⟩:=o5;rw [j2,j0];clear j2 j0;replace a2:=a2.mono d0;replace a1:=a1.mono d0;have a0:=p3;obtain ⟨e5,e6,C7,D0,rfl,C8,C9,D1⟩:=id a0;refine nm ?_;refine sp 5 [(8,vI ((FV bookL).2)),(7,vS e5 ((FV bookL).1).length e6)] (sn (sS (sbs 32 3 3 #[vI 7,vI 0,vI 3] (fun j7=>(sS (sbs 33 3 3 #[vI 2,vI 4,vI 3] (fun f1=>(pm (M':=((bX f1 #[vI 2,vI 4,vI 3] 3)::([(bX j7 #[vI 7,vI 0,vI 3] 3)]++(a3++(a6++F))))) (PR _) ?_))))))));have n6:Own 3 1 AK (vS (some ⟨j7,0,none⟩) 3 3) ([(7:Int),(0:Int),(3:Int)]:List Int) [(bX j7 #[vI 7,vI 0,vI 3] 3)]:=Own.lit rfl rfl;refine sfz (A:=((bX f1 #[vI 2,vI 4,vI 3] 3)::(a3++(a6++F)))) 0 n6 PM.symm (fun V9 b8 a9=>?_);replace a2:=a2.mono b8;replace a1:=a1.mono b8;replace a0:=a0.mono b8;obtain ⟨t3,t5,t4,t8,h2,t6,t7,t9⟩:=id a9;cases h2;refine pm (M':=([(bX f1 #[vI 2,vI 4,vI 3] 3)]++(a3++(a6++F)))) (PR _) ?_;have n7:Own 3 1 AK (vS (some ⟨f1,0,none⟩) 3 3) ([(2:Int),(4:Int),(3:Int)]:List Int) [(bX f1 #[vI 2,vI 4,vI 3] 3)]:=Own.lit rfl rfl;refine sfz 0 n7 (.refl _) (fun D7 b4 d5=>?_);replace a2:=a2.mono b4;replace a1:=a1.mono b4;replace a0:=a0.mono b4;replace a9:=a9.mono b4;obtain ⟨u0,u2,u1,u5,h3,u3,u4,u6⟩:=id d5;cases h3;have k5:=Divide_ct D7 _ _ _ _ 2 a9 d5;refine sS (sc (some 34) (F:=(a3++(a6++F))) (k5 :) (.refl _) (fun T7 W0 T4 b9 o6=>?_));obtain ⟨T9,a5,j3,j1,j5⟩:=o6;rw [j3,j1];clear j3 j1;replace a2:=a2.mono b9;replace a1:=a1.mono b9;replace a0:=a0.mono b9;obtain ⟨e7,e8,rfl,D2⟩:=j5.shape;refine nm ?_;refine sp 5 [(10,vI ((NV ([(7:Int),(0:Int),(3:Int)]:List Int) ([(2:Int),(4:Int),(3:Int)]:List Int) 2).2)),(9,vS e7 ((NV ([(7:Int),(0:Int),(3:Int)]:List Int) ([(2:Int),(4:Int),(3:Int)]:List Int) 2).1).length e8)] (se (rq ?_));have hq1:(GJ turnedL 9).1.length=2:=by rw [ex_stock];rfl
 have hq2:(PD bookL).1.length=1:=by rw [ex_gaps];rfl
 have hq3:(NV [7,0,3] [2,4,3] 2).1.length=1:=by rw [ex_div];rfl
 refine rr (sp 1 [(37,vI ((GJ turnedL 9).2))] (sd (dcm 38 .eql ((GJ turnedL 9).2) 0 true (by rw [ex_stock];rfl)) (sp 2 [(40,vI ((PD bookL).2)),(39,.bool true)] (sd (dcm 41 .eql ((PD bookL).2) 0 true (by rw [ex_gaps];rfl)) (sp 3 [(44,vI ((BZ bookL 3).2)),(43,.bool true)] (sd (dcm 45 .eql ((BZ bookL 3).2) 0 true (by rw [ex_hold];rfl)) (sp 3 [(48,vI ((FV bookL).2)),(47,.bool true)] (sd (dcm 49 .eql ((FV bookL).2) 0 true (by rw [ex_wrong];rfl)) (sp 3 [(52,vI ((NV ([(7:Int),(0:Int),(3:Int)]:List Int) ([(2:Int),(4:Int),(3:Int)]:List Int) 2).2)),(51,.bool true)] (sd (dcm 53 .eql ((NV ([(7:Int),(0:Int),(3:Int)]:List Int) ([(2:Int),(4:Int),(3:Int)]:List Int) 2).2) 0 true (by rw [ex_div];rfl)) (sp 3 [(56,vS g1 j6.length g2),(55,.bool true)] (sS (sbs 57 3 2 #[vI 4,vI 4] (fun a8=>(sS (sbs 58 3 2 #[vI 1,vI 0] (fun a7=>(sS (sbs 59 33 2 #[vS (some ⟨a8,0,none⟩) 2 2,vS (some ⟨a7,0,none⟩) 2 2] (fun c9=>(sfz (A:=((bX c9 #[vS (some ⟨a8,0,none⟩) 2 2,vS (some ⟨a7,0,none⟩) 2 2] 33)::(bX a7 #[vI 1,vI 0] 3)::(bX a8 #[vI 4,vI 4] 3)::(a5++(a3++F)))) undef q3 (PU (PU (PU (PV (PO _ _ _))))) (fun W1 c0 d6=>?_))))))))))))))))))))));replace a2:=a2.mono c0;replace a1:=a1.mono c0;replace a0:=a0.mono c0;obtain ⟨u7,u9,u8,v2,h4,v0,v1,v3⟩:=id d6;cases h4;have a4:=a2.isRows d6;have l9:=a2.1;obtain ⟨r0,r2,r1,r5,m1,g9,r3,r4,r6,r7⟩:=id a4
 injection g9 with fr149_e1 fr149_e2 fr149_e3;subst fr149_e1;subst fr149_e3
 refine pm (M':=((bX c9 #[vS (some ⟨a8,0,none⟩) 2 2,vS (some ⟨a7,0,none⟩) 2 2] 33)::(bX a7 #[vI 1,vI 0] 3)::([(bX a8 #[vI 4,vI 4] 3)]++(a5++(a3++F))))) (PR _) ?_;have n8:Own 3 1 AK (vS (some ⟨a8,0,none⟩) 2 2) ([(4:Int),(4:Int)]:List Int) [(bX a8 #[vI 4,vI 4] 3)]:=Own.lit rfl rfl;refine sfz (A:=((bX c9 #[vS (some ⟨a8,0,none⟩) 2 2,vS (some ⟨a7,0,none⟩) 2 2] 33)::(bX a7 #[vI 1,vI 0] 3)::(a5++(a3++F)))) 0 n8 (PU PM.symm) (fun W2 c1 b0=>?_);replace a1:=a1.mono c1;replace a0:=a0.mono c1;replace a4:=a4.mono c1;obtain ⟨v4,v6,v5,v9,h5,v7,v8,x0⟩:=id b0;cases h5;refine pm (M':=((bX c9 #[vS (some ⟨a8,0,none⟩) 2 2,vS (some ⟨a7,0,none⟩) 2 2] 33)::([(bX a7 #[vI 1,vI 0] 3)]++(a5++(a3++F))))) (PR _) ?_;have n9:Own 3 1 AK (vS (some ⟨a7,0,none⟩) 2 2) ([(1:Int),(0:Int)]:List Int) [(bX a7 #[vI 1,vI 0] 3)]:=Own.lit rfl rfl;refine sfz (A:=((bX c9 #[vS (some ⟨a8,0,none⟩) 2 2,vS (some ⟨a7,0,none⟩) 2 2] 33)::(a5++(a3++F)))) 0 n9 PM.symm (fun D8 b5 d7=>?_);replace a1:=a1.mono b5;replace a0:=a0.mono b5;replace a4:=a4.mono b5;replace b0:=b0.mono b5;obtain ⟨x1,x3,x2,x6,h6,x4,x5,x7⟩:=id d7;cases h6;refine pm (M':=([(bX c9 #[vS (some ⟨a8,0,none⟩) 2 2,vS (some ⟨a7,0,none⟩) 2 2] 33)]++(a5++(a3++F)))) (PR _) ?_;have o0:Own 33 1 KF (vS (some ⟨c9,0,none⟩) 2 2) ([(vS (some ⟨a8,0,none⟩) 2 2:Value),(vS (some ⟨a7,0,none⟩) 2 2:Value)]:List Value) [(bX c9 #[vS (some ⟨a8,0,none⟩) 2 2,vS (some ⟨a7,0,none⟩) 2 2] 33)]:=Own.lit rfl rfl;have b7:=(((RowsV.nil D8).snoc b0).snoc d7);simp only [NA,CA] at b7;refine sfz undef o0 (.refl _) (fun W4 b6 d8=>?_);replace a1:=a1.mono b6;replace a0:=a0.mono b6;replace a4:=a4.mono b6;replace b7:=b7.mono b6;obtain ⟨x8,y0,x9,y3,h7,y1,y2,y4⟩:=id d8;cases h7;have d3:=b7.isRows d8;have m0:=b7.1;obtain ⟨r8,s0,r9,s3,m2,h0,s1,s2,s4,s5⟩:=id d3
 injection h0 with fr163_e1 fr163_e2 fr163_e3;subst fr163_e1;subst fr163_e3
 refine sd (dc 60 (fun I' hI=>(MO I' _ _ _ _ (a4.mono hI) (d3.mono hI) :))) (CM 60 rfl (show (.bool (decide (((GJ turnedL 9).1)=([([(4:Int),(4:Int)]:List Int),([(1:Int),(0:Int)]:List Int)]))):Value)=.bool true from congrArg Value.bool (decide_eq_true (by rw [ex_stock]))) (sp 4 [(64,.agg #[vI 3,vI (-1)]),(63,vS g3 ((PD bookL).1).length g4),(62,.bool true)] (sS (sbs 65 82 1 #[vI 3,vI (-1)] (fun g7=>(sfz (A:=((bX g7 #[vI 3,vI (-1)] 82)::(a5++F))) noGap q5 (PU (PO _ _ _)) (fun W5 d1 b1=>?_)))))));replace a1:=a1.mono d1;replace a0:=a0.mono d1;obtain ⟨y5,y7,y6,z0,h8,y8,y9,z1⟩:=id b1;cases h8;refine pm (M':=([(bX g7 #[vI 3,vI (-1)] 82)]++(a5++F))) (PR _) ?_;have o1:Own 82 2 QW (vS (some ⟨g7,0,none⟩) 1 1) ([(⟨3,(-1)⟩:Gap)]:List Gap) [(bX g7 #[vI 3,vI (-1)] 82)]:=Own.lit rfl rfl;refine sfz noGap o1 (.refl _) (fun W6 c2 d9=>?_);replace a1:=a1.mono c2;replace a0:=a0.mono c2;replace b1:=b1.mono c2;obtain ⟨z2,z4,z3,z7,h9,z5,z6,z8⟩:=id d9;cases h9;refine sd (dc 66 (fun I' hI=>(EqualGaps_ct I' _ _ _ _ (b1.mono hI) (d9.mono hI) :))) (CM 66 rfl (show (.bool (decide (((PD bookL).1)=([(⟨3,(-1)⟩:Gap)]:List Gap))):Value)=.bool true from congrArg Value.bool (decide_eq_true (by rw [ex_gaps]))) (sp 3 [(69,vS g5 ((BZ bookL 3).1).length g6),(68,.bool true)] (sS (sbs 70 3 1 #[vI 5] (fun j8=>(pm (M':=([(bX j8 #[vI 5] 3)]++(a5++F))) (PR _) ?_))))));have o2:Own 3 1 AK (vS (some ⟨j8,0,none⟩) 1 1) ([(5:Int)]:List Int) [(bX j8 #[vI 5] 3)]:=Own.lit rfl rfl;refine sfz 0 o2 (.refl _) (fun W7 d2 e0=>?_);replace a1:=a1.mono d2;replace a0:=a0.mono d2;obtain ⟨z9,A1,A0,A4,i0,A2,A3,A5⟩:=id e0;cases i0;refine sd (dc 71 (fun I' hI=>(IH I' _ _ _ _ (a1.mono hI) (e0.mono hI) :))) (CM 71 rfl (show (.bool (decide (((BZ bookL 3).1)=([(5:Int)]:List Int))):Value)=.bool true from congrArg Value.bool (decide_eq_true (by rw [ex_hold]))) (sp 3 [(74,vS e5 ((FV bookL).1).length e6),(73,.bool true)] (sS (sbs 75 3 1 #[vI 3] (fun j9=>(pm (M':=([(bX j9 #[vI 3] 3)]++(a5++F))) (PR _) ?_))))));have o3:Own 3 1 AK (vS (some ⟨j9,0,none⟩) 1 1) ([(3:Int)]:List Int) [(bX j9 #[vI 3] 3)]:=Own.lit rfl rfl;refine sfz 0 o3 (.refl _) (fun W8 f6 e1=>?_);replace a0:=a0.mono f6;obtain ⟨A6,A8,A7,B1,i1,A9,B0,B2⟩:=id e1;cases i1;refine sd (dc 76 (fun I' hI=>(IH I' _ _ _ _ (a0.mono hI) (e1.mono hI) :))) (CM 76 rfl (show (.bool (decide (((FV bookL).1)=([(3:Int)]:List Int))):Value)=.bool true from congrArg Value.bool (decide_eq_true (by rw [ex_wrong]))) (sp 4 [(80,.agg #[vI 0,vI 1,vI 2]),(79,vS e7 ((NV ([(7:Int),(0:Int),(3:Int)]:List Int) ([(2:Int),(4:Int),(3:Int)]:List Int) 2).1).length e8),(78,.bool true)] (sS (sbs 81 62 1 #[vI 0,vI 1,vI 2] (fun g8=>(sfz (A:=((bX g8 #[vI 0,vI 1,vI 2] 62)::F)) KO j5 PM.symm (fun W9 k6 b2=>?_)))))));obtain ⟨B3,B5,B4,B8,i2,B6,B7,B9⟩:=id b2;cases i2;refine pm (M':=([(bX g8 #[vI 0,vI 1,vI 2] 62)]++F)) (PR _) ?_;have o4:Own 62 3 JJ (vS (some ⟨g8,0,none⟩) 1 1) ([(⟨0,1,2⟩:Cart)]:List Cart) [(bX g8 #[vI 0,vI 1,vI 2] 62)]:=Own.lit rfl rfl;refine sfz KO o4 (.refl _) (fun X1 f8 e2=>?_);replace b2:=b2.mono f8;obtain ⟨C0,C2,C1,C5,i3,C3,C4,C6⟩:=id e2;cases i3;refine sd (dc 82 (fun I' hI=>(OQ I' _ _ _ _ (b2.mono hI) (e2.mono hI) :))) (CM 82 rfl (show (.bool (decide (((NV ([(7:Int),(0:Int),(3:Int)]:List Int) ([(2:Int),(4:Int),(3:Int)]:List Int) 2).1)=([(⟨0,1,2⟩:Cart)]:List Cart))):Value)=.bool true from congrArg Value.bool (decide_eq_true (by rw [ex_div]))) (sp 2 [(0,.bool true)] (se (BB (rt1 0 rfl (IT (IT (IT (IT (IT (IT (IT (IT (IT (IT (IT (IT (IT (IT (IT (IT (IT (IT (IT (IT (IT (IT (IT (IT J0 f5) m9) i6) e3) i7) i8) e4) i9) f9) b3) d0) b8) b4) b9) c0) c1) b5) b6) d1) c2) d2) f6) k6) f8) ?_)))));exact ⟨rfl,rfl⟩
theorem DT (I:Imm):Ct Tryz.prog 6 #[] I [] (fun v I' M'=>∃ u:Value,v=u∧M'=[]∧IsLin I' u bookL):=by
 refine ⟨fun F w st=>((EX I).all F w st).mono fun r w' ⟨I',M',hle,⟨u1,u2,u3,Ms,e,hm,f1,f2,own⟩,st'⟩=>?_⟩;subst hm;obtain ⟨J,h1,h2,h3,h4⟩:=own.lend AB (by decide) st';exact ⟨J,[],hle.trans h1,⟨_,e,rfl,_,_,_,rfl,f1.mono h1,f2.mono h1,h2⟩,h4⟩
theorem RK (I:Imm):Ct Tryz.prog 10 #[] I [] (fun v I' M'=>∃ u:Value,v=u∧M'=[]∧IsLin I' u turnedL):=by
 refine ⟨fun F w st=>((exturned_ct I).all F w st).mono fun r w' ⟨I',M',hle,⟨u1,u2,u3,Ms,e,hm,f1,f2,own⟩,st'⟩=>?_⟩;subst hm;obtain ⟨J,h1,h2,h3,h4⟩:=own.lend AB (by decide) st';exact ⟨J,[],hle.trans h1,⟨_,e,rfl,_,_,_,rfl,f1.mono h1,f2.mono h1,h2⟩,h4⟩
end Go.Proofs.YtgcemienebmdeaaGreatDoor
namespace Go.Sh
open Go Go.Sl
def FW (p:Sh.Event→Bool) (l:List Sh.Event):List Int:=(l.filter p).map fun e=>e.slip.num
section
variable {p:Sh.Event→Bool} {l:List Sh.Event} {x:Sh.Event}
theorem numsP_t (h:p x=true):FW p l++[x.slip.num]=FW p (l++[x]):=by unfold FW;rw [List.filter_append,List.map_append];simp [h]
theorem numsP_f (h:p x=false):FW p l=FW p (l++[x]):=by unfold FW;rw [List.filter_append,List.map_append];simp [h]
theorem numsP_len:(FW p l).length≤l.length:=by unfold FW;rw [List.length_map];exact List.length_filter_le _ _
end
def KZ (L:Lin):List Int × Int:=if AH L≠0 then ([],AH L) else (FW (fun x=>x.below) (CD L),0)
def GR (L:Lin):List Int × Int:=if AH L≠0 then ([],AH L) else (FW (fun _=>true) (CD L),0)
section
variable {L:Lin}
theorem belowE_1 (h:AH L≠0):KZ L=([],AH L):=if_pos h
theorem belowE_2 (h:AH L=0):KZ L=(FW (fun x=>x.below) (CD L),0):=if_neg (fun x=>x h)
theorem orderE_1 (h:AH L≠0):GR L=([],AH L):=if_pos h
theorem orderE_2 (h:AH L=0):GR L=(FW (fun _=>true) (CD L),0):=if_neg (fun x=>x h)
end
def MM (so:Int):Hs→Int
  | []=>0
  | x::r=>(if x.1.so=so then x.2 else 0)+MM so r
section
variable {so:Int} {H H':Hs} {k:HKey} {v d:Int}
theorem sumK_append:MM so (H++H')=MM so H+MM so H':=by
  induction H with
  | nil=>simp [MM]
  | cons x r ih=>simp only [List.cons_append,MM,ih];omega
theorem sumK_perm (h:H.Perm H'):MM so H=MM so H':=by
  induction h with
  | nil=>rfl
  | cons x _ ih=>simp only [MM,ih]
  | swap x y l=>simp only [MM];omega
  | trans _ _ h1 h2=>exact h1.trans h2
theorem sumK_put:MM so (JR k v H)=MM so H+(if k.so=so then v-CY k H else 0):=by
  induction H with
  | nil=>simp only [JR,MM,CY];split <;> omega
  | cons x r ih=>
    simp only [JR,CY]
    by_cases e:x.1=k
    · rw [if_pos e,if_pos e];simp only [MM];rw [e];split <;> omega
    · rw [if_neg e,if_neg e];simp only [MM];rw [ih];omega
theorem putH_len:(JR k v H).length≤H.length+1:=by
  induction H with
  | nil=>exact Nat.le_refl _
  | cons x r ih => simp only [JR]; split
                   · simp
                   · simp only [List.length_cons];omega
theorem sumK_bound {B:Int} (hB:0≤B) (h:∀ x∈H,-B≤x.2∧x.2≤B):-(B*H.length)≤MM so H∧MM so H≤B*H.length:=by
  induction H with
  | nil=>simp [MM]
  | cons x r ih=>
    have h1:=ih (fun y hy=>h y (by simp [hy]));have h2:=h x (by simp);simp only [MM,List.length_cons,Int.natCast_add,Int.natCast_one,Int.mul_add,Int.mul_one]
    split <;> omega
end
def startTo (so:Nat) (st:List (List Int)) (i:Nat):Int:=((st.take i).map fun r=>r.getD so 0).sum
theorem startTo_succ {so i:Nat} {st:List (List Int)} (hi:i<st.length):startTo so st (i+1)=startTo so st i+(st.getD i []).getD so 0:=by
  unfold startTo;rw [BO (d:=[]) hi,List.map_append,List.sum_append];simp
theorem openRow_get {p:Int} {row:List Int} {H:Hs} {k:HKey}:∀ {j:Nat},(k.pl≠p∨(j:Int)≤k.so)→CY k (IA p row j H)=CY k H:=by
  intro j
  induction j with
  | zero=>intro _;rfl
  | succ j ih=>
    intro h;simp only [IA];rw [getH_put,if_neg,ih]
    · rcases h with h | h
      · exact .inl h
      · exact .inr (by omega)
    · intro e;subst e;simp only at h;omega
theorem openTo_get {st:List (List Int)} {k:HKey}:∀ {i:Nat},(i:Int)≤k.pl→CY k (IU st i)=0:=by
  intro i
  induction i with
  | zero=>intro _;rfl
  | succ i ih=>intro h;simp only [IU];rw [openRow_get (.inl (by omega)),ih (by omega)]
theorem sumK_row {p:Int} {row:List Int} {so:Nat} {H:Hs} (h0:CY ⟨p,so,false⟩ H=0) (hz:∀ j:Nat,CY ⟨p,j,false⟩ H=0):∀ {j:Nat},MM so (IA p row j H)=MM so H+(if so<j then row.getD so 0 else 0):=by
  intro j
  induction j with
  | zero=>simp [IA]
  | succ j ih=>
    simp only [IA];rw [sumK_put,ih,openRow_get (.inr (Int.le_refl _)),hz j]
    by_cases e:so=j
    · subst e;simp
    · have e3:¬ ((j:Int)=(so:Int)):=by omega
      simp only;rw [if_neg e3]
      by_cases e2:so<j
      · rw [if_pos e2,if_pos (by omega)];omega
      · rw [if_neg e2,if_neg (by omega)];omega
theorem sumK_open {st:List (List Int)} {so:Nat}:∀ {i:Nat},i≤st.length→MM so (IU st i)=startTo so st i:=by
  intro i
  induction i with
  | zero=>intro _;simp [IU,MM,startTo]
  | succ i ih=>
    intro hi;rw [startTo_succ (by omega),← ih (by omega)];simp only [IU];rw [sumK_row (openTo_get (Int.le_refl _)) (fun j=>openTo_get (Int.le_refl _))]
    split
    · rfl
    · rename_i h;generalize st.getD i []=r at h ⊢;rw [show r.getD so 0=0 by simp [List.getD,show r.length≤so by omega]]
def GC (L:Lin) (so hour:Int):Int × Int:=
  if AH L≠0 then (0,AH L) else if inB so 0 (L.sorts-1)=false then (0,3) else if inB hour 0 200=false then (0,1) else (MM so (atH L hour),0)
section
variable {L:Lin} {so hour:Int}
theorem totalE_1 (h:AH L≠0):GC L so hour=(0,AH L):=if_pos h
theorem totalE_2 (h:AH L=0) (h2:inB so 0 (L.sorts-1)=false):GC L so hour=(0,3):=by unfold GC;rw [if_neg (fun x=>x h),if_pos h2]
theorem totalE_3 (h:AH L=0) (h2:inB so 0 (L.sorts-1)=true) (h3:inB hour 0 200=false):GC L so hour=(0,1):=by unfold GC;rw [if_neg (fun x=>x h),if_neg (by rw [h2];decide),if_pos h3]
theorem totalE_4 (h:AH L=0) (h2:inB so 0 (L.sorts-1)=true) (h3:inB hour 0 200=true):GC L so hour=(MM so (atH L hour),0):=by unfold GC;rw [if_neg (fun x=>x h),if_neg (by rw [h2];decide),if_neg (by rw [h3];decide)]
end
theorem doSlip_len {s:Slip} {H:Hs}:(doSlip s H).length≤H.length+2:=by
  have h1:∀ {k:HKey} {v:Int} {H:Hs},(OS k v H).length≤H.length+1:=fun {k v H}=>putH_len
  unfold doSlip
  repeat' split
  · exact Nat.le_trans h1 (Nat.succ_le_succ h1)
  · exact Nat.le_trans h1 (Nat.succ_le_succ h1)
  · exact Nat.le_trans h1 (Nat.succ_le_succ h1)
  · exact Nat.le_trans putH_len (Nat.le_succ _)
  · exact Nat.le_trans h1 (Nat.le_succ _)
  · exact Nat.le_trans h1 (Nat.le_succ _)
theorem aft_len:∀ {S:List Slip} {H:Hs},(aft H S).length≤H.length+2*S.length:=by
  intro S
  induction S with
  | nil=>intro H;exact Nat.le_refl _
  | cons s r ih=>
    intro H;have h1:=ih (H:=doSlip s H);have h2:=doSlip_len (s:=s) (H:=H);rw [show aft H (s::r)=aft (doSlip s H) r from rfl,List.length_cons];omega
theorem openRow_len {p:Int} {row:List Int} {H:Hs}:∀ {j:Nat},(IA p row j H).length≤H.length+j:=by
  intro j
  induction j with
  | zero=>exact Nat.le_refl _
  | succ j ih=>simp only [IA];exact Nat.le_trans putH_len (by omega)
theorem openTo_len {st:List (List Int)} (h:∀ r∈st,r.length≤2):∀ {i:Nat},i≤st.length→(IU st i).length≤2*i:=by
  intro i
  induction i with
  | zero=>intro _;exact Nat.le_refl _
  | succ i ih=>
    intro hi;have h1:=openRow_len (p:=(i:Int)) (row:=st.getD i []) (H:=IU st i) (j:=(st.getD i []).length);have h2:=ih (by omega);have h3:=h _ (BJ (xs:=st) (d:=[]) (show i<st.length by omega));simp only [IU];omega
theorem atH_len {L:Lin} {n:Int} (g:GoodL L):(atH L n).length≤24:=by
  have h1:=aft_len (S:=AF AC (ED L n)) (H:=EH L);have h2:(EH L).length≤2*L.start.length:=openTo_len (fun r hr=>by have:=g.rows r hr;have:=g.sorts;omega) (Nat.le_refl _);have h3:(AF AC (ED L n)).length≤L.slips.length:=by rw [(DM _).length_eq];exact List.length_filter_le _ _
  have h4:=g.slips;have h5:=g.start;have h6:=g.places;unfold atH;omega
theorem atH_small {L:Lin} {n:Int} (g:GoodL L) (hn:((atH L n).map Prod.fst).Nodup):∀ x∈atH L n,-1000000≤x.2∧x.2≤1000000:=fun x hx=>by
  have hw:=((g.goodS.to n).sorted.within g.within (AF AC (ED L n)).length) x.1;rw [show (AF AC (atL L n).slips)=AF AC (ED L n) from rfl,List.take_length,show aft (EH L) (AF AC (ED L n))=atH L n from rfl,getH_mem hn hx] at hw;omega
theorem sum_cut {L:Lin} {n so:Int} {dn td A B:Hs} {y:HKey × Int} (g:GoodL L) (hn:((atH L n).map Prod.fst).Nodup) (hp:(dn++td).Perm (atH L n)) (e:td=A++y::B):(-24000000≤MM so dn∧MM so dn≤24000000)∧-1000000≤y.2∧y.2≤1000000:=by
  have hs:=atH_small g hn;have h1:=sumK_bound (so:=so) (H:=dn) (B:=1000000) (by omega) (fun x hx=>hs x (hp.subset (List.mem_append_left _ hx)));have h2:dn.length≤24:=by have:=hp.length_eq;have:=atH_len (n:=n) g;rw [List.length_append] at *;omega
  exact ⟨by omega,hs y (hp.subset (by rw [e];simp))⟩
theorem sumK_done {so:Int} {dn td H:Hs} (hp:(dn++td).Perm H) (h:td=[]):MM so dn=MM so H:=by subst h;rw [List.append_nil] at hp;exact sumK_perm hp
theorem sumK_snoc {so:Int} {dn:Hs} {y:HKey × Int}:MM so (dn++[y])=MM so dn+(if y.1.so=so then y.2 else 0):=by rw [sumK_append];simp [MM]
theorem gap_small {L:Lin} (g:GoodL L):∀ x∈DV (CD L),-1000000≤x.amt∧x.amt≤1000000:=by
  intro x hx;obtain ⟨e,he,hx⟩:=List.mem_flatMap.1 hx;unfold gapOf at hx
  split at hx
  · simp only [List.mem_singleton] at hx;subst hx
    obtain ⟨k,hk,rfl⟩:=List.mem_iff_getElem.1 he;have hk2:k<(AF AC L.slips).length:=by unfold CD at hk;rwa [GD] at hk
    have ht:=evs_take (H:=EH L) hk2;have e3:(CD L)[k]=evOf (aft (EH L) ((AF AC L.slips).take k)) ((AF AC L.slips).getD k AB):=by
      have h1:((evs (EH L) (AF AC L.slips)).take (k+1))[k]?=some (evOf (aft (EH L) ((AF AC L.slips).take k)) ((AF AC L.slips).getD k AB)):=by
        have hk3:k<(evs (EH L) (AF AC L.slips)).length:=hk;rw [ht,List.getElem?_append_right (by rw [List.length_take];omega),List.length_take,Nat.min_eq_left (by omega)];simp
      rw [List.getElem?_take_of_lt (by omega)] at h1;exact (List.getElem?_eq_some_iff.1 h1).2
    rw [e3];have hw:=(g.goodS.sorted.within g.within k) (keyOf ((AF AC L.slips).getD k AB));have ha:=(g.goodS.sorted.ok _ (BJ (d:=AB) hk2)).2.1;simp only [evOf];split <;> omega
  · cases hx
section
variable {L:Lin} {G:List Gap} {so n X:Int} {i m k:Nat} {s:Slip}
end
section
variable {p kh to f h:Int} {ks:List Keep} {k:Nat}
theorem kfold_spec (h0:∀ x∈ks,0≤x.hour):∀ k,k≤ks.length→(KV p h (ks.take k)=(0,-1)∧∀ x∈ks.take k,x.place=p→¬ x.hour≤h)∨∃ x∈ks.take k,x.place=p∧x.hour≤h∧KV p h (ks.take k)=(x.who,x.hour)∧∀ y∈ks.take k,y.place=p→y.hour≤h→y.hour≤x.hour:=by
  intro k
  induction k with
  | zero=>intro _;exact .inl ⟨rfl,fun x hx=>by simp at hx⟩
  | succ k ih=>
    intro hk;have hm:=BJ (xs:=ks) (d:=AL) (show k<ks.length by omega);have hin:∀ y,y∈ks.take (k+1)↔y∈ks.take k∨y=ks.getD k AL:=fun y=>by rw [BO (d:=AL) (by omega)];simp
    cases hc:(cmp .eql (ks.getD k AL).place p&&(cmp .leq (ks.getD k AL).hour h&&cmp .gtr (ks.getD k AL).hour (KV p h (ks.take k)).2)) with
    | true=>
      rw [← kfold_t (by omega) hc];simp only [JU,cmp_leq,cmp_gtr,Bool.and_eq_true,decide_eq_true_eq] at hc;refine .inr ⟨_,(hin _).2 (.inr rfl),hc.1,hc.2.1,rfl,fun y hy h1 h2=>?_⟩;rcases (hin y).1 hy with hy | rfl
      · rcases ih (by omega) with ⟨_,h3⟩ | ⟨x,_,_,_,h3,h4⟩
        · exact absurd h2 (h3 y hy h1)
        · have:=h4 y hy h1 h2;rw [h3] at hc;simp only at hc;omega
      · exact Int.le_refl _
    | false=>
      rw [← kfold_f (by omega) hc];have hn:¬ ((ks.getD k AL).place=p∧(ks.getD k AL).hour≤h∧(KV p h (ks.take k)).2<(ks.getD k AL).hour):=fun hh=>by
        simp only [JU,cmp_leq,cmp_gtr,hh.1,hh.2.1,hh.2.2,decide_true,Bool.and_self] at hc;cases hc
      rcases ih (by omega) with ⟨h2,h3⟩ | ⟨x,h1,h2,h5,h3,h4⟩
      · refine .inl ⟨h2,fun y hy h1 h4=>?_⟩
        rcases (hin y).1 hy with hy | rfl
        · exact h3 y hy h1 h4
        · refine hn ⟨h1,h4,?_⟩
          rw [h2];have:=h0 _ hm;simp only;omega
      · refine .inr ⟨x,(hin x).2 (.inl h1),h2,h5,h3,fun y hy h6 h7=>?_⟩
        rcases (hin y).1 hy with hy | rfl
        · exact h4 y hy h6 h7
        · rcases Int.lt_or_le x.hour (ks.getD k AL).hour with h8 | h8
          · exact absurd ⟨h6,h7,by rw [h3];exact h8⟩ hn
          · exact h8
end
theorem keepErr_ok2 {L:Lin} {i:Nat} (h:FH L i=0):(0≤(L.keeps.getD i AL).hour∧(L.keeps.getD i AL).hour≤200)∧(1≤(L.keeps.getD i AL).who∧(L.keeps.getD i AL).who≤9)∧∀ x∈L.keeps.take i,¬ (x.place=(L.keeps.getD i AL).place∧x.hour=(L.keeps.getD i AL).hour):=by
  unfold FH at h;simp only at h
  split at h;· omega
  split at h;· omega
  rename_i h2
  split at h;· omega
  rename_i h3
  split at h;· omega
  rename_i h4
  refine ⟨EI (by simpa using h2),EI (by simpa using h3),fun x hx hh=>h4 (List.any_eq_true.2 ⟨x,hx,by simp [hh.1,hh.2]⟩)⟩
section
variable {L:Lin} (g:GoodL L)
include g
theorem GoodL.keepOf {x:Keep} (hx:x∈L.keeps):(0≤x.hour∧x.hour≤200)∧(1≤x.who∧x.who≤9):=by
  obtain ⟨k,hk,rfl⟩:=List.mem_iff_getElem.1 hx;have:=keepErr_ok2 (g.keep k hk);have e:L.keeps.getD k AL=L.keeps[k]:=by simp [List.getD,hk]
  rw [e] at this;exact ⟨this.1,this.2.1⟩
theorem GoodL.keepOnce {x y:Keep} (hx:x∈L.keeps) (hy:y∈L.keeps) (h1:x.place=y.place) (h2:x.hour=y.hour):x=y:=by
  obtain ⟨i,hi,rfl⟩:=List.mem_iff_getElem.1 hx;obtain ⟨j,hj,rfl⟩:=List.mem_iff_getElem.1 hy;have aux:∀ i j (hi:i<L.keeps.length) (hj:j<L.keeps.length),i<j→¬ (L.keeps[i].place=L.keeps[j].place∧L.keeps[i].hour=L.keeps[j].hour):=fun i j hi hj hij hh=>by
    have:=(keepErr_ok2 (g.keep j hj)).2.2 L.keeps[i] (by rw [List.mem_take_iff_getElem];exact ⟨i,by omega,rfl⟩);have e:L.keeps.getD j AL=L.keeps[j]:=by simp [List.getD,hj]
    rw [e] at this;exact this hh
  rcases Nat.lt_trichotomy i j with h | h | h
  · exact absurd ⟨h1,h2⟩ (aux i j hi hj h)
  · subst h;rfl
  · exact absurd ⟨h1.symm,h2.symm⟩ (aux j i hj hi h)
theorem keeper_iff {p h w:Int} (hw:w≠0):BS L p h=w↔∃ x∈L.keeps,x.place=p∧x.hour≤h∧x.who=w∧∀ y∈L.keeps,y.place=p→y.hour≤h→y.hour≤x.hour:=by
  have hs:=kfold_spec (p:=p) (h:=h) (ks:=L.keeps) (fun x hx=>(g.keepOf hx).1.1) L.keeps.length (Nat.le_refl _);rw [List.take_length] at hs;unfold BS
  constructor
  · intro hh
    rcases hs with ⟨h1,_⟩ | ⟨x,hx,h1,h2,h3,h4⟩
    · rw [h1] at hh;exact absurd hh.symm hw
    · rw [h3] at hh;exact ⟨x,hx,h1,h2,hh,h4⟩
  · rintro ⟨x,hx,h1,h2,h3,h4⟩
    rcases hs with ⟨_,h5⟩ | ⟨y,hy,h5,h6,h7,h8⟩
    · exact absurd h2 (h5 x hx h1)
    · have e:x=y:=g.keepOnce hx hy (by rw [h1,h5]) (by have:=h8 x hx h1 h2;have:=h4 y hy h5 h6;omega)
      subst e;rw [h7];exact h3
omit g in
theorem holdTo_mem {p since x:Int}:∀ {n:Nat},x∈CP L p since n↔∃ h:Nat,h<n∧since≤h∧BS L p h=x∧x≠0:=by
  intro n
  induction n with
  | zero=>simp [CP]
  | succ n ih=>
    have up:(∃ h:Nat,h<n+1∧since≤h∧BS L p h=x∧x≠0)↔(∃ h:Nat,h<n∧since≤h∧BS L p h=x∧x≠0)∨(since≤n∧BS L p n=x∧x≠0):=by
      constructor
      · rintro ⟨h,h1,h2⟩
        rcases Nat.lt_or_ge h n with h3 | h3
        · exact .inl ⟨h,h3,h2⟩
        · have:h=n:=by omega
          subst this;exact .inr h2
      · rintro (⟨h,h1,h2⟩ | h2)
        · exact ⟨h,by omega,h2⟩
        · exact ⟨n,by omega,h2⟩
    rw [up,← ih];simp only [CP]
    split
    · rename_i h;exact ⟨.inl,fun q=>q.elim id (fun e=>by omega)⟩
    · split
      · rename_i h;exact ⟨.inl,fun q=>q.elim id (fun e=>absurd (e.2.1.symm.trans h) e.2.2)⟩
      · rename_i h1 h2
        split
        · rename_i h3;exact ⟨.inl,fun q=>q.elim id (fun e=>e.2.1▸h3)⟩
        · simp only [List.mem_append,List.mem_singleton]
          exact ⟨fun q=>q.elim .inl (fun e=>.inr ⟨by omega,e.symm,e▸h2⟩),fun q=>q.elim .inl (fun e=>.inr e.2.1.symm)⟩
omit g
theorem nodup_inj {α β:Type} {f:α→β} {l:List α} (h:(l.map f).Nodup):∀ a∈l,∀ b∈l,f a=f b→a=b:=by
  intro a ha b hb e
  induction l with
  | nil=>cases ha
  | cons x r ih=>
    rw [List.map_cons,List.nodup_cons] at h;rcases List.mem_cons.1 ha with rfl | ha1 <;> rcases List.mem_cons.1 hb with rfl | hb1
    · rfl
    · exact absurd (e▸List.mem_map_of_mem (f:=f) hb1) h.1
    · exact absurd (e▸List.mem_map_of_mem (f:=f) ha1) h.1
    · exact ih h.2 ha1 hb1
section
variable {i:Nat} (g:GoodL L) (hi:i<(AF AC L.slips).length)
include g hi
end
end
section
variable {L:Lin} {p who frm to:Int} {ks:List Keep} {k:Keep} {i m:Nat}
end
section
variable {L:Lin} {G:List Gap} {n:Int} {i k m:Nat}
variable (g:GoodL L) (hi:i<(sortS L.slips).length)
include g hi
end
section
variable {A:List Slip} {s:Slip} {k:Nat}
end
abbrev Ods:=List (Debt × Int)
def TL (k:Debt):Ods→Int
  | []=>0
  | x::r=>if x.1=k then x.2 else TL k r
def putO (k:Debt) (v:Int):Ods→Ods
  | []=>[(k,v)]
  | x::r=>if x.1=k then (k,v)::r else x::putO k v r
theorem getO_put {k j:Debt} {v:Int} {h:Ods}:TL j (putO k v h)=if j=k then v else TL j h:=by
  induction h with
  | nil=>simp only [putO,TL];by_cases e:j=k <;> simp [e,Ne.symm,eq_comm]
  | cons x r ih=>
    simp only [putO]
    split
    · rename_i e
      simp only [TL]
      by_cases e2:j=k
      · subst e2;simp
      · simp only [if_neg e2];rw [if_neg (Ne.symm e2),e,if_neg (Ne.symm e2)]
    · rename_i e
      simp only [TL]
      split
      · rename_i e2;rw [if_neg (fun e3=>e (e2.trans e3))]
      · exact ih
def okCells (k:Debt):Array Value:=#[.int .i64 k.who,.int .i64 k.sort,.int .i64 k.amt]
def encO (k:Debt):Value:=.agg (okCells k)
def flatO:List (Nat × SK):=[(0,.i .i64),(1,.i .i64),(2,.i .i64)]
theorem keyOk_debt {P:Program} {kt:TypeId} (h:LY P 4 kt=some (3,flatO)) (hagg:EJ P kt=some true):KeyOk P kt encO:=
  keyOk_flat h (by decide) hagg okCells (fun _=>rfl) (fun _=>rfl) (fun a b=>by
    obtain ⟨a1,a2,a3⟩:=a;obtain ⟨b1,b2,b3⟩:=b
    show ((a1 == b1)&&((a2 == b2)&&((a3 == b3)&&true)))=decide ((⟨a1,a2,a3⟩:Debt)=⟨b1,b2,b3⟩)
    simp only [Bool.and_true,Debt.mk.injEq,Bool.decide_and];rfl)
def intO (h:Ods):List (Debt × Value):=h.map fun x=>(x.1,.int .i64 x.2)
theorem QX (k:Debt) (h:Ods):(KI k (intO h)).getD (.int .i64 0)=.int .i64 (TL k h):=by
  induction h with
  | nil=>rfl
  | cons x r ih => simp only [intO, List.map_cons, KI, TL] at ih ⊢; split; · rfl
                   · exact ih
theorem upd_intO (k:Debt) (v:Int) (h:Ods):upd k (.int .i64 v) (intO h)=intO (putO k v h):=by
  induction h with
  | nil=>rfl
  | cons x r ih => simp only [intO, List.map_cons, upd, putO] at ih ⊢; split; · rfl
                   · rw [ih];rfl
def MapO (es:Array MapEntry) (cl:Nat) (H:Ods):Prop:=MapB encO es cl (intO H)∧(H.map Prod.fst).Nodup
def EntO (es:Array MapEntry) (cl:Nat) (H:Ods) (k:Debt) (st:Nat):Prop:=MapB encO es cl (ent k (.int .i64 0) (intO H))∧Stamp es (ent k (.int .i64 0) (intO H)) st k∧(H.map Prod.fst).Nodup
theorem MapO.nil (cl:Nat):MapO #[] cl []:=⟨MapB.nil _ _,by simp⟩
theorem putO_keys (k:Debt) (v:Int):∀ H:Ods,(putO k v H).map Prod.fst=if k∈H.map Prod.fst then H.map Prod.fst else H.map Prod.fst++[k]:=by
  intro H
  induction H with
  | nil=>rfl
  | cons x r ih=>
    simp only [putO]
    by_cases h:x.1=k
    · simp [h]
    · rw [if_neg h]
      simp only [List.map_cons,ih,List.mem_cons,Ne.symm h,false_or]
      split <;> simp
theorem putO_once {k:Debt} {v:Int} {H:Ods} (h:(H.map Prod.fst).Nodup):((putO k v H).map Prod.fst).Nodup:=by
  rw [putO_keys]
  split
  · exact h
  · rename_i hk
    exact List.nodup_append.2 ⟨h,by simp,fun a ha b hb=>by
      simp only [List.mem_singleton] at hb
      intro e;rw [e,hb] at ha;exact hk ha⟩
end Go.Sh
namespace Go.Sl
open Go Go.Sh
section
variable {P:Program} [Jud P] {N:Nat} {ops:Array Oper} {i:Nat} {l:Sl} {I:Imm} {M:Seg} {ty:TypeId} {gd:Option (Nat × Bool)} {K:Sl→Imm→Seg→Prop} {d:Nat}
theorem stp_entO {x y : Operand} {T kt et r cl : Nat} {es : Array MapEntry} {H : Ods} {k : Debt} (n : Nat) (hop : EL ops N i = some (some d, .mapEntry T x y, ty, gd)) (hg : EK ops l gd = some true)
    (hT:RL P T=some (kt,et)) (hK:KeyOk P kt encO) (hx:BK l x=some (.map (some r))) (hy:BK l y=some (encO k)) (hz:HK P et=some (.int .i64 0)) (hn:M[n]?=some (r,Obj.map es cl)) (hb:MapO es cl H)
    (h:∀ es' cl' (st:Nat),EntO es' cl' H k st→K ((d,.tuple #[.int .i64 (TL k H),.int .i64 (st:Int)])::l) I (M.set n (r,Obj.map es' cl'))):Stp P N ops i l I M K:=
  SQ n hop hg hT hK hx hy hz hn hb.1 fun es' cl' st h1 h2=>by
    rw [QX];exact h es' cl' st ⟨h1,h2,hb.2⟩
theorem stp_fillO {x y u : Operand} {T r cl st : Nat} {es : Array MapEntry} {H : Ods} {k : Debt} {v : Int} (n : Nat) (hop : EL ops N i = some (none, .entryStore T x y u, ty, gd)) (hg : EK ops l gd = some true)
    (hx:BK l x=some (.map (some r))) (hy:BK l y=some (.int .i64 (st:Int))) (hu:BK l u=some (.int .i64 v)) (hn:M[n]?=some (r,Obj.map es cl)) (hb:EntO es cl H k st)
    (h:∀ es',MapO es' cl (putO k v H)→K l I (M.set n (r,Obj.map es' cl))):Stp P N ops i l I M K:=
  OA (k:=k) n hop hg hx hy hu hn hb.1 hb.2.1 fun es' h'=>h es' ⟨by rw [upd_ent,upd_intO] at h';exact h',putO_once hb.2.2⟩
theorem stp_nextO {x : Operand} {r cl b : Nat} {es : Array MapEntry} {seen : Array Nat} {todo : Ods} (n : Nat) (hop : EL ops N i = some (some d, .next x false, ty, gd)) (hg : EK ops l gd = some true)
    (hx:BK l x=some (.pointer (some ⟨b,0,none⟩))) (hn:M[n]?=some (b,Obj.mapIter (some r) cl seen cl)) (hm:Holds I M r (.map es cl)) (hb:Borns es cl) (hl:Left encO es seen (intO todo))
    (h0:todo=[]→K ((d,.tuple #[.bool false])::l) I M)
    (h1:∀ A (y:Debt × Int) B seen',todo=A++y::B→Left encO es seen' (intO (A++B))→AtEntry encO es seen' (y.1,.int .i64 y.2)→K ((d,.tuple #[.bool true,encO y.1,.int .i64 y.2])::l) I (M.set n (b,Obj.mapIter (some r) cl seen' cl))):Stp P N ops i l I M K:=
  stp_next n hop hg hx hn hm hb hl (fun h=>h0 (by simpa [intO] using h)) fun A y B seen' e hl' ha=>by
    obtain ⟨A',y',B',rfl,rfl,rfl,rfl⟩:=map_cut (show todo.map _=A++y::B from e);exact h1 A' y' B' seen' rfl (by simpa [intO] using hl') ha
end
end Go.Sl
namespace Go.Sh
open Go Go.Sl
def oweK (q:EvH):Debt:=⟨q.2.getD 0 0,q.1.slip.sort,0⟩
def PZ (O:Ods) (q:EvH):Ods:=if q.1.gap<0∧q.2.length=1 then putO (oweK q) (TL (oweK q) O-q.1.gap) O else O
def FA (l:List EvH):Ods:=l.foldl PZ []
def mkD (q:Debt × Int):Debt:=⟨q.1.who,q.1.sort,q.2⟩
def FF (a b:Debt):Int:=if a.who≠b.who then a.who-b.who else a.sort-b.sort
def RW (s:Debt):Prop:=-1000000≤s.who∧s.who≤1000000∧-1000000≤s.sort∧s.sort≤1000000
def PY (L:Lin):List Debt × Int:=if AH L≠0 then ([],AH L) else (AF FF ((FA (FU L)).map mkD),0)
section
variable {L:Lin} {xs:List EvH} {x:EvH}
theorem owesOf_snoc:FA (xs++[x])=PZ (FA xs) x:=by unfold FA;rw [List.foldl_append];rfl
theorem owes_t (h:(cmp .lss x.1.gap 0&&cmp .eql (x.2.length:Int) 1)=true):putO ⟨x.2.getD 0 0,x.1.slip.sort,0⟩ (TL ⟨x.2.getD 0 0,x.1.slip.sort,0⟩ (FA xs)-x.1.gap) (FA xs)=FA (xs++[x]):=by
  simp only [cmp_lss,JU,Bool.and_eq_true,decide_eq_true_eq] at h;rw [owesOf_snoc];unfold PZ;rw [if_pos ⟨h.1,by omega⟩];rfl
theorem owes_f (h:(cmp .lss x.1.gap 0&&cmp .eql (x.2.length:Int) 1)=false):FA xs=FA (xs++[x]):=by
  simp only [cmp_lss,JU,Bool.and_eq_false_iff,decide_eq_false_iff_not] at h;rw [owesOf_snoc];unfold PZ;rw [if_neg (fun e=>by omega)]
theorem owedE_1 (h:AH L≠0):PY L=([],AH L):=if_pos h
theorem owedE_2 (h:AH L=0):PY L=(AF FF ((FA (FU L)).map mkD),0):=if_neg (fun x=>x h)
theorem lack_in {q:EvH}:∀ {i:Nat} {E:List Sh.Event},i≤E.length→q∈(FD L (E.take i)).2→q.1∈E.take i∧q.1.gap≠0∧∃ s,q.2=DZ L q.1.slip s:=by
  intro i
  induction i with
  | zero=>intro E _ hq;simp [FD] at hq
  | succ i ih=>
    intro E hi hq;rw [BO (d:=noEvent) (by omega:i<E.length)] at hq ⊢;rw [JQ] at hq;unfold SV at hq
    split at hq
    · exact ⟨List.mem_append_left _ (ih (by omega) hq).1,(ih (by omega) hq).2⟩
    · simp only at hq
      split at hq
      · rename_i hg
        rcases List.mem_append.1 hq with hq | hq
        · exact ⟨List.mem_append_left _ (ih (by omega) hq).1,(ih (by omega) hq).2⟩
        · simp only [List.mem_singleton] at hq;subst hq;exact ⟨by simp,hg,_,rfl⟩
      · exact ⟨List.mem_append_left _ (ih (by omega) hq).1,(ih (by omega) hq).2⟩
theorem lack_len:∀ {xs:List Sh.Event} {q:Hs × List EvH},((xs.foldl (SV L) q).2).length≤q.2.length+xs.length:=by
  intro xs
  induction xs with
  | nil=>intro q;exact Nat.le_refl _
  | cons x r ih=>
    intro q;have h1:=ih (q:=SV L q x);have h2:(SV L q x).2.length≤q.2.length+1:=by
      unfold SV;split
      · omega
      · simp only;split
        · simp
        · omega
    simp only [List.foldl_cons,List.length_cons];omega
variable (g:GoodL L)
include g
theorem lack_count:(FU L).length≤8:=by
  have h1:=lack_len (L:=L) (xs:=CD L) (q:=([],[]));have h2:=JV (L:=L);have h3:=g.slips;unfold FU FD;simp only [List.length_nil] at h1;omega
theorem lack_all {q:EvH} (hq:q∈FU L):(-1000000≤q.1.gap∧q.1.gap≤1000000)∧(0≤q.1.slip.sort∧q.1.slip.sort≤1)∧∀ w∈q.2,1≤w∧w≤9:=by
  have h1:=lack_in (L:=L) (i:=(CD L).length) (E:=CD L) (Nat.le_refl _) (q:=q) (by rw [List.take_length];exact hq);rw [List.take_length] at h1;obtain ⟨h2,h3,s,h4⟩:=h1;have h5:=gap_small g ⟨q.1.slip.num,q.1.gap⟩ (List.mem_flatMap.2 ⟨q.1,h2,by unfold gapOf;rw [if_pos h3];simp⟩);have h6:=LO (g.slipOf ((DM _).subset (evs_slip h2)));have h7:=g.sorts;refine ⟨h5,by omega,fun w hw=>?_⟩;rw [h4] at hw;unfold DZ at hw;have hw2:=(DM _).subset hw;obtain ⟨_,_,_,h8,h9⟩:=holdTo_mem.1 hw2;obtain ⟨k,hk,_,_,h10,_⟩:=(keeper_iff g h9).1 h8;have:=(g.keepOf hk).2;omega
theorem owes_keys:∀ {xs:List EvH},(∀ q∈xs,q∈FU L)→∀ x∈FA xs,x.1.amt=0∧(1≤x.1.who∧x.1.who≤9)∧(0≤x.1.sort∧x.1.sort≤1):=by
  have aux:∀ {xs:List EvH} {O:Ods},(∀ q∈xs,q∈FU L)→(∀ x∈O,x.1.amt=0∧(1≤x.1.who∧x.1.who≤9)∧(0≤x.1.sort∧x.1.sort≤1))→∀ x∈xs.foldl PZ O,x.1.amt=0∧(1≤x.1.who∧x.1.who≤9)∧(0≤x.1.sort∧x.1.sort≤1):=by
    intro xs
    induction xs with
    | nil=>intro O _ h;exact h
    | cons q r ih=>
      intro O hq h;refine ih (fun y hy=>hq y (by simp [hy])) ?_;unfold PZ
      split
      · rename_i hc
        intro x hx;have hk:x.1∈(putO (oweK q) (TL (oweK q) O-q.1.gap) O).map Prod.fst:=List.mem_map_of_mem hx;rw [putO_keys] at hk;have hl:=lack_all g (hq q (by simp));have hnew:x.1=oweK q→x.1.amt=0∧(1≤x.1.who∧x.1.who≤9)∧(0≤x.1.sort∧x.1.sort≤1):=fun e=>by
          rw [e];exact ⟨rfl,hl.2.2 _ (BJ (d:=0) (by omega)),hl.2.1⟩
        have hold:x.1∈O.map Prod.fst→x.1.amt=0∧(1≤x.1.who∧x.1.who≤9)∧(0≤x.1.sort∧x.1.sort≤1):=fun e=>by
          obtain ⟨y,hy,e2⟩:=List.mem_map.1 e;rw [← e2];exact h y hy
        split at hk
        · exact hold hk
        · rcases List.mem_append.1 hk with hk | hk
          · exact hold hk
          · exact hnew (List.mem_singleton.1 hk)
      · exact h
  intro xs hq x hx;exact aux hq (fun x hx=>by cases hx) x hx
theorem owes_bound {k:Debt}:∀ {xs:List EvH},(∀ q∈xs,q∈FU L)→0≤TL k (FA xs)∧TL k (FA xs)≤1000000*xs.length:=by
  have aux:∀ {xs:List EvH} {O:Ods} {B:Int},(∀ q∈xs,q∈FU L)→(∀ k,0≤TL k O∧TL k O≤B)→∀ k,0≤TL k (xs.foldl PZ O)∧TL k (xs.foldl PZ O)≤B+1000000*xs.length:=by
    intro xs
    induction xs with
    | nil=>intro O B _ h k;have:=h k;simp only [List.foldl_nil,List.length_nil];omega
    | cons q r ih=>
      intro O B hq h k
      have:=ih (O:=PZ O q) (B:=B+1000000) (fun y hy=>hq y (by simp [hy])) (fun j=>by
        have hl:=(lack_all g (hq q (by simp))).1
        unfold PZ;split
        · rw [getO_put];have:=h j;have:=h (oweK q);split <;> omega
        · have:=h j;omega) k
      simp only [List.foldl_cons,List.length_cons,Int.natCast_add,Int.natCast_one];omega
  intro xs hq;have:=aux (O:=[]) (B:=0) hq (fun k=>by simp [TL]) k;unfold FA;omega
end
section
variable {O dn td:Ods}
theorem SR (hn:(O.map Prod.fst).Nodup) (ha:∀ x∈O,x.1.amt=0):Strict FF (O.map mkD):=by
  refine ⟨fun a ha' b hb' hne=>?_,fun a _=>?_,fun a _ b _ d _ h1 h2=>?_⟩
  · obtain ⟨p,hp,rfl⟩:=List.mem_map.1 ha'
    obtain ⟨q,hq,rfl⟩:=List.mem_map.1 hb'
    have:¬ (p.1.who=q.1.who∧p.1.sort=q.1.sort):=fun e=>hne (by
      have e1:p.1=q.1:=by
        have h1:=ha p hp;have h2:=ha q hq
        cases hp1:p.1;cases hq1:q.1
        rw [hp1,hq1] at e;rw [hp1] at h1;rw [hq1] at h2
        simp only at e h1 h2
        rw [e.1,e.2,h1,h2]
      have:=nodup_inj hn p hp q hq e1
      rw [this])
    unfold FF mkD;simp only
    split <;> split <;> omega
  · unfold FF;split <;> omega
  · unfold FF at *;split at h1 <;> split at h2 <;> split <;> omega
theorem nodup_debts (hn:(O.map Prod.fst).Nodup) (ha:∀ x∈O,x.1.amt=0):(O.map mkD).Nodup:=by
  have hs:=SR hn ha;rw [List.Nodup,List.pairwise_map];have h1:O.Pairwise fun a b=>a.1≠b.1:=List.pairwise_map.1 hn
  refine List.Pairwise.imp_of_mem (fun {a b} hA hB hab e=>hab ?_) h1;have h2:=ha a hA;have h3:=ha b hB;unfold mkD at e;simp only [Debt.mk.injEq] at e;cases ha1:a.1;cases hb1:b.1;rw [ha1] at h2 e;rw [hb1] at h3 e;simp only at h2 h3 e;rw [e.1,e.2.1,h2,h3]
theorem debts_sorted (hn:(O.map Prod.fst).Nodup) (ha:∀ x∈O,x.1.amt=0) (hp:(dn++td).Perm O) (ht:td=[]):AF FF (dn.map mkD)=AF FF (O.map mkD):=by
  subst ht;rw [List.append_nil] at hp;have hpm:(dn.map mkD).Perm (O.map mkD):=hp.map _;have hs:=SR hn ha;have hnd:=nodup_debts hn ha;exact asc_unique ((hs.perm hpm).perm (DM _)) ((DM _).trans (hpm.trans (DM _).symm)) (SH (hs.perm hpm) (hpm.nodup_iff.2 hnd)) (SH hs hnd)
theorem small_debts {L:Lin} (g:GoodL L) (hp:(dn++td).Perm (FA (FU L))):∀ x∈dn.map mkD,RW x:=fun x hx=>by
  obtain ⟨q,hq,rfl⟩:=List.mem_map.1 hx;have:=owes_keys g (xs:=FU L) (fun _ h=>h) q (hp.subset (List.mem_append_left _ hq));unfold RW mkD;simp only;omega
theorem owes_len:∀ {xs:List EvH},(FA xs).length≤xs.length:=by
  have aux:∀ {xs:List EvH} {O:Ods},(xs.foldl PZ O).length≤O.length+xs.length:=by
    intro xs
    induction xs with
    | nil=>intro O;exact Nat.le_refl _
    | cons q r ih=>
      intro O;have h1:=ih (O:=PZ O q);have h2:(PZ O q).length≤O.length+1:=by
        unfold PZ;split
        · have h3:=congrArg List.length (putO_keys (oweK q) (TL (oweK q) O-q.1.gap) O)
          rw [List.length_map] at h3
          split at h3
          · rw [List.length_map] at h3;omega
          · rw [List.length_append,List.length_map,List.length_singleton] at h3;omega
        · omega
      simp only [List.foldl_cons,List.length_cons];omega
  intro xs;have:=aux (xs:=xs) (O:=[]);unfold FA;simp only [List.length_nil] at this;omega
end
def KX:Lin:=⟨0,0,[],[],[]⟩
def GI (L:Lin) (ns:List Int) (i:Nat):Int:=if L.slips.any (fun x=>decide (x.num=ns.getD i 0))=false then 3 else if ns.getD i 0∈ns.take i then 4 else 0
def AP (L:Lin) (ns:List Int):Lin × Int:=
  if AH L≠0 then (KX,AH L) else if DY (GI L ns) ns.length≠0 then (KX,DY (GI L ns) ns.length) else (woL L ns,0)
def lateL (L:Lin) (s:Slip):Lin:=⟨L.places,L.sorts,L.start,L.keeps,L.slips++[s]⟩
def CG (L:Lin) (s:Slip):Lin × Int:=
  if AH L≠0 then (KX,AH L) else if 8≤L.slips.length then (KX,6) else if CW L s≠0 then (KX,CW L s)
  else if L.slips.any (fun x=>decide (x.num=s.num))=true then (KX,4) else (lateL L s,0)
section
variable {L:Lin} {ns:List Int} {s:Slip} {k:Nat}
theorem strikeE_1 (h:AH L≠0):AP L ns=(KX,AH L):=if_pos h
theorem strikeE_2 (h:AH L=0) (hz:DY (GI L ns) k=0) (hk:k<ns.length) (h3:L.slips.any (fun x=>decide (x.num=ns.getD k 0))=false):AP L ns=(KX,3):=by
  have e:GI L ns k=3:=if_pos h3;have e2:=NJ hz (by rw [e];decide) hk;unfold AP;rw [if_neg (fun x=>x h),e2,e,if_pos (by decide)]
theorem strikeE_3 (h:AH L=0) (hz:DY (GI L ns) k=0) (hk:k<ns.length) (h3:L.slips.any (fun x=>decide (x.num=ns.getD k 0))=true) (h4:ns.getD k 0∈ns.take k):AP L ns=(KX,4):=by
  have e:GI L ns k=4:=by unfold GI;rw [if_neg (by rw [h3];decide),if_pos h4]
  have e2:=NJ hz (by rw [e];decide) hk;unfold AP;rw [if_neg (fun x=>x h),e2,e,if_pos (by decide)]
theorem strikeE_4 (h:AH L=0) (hz:DY (GI L ns) k=0) (hk:ns.length≤k):AP L ns=(woL L ns,0):=by
  have e:DY (GI L ns) ns.length=0:=firstE_zero.2 fun j hj=>firstE_zero.1 hz j (by omega)
  unfold AP;rw [if_neg (fun x=>x h),e,if_neg (fun x=>x rfl)]
theorem strike_next (hz:DY (GI L ns) k=0) (h3:L.slips.any (fun x=>decide (x.num=ns.getD k 0))=true) (h4:¬ ns.getD k 0∈ns.take k):DY (GI L ns) (k+1)=0:=
  OH hz (by unfold GI;rw [if_neg (by rw [h3];decide),if_neg h4])
theorem lateE_1 (h:AH L≠0):CG L s=(KX,AH L):=if_pos h
theorem lateE_2 (h:AH L=0) (h2:8≤L.slips.length):CG L s=(KX,6):=by unfold CG;rw [if_neg (fun x=>x h),if_pos h2]
theorem lateE_3 (h:AH L=0) (h2:¬ 8≤L.slips.length) (h3:CW L s≠0):CG L s=(KX,CW L s):=by unfold CG;rw [if_neg (fun x=>x h),if_neg h2,if_pos h3]
theorem lateE_4 (h:AH L=0) (h2:¬ 8≤L.slips.length) (h3:CW L s=0) (h4:L.slips.any (fun x=>decide (x.num=s.num))=true):CG L s=(KX,4):=by unfold CG;rw [if_neg (fun x=>x h),if_neg h2,if_neg (fun x=>x h3),if_pos h4]
theorem lateE_5 (h:AH L=0) (h2:¬ 8≤L.slips.length) (h3:CW L s=0) (h4:L.slips.any (fun x=>decide (x.num=s.num))=false):CG L s=(lateL L s,0):=by unfold CG;rw [if_neg (fun x=>x h),if_neg h2,if_neg (fun x=>x h3),if_neg (by rw [h4];decide)]
end
def JI (A B:Lin):Int:=if AH A=0 then AH B else AH A
def KQ (A B:Lin):Prop:=A.places=B.places∧A.sorts=B.sorts∧A.start=B.start∧A.keeps=B.keeps
instance (A B:Lin):Decidable (KQ A B):=inferInstanceAs (Decidable (_∧_))
abbrev idxN (A:List Slip) (s:Slip):Int:=MA (fun x=>decide (x.num=s.num)) A
def OV (A:List Slip) (s:Slip):Bool:=decide (¬ idxN A s<0∧A.getD (idxN A s).toNat AB≠s)
def OP (A:List Slip) (s:Slip):Bool:=decide (idxN A s<0)
def mrgS (A B:List Slip):List Slip:=A++B.filter (OP A)
def mrgL (A B:Lin):Lin:=⟨A.places,A.sorts,A.start,A.keeps,mrgS A.slips B.slips⟩
def BN (A B:Lin):Lin × Int:=
  if JI A B≠0 then (KX,JI A B) else if ¬ KQ A B then (KX,12) else if B.slips.any (OV A.slips)=true then (KX,4)
  else if 8<(mrgS A.slips B.slips).length then (KX,6) else (mrgL A B,0)
section
variable {A B:Lin} {k:Nat}
theorem two_0 (h:JI A B=0):AH A=0∧AH B=0:=by
  unfold JI at h
  split at h
  · exact ⟨by assumption,h⟩
  · omega
theorem mergeE_1 (h:JI A B≠0):BN A B=(KX,JI A B):=if_pos h
theorem mergeE_2 (h:JI A B=0) (h2:¬ KQ A B):BN A B=(KX,12):=by unfold BN;rw [if_neg (fun x=>x h),if_pos h2]
theorem mergeE_3 (h:JI A B=0) (h2:KQ A B) {ix:Int} (hix:ix=idxN A.slips (B.slips.getD k AB)) (hk:k<B.slips.length) (h3:¬ ix<0) (h4:A.slips.getD ix.toNat AB≠B.slips.getD k AB):BN A B=(KX,4):=by
  subst hix;unfold BN;rw [if_neg (fun x=>x h),if_neg (fun x=>x h2),if_pos];exact List.any_eq_true.2 ⟨_,BJ (d:=AB) hk,decide_eq_true ⟨h3,h4⟩⟩
theorem mergeE_4 (h:JI A B=0) (h2:KQ A B) (hn:(B.slips.take k).any (OV A.slips)=false) (hk:B.slips.length≤k) (h3:8<(A.slips++(B.slips.take k).filter (OP A.slips)).length):BN A B=(KX,6):=by
  rw [List.take_of_length_le hk] at hn h3;unfold BN;rw [if_neg (fun x=>x h),if_neg (fun x=>x h2),if_neg (by rw [hn];decide),if_pos (show 8<(mrgS A.slips B.slips).length from h3)]
theorem mergeE_5 (h:JI A B=0) (h2:KQ A B) (hn:(B.slips.take k).any (OV A.slips)=false) (hk:B.slips.length≤k) (h3:¬ 8<(A.slips++(B.slips.take k).filter (OP A.slips)).length):BN A B=(mrgL A B,0):=by
  rw [List.take_of_length_le hk] at hn h3;unfold BN;rw [if_neg (fun x=>x h),if_neg (fun x=>x h2),if_neg (by rw [hn];decide),if_neg (show ¬ 8<(mrgS A.slips B.slips).length from h3)]
theorem mrg_any (hn:(B.slips.take k).any (OV A.slips)=false) (hk:k<B.slips.length) (hc:OV A.slips (B.slips.getD k AB)=false):(B.slips.take (k+1)).any (OV A.slips)=false:=by
  rw [BO (d:=AB) hk,List.any_append,hn,List.any_cons,hc];rfl
theorem clash_lt {ix:Int} (hix:ix=idxN A.slips (B.slips.getD k AB)) (h:ix<0):OV A.slips (B.slips.getD k AB)=false:=by
  subst hix;exact decide_eq_false fun x=>x.1 h
theorem clash_eq {ix:Int} (hix:ix=idxN A.slips (B.slips.getD k AB)) (h:A.slips.getD ix.toNat AB=B.slips.getD k AB):OV A.slips (B.slips.getD k AB)=false:=by
  subst hix;exact decide_eq_false fun x=>x.2 h
theorem mrg_new {ix:Int} (hix:ix=idxN A.slips (B.slips.getD k AB)) (hk:k<B.slips.length) (h:ix<0):A.slips++(B.slips.take (k+1)).filter (OP A.slips)=A.slips++(B.slips.take k).filter (OP A.slips)++[B.slips.getD k AB]:=by
  subst hix;rw [BO (d:=AB) hk,List.filter_append,List.filter_cons_of_pos (by exact decide_eq_true h),List.filter_nil,List.append_assoc]
theorem mrg_old {ix:Int} (hix:ix=idxN A.slips (B.slips.getD k AB)) (hk:k<B.slips.length) (h:¬ ix<0):A.slips++(B.slips.take (k+1)).filter (OP A.slips)=A.slips++(B.slips.take k).filter (OP A.slips):=by
  subst hix;rw [BO (d:=AB) hk,List.filter_append,List.filter_cons_of_neg (by simpa [OP] using h),List.filter_nil,List.append_nil]
theorem idx_in {L:List Slip} {p:Slip→Bool} (h:¬ MA p L<0):0≤MA p L∧MA p L<L.length:=by
  obtain ⟨i,e,h1,_⟩:=idxF_spec (d:=AB) (show 0≤MA p L by omega);omega
theorem head_no (h:((!(cmp .eql A.places B.places))||((!(cmp .eql A.sorts B.sorts))||((!(decide (A.start=B.start)))||(!(decide (A.keeps=B.keeps))))))=true):¬ KQ A B:=by
  rintro ⟨h1,h2,h3,h4⟩
  rw [h1,h2,h3,h4] at h;simp [JU] at h
theorem mrgL_k (hk:B.slips.length≤k):(⟨A.places,A.sorts,A.start,A.keeps,A.slips++(B.slips.take k).filter (OP A.slips)⟩:Lin)=mrgL A B:=by
  rw [List.take_of_length_le hk];rfl
theorem mrg_len (g:GoodL A) (g2:GoodL B):(A.slips++(B.slips.take k).filter (OP A.slips)).length≤16:=by
  have h1:=g.slips;have h2:=g2.slips;have h3:=List.length_filter_le (OP A.slips) (B.slips.take k);rw [List.length_take] at h3;rw [List.length_append];omega
end
abbrev num (n:Int):List UInt8:=Lib.itoa n
theorem join_le {m:Nat} {s:UInt8}:∀ {xs:List (List UInt8)},(∀ x∈xs,x.length≤m)→(Lib.join xs [s]).length≤xs.length*(m+1):=by
  intro xs h;cases xs with
  | nil=>simp [Lib.join_nil]
  | cons x r=>
    rw [Lib.join_cons,List.length_append];have hr:∀ {r:List (List UInt8)},(∀ x∈r,x.length≤m)→(Lib.joinTail [s] r).length≤r.length*(m+1):=by
      intro r hr
      induction r with
      | nil=>simp [Lib.joinTail]
      | cons y r ih=>
        have h1:=hr y (List.mem_cons_self ..);have h2:=ih fun z hz=>hr z (List.mem_cons_of_mem _ hz)
        simp only [Lib.joinTail,List.map_cons,List.flatten_cons,List.length_append,List.length_cons,List.length_nil] at h2 ⊢;rw [Nat.add_mul];omega
    have h1:=h x (List.mem_cons_self ..);have h2:=hr (r:=r) fun z hz=>h z (List.mem_cons_of_mem _ hz)
    rw [List.length_cons,Nat.add_mul];omega
section
variable {c:Car}
end
theorem join_le_of {m n:Nat} {s:UInt8} {xs:List (List UInt8)} (h:∀ x∈xs,x.length≤m) (hn:xs.length*(m+1)≤n):(Lib.join xs [s]).length≤n:=Nat.le_trans (join_le h) hn
theorem dec1 {n:Nat} (h:n<10):Lib.decDigits n=[UInt8.ofNat (48+n)]:=by rw [Lib.decDigits,dif_pos h]
theorem dec2 {n:Nat} (h:10≤n) (h2:n<100):Lib.decDigits n=[UInt8.ofNat (48+n/10),UInt8.ofNat (48+n%10)]:=by
  rw [Lib.decDigits,dif_neg (by omega),dec1 (by omega)];rfl
def cutL (b:UInt8):List UInt8→List (List UInt8)
  | []=>[[]]
  | c::s=>if c=b then []::cutL b s else match cutL b s with
    | []=>[[c]]
    | x::r=>(c::x)::r
theorem cutL_len {b:UInt8}:∀ {s:List UInt8},(cutL b s).length=s.count b+1
  | []=>rfl
  | c::s=>by
    have ih:=cutL_len (b:=b) (s:=s);unfold cutL
    split
    · rename_i hc;subst hc
      rw [List.length_cons,ih,List.count_cons_self]
    · rename_i hc
      rw [List.count_cons_of_ne (by exact hc)]
      split
      · rename_i e;rw [e] at ih;simp at ih
      · rename_i x r e;rw [e] at ih;simpa using ih
theorem cutL_len_le {b:UInt8} {s:List UInt8}:(cutL b s).length≤s.length+1:=by
  rw [cutL_len];have:=List.count_le_length (a:=b) (l:=s);omega
def Cutting (b:UInt8) (s:List UInt8) (i frm:Nat) (out:List (List UInt8)):Prop:=
  (i≤s.length∧frm≤i∧cutL b s=out++cutL b (s.drop frm)∧∀ k,frm≤k→k<i→s.getD k 0≠b)∨(i=s.length+1∧frm=s.length+1∧out=cutL b s)
theorem Cutting.start {b:UInt8} {s:List UInt8}:Cutting b s 0 0 []:=.inl ⟨Nat.zero_le _,Nat.le_refl _,rfl,fun k _ h=>by omega⟩
theorem Cutting.le {b:UInt8} {s:List UInt8} {i frm:Nat} {out:List (List UInt8)} (h:Cutting b s i frm out):i≤s.length+1:=by
  rcases h with h | h
  · have:=h.1;omega
  · omega
theorem Cutting.free {b:UInt8} {s:List UInt8} {i frm:Nat} (h1:frm≤i) (h:i≤s.length) (hf:∀ k,frm≤k→k<i→s.getD k 0≠b):b∉(s.drop frm).take (i-frm):=by
  intro hm;obtain ⟨k,hk,e⟩:=List.mem_iff_getElem.1 hm;simp only [List.length_take,List.length_drop] at hk;simp only [List.getElem_take,List.getElem_drop] at e;exact hf (frm+k) (by omega) (by omega) (by simp [List.getD_eq_getElem?_getD,List.getElem?_eq_getElem (show frm+k<s.length by omega),e])
theorem Cutting.len {b:UInt8} {s:List UInt8} {i frm:Nat} {out:List (List UInt8)} (h:Cutting b s i frm out):out.length≤s.length+1:=by
  have hl:=cutL_len_le (b:=b) (s:=s);rcases h with ⟨_,_,h3,_⟩ | ⟨_,_,h3⟩
  · rw [h3,List.length_append] at hl;omega
  · rw [h3];exact hl
def isDig (c:UInt8):Bool:=decide (48≤c.toNat)&&decide (c.toNat≤57)
def numV (s:List UInt8):Int:=s.foldl (fun n c=>10*n+((c.toNat:Int)-48)) 0
def numIs (s:List UInt8):Bool:=decide (1≤s.length)&&decide (s.length≤3)&&!(decide (s.getD 0 0=48)&&decide (1<s.length))&&s.all isDig
def numsIs (l:List (List UInt8)):Bool:=l.all numIs
def numsV (l:List (List UInt8)):List Int:=if numsIs l=true then l.map numV else []
def coachWord:List UInt8:=[99,111,97,99,104]
def trackWord:List UInt8:=[116,114,97,99,107]
def pointsWord:List UInt8:=[112,111,105,110,116,115]
def marksIs (m:List UInt8):Bool:=decide (m=[45])||decide (m=[112])||decide (m=[104])||decide (m=[112,104])
def carOf (l:List Int) (m:List UInt8):Car:=⟨l.getD 0 0,l.getD 1 0,l.getD 2 0,l.getD 3 0,decide (m.getD 0 0=112),decide (m.getD (m.length-1) 0=104)⟩
def coachIs (w:List (List UInt8)):Bool:=decide (w.length=6)&&decide (w.getD 0 []=coachWord)&&(numsIs ((w.drop 1).take 4)&&marksIs (w.getD 5 []))
def coachV (w:List (List UInt8)):Car:=if coachIs w=true then carOf (numsV ((w.drop 1).take 4)) (w.getD 5 []) else noCar
def restIs (r:List UInt8):Bool:=decide (r=[])||numsIs (cutL 44 r)
def restV (r:List UInt8):List Int:=if r=[] then [] else numsV (cutL 44 r)
def trackIs (w:List (List UInt8)):Bool:=decide (w.length=2)&&decide (w.getD 0 []=trackWord)&&(decide ((cutL 58 (w.getD 1 [])).length=2)&&(numIs ((cutL 58 (w.getD 1 [])).getD 0 [])&&restIs ((cutL 58 (w.getD 1 [])).getD 1 [])))
def roomV (w:List (List UInt8)):Int:=numV ((cutL 58 (w.getD 1 [])).getD 0 [])
def trackV (w:List (List UInt8)):List Int:=restV ((cutL 58 (w.getD 1 [])).getD 1 [])
def stepM (Y:Yard) (e:Bool) (row:List UInt8):Option (Yard × Bool):=
  if e=true then none
  else if coachIs (cutL 32 row)=true∧Y.room=[] then some (⟨Y.cars++[coachV (cutL 32 row)],Y.room,Y.tracks⟩,false)
  else if trackIs (cutL 32 row)=true then some (⟨Y.cars,Y.room++[roomV (cutL 32 row)],Y.tracks++[trackV (cutL 32 row)]⟩,false)
  else if row=pointsWord then some (Y,true)
  else none
theorem IQ {d:Nat} (h:d≤9):(UInt8.ofNat (48+d)).toNat=48+d:=by
  rw [UInt8.toNat_ofNat'];omega
theorem LI {d:Nat} (h:d≤9):isDig (UInt8.ofNat (48+d))=true:=by
  unfold isDig;rw [IQ h];simp;omega
theorem ofd_48 {d:Nat} (h:d≤9):UInt8.ofNat (48+d)=48↔d=0:=by
  rw [← UInt8.toNat_inj,IQ h];show 48+d=48↔_;omega
theorem dec3 {n:Nat} (h:100≤n) (h2:n<1000):Lib.decDigits n=[UInt8.ofNat (48+n/100),UInt8.ofNat (48+n/10%10),UInt8.ofNat (48+n%10)]:=by
  rw [Lib.decDigits,dif_neg (by omega),dec2 (n:=n/10) (by omega) (by omega)];rw [show n/10/10=n/100 by omega];rfl
theorem num_nat (n:Nat):num (n:Int)=Lib.decDigits n:=by rw [num,Lib.itoa,if_neg (by omega)];rfl
theorem numV_1 {a:Nat} (ha:a≤9):numV [UInt8.ofNat (48+a)]=(a:Int):=by
  simp only [numV,List.foldl_cons,List.foldl_nil,IQ ha];omega
theorem numV_2 {a b:Nat} (ha:a≤9) (hb:b≤9):numV [UInt8.ofNat (48+a),UInt8.ofNat (48+b)]=((10*a+b:Nat):Int):=by
  simp only [numV,List.foldl_cons,List.foldl_nil,IQ ha,IQ hb];omega
theorem numV_3 {a b c:Nat} (ha:a≤9) (hb:b≤9) (hc:c≤9):numV [UInt8.ofNat (48+a),UInt8.ofNat (48+b),UInt8.ofNat (48+c)]=((100*a+10*b+c:Nat):Int):=by
  simp only [numV,List.foldl_cons,List.foldl_nil,IQ ha,IQ hb,IQ hc];omega
theorem numIs_1 {a:Nat} (ha:a≤9):numIs [UInt8.ofNat (48+a)]=true:=by
  simp only [numIs,List.length_cons,List.length_nil,List.all_cons,List.all_nil,LI ha];simp
theorem numIs_2 {a b:Nat} (h0:1≤a) (ha:a≤9) (hb:b≤9):numIs [UInt8.ofNat (48+a),UInt8.ofNat (48+b)]=true:=by
  have:=mt (ofd_48 ha).1 (by omega);simp only [numIs,List.length_cons,List.length_nil,List.getD_cons_zero,List.all_cons,List.all_nil,LI ha,LI hb,decide_eq_false this];simp
theorem numIs_3 {a b c:Nat} (h0:1≤a) (ha:a≤9) (hb:b≤9) (hc:c≤9):numIs [UInt8.ofNat (48+a),UInt8.ofNat (48+b),UInt8.ofNat (48+c)]=true:=by
  have:=mt (ofd_48 ha).1 (by omega);simp only [numIs,List.length_cons,List.length_nil,List.getD_cons_zero,List.all_cons,List.all_nil,LI ha,LI hb,LI hc,decide_eq_false this];simp
theorem num_form {n : Nat} (h : n < 1000) :
    (∃ a,a≤9∧n=a∧Lib.decDigits n=[UInt8.ofNat (48+a)])∨(∃ a b,1≤a∧a≤9∧b≤9∧n=10*a+b∧Lib.decDigits n=[UInt8.ofNat (48+a),UInt8.ofNat (48+b)])
     ∨∃ a b c,1≤a∧a≤9∧b≤9∧c≤9∧n=100*a+10*b+c∧Lib.decDigits n=[UInt8.ofNat (48+a),UInt8.ofNat (48+b),UInt8.ofNat (48+c)]:=by
  by_cases h1:n<10
  · exact .inl ⟨n,by omega,rfl,dec1 h1⟩
  · by_cases h2:n<100
    · exact .inr (.inl ⟨n/10,n%10,by omega,by omega,by omega,by omega,dec2 (by omega) h2⟩)
    · exact .inr (.inr ⟨n/100,n/10%10,n%10,by omega,by omega,by omega,by omega,by omega,dec3 (by omega) h⟩)
theorem num_law {n:Nat} (h:n<1000):numIs (num (n:Int))=true∧numV (num (n:Int))=n:=by
  rw [num_nat];rcases num_form h with ⟨a,ha,e,e2⟩ | ⟨a,b,h0,ha,hb,e,e2⟩ | ⟨a,b,c,h0,ha,hb,hc,e,e2⟩ <;> rw [e2]
  · exact ⟨numIs_1 ha,by rw [numV_1 ha,e]⟩
  · exact ⟨numIs_2 h0 ha hb,by rw [numV_2 ha hb,e]⟩
  · exact ⟨numIs_3 h0 ha hb hc,by rw [numV_3 ha hb hc,e]⟩
theorem num_read {x:Int} (h:0≤x∧x<1000):numIs (num x)=true∧numV (num x)=x:=by
  obtain ⟨n,rfl⟩:∃ n:Nat,x=n:=⟨x.toNat,by omega⟩;exact num_law (by omega)
def atoiV (s:List UInt8):Int:=match Lib.atoiAll s with
  | .ok v=>v
  | .range=>Lib.atoiSat s
  | _=>0
def tcIs (w:List (List UInt8)):Bool:=decide (w.length=6)&&(numsIs ((w.drop 1).take 4)&&marksIs (w.getD 5 []))
def tcV (w:List (List UInt8)):Car:=carOf (numsV ((w.drop 1).take 4)) (w.getD 5 [])
theorem RJ (Y:Yard) (row:List UInt8):stepM Y true row=none:=rfl
section
variable {Y:Yard} {row:List UInt8}
end
section
variable {Y:Yard} {e:Bool} {row:List UInt8}
end
def tcY (Y:Yard) (W:List (List UInt8)):Yard:=if tcIs W=true then ⟨Y.cars++[tcV W],Y.room,Y.tracks⟩ else Y
def ttY (Y:Yard) (W:List (List UInt8)):Yard:=if W.length=2 then ⟨Y.cars,Y.room++[atoiV (Lib.cut (W.getD 1 []) [58]).1],Y.tracks++[restV (Lib.cut (W.getD 1 []) [58]).2.1]⟩ else Y
section
variable {W:List (List UInt8)} (h6:W.length=6) (hn:numsIs ((W.drop 1).take 4)=true)
include h6 hn
end
def YL (Y:Yard) (i:Nat):Prop:=Y.cars.length≤i∧Y.room.length≤i∧Y.tracks.length≤i∧Y.tracks.length=Y.room.length
theorem YL.c {Y:Yard} {i:Nat} (h:YL Y i) (W:List (List UInt8)):YL (tcY Y W) (i+1):=by
  unfold YL at h ⊢;unfold tcY
  split
  · simp only [List.length_append,List.length_cons,List.length_nil];omega
  · omega
theorem YL.t {Y:Yard} {i:Nat} (h:YL Y i) (W:List (List UInt8)):YL (ttY Y W) (i+1):=by
  unfold YL at h ⊢;unfold ttY
  split
  · simp only [List.length_append,List.length_cons,List.length_nil];omega
  · omega
section
variable {Y:Yard} {e:Bool} {row:List UInt8}
end
def moveW:List UInt8:=[109,111,118,101]
def useW:List UInt8:=[117,115,101]
def washW:List UInt8:=[119,97,115,104]
def countW:List UInt8:=[99,111,117,110,116]
def buyW:List UInt8:=[98,117,121]
def scrapW:List UInt8:=[115,99,114,97,112]
def linenW:List UInt8:=[108,105,110,101,110]
def startW:List UInt8:=[115,116,97,114,116]
def keepW:List UInt8:=[107,101,101,112]
def countedW:List UInt8:=[99,111,117,110,116,101,100]
def wordTab:List (Int × List UInt8):=[(1,moveW),(2,useW),(3,washW),(4,countW),(5,buyW),(6,scrapW)]
def wordK (k:Int):List UInt8:=if k=1 then moveW else if k=2 then useW else if k=3 then washW else if k=4 then countW else if k=5 then buyW else if k=6 then scrapW else []
def kindOf (w:List UInt8):Int:=if w=moveW then 1 else if w=useW then 2 else if w=washW then 3 else if w=countW then 4 else if w=buyW then 5 else if w=scrapW then 6 else 0
def wordsV:List (Int × Value):=wordTab.map fun x=>(x.1,sV x.2)
theorem wordsV_eq:wordsV=[(1,sV moveW),(2,sV useW),(3,sV washW),(4,sV countW),(5,sV buyW),(6,sV scrapW)]:=rfl
theorem getKv_words (k:Int):(KI k wordsV).getD (sV [])=sV (wordK k):=by
  rw [wordsV_eq];simp only [KI,wordK,eq_comm (a:=(1:Int)),eq_comm (a:=(2:Int)),eq_comm (a:=(3:Int)),eq_comm (a:=(4:Int)),eq_comm (a:=(5:Int)),eq_comm (a:=(6:Int))]
  by_cases h1:k=1
  · subst h1;rfl
  by_cases h2:k=2
  · subst h2;rfl
  by_cases h3:k=3
  · subst h3;rfl
  by_cases h4:k=4
  · subst h4;rfl
  by_cases h5:k=5
  · subst h5;rfl
  by_cases h6:k=6
  · subst h6;rfl
  simp [h1,h2,h3,h4,h5,h6]
theorem upd_words:upd 6 (sV [115,99,114,97,112]) (upd 5 (sV [98,117,121]) (upd 4 (sV [99,111,117,110,116]) (upd 3 (sV [119,97,115,104]) (upd 2 (sV [117,115,101]) (upd (1:Int) (sV [109,111,118,101]) [])))))=wordsV:=by
  simp only [upd,wordsV_eq,moveW,useW,washW,countW,buyW,scrapW];rfl
theorem wordK_le (k:Int):(wordK k).length≤5:=by
  unfold wordK moveW useW washW countW buyW scrapW
  repeat' split
  all_goals simp
theorem wordTab_kind {y:Int × List UInt8} (h:y∈wordTab):kindOf y.2=y.1:=by
  simp only [wordTab,List.mem_cons,List.not_mem_nil,or_false] at h;rcases h with rfl | rfl | rfl | rfl | rfl | rfl <;> decide
def jn (w:List UInt8) (l:List Int):List UInt8:=w++l.flatMap fun n=>59::num n
theorem jn_nil (w:List UInt8):jn w []=w:=by simp [jn]
theorem jn_zero (w:List UInt8) (l:List Int):jn w (l.take 0)=w:=by rw [List.take_zero,jn_nil]
theorem jn_snoc (w:List UInt8) (l:List Int) (n:Int):jn w (l++[n])=jn w l++([59]++num n):=by simp [jn]
theorem jn_step {w:List UInt8} {l:List Int} {k:Nat} (hk:k<l.length):jn w (l.take k)++([59]++num (l.getD k 0))=jn w (l.take (k+1)):=by
  rw [BO (d:=0) hk,jn_snoc]
theorem num_three {x:Int} (h:0≤x∧x<1000):(num x).length≤3:=by
  have:=(num_read h).1;simp only [numIs,Bool.and_eq_true,decide_eq_true_eq] at this;exact this.1.1.2
theorem jn_le {w:List UInt8}:∀ {l:List Int},(∀ x∈l,0≤x∧x<1000)→(jn w l).length≤w.length+4*l.length
  | [],_=>by simp [jn]
  | x::r,h=>by
    have h1:=num_three (h x (List.mem_cons_self ..));have h2:=jn_le (w:=w) (l:=r) fun y hy=>h y (List.mem_cons_of_mem _ hy)
    simp only [jn,List.flatMap_cons,List.length_append,List.length_cons] at h2 ⊢;omega
theorem jn_take_le {w:List UInt8} {l:List Int} (h:∀ x∈l,0≤x∧x<1000) (k:Nat):(jn w (l.take k)).length≤w.length+4*l.length:=by
  have:=jn_le (w:=w) (l:=l.take k) fun x hx=>h x (List.mem_of_mem_take hx)
  rw [List.length_take] at this;omega
def sxA (s:Slip):List UInt8:=jn (wordK s.kind) [s.num,s.hour,s.place]
def sxB (s:Slip):List UInt8:=if s.kind=1 then jn (sxA s) [s.to] else sxA s
def sxC (s:Slip):List UInt8:=jn (sxB s) [s.sort]
def markT (s:Slip):List UInt8:=if s.soil=true then [59,115] else [59,99]
def sxD (s:Slip):List UInt8:=if s.kind=1∨s.kind=4 then sxC s++markT s else sxC s
def slipT (s:Slip):List UInt8:=jn (sxD s) [s.amt]
theorem sxB_t {s:Slip} (h:s.kind=1):jn (sxA s) [s.to]=sxB s:=(if_pos h).symm
theorem sxB_f {s:Slip} (h:¬ s.kind=1):sxA s=sxB s:=(if_neg h).symm
theorem markT_t {s:Slip} (h:s.soil=true):[59,115]=markT s:=(if_pos h).symm
theorem markT_f {s:Slip} (h:s.soil=false):[59,99]=markT s:=(if_neg (by rw [h];decide)).symm
theorem markT_le (s:Slip):(markT s).length≤2:=by unfold markT;split <;> simp
theorem sxD_t {s:Slip} (h:s.kind=1∨s.kind=4):sxC s++markT s=sxD s:=(if_pos h).symm
theorem sxD_f {s:Slip} (h:¬ (s.kind=1∨s.kind=4)):sxC s=sxD s:=(if_neg h).symm
structure ThreeS (s:Slip):Prop where
  num:0≤s.num∧s.num<1000
  hour:0≤s.hour∧s.hour<1000
  place:0≤s.place∧s.place<1000
  to:0≤s.to∧s.to<1000
  sort:0≤s.sort∧s.sort<1000
  amt:0≤s.amt∧s.amt<1000
section
variable {s:Slip} (h:ThreeS s)
include h
theorem ThreeS.abc:∀ x∈[s.num,s.hour,s.place],0≤x∧x<1000:=by
  intro x hx;simp only [List.mem_cons,List.not_mem_nil,or_false] at hx;rcases hx with rfl | rfl | rfl
  · exact h.num
  · exact h.hour
  · exact h.place
theorem sxA_le:(sxA s).length≤17:=by
  have h1:=jn_le (w:=wordK s.kind) h.abc;have h2:=wordK_le s.kind;unfold sxA;simp only [List.length_cons,List.length_nil] at h1;omega
theorem sxB_le:(sxB s).length≤21:=by
  have h1:=sxA_le h;have h2:=jn_le (w:=sxA s) (l:=[s.to]) (by simpa using h.to);unfold sxB;simp only [List.length_cons,List.length_nil] at h2
  split <;> omega
theorem sxC_le:(sxC s).length≤25:=by
  have h1:=sxB_le h;have h2:=jn_le (w:=sxB s) (l:=[s.sort]) (by simpa using h.sort);unfold sxC;simp only [List.length_cons,List.length_nil] at h2;omega
theorem sxD_le:(sxD s).length≤27:=by
  have h1:=sxC_le h;have h2:(markT s).length=2:=by unfold markT;split <;> rfl
  unfold sxD
  split
  · rw [List.length_append];omega
  · omega
theorem slipT_le:(slipT s).length≤31:=by
  have h1:=sxD_le h;have h2:=jn_le (w:=sxD s) (l:=[s.amt]) (by simpa using h.amt);unfold slipT;simp only [List.length_cons,List.length_nil] at h2;omega
end
def keepT (k:Keep):List UInt8:=jn keepW [k.place,k.hour,k.who]
def headT (L:Lin):List UInt8:=jn linenW [L.places,L.sorts]
def HT (L:Lin) (k:Nat):List (List UInt8):=headT L::(L.start.take k).map (jn startW)
def IP (L:Lin) (k:Nat):List (List UInt8):=HT L L.start.length++(L.keeps.take k).map keepT
def GB (L:Lin) (k:Nat):List (List UInt8):=IP L L.keeps.length++(L.slips.take k).map slipT
def LJ (L:Lin):List (List UInt8):=GB L L.slips.length++[countedW]
def writeL (L:Lin):List UInt8:=Lib.join (LJ L) [10]++[10]
def JE (L:Lin):List UInt8 × Int:=if AH L=0 then (writeL L,0) else ([],AH L)
theorem writeLE_bad {L:Lin} (h:AH L≠0):JE L=([],AH L):=if_neg h
theorem writeLE_ok {L:Lin} (h:AH L=0):JE L=(writeL L,0):=if_pos h
theorem starts_zero (L:Lin):[headT L]=HT L 0:=by simp [HT]
theorem starts_snoc {L:Lin} {k:Nat} (hk:k<L.start.length):HT L k++[jn startW (L.start.getD k [])]=HT L (k+1):=by
  unfold HT;rw [BO (d:=[]) hk,List.map_append,List.cons_append];rfl
theorem starts_done {L:Lin} {k:Nat} (hk:L.start.length≤k):HT L k=IP L 0:=by
  unfold IP HT;rw [List.take_of_length_le hk,List.take_zero,List.map_nil,List.append_nil,List.take_length]
theorem keepsT_snoc {L:Lin} {k:Nat} (hk:k<L.keeps.length):IP L k++[keepT (L.keeps.getD k AL)]=IP L (k+1):=by
  unfold IP;rw [BO (d:=AL) hk,List.map_append,List.append_assoc];rfl
theorem keepsT_done {L:Lin} {k:Nat} (hk:L.keeps.length≤k):IP L k=GB L 0:=by
  unfold GB IP;rw [List.take_of_length_le hk,List.take_zero,List.map_nil,List.append_nil,List.take_length]
theorem slipsT_snoc {L:Lin} {k:Nat} (hk:k<L.slips.length):GB L k++[slipT (L.slips.getD k AB)]=GB L (k+1):=by
  unfold GB;rw [BO (d:=AB) hk,List.map_append,List.append_assoc];rfl
theorem slipsT_done {L:Lin} {k:Nat} (hk:L.slips.length≤k):GB L k++[countedW]=LJ L:=by
  unfold LJ GB;rw [List.take_of_length_le hk,List.take_length]
theorem starts_len (L:Lin) {k:Nat} (hk:k≤L.start.length):(HT L k).length=k+1:=by
  unfold HT;simp only [List.length_cons,List.length_map,List.length_take];omega
theorem keepsT_len (L:Lin) {k:Nat} (hk:k≤L.keeps.length):(IP L k).length=L.start.length+1+k:=by
  unfold IP;rw [List.length_append,starts_len L (Nat.le_refl _),List.length_map,List.length_take];omega
theorem RI (L:Lin) {k:Nat} (hk:k≤L.slips.length):(GB L k).length=L.start.length+1+L.keeps.length+k:=by
  unfold GB;rw [List.length_append,keepsT_len L (Nat.le_refl _),List.length_map,List.length_take];omega
theorem SP {L:Lin} {s:Slip} (h:CW L s=0):(¬ s.kind=1→s.to=0)∧(s.soil=true→s.kind=1∨s.kind=4):=by
  unfold CW at h
  split at h;· omega
  split at h;· omega
  split at h;· omega
  split at h;· omega
  split at h;· omega
  split at h;· omega
  split at h;· omega
  rename_i h7
  split at h;· omega
  split at h;· omega
  rename_i h9
  refine ⟨fun hk=>Decidable.not_not.1 fun ht=>h7 ⟨hk,ht⟩,fun hs=>?_⟩
  by_cases h1:s.kind=1
  · exact .inl h1
  · exact .inr (Decidable.not_not.1 fun h4=>h9 ⟨hs,h1,h4⟩)
section
variable {L:Lin} (g:GoodL L)
include g
theorem GoodL.threeS {s:Slip} (hs:s∈L.slips):ThreeS s:=by
  have h:=LO (g.slipOf hs);have hr:=SP (g.slipOf hs);have hp:=g.places;have hso:=g.sorts;refine ⟨by omega,by omega,by omega,?_,by omega,by omega⟩
  by_cases hk:s.kind=1
  · have:=h.2.2.2.2.2.2 hk;omega
  · have:=hr.1 hk;omega
theorem GoodL.threeHead:∀ x∈[L.places,L.sorts],0≤x∧x<1000:=by
  intro x hx;have hp:=g.places;have hso:=g.sorts;simp only [List.mem_cons,List.not_mem_nil,or_false] at hx;rcases hx with rfl | rfl <;> omega
theorem GoodL.threeRow {r:List Int} (hr:r∈L.start):∀ x∈r,0≤x∧x<1000:=fun x hx=>by have:=g.nums r hr x hx;omega
theorem GoodL.keepBounds {k:Keep} (hk:k∈L.keeps):(0≤k.place∧k.place<1000)∧(0≤k.hour∧k.hour<1000)∧(0≤k.who∧k.who<1000):=by
  obtain ⟨i,hi,rfl⟩:=List.mem_iff_getElem.1 hk;have h:=g.keep i hi;have hp:=g.places;unfold FH at h;have e:L.keeps.getD i AL=L.keeps[i]:=by rw [List.getD_eq_getElem?_getD,List.getElem?_eq_getElem hi];rfl
  simp only [e] at h
  split at h;· omega
  rename_i h1
  split at h;· omega
  rename_i h2
  split at h;· omega
  rename_i h3
  have a1:=EI (by simpa using h1:inB L.keeps[i].place 0 (L.places-1)=true);have a2:=EI (by simpa using h2:inB L.keeps[i].hour 0 200=true);have a3:=EI (by simpa using h3:inB L.keeps[i].who 1 9=true);omega
theorem GoodL.threeKeep {k:Keep} (hk:k∈L.keeps):∀ x∈[k.place,k.hour,k.who],0≤x∧x<1000:=by
  have h:=g.keepBounds hk;intro x hx;simp only [List.mem_cons,List.not_mem_nil,or_false] at hx;rcases hx with rfl | rfl | rfl
  · exact h.1
  · exact h.2.1
  · exact h.2.2
theorem GoodL.headLe:(headT L).length≤13:=by
  have:=jn_le (w:=linenW) g.threeHead;unfold headT;simp only [linenW,List.length_cons,List.length_nil] at this ⊢;exact this
theorem GoodL.lineLe:∀ x∈LJ L,x.length≤31:=by
  intro x hx;simp only [LJ,GB,IP,HT,List.mem_append,List.mem_cons,List.mem_map,List.not_mem_nil,or_false] at hx;rcases hx with ((((rfl | ⟨r,hr,rfl⟩) | ⟨k,hk,rfl⟩) | ⟨s,hs,rfl⟩)) | rfl
  · have:=g.headLe;omega
  · have hr:=List.mem_of_mem_take hr
    have h1:=jn_le (w:=startW) (g.threeRow hr);have h2:=g.rows r hr;have h3:=g.sorts;have h4:startW.length=5:=rfl;omega
  · have hk:=List.mem_of_mem_take hk
    have h1:=jn_le (w:=keepW) (g.threeKeep hk);have h4:keepW.length=4:=rfl;simp only [List.length_cons,List.length_nil] at h1;unfold keepT;omega
  · exact slipT_le (g.threeS (List.mem_of_mem_take hs))
  · decide
theorem GoodL.linesLen:(LJ L).length≤18:=by
  unfold LJ;rw [List.length_append,RI L (Nat.le_refl _)];have:=g.start;have:=g.places;have:=g.keeps;have:=g.slips;simp only [List.length_cons,List.length_nil];omega
theorem GoodL.joinLe:(Lib.join (LJ L) [10]).length≤600:=by
  have h1:=join_le_of (s:=10) (n:=576) g.lineLe (by have:=g.linesLen;omega);omega
end
structure TwoS (s:Slip):Prop where
  num:0≤s.num∧s.num<100
  hour:0≤s.hour∧s.hour<100
  place:0≤s.place∧s.place<100
  to:0≤s.to∧s.to<100
  sort:0≤s.sort∧s.sort<100
  amt:0≤s.amt∧s.amt<100
theorem one_two {n:Int} (h:0≤n∧n<100):∀ x∈[n],0≤x∧x<100:=by simpa using h
theorem TwoS.abc {s:Slip} (h:TwoS s):∀ x∈[s.num,s.hour,s.place],0≤x∧x<100:=by
  intro x hx;simp only [List.mem_cons,List.not_mem_nil,or_false] at hx;rcases hx with rfl | rfl | rfl
  · exact h.num
  · exact h.hour
  · exact h.place
theorem TwoS.three {s:Slip} (h:TwoS s):ThreeS s:=by
  have h1:=h.num;have h2:=h.hour;have h3:=h.place;have h4:=h.to;have h5:=h.sort;have h6:=h.amt;exact ⟨by omega,by omega,by omega,by omega,by omega,by omega⟩
structure TwoL (L:Lin):Prop where
  keeps:∀ k∈L.keeps,k.hour<100
  slips:∀ s∈L.slips,s.num<100∧s.hour<100
section
variable {L:Lin} (g:GoodL L) (t:TwoL L)
include g
theorem GoodL.twoHead:∀ x∈[L.places,L.sorts],0≤x∧x<100:=by
  intro x hx;have hp:=g.places;have hso:=g.sorts;simp only [List.mem_cons,List.not_mem_nil,or_false] at hx;rcases hx with rfl | rfl <;> omega
theorem GoodL.twoRow {r:List Int} (hr:r∈L.start):∀ x∈r,0≤x∧x<100:=fun x hx=>by have:=g.nums r hr x hx;omega
theorem GoodL.wr {k:Keep} (hk:k∈L.keeps):(0≤k.place∧k.place<100)∧(0≤k.hour∧k.hour<1000)∧(0≤k.who∧k.who<100):=by
  obtain ⟨i,hi,rfl⟩:=List.mem_iff_getElem.1 hk;have h:=g.keep i hi;have hp:=g.places;unfold FH at h;have e:L.keeps.getD i AL=L.keeps[i]:=by rw [List.getD_eq_getElem?_getD,List.getElem?_eq_getElem hi];rfl
  simp only [e] at h
  split at h;· omega
  rename_i h1
  split at h;· omega
  rename_i h2
  split at h;· omega
  rename_i h3
  have a1:=EI (by simpa using h1:inB L.keeps[i].place 0 (L.places-1)=true);have a2:=EI (by simpa using h2:inB L.keeps[i].hour 0 200=true);have a3:=EI (by simpa using h3:inB L.keeps[i].who 1 9=true);omega
include t
theorem GoodL.twoKeep {k:Keep} (hk:k∈L.keeps):∀ x∈[k.place,k.hour,k.who],0≤x∧x<100:=by
  have h:=g.wr hk;have h2:=t.keeps k hk;intro x hx;simp only [List.mem_cons,List.not_mem_nil,or_false] at hx;rcases hx with rfl | rfl | rfl
  · exact h.1
  · exact ⟨h.2.1.1,h2⟩
  · exact h.2.2
theorem GoodL.twoS {s:Slip} (hs:s∈L.slips):TwoS s:=by
  have h:=LO (g.slipOf hs);have hr:=SP (g.slipOf hs);have h2:=t.slips s hs;have hp:=g.places;have hso:=g.sorts;refine ⟨by omega,by omega,by omega,?_,by omega,by omega⟩
  by_cases hk:s.kind=1
  · have:=h.2.2.2.2.2.2 hk;omega
  · have:=hr.1 hk;omega
end
theorem GoodL.joins {L:Lin} (g:GoodL L):2≤(LJ L).length∧(LJ L).length≤50∧∀ x∈LJ L,x.length≤100:=by
  refine ⟨?_,Nat.le_trans g.linesLen (by omega),fun x hx=>Nat.le_trans (g.lineLe x hx) (by omega)⟩;unfold LJ;rw [List.length_append,RI L (Nat.le_refl _)];simp only [List.length_cons,List.length_nil];omega
def sortL:Lin:=⟨2,1,[[10],[0]],[⟨1,2,5⟩],[⟨1,1,1,0,1,0,false,6⟩,⟨2,3,2,1,0,1,false,4⟩,⟨3,5,4,1,0,0,false,1⟩,⟨4,5,4,1,0,0,true,4⟩,⟨6,6,1,1,0,0,true,4⟩]⟩
def toL:Lin:=⟨2,1,[[10],[0]],[⟨1,2,5⟩],[⟨1,1,1,0,1,0,false,6⟩,⟨2,3,2,1,1,0,false,4⟩,⟨3,5,4,1,0,0,false,1⟩,⟨4,5,4,1,0,0,true,4⟩,⟨6,6,1,1,0,0,true,4⟩]⟩
def noneL:Lin:=⟨2,1,[[10],[0]],[⟨1,2,5⟩],[⟨1,1,1,0,1,0,false,6⟩,⟨2,3,2,1,0,0,false,0⟩,⟨3,5,4,1,0,0,false,1⟩,⟨4,5,4,1,0,0,true,4⟩,⟨6,6,1,1,0,0,true,4⟩]⟩
def twiceL:Lin:=⟨2,1,[[10],[0]],[⟨1,2,5⟩],[⟨1,1,1,0,1,0,false,6⟩,⟨1,3,2,1,0,0,false,4⟩,⟨3,5,4,1,0,0,false,1⟩,⟨4,5,4,1,0,0,true,4⟩,⟨6,6,1,1,0,0,true,4⟩]⟩
def rightL:Lin:=⟨2,1,[[10],[0]],[⟨1,2,5⟩],[⟨1,1,1,0,1,0,false,6⟩,⟨2,3,2,1,0,0,false,4⟩,⟨3,5,4,1,0,0,false,2⟩,⟨4,5,4,1,0,0,true,4⟩,⟨6,6,1,1,0,0,true,4⟩]⟩
def otherL:Lin:=⟨2,1,[[10],[0]],[⟨1,2,5⟩],[⟨1,1,1,0,1,0,false,6⟩,⟨2,3,2,1,0,0,false,4⟩,⟨3,5,4,1,0,0,false,1⟩,⟨4,5,4,1,0,0,true,4⟩,⟨6,6,1,1,0,0,true,2⟩]⟩
def smallL:Lin:=⟨2,1,[[10],[0]],[⟨1,2,5⟩],[⟨1,1,1,0,1,0,false,6⟩,⟨3,5,4,1,0,0,false,1⟩]⟩
def lateL0:Lin:=⟨2,1,[[10],[0]],[⟨1,2,5⟩],[⟨1,1,1,0,1,0,false,6⟩,⟨2,3,2,1,0,0,false,4⟩,⟨3,5,4,1,0,0,false,1⟩,⟨6,6,1,1,0,0,true,4⟩]⟩
def struckL:Lin:=⟨2,1,[[10],[0]],[⟨1,2,5⟩],[⟨2,3,2,1,0,0,false,4⟩,⟨4,5,4,1,0,0,true,4⟩,⟨6,6,1,1,0,0,true,4⟩]⟩
def latedL:Lin:=⟨2,1,[[10],[0]],[⟨1,2,5⟩],[⟨1,1,1,0,1,0,false,6⟩,⟨2,3,2,1,0,0,false,4⟩,⟨3,5,4,1,0,0,false,1⟩,⟨6,6,1,1,0,0,true,4⟩,⟨4,5,4,1,0,0,true,4⟩]⟩
theorem kn_1:AH bookL=0:=by decide +kernel
theorem kn_2:AH sortL=3:=by decide +kernel
theorem kn_3:AH toL=1:=by decide +kernel
theorem kn_4:AH noneL=1:=by decide +kernel
theorem kn_5:AH twiceL=4:=by decide +kernel
theorem kn_6:GR turnedL=([1,2,3,4,6],0):=by decide +kernel
theorem kn_7:GJ turnedL 4=([[4,0],[2,4]],0):=by decide +kernel
theorem kn_8:GC bookL 0 4=(10,0):=by decide +kernel
theorem kn_9:GC bookL 0 5=(9,0):=by decide +kernel
theorem kn_10:KZ bookL=([],0):=by decide +kernel
theorem kn_11:BZ bookL 4=([],11):=by decide +kernel
theorem kn_12:PY bookL=([⟨5,0,1⟩],0):=by decide +kernel
theorem kn_13:FV rightL=([],0):=by decide +kernel
theorem kn_14:AP bookL [3,1]=(struckL,0):=by decide +kernel
theorem kn_15:(AP bookL [5]).2=3:=by decide +kernel
theorem kn_16:(AP bookL [3,3]).2=4:=by decide +kernel
theorem kn_17:CG lateL0 ⟨4,5,4,1,0,0,true,4⟩=(latedL,0):=by decide +kernel
theorem kn_18:GR latedL=([1,2,3,4,6],0):=by decide +kernel
theorem kn_19:BN bookL turnedL=(bookL,0):=by decide +kernel
theorem kn_20:(BN bookL otherL).2=4:=by decide +kernel
theorem kn_21:(NV [7,0,3] [2,5,3] 2).2=11:=by decide +kernel
theorem kn_22:NV [9,0,9] [5,4,5] 2=([⟨0,1,2⟩],0):=by decide +kernel
def knownT:List UInt8:=[108,105,110,101,110,59,50,59,49,10,115,116,97,114,116,59,49,48,10,115,116,97,114,116,59,48,10,107,101,101,112,59,49,59,50,59,53,10,109,111,118,101,59,49,59,49,59,48,59,49,59,48,59,99,59,54,10,99,111,117,110,116,59,51,59,53,59,49,59,48,59,99,59,49,10,99,111,117,110,116,101,100,10]
theorem kn_23:JE smallL=(knownT,0):=by decide +kernel
theorem kn_24:TwoL smallL:=⟨by decide,by decide⟩
end Go.Sh
namespace Go.Sl
open Go
def dig2 (n:Nat):List UInt8:=if n<10 then [UInt8.ofNat (48+n)] else [UInt8.ofNat (48+n/10),UInt8.ofNat (48+n%10)]
theorem itoa_small {n:Nat} (h:n<100):Lib.itoa (n:Int)=dig2 n:=by
  have e:Lib.itoa (n:Int)=Lib.decDigits n:=by
    unfold Lib.itoa;rw [if_neg (by omega),Int.toNat_natCast]
  rw [e];unfold dig2
  split
  · rename_i h1
    rw [Lib.decDigits];simp [h1]
  · rename_i h1
    rw [Lib.decDigits];simp [h1];rw [Lib.decDigits];simp [show n/10<10 by omega]
theorem dig_1 {n:Nat} (h:n<10):(([48,49,50,51,52,53,54,55,56,57,97,98,99,100,101,102,103,104,105,106,107,108,109,110,111,112,113,114,115,116,117,118,119,120,121,122]:List UInt8).drop n).take ((n+1)-n)=dig2 n:=by
  have:∀ m,m<10→(([48,49,50,51,52,53,54,55,56,57,97,98,99,100,101,102,103,104,105,106,107,108,109,110,111,112,113,114,115,116,117,118,119,120,121,122]:List UInt8).drop m).take ((m+1)-m)=dig2 m:=by decide +kernel
  exact this n h
theorem dig_2 {n:Nat} (h:n<100) (h1:10≤n):(([48,48,48,49,48,50,48,51,48,52,48,53,48,54,48,55,48,56,48,57,49,48,49,49,49,50,49,51,49,52,49,53,49,54,49,55,49,56,49,57,50,48,50,49,50,50,50,51,50,52,50,53,50,54,50,55,50,56,50,57,51,48,51,49,51,50,51,51,51,52,51,53,51,54,51,55,51,56,51,57,52,48,52,49,52,50,52,51,52,52,52,53,52,54,52,55,52,56,52,57,53,48,53,49,53,50,53,51,53,52,53,53,53,54,53,55,53,56,53,57,54,48,54,49,54,50,54,51,54,52,54,53,54,54,54,55,54,56,54,57,55,48,55,49,55,50,55,51,55,52,55,53,55,54,55,55,55,56,55,57,56,48,56,49,56,50,56,51,56,52,56,53,56,54,56,55,56,56,56,57,57,48,57,49,57,50,57,51,57,52,57,53,57,54,57,55,57,56,57,57]:List UInt8).drop (n*2)).take ((n*2+2)-n*2)=dig2 n:=by
  have:∀ m,m<100→10≤m→(([48,48,48,49,48,50,48,51,48,52,48,53,48,54,48,55,48,56,48,57,49,48,49,49,49,50,49,51,49,52,49,53,49,54,49,55,49,56,49,57,50,48,50,49,50,50,50,51,50,52,50,53,50,54,50,55,50,56,50,57,51,48,51,49,51,50,51,51,51,52,51,53,51,54,51,55,51,56,51,57,52,48,52,49,52,50,52,51,52,52,52,53,52,54,52,55,52,56,52,57,53,48,53,49,53,50,53,51,53,52,53,53,53,54,53,55,53,56,53,57,54,48,54,49,54,50,54,51,54,52,54,53,54,54,54,55,54,56,54,57,55,48,55,49,55,50,55,51,55,52,55,53,55,54,55,55,55,56,55,57,56,48,56,49,56,50,56,51,56,52,56,53,56,54,56,55,56,56,56,57,57,48,57,49,57,50,57,51,57,52,57,53,57,54,57,55,57,56,57,57]:List UInt8).drop (m*2)).take ((m*2+2)-m*2)=dig2 m:=by decide +kernel
  exact this n h h1
end Go.Sl
namespace Go.Proofs.YtgcemienebmdeaaGreatDoor
open Go Go.Sl Go.Sh
set_option maxRecDepth 100000
noncomputable def c_small:=cod Tryz.f167
theorem small_ct (I:Imm) (n:Nat) (hn:n<100):CtV Tryz.prog 167 #[vI ↑n] I (sV (dig2 n)):=by
 refine fr (args:=[_]) (N:=15) Tryz.func167 (fun F=>?_);show Run _ _ (c_small []) _ _ [(0,_)] _ _;refine rnm (rqr ?_);refine sp 1 [(2,sV ([]:List UInt8))] (se (rq (rqr (sp 2 [(4,.bool (cmp .lss ↑n 10))] (se (rc 4 rfl (fun h1=>?_) (fun h1=>?_)))))))
 ·
  have a0:=h1;have h1:=CQ h1;refine rq ?_;have a1:([48,49,50,51,52,53,54,55,56,57,97,98,99,100,101,102,103,104,105,106,107,108,109,110,111,112,113,114,115,116,117,118,119,120,121,122]:List UInt8).length=36:=rfl;refine rr (sp 2 [(6,vI ↑n),(5,vI ↑n)] (sd (da 7 ↑n 1) (CM 7 rfl (show (vI (↑n+1):Value)=vI (↑(n+1)) from congrArg (Value.int .i64) (by omega)) (sd (det_sliceS (x:=(.const (.string { data:=#[48,49,50,51,52,53,54,55,56,57,97,98,99,100,101,102,103,104,105,106,107,108,109,110,111,112,113,114,115,116,117,118,119,120,121,122] }))) (lo:=(some (.tmp 5))) (hi:=(some (.tmp 7))) (T:=9) n (n+1) (d:=8) (ty:=9) (gd:=none) (by kernel_rfl) rfl (by kernel_rfl) rfl (.inr ⟨_,.i64,rfl,rfl⟩) (.inr ⟨_,.i64,rfl,rfl⟩) (by omega) (by omega)) (sp 1 [(2,sV ((([48,49,50,51,52,53,54,55,56,57,97,98,99,100,101,102,103,104,105,106,107,108,109,110,111,112,113,114,115,116,117,118,119,120,121,122]:List UInt8).drop n).take ((n+1)-n)))] (se (BB (RP (rt1 2 rfl (IR _) ?_)))))))));exact ⟨congrArg sV (dig_1 (by omega)),rfl⟩
 have a0:=h1;have h1:=CU h1;refine AM (NX (rq ?_));have a2:([48,48,48,49,48,50,48,51,48,52,48,53,48,54,48,55,48,56,48,57,49,48,49,49,49,50,49,51,49,52,49,53,49,54,49,55,49,56,49,57,50,48,50,49,50,50,50,51,50,52,50,53,50,54,50,55,50,56,50,57,51,48,51,49,51,50,51,51,51,52,51,53,51,54,51,55,51,56,51,57,52,48,52,49,52,50,52,51,52,52,52,53,52,54,52,55,52,56,52,57,53,48,53,49,53,50,53,51,53,52,53,53,53,54,53,55,53,56,53,57,54,48,54,49,54,50,54,51,54,52,54,53,54,54,54,55,54,56,54,57,55,48,55,49,55,50,55,51,55,52,55,53,55,54,55,55,55,56,55,57,56,48,56,49,56,50,56,51,56,52,56,53,56,54,56,55,56,56,56,57,57,48,57,49,57,50,57,51,57,52,57,53,57,54,57,55,57,56,57,57]:List UInt8).length=200:=rfl;refine rr (sp 1 [(9,vI ↑n)] (sd (dmu 10 ↑n 2) (CM 10 rfl (show (vI (↑n*2):Value)=vI (↑(n*2)) from congrArg (Value.int .i64) (by omega)) (sp 1 [(11,vI ↑n)] (sd (dmu 12 ↑n 2) (CM 12 rfl (show (vI (↑n*2):Value)=vI (↑(n*2)) from congrArg (Value.int .i64) (by omega)) (sd (da 13 (↑(n*2)) 2) (CM 13 rfl (show (vI ((↑(n*2))+2):Value)=vI (↑(n*2+2)) from congrArg (Value.int .i64) (by omega)) (sd (det_sliceS (x:=(.const (.string { data:=#[48,48,48,49,48,50,48,51,48,52,48,53,48,54,48,55,48,56,48,57,49,48,49,49,49,50,49,51,49,52,49,53,49,54,49,55,49,56,49,57,50,48,50,49,50,50,50,51,50,52,50,53,50,54,50,55,50,56,50,57,51,48,51,49,51,50,51,51,51,52,51,53,51,54,51,55,51,56,51,57,52,48,52,49,52,50,52,51,52,52,52,53,52,54,52,55,52,56,52,57,53,48,53,49,53,50,53,51,53,52,53,53,53,54,53,55,53,56,53,57,54,48,54,49,54,50,54,51,54,52,54,53,54,54,54,55,54,56,54,57,55,48,55,49,55,50,55,51,55,52,55,53,55,54,55,55,55,56,55,57,56,48,56,49,56,50,56,51,56,52,56,53,56,54,56,55,56,56,56,57,57,48,57,49,57,50,57,51,57,52,57,53,57,54,57,55,57,56,57,57] }))) (lo:=(some (.tmp 10))) (hi:=(some (.tmp 13))) (T:=9) (n*2) (n*2+2) (d:=14) (ty:=9) (gd:=none) (by kernel_rfl) rfl (by kernel_rfl) rfl (.inr ⟨_,.i64,rfl,rfl⟩) (.inr ⟨_,.i64,rfl,rfl⟩) (by omega) (by omega)) (sp 1 [(2,sV ((([48,48,48,49,48,50,48,51,48,52,48,53,48,54,48,55,48,56,48,57,49,48,49,49,49,50,49,51,49,52,49,53,49,54,49,55,49,56,49,57,50,48,50,49,50,50,50,51,50,52,50,53,50,54,50,55,50,56,50,57,51,48,51,49,51,50,51,51,51,52,51,53,51,54,51,55,51,56,51,57,52,48,52,49,52,50,52,51,52,52,52,53,52,54,52,55,52,56,52,57,53,48,53,49,53,50,53,51,53,52,53,53,53,54,53,55,53,56,53,57,54,48,54,49,54,50,54,51,54,52,54,53,54,54,54,55,54,56,54,57,55,48,55,49,55,50,55,51,55,52,55,53,55,54,55,55,55,56,55,57,56,48,56,49,56,50,56,51,56,52,56,53,56,54,56,55,56,56,56,57,57,48,57,49,57,50,57,51,57,52,57,53,57,54,57,55,57,56,57,57]:List UInt8).drop (n*2)).take ((n*2+2)-(n*2))))] (se (BB (rt1 2 rfl (IR _) ?_)))))))))))));exact ⟨congrArg sV (dig_2 (by omega) (by omega)),rfl⟩
noncomputable def c_FormatInt:=cod Tryz.f148
theorem FormatInt_ct (I:Imm) (n:Nat) (base:Int) (hn:n<100) (hb:base=10):CtV Tryz.prog 148 #[vI ↑n,vI base] I (sV (dig2 n)):=by
 refine fr (args:=[_,_]) (N:=54) Tryz.func148 (fun F=>?_);show Run _ _ (c_FormatInt []) _ _ [(0,_),(1,_)] _ _;refine rnm (rqr ?_);refine sp 1 [(4,sV ([]:List UInt8))] (se (rq (rqr (sp 1 [(10,vI base)] (sd (dcm 11 .eql base 10 true (by simp [cmp,hb])) (se (rct 11 rfl (rq (rq ?_)))))))));refine DS (fun a w=>SE 54 [(0,vI ↑n),(1,vI base),(4,sV ([]:List UInt8)),(17,.bool true)] I F a w) ?_ ?_
 ·
  refine rr (sp 1 [(12,vI ↑n)] (sd (dcm 13 .leq 0 ↑n true (by simp [cmp])) (sp 2 [(15,vI ↑n),(14,.bool true)] (sd (dcm 16 .lss ↑n 100 true (by simp [cmp];omega)) (sp 1 [(17,.bool true)] (ee ?_))))));refine AO (fun a w hS hD hW=>⟨hS.sub su,hD,hW⟩)
 rintro a w ⟨hS,hD,hW⟩
 refine AW hS hD hW ?_;refine rct 17 rfl (rqr (sp 1 [(18,vI ↑n)] (sd (dc 19 (fun I' hI=>(small_ct I' n (by omega) :))) (sp 1 [(4,sV (dig2 n))] (se (BB (RP (RP (rt1 4 rfl (IR _) ?_)))))))));exact ⟨rfl,rfl⟩
noncomputable def c_iItoa:=cod Tryz.f112
theorem iItoa_ct (I:Imm) (n:Nat) (hn:n<100):CtV Tryz.prog 112 #[vI ↑n] I (sV (dig2 n)):=by
 refine fr (args:=[_]) (N:=5) Tryz.func112 (fun F=>?_);show Run _ _ (c_iItoa []) _ _ [(0,_)] _ _;refine rnm (rqr ?_);refine sp 1 [(2,sV ([]:List UInt8))] (sn (sp 1 [(3,vI ↑n)] (sd (dc 4 (fun I' hI=>(FormatInt_ct I' n 10 (by omega) (by rfl) :))) (sp 1 [(2,sV (dig2 n))] (se (BB (rt1 2 rfl (IR _) ?_)))))));exact ⟨rfl,rfl⟩
noncomputable def c_sItoa:=cod Tryz.f78
theorem sItoa_ct (I:Imm) (n:Nat) (hn:n<100):CtV Tryz.prog 78 #[vI ↑n] I (sV (dig2 n)):=by
 refine fr (args:=[_]) (N:=5) Tryz.func78 (fun F=>?_);show Run _ _ (c_sItoa []) _ _ [(0,_)] _ _;refine rnm (rqr ?_);refine sp 1 [(2,sV ([]:List UInt8))] (sn (sp 1 [(3,vI ↑n)] (sd (dc 4 (fun I' hI=>(iItoa_ct I' n (by omega) :))) (sp 1 [(2,sV (dig2 n))] (se (BB (rt1 2 rfl (IR _) ?_)))))));exact ⟨rfl,rfl⟩
theorem ItoaC_ct (I:Imm) (n:Int) (h:0≤n∧n<100):CtV Tryz.prog 78 #[vI n] I (sV (Lib.itoa n)):=by
  obtain ⟨m,rfl⟩:∃ m:Nat,n=m:=⟨n.toNat,by omega⟩;have:=sItoa_ct I m (by omega);rw [← itoa_small (by omega)] at this;exact this
end Go.Proofs.YtgcemienebmdeaaGreatDoor

/- A part of the proof of the laws of this seat. -/
import Derived.Test.YtgcemienebmdeaaGreatP2
import Derived.Test.YtgcemienebmdeaaGreatLinenOwesP6
import Derived.Test.YtgcemienebmdeaaGreatP1
import Derived.Test.YtgcemienebmdeaaGreatP3
set_option linter.unusedVariables false
set_option linter.unusedSimpArgs false
namespace Go.Sl
open Go
section
variable {P:Program} {N:Nat} {ops:Array Oper} {i:Nat} {l:Sl} {I:Imm} {M:Seg} {ty:TypeId} {gd:Option (Nat × Bool)} {K:Sl→Imm→Seg→Prop}
theorem OD {α:Type} {sz:Nat} {cell:α→Nat→Value} {xs:List α} {k:Nat}:CL sz cell xs=CL sz cell (xs.take k)++CL sz cell (xs.drop k):=by simp only [CL];rw [← List.flatMap_append,List.take_append_drop]
theorem stp_appendCut {α : Type} {d : Nat} {x y : Operand} {T T' E E' sz : Nat} {cell : α → Nat → Value} {a : Option Addr} {n c k : Nat} {xs : List α} {Ms Rest : Seg}
    (hop:GB ops N i=some (some d,.call { callee:=.builtin .append,args:=#[x,y],argTypes:=#[T,T'] },ty,gd)) (hg:FH ops l gd=some true)
    (hT:IL P T=some E) (hsz:EV P E=some sz) (hT':IL P T'=some E')
    (hx:CJ l x=some (.slice a k c)) (hy:CJ l y=some (.slice (if c=k+1 then a else a.map (·.add ((k+1)*sz))) (n-(k+1)) (c-(k+1))))
    (own:Own E sz cell (.slice a n c) xs Ms) (hk:k<n) (hM:M.Perm (Ms++Rest)) (hone:∀ c∈CL sz cell xs,DH c=true)
    (next:∀ Ms',Own E sz cell (.slice a (n-1) c) (xs.eraseIdx k) Ms'→K ((d,.slice a (n-1) c)::l) I (Ms'++Rest)):Stp P N ops i l I M K:=by
  refine JP hop hg ?_ hM ?_
  · intro o ho
    simp only [Op.operands,Call.operands] at ho;simp at ho;rcases ho with rfl | rfl
    · exact EQ hx
    · exact EQ hy
  rcases own with ⟨hv,rfl,rfl⟩ | ⟨b,c',sp,hv,hc,rfl,hlen⟩
  · simp only [Value.slice.injEq] at hv;omega
  simp only [Value.slice.injEq] at hv;obtain ⟨rfl,rfl,rfl⟩:=hv;have hly:(CL sz cell (xs.drop (k+1))).length=(xs.length-(k+1))*sz:=by rw [BW,List.length_drop]
  have hA:(CL sz cell (xs.take k)).length=k*sz:=by rw [BW,List.length_take,Nat.min_eq_left (by omega)]
  have hA1:(CL sz cell (xs.take (k+1))).length=(k+1)*sz:=by rw [BW,List.length_take,Nat.min_eq_left (by omega)]
  have hB:(CL sz cell (xs.drop k)).length=(xs.length-k)*sz:=by rw [BW,List.length_drop]
  have hle:(CL sz cell (xs.drop (k+1))).length≤(CL sz cell (xs.drop k)).length:=by rw [hly,hB];exact Nat.mul_le_mul_right sz (by omega)
  have hsrc:Src I ([(b,Obj.cells (CL sz cell xs++sp).toArray E (0,0))]++Rest) (.slice (if c=k+1 then some ⟨b,0,none⟩ else (some (⟨b,0,none⟩:Addr)).map (·.add ((k+1)*sz))) (xs.length-(k+1)) (c-(k+1))) (xs.length-(k+1)) (CL sz cell (xs.drop (k+1))):=by
    refine ⟨_,_,rfl,?_⟩;rcases Nat.lt_or_ge (k+1) xs.length with h | h
    · rw [if_neg (by omega)]
      refine .inr ⟨b,(k+1)*sz,by simp [Addr.add];exact fun h=>h.symm,fun j u hj=>⟨rfl,(CL sz cell xs++sp).toArray,E,(0,0),.inl (by simp),?_⟩⟩;simp only [List.getElem?_toArray];rw [OD (k:=k+1),List.append_assoc,List.getElem?_append_right (by rw [hA1];omega),hA1,Nat.add_sub_cancel_left,List.getElem?_append_left (List.getElem?_eq_some_iff.1 hj).1];exact hj
    · exact .inl (by rw [List.drop_of_length_le h];rfl)
  have main : wpL P (Builtin.append_ #[T, T'] ty #[.slice (some ⟨b, 0, none⟩) k c, .slice (if c = k + 1 then some ⟨b, 0, none⟩ else (some (⟨b, 0, none⟩ : Addr)).map (·.add ((k + 1) * sz))) (xs.length - (k + 1)) (c - (k + 1))])
      (fun r M'=>r=.slice (some ⟨b,0,none⟩) (xs.length-1) c∧∃ Ms',M'=Ms'++Rest∧Own E sz cell (.slice (some ⟨b,0,none⟩) (xs.length-1) c) (xs.eraseIdx k) Ms') I ([(b,Obj.cells (CL sz cell xs++sp).toArray E (0,0))]++Rest):=by
    unfold Builtin.append_;simp only [List.getElem?_toArray,List.getElem?_cons_zero,List.getElem?_cons_succ,AF,AP (DK hT),CT hsz,AP (DK hT'),DN,Builtin.lenOf];simp only [Bool.false_eq_true,if_false,Bool.not_false,if_true,DN,false_or];rw [AF,DN];have hroom:k+(xs.length-(k+1))≤c:=by omega
    rw [if_pos hroom,AF];refine HT hsrc hly ?_;show wpL P (storeCells (Addr.add ⟨b,0,none⟩ (k*sz)) (CL sz cell (xs.drop (k+1))).toArray.toList >>= fun _=>pure (Value.slice (some ⟨b,0,none⟩) (k+(xs.length-(k+1))) _)) _ I _;rw [AF,FQ,Nat.zero_add];refine FN (T:=E) (k:=0) _ 0 _ (CL sz cell xs++sp).toArray _ (by simp) ?_ (fun c hc=>hone c (by rw [OD (k:=k+1)];exact List.mem_append_right _ (by simpa using hc))) ?_
    · rw [OD (xs:=xs) (k:=k)]
      simp only [List.toList_toArray,List.size_toArray,List.length_append,hA];omega
    have hset:=IZ (CL sz cell (xs.drop (k+1))) (CL sz cell (xs.take k)) (CL sz cell (xs.drop k)++sp) (by rw [List.length_append];omega);rw [hA] at hset;have hset':JM (CL sz cell xs++sp).toArray (k*sz+0) (CL sz cell (xs.drop (k+1))).toArray.toList=(CL sz cell (xs.eraseIdx k)++(CL sz cell (xs.drop k)++sp).drop (CL sz cell (xs.drop (k+1))).length).toArray:=by
      apply Array.ext'
      rw [Nat.add_zero];simp only [List.toList_toArray];rw [OD (xs:=xs) (k:=k),List.append_assoc,hset,List.eraseIdx_eq_take_drop_succ,JE]
    rw [hset'];have hel:(xs.eraseIdx k).length=xs.length-1:=List.length_eraseIdx_of_lt hk;refine ⟨by rw [show k+(xs.length-(k+1))=xs.length-1 by omega],_,rfl,.inr ⟨b,c,_,by rw [hel],by rw [hel];omega,rfl,?_⟩⟩;rw [← hlen,OD (xs:=xs) (k:=k),List.eraseIdx_eq_take_drop_succ,JE];simp only [List.length_append,List.length_drop];omega
  unfold LI execOp resolve;simp only [List.map_toArray,List.map_cons,List.map_nil,BO hx,BO hy];show wpL P (Builtin.append_ #[T,T'] ty #[.slice (some ⟨b,0,none⟩) k c,.slice (if c=k+1 then some ⟨b,0,none⟩ else (some (⟨b,0,none⟩:Addr)).map (·.add ((k+1)*sz))) (xs.length-(k+1)) (c-(k+1))] >>= fun x=>pure (Next.value x)) _ I _;refine EK ?_;refine wpL_mono (fun r M' ⟨hr,Ms',e,hown⟩=>?_) main;subst e hr;exact ⟨_,_,.inl rfl,List.Sublist.refl _,next Ms' hown⟩
end
end Go.Sl
namespace Go.Sh
open Go Go.Sl
def aheadE (p q:Slip):Bool:=cmp .lss p.hour q.hour||(cmp .eql p.hour q.hour&&cmp .lss p.num q.num)
theorem ahead_iff {p q:Slip}:aheadE p q=true↔AC p q<0:=by rw [KH];simp [aheadE,cmp]
section
variable {l lf ot T:List Slip} {i n:Nat}
theorem minAt_t (h:aheadE (l.getD i AB) (l.getD (DM l i) AB)=true):i=DM l (i+1):=(if_pos (ahead_iff.1 h)).symm
theorem minAt_f (h:aheadE (l.getD i AB) (l.getD (DM l i) AB)=false):DM l i=DM l (i+1):=(if_neg (fun e=>by rw [ahead_iff.2 e] at h;cases h)).symm
theorem sel_step (h0:0<lf.length) (hi:i=lf.length) (h:ot++selS lf.length lf=T):(ot++[lf.getD (DM lf i) AB])++selS (lf.eraseIdx (DM lf i)).length (lf.eraseIdx (DM lf i))=T:=by
  subst hi;have hlt:=RR lf lf.length h0 (Nat.le_refl _);rw [← h,List.length_eraseIdx_of_lt hlt,List.append_assoc];obtain ⟨n,hn⟩:∃ n,lf.length=n+1:=⟨lf.length-1,by omega⟩;have e:selS lf.length lf=lf.getD (DM lf lf.length) AB::selS n (lf.eraseIdx (DM lf lf.length)):=by rw [hn];simp only [selS];rw [hn]
  rw [e,show lf.length-1=n by omega];rfl
theorem sel_len (h:lf.length=n) (hlt:i<lf.length):(lf.eraseIdx i).length=n-1:=by rw [List.length_eraseIdx_of_lt hlt,h]
theorem sel_end (h:ot++selS lf.length lf=selS l.length l) (h0:¬ 0<lf.length) (ho:Once l):ot=AO l:=by
  rw [← selS_sort l.length l rfl ho,← h,show lf.length=0 by omega];simp [selS]
end
end Go.Sh
namespace Go.Proofs.YtgcemienebmdeaaGreat
open Go Go.Sl Go.Sh
set_option maxRecDepth 100000
noncomputable def c_ahead (p:List Nat):Code:=sub (AU Tryz.f143) p
theorem ahead_ct (I:Imm) (p:Slip) (q:Slip):CtV Tryz.prog 143 #[.agg #[vI p.num,vI p.hour,vI p.kind,vI p.place,vI p.to,vI p.sort,.bool p.soil,vI p.amt],.agg #[vI q.num,vI q.hour,vI q.kind,vI q.place,vI q.to,vI q.sort,.bool q.soil,vI q.amt]] I (.bool (aheadE p q)):=by
 refine fr (args:=[_,_]) (N:=24) Tryz.func143 (fun F=>?_);show Run _ _ (c_ahead []) _ _ [(0,.agg #[vI (p.num),vI (p.hour),vI (p.kind),vI (p.place),vI (p.to),vI (p.sort),.bool (p.soil),vI (p.amt)]),(1,.agg #[vI (q.num),vI (q.hour),vI (q.kind),vI (q.place),vI (q.to),vI (q.sort),.bool (q.soil),vI (q.amt)])] _ _;refine rnm (rqr ?_);refine sS (sb 2 28 #[vI (p.num),vI (p.hour),vI (p.kind),vI (p.place),vI (p.to),vI (p.sort),.bool (p.soil),vI (p.amt)] (fun b1=>(sS (sb 3 28 #[vI (q.num),vI (q.hour),vI (q.kind),vI (q.place),vI (q.to),vI (q.sort),.bool (q.soil),vI (q.amt)] (fun b3=>(sp 1 [(4,.bool (false))] (se (rq ?_))))))));refine BZ (fun a w=>Slots 24 [(4,.bool ((cmp .lss (p.hour) (q.hour))||((cmp .eql (p.hour) (q.hour))&&(cmp .lss (p.num) (q.num)))))] a∧a.defers=[]∧St I ((bX b3 #[vI (q.num),vI (q.hour),vI (q.kind),vI (q.place),vI (q.to),vI (q.sort),.bool (q.soil),vI (q.amt)] 28)::(bX b1 #[vI (p.num),vI (p.hour),vI (p.kind),vI (p.place),vI (p.to),vI (p.sort),.bool (p.soil),vI (p.amt)] 28)::F) w) ?_ ?_
 ·
  refine rr (sp 1 [(5,vP b1 1)] (sd (dlb 6 1 1 b1 (vI (p.hour))) (sp 1 [(7,vP b3 1)] (sd (dlb 8 0 1 b3 (vI (q.hour))) (sp 2 [(10,.bool (cmp .lss (p.hour) (q.hour)))] ?_)))));refine AY 10 rfl (fun h1=>?_) (fun h1=>?_)
  ·
   have a0:=h1;have a0:=CC a0;refine sp 14 [(4,.bool (true))] (ee ?_);refine AK (fun a w hS hD hW=>⟨hS.sub (.consE 4 rfl (congrArg Value.bool (by simp only [h1,kA,kB,kC,kD,kE,kF,kG,kH,kI,kJ])) (.nil _)),hD,hW⟩)
  have a0:=h1;have a0:=CH a0;refine sp 1 [(11,vP b1 1)] (sd (dlb 12 1 1 b1 (vI (p.hour))) (sp 1 [(13,vP b3 1)] (sd (dlb 14 0 1 b3 (vI (q.hour))) (sp 2 [(16,.bool (cmp .eql (p.hour) (q.hour)))] ?_))));refine AY 16 rfl (fun h2=>?_) (fun h2=>?_)
  ·
   have a1:=h2;have a1:=BI a1;refine sp 1 [(17,vP b1 0)] (sd (dlb 18 1 0 b1 (vI (p.num))) (sp 1 [(19,vP b3 0)] (sd (dlb 20 0 0 b3 (vI (q.num))) (sp 4 [(4,.bool (cmp .lss (p.num) (q.num)))] (ee ?_)))));refine AK (fun a w hS hD hW=>⟨hS.sub (.consE 4 rfl (congrArg Value.bool (by simp only [h1,h2,kA,kB,kC,kD,kE,kF,kG,kH,kI,kJ])) (.nil _)),hD,hW⟩)
  have a1:=h2;have a1:=BL a1;refine sp 8 [(4,.bool (false))] (ee ?_);refine AK (fun a w hS hD hW=>⟨hS.sub (.consE 4 rfl (congrArg Value.bool (by simp only [h1,h2,kA,kB,kC,kD,kE,kF,kG,kH,kI,kJ])) (.nil _)),hD,hW⟩)
 rintro a w ⟨hS,hD,hW⟩
 refine AS hS hD hW ?_;clear hS hD hW a w;refine BJ (AG (t:=4) [] (by kernel_rfl) rfl (TC _ (TC _ (TR _))) (IR _) ?_);exact ⟨rfl,rfl⟩
noncomputable def c_Sorted (p:List Nat):Code:=sub (AU Tryz.f96) p
theorem Sorted_ct (I:Imm) (z:Value) (xs:List Slip) (z_f:GN I z xs) (ho:Once xs) (hl:xs.length≤1000):Ct Tryz.prog 96 #[z] I ([]) (fun v I' M'=>∃ u:Value,∃ Ms:Seg,v=u∧M'=Ms∧Own 28 8 BA u (AO xs) Ms):=by
 obtain ⟨d1,d2,e8,f1,d9,e9,f0,f2⟩:=id z_f;subst d9;refine fr (args:=[_]) (N:=45) Tryz.func96 (fun F=>?_);show Run _ _ (c_Sorted []) _ _ [(0,vS d1 xs.length d2)] _ _;refine rnm (rqr ?_);refine sp 1 [(2,vN)] (sn (sS (sbs 7 28 0 #[] (fun b1=>(sp 1 [(8,vS d1 xs.length d2)] ?_)))));have d5:Own 28 8 BA (vS (some ⟨b1,0,none⟩) 0 0) ([]:List Slip) [(bX b1 #[] 28)]:=Own.lit rfl rfl;refine sS (AZ (d:=9) (x:=(.tmp 7)) (y:=(.tmp 8)) (T:=24) (T':=24) (E:=28) (E':=28) (sz:=8) (bs:=64) (z:=.agg #[vI (0),vI (0),vI (0),vI (0),vI (0),vI (0),.bool (false),vI (0)]) (cell:=BA) (xs:=([]:List Slip)) (ys:=xs) (Ms:=[(bX b1 #[] 28)]) (ty:=24) (gd:=none) (by kernel_rfl) rfl (by kernel_rfl) (by kernel_rfl) (by kernel_rfl) (by kernel_rfl) (by kernel_rfl) (by decide) (by kernel_rfl) rfl rfl (d5) (PR _) (DE _) z_f.src (by first | omega | (simp only [LC,LN,LA,LK,LD];omega)) (fun v4 d3 c6=>?_));rw [NA] at c6;refine nm ?_;obtain ⟨c9,d0,d7,e6⟩:=c6.shape;subst d7;refine sp 1 [(3,vS c9 xs.length d0)] (sn (sp 1 [(4,vN)] (se (rq (rb 0 ?_)))));refine rl (fun mz a w=>∃ J0:Imm,∃ lf:List Slip,∃ ot:List Slip,∃ a8:Value,∃ a3:Seg,∃ a9:Value,∃ a2:Seg,(I.le J0)∧(ot++selS lf.length lf=selS xs.length xs)∧(lf.length≤xs.length)∧(ot.length+lf.length=xs.length)∧(Own 28 8 BA a8 (lf) a3)∧(Own 28 8 BA a9 (ot) a2)∧Slots 45 [(3,a8),(4,a9),(2,vN)] a∧a.defers=[]∧St J0 ((a3++(a2++F))) w∧mz=lf.length) ?_ ?_
 ·intro a w hS hD hW;exact ⟨_,I,xs,[],vS c9 xs.length d0,d3,(vN),[],IR _,rfl,Nat.le_refl _,(Nat.zero_add _),c6,(Own.nil _ _ _),hS.sub (.cons 3 rfl (.cons 4 rfl (.cons 2 rfl (.nil _)))),hD,hW,rfl⟩
 rintro mz a w ⟨J0,lf,ot,a8,a3,a9,a2,hJ0,c8,e1,e2,a4,a7,hS,hD,hW,rfl⟩
 refine AS hS hD hW ?_;clear hS hD hW a w;obtain ⟨a0,a1,b0,c1⟩:=a4.shape;subst b0;obtain ⟨a5,a6,b2,c2⟩:=a7.shape;subst b2;refine rq (rqr (sp 3 [(12,.bool (cmp .gtr (↑(lf.length)) (0)))] (se (rc 12 rfl (fun h1=>?_) (fun h1=>?_)))))
 ·
  have c3:=h1;have h1:=IF h1;refine AQ (NX (rb 1 (rqr (sp 1 [(5,vI (0))] (se (rq (rqr (sp 1 [(6,vI (0))] (se (rb 2 ?_))))))))));refine rl (fun mz a w=>∃ J1:Imm,∃ i:Nat,(J0.le J1)∧(i≤lf.length)∧Slots 45 [(5,vI ↑(DM lf i)),(6,vI ↑i),(2,vN),(3,vS a0 lf.length a1),(4,vS a5 ot.length a6)] a∧a.defers=[]∧St J1 ((a3++(a2++F))) w∧mz=lf.length-i) ?_ ?_
  ·intro a w hS hD hW;exact ⟨_,J0,0,IR _,Nat.zero_le _,hS.sub (.cons 5 rfl (.cons 6 rfl (.cons 2 rfl (.cons 3 rfl (.cons 4 rfl (.nil _)))))),hD,hW,rfl⟩
  rintro mz a w ⟨J1,i,hJ1,hi,hS,hD,hW,rfl⟩
  refine AS hS hD hW ?_;clear hS hD hW a w;have c0:=RR lf i (by omega) hi;refine rq (rqr (sp 4 [(16,.bool (cmp .lss (↑i) (↑(lf.length))))] (se (rc 16 rfl (fun h2=>?_) (fun h2=>?_)))))
  ·
   have c4:=h2;have h2:=CC h2;refine AQ (NX (rq (rb 3 (rq ?_))));refine rd0 8 (ox 2 [(20,vI (↑i)),(19,vS a0 lf.length a1)] ?_);obtain ⟨e3,b8⟩:=a4.row AB;refine AD (di 21 8 (i) b8.addr) ?_;refine AD (dn 22 (FI (vals:=CR) (fun _=>rfl) b8 (fun x hx=>by simp [hx]) (i) (by omega))) (ox 2 [(24,vI (↑(DM lf i))),(23,vS a0 lf.length a1)] ?_);obtain ⟨e4,b9⟩:=a4.row AB;refine AD (di 25 8 (DM lf i) b9.addr) ?_;refine AD (dn 26 (FI (vals:=CR) (fun _=>rfl) b9 (fun x hx=>by simp [hx]) (DM lf i) (by omega))) ?_;refine AW (sd (dc 27 (fun I' hI=>(ahead_ct I' (lf.getD (i) AB) (lf.getD (DM lf i) AB) :))) (se (rc 27 rfl (fun h3=>?_) (fun h3=>?_))))
   ·
    have c5:=h3;refine rr (sp 2 [(5,vI (↑i))] (ee (NB (NX (rr (sp 1 [(17,vI (↑i))] (sd (da 18 (↑i) (1)) (sp 1 [(6,vI (↑i+1))] (ee ?_)))))))));refine AM (lf.length-(i+1)) (by omega) ?_;intro a w hS hD hW;exact ⟨J1,i+1,hJ1,by omega,hS.sub (.consE 5 rfl (congrArg (fun q:Nat=>Value.int .i64 ↑q) (minAt_t h3)) (.consE 6 rfl rfl (.cons 2 rfl (.cons 3 rfl (.cons 4 rfl (.nil _)))))),hD,hW,rfl⟩
   have c5:=h3;refine AQ (NB (NX (rr (sp 1 [(17,vI (↑i))] (sd (da 18 (↑i) (1)) (sp 1 [(6,vI (↑i+1))] (ee ?_)))))));refine AM (lf.length-(i+1)) (by omega) ?_;intro a w hS hD hW;exact ⟨J1,i+1,hJ1,by omega,hS.sub (.consE 5 rfl (congrArg (fun q:Nat=>Value.int .i64 ↑q) (minAt_f h3)) (.consE 6 rfl rfl (.cons 2 rfl (.cons 3 rfl (.cons 4 rfl (.nil _)))))),hD,hW,rfl⟩
  have c4:=h2;have h2:=CH h2;refine CB 2 ((EP (EP (EB (NX (rqr (sp 3 [(31,vI (↑(DM lf i))),(30,vS a0 lf.length a1),(29,vS a5 ot.length a6)] ?_)))))));obtain ⟨e5,b3⟩:=a4.row AB;refine sd (di 32 8 (DM lf i) b3.addr) (sd (dn 33 (FI (vals:=CR) (fun _=>rfl) b3 (fun x hx=>by simp [hx]) (DM lf i) (by omega))) (sS (sbs 34 28 1 #[vI ((lf.getD (DM lf i) AB).num),vI ((lf.getD (DM lf i) AB).hour),vI ((lf.getD (DM lf i) AB).kind),vI ((lf.getD (DM lf i) AB).place),vI ((lf.getD (DM lf i) AB).to),vI ((lf.getD (DM lf i) AB).sort),.bool ((lf.getD (DM lf i) AB).soil),vI ((lf.getD (DM lf i) AB).amt)] (fun e0=>(sS (AZ (d:=35) (x:=(.tmp 29)) (y:=(.tmp 34)) (T:=24) (T':=24) (E:=28) (E':=28) (sz:=8) (bs:=64) (z:=.agg #[vI (0),vI (0),vI (0),vI (0),vI (0),vI (0),.bool (false),vI (0)]) (cell:=BA) (xs:=ot) (ys:=[lf.getD (DM lf i) AB]) (Ms:=a2) (ty:=24) (gd:=none) (by kernel_rfl) rfl (by kernel_rfl) (by kernel_rfl) (by kernel_rfl) (by kernel_rfl) (by kernel_rfl) (by decide) (by kernel_rfl) rfl rfl (a7) (PU (PO _ _ _)) (DE _) (DJ 0 rfl rfl) (by first | omega | (simp only [LC,LN];omega)) (fun e7 b4 b5=>(BC (M':=((b4++(a3++F)))) (fun w h=>(h.perm PM).sub (TC _ (TR _))) ?_))))))));obtain ⟨b6,b7,c7,d8⟩:=b5.shape;subst c7;refine sp 1 [(4,vS b6 (ot++([lf.getD (DM lf i) AB])).length b7)] (se ?_);refine rd0 7 (ox 2 [(37,vI (↑(DM lf i))),(36,vS a0 lf.length a1)] ?_);refine AD (CG (HA (x:=(.tmp 36)) (lo:=none) (hi:=(some (.tmp 37))) (T:=24) (e:=28) (sz:=8) 0 (DM lf i) (d:=38) (ty:=24) (gd:=none) (by kernel_rfl) rfl (by kernel_rfl) (by kernel_rfl) rfl (.inl ⟨rfl,rfl⟩) (.inr ⟨_,.i64,rfl,rfl⟩) (by omega) (by omega)) a4.cutE) (ox 2 [(40,vI (↑(DM lf i))),(39,vS a0 lf.length a1)] ?_);refine AD (da 41 (↑(DM lf i)) (1)) ?_;refine AD (HA (x:=(.tmp 39)) (lo:=(some (.tmp 41))) (hi:=none) (T:=24) (e:=28) (sz:=8) (DM lf i+1) (lf.length) (d:=42) (ty:=24) (gd:=none) (by kernel_rfl) rfl (by kernel_rfl) (by kernel_rfl) rfl (.inr ⟨_,.i64,rfl,(look_int rfl (by omega))⟩) (.inl ⟨rfl,rfl⟩) (by omega) (by omega)) ?_;refine AW (sS (stp_appendCut (d:=43) (x:=(.tmp 38)) (y:=(.tmp 42)) (T:=24) (T':=24) (E:=28) (E':=28) (sz:=8) (cell:=BA) (a:=a0) (n:=lf.length) (c:=a1) (k:=DM lf i) (xs:=lf) (ty:=24) (gd:=none) (by kernel_rfl) rfl (by kernel_rfl) (by kernel_rfl) (by kernel_rfl) rfl rfl a4 c0 (PO _ _ _) (DE _) (fun d4 d6=>(nm ?_))));refine sp 1 [(3,vS a0 (lf.length-1) a1)] (ee (NB ?_));refine AM ((lf.eraseIdx (DM lf i)).length) ((by rw [sel_len rfl c0];omega)) ?_;intro a w hS hD hW;exact ⟨J1,lf.eraseIdx (DM lf i),ot++([lf.getD (DM lf i) AB]),vS a0 (lf.length-1) a1,d4,vS b6 (ot++([lf.getD (DM lf i) AB])).length b7,b4,(IT hJ0 hJ1),sel_step (by omega) (by omega) c8,(by rw [sel_len rfl c0];omega),(by rw [sel_len rfl c0,LA];simp only [LC,LN];omega),d6,b5,hS.sub (.consE 3 rfl rfl (.consE 4 rfl rfl (.cons 2 rfl (.nil _)))),hD,hW,rfl⟩
 have c3:=h1;have h1:=KW h1;refine CB 0 ((EP (EP (EB (NX (rqr (sp 2 [(2,vS a5 ot.length a6)] (se (BJ (ppm (M':=((a2++(a3++F)))) (PO _ _ _) (AG (t:=2) (a2) (by kernel_rfl) rfl (TA (TT (TR _) (TB _ _)) _) hJ0 ?_)))))))))));exact ⟨_,_,rfl,rfl,((sel_end c8 (by omega) ho)▸a7)⟩
noncomputable def c_rgaps (p:List Nat):Code:=sub (AU Tryz.f70) p
set_option maxHeartbeats 1000000 in
theorem rgaps_ct (I:Imm) (l:Value) (L:Lin) (l_f:IsLin I l L) (hg:GoodL L):Ct Tryz.prog 70 #[l] I ([]) (fun v I' M'=>∃ u:Value,∃ Ms:Seg,v=u∧M'=Ms∧Own 59 2 KU u (AV (AL L)) Ms):=by
 obtain ⟨l1,l2,l3,q0,f9,g0,c0⟩:=id l_f;subst q0;obtain ⟨b0,b2,o4,o7,l0,i5,o5,o6,o8,o9⟩:=id f9;subst i5;obtain ⟨b3,b4,p0,p3,i6,p1,p2,p4⟩:=id g0;subst i6;obtain ⟨a8,a9,p5,p8,i7,p6,p7,p9⟩:=id c0;subst i7;refine fr (args:=[_]) (N:=73) Tryz.func70 (fun F=>?_);show Run _ _ (c_rgaps []) _ _ [(0,.agg #[vI (L.places),vI (L.sorts),vS b0 L.start.length b2,vS b3 L.keeps.length b4,vS a8 L.slips.length a9])] _ _;refine rnm ?_;have s1:=hg.places;have s2:=hg.sorts;have s3:=hg.slips;have n6:Once L.slips:=hg.once;have r9:(AO L.slips).length=L.slips.length:=(GG _).length_eq;refine rqr (sS (sb 1 26 #[vI (L.places),vI (L.sorts),vS b0 L.start.length b2,vS b3 L.keeps.length b4,vS a8 L.slips.length a9] (fun b1=>(sp 1 [(2,vN)] (sn (sp 1 [(3,vN)] (sn (sd (dnb 8 0 0 b1 [vI (L.places),vI (L.sorts),vS b0 L.start.length b2,vS b3 L.keeps.length b4,vS a8 L.slips.length a9]) ?_))))))));have e4:=rfirst_ct I _ (L) (EG f9 g0 c0) (by assumption);refine sS (sc (some 9) (e4 :) (.refl _) (fun q7 I3 q3 e8 n7=>?_));obtain ⟨u8,k8,k5,q2⟩:=n7;rw [k8,k5];clear k8 k5;replace c0:=c0.mono e8;have b6:=q2;obtain ⟨g8,g9,r1,r4,n3,k1,r2,r3,r5,r6⟩:=id b6;subst k1;refine nm ?_;refine sp 1 [(4,vS g8 (CI (CM L) L.sorts.toNat L.places.toNat).length g9)] (sn (sp 1 [(10,vP b1 4)] (sd (dlb 11 0 4 b1 (vS a8 L.slips.length a9)) ?_)));have e5:=Sorted_ct I3 _ _ c0 (by assumption) (by omega);refine sS (sc (some 12) (e5 :) (.refl _) (fun q8 r7 q4 d0 i0=>?_));obtain ⟨t0,h4,f5,f0,g4⟩:=i0;rw [f5,f0];clear f5 f0;replace b6:=b6.mono d0;obtain ⟨a1,a2,g5,m0⟩:=g4.shape;subst g5;refine pm (M':=((bX b1 #[vI (L.places),vI (L.sorts),vS b0 L.start.length b2,vS b3 L.keeps.length b4,vS a8 L.slips.length a9] 26)::(h4++F))) PM (sp 1 [(5,vS a1 (AO L.slips).length a2)] (se (rq (rq ?_))));refine BP (B:=((bX b1 #[vI (L.places),vI (L.sorts),vS b0 L.start.length b2,vS b3 L.keeps.length b4,vS a8 L.slips.length a9] 26)::F)) AB g4 (by first | omega | (simp only [LS,LC,LN,LA,LK,LD] <;> omega) | decide) (PM.symm) (PR _) (fun k2 d1 d8=>?_);replace b6:=b6.mono d1;obtain ⟨h5,h6,a3,a4,d7,h7,h8,a0⟩:=id d8;cases d7;refine rr (sp 1 [(6,vI (0))] (se (rb 0 ?_)));refine rl (fun mz a w=>∃ J0:Imm,∃ k:Nat,∃ hv:Value,∃ c2:Value,∃ a5:Seg,(k2.le J0)∧(k≤(AO L.slips).length)∧(IsRows J0 hv (ED L k))∧(Own 59 2 KU c2 (AV (evTo L k)) a5)∧Slots 73 [(3,c2),(4,hv),(6,vI ↑k),(2,vN),(5,vS a1 (AO L.slips).length a2)] a∧a.defers=[]∧St J0 ((bX b1 #[vI (L.places),vI (L.sorts),vS b0 L.start.length b2,vS b3 L.keeps.length b4,vS a8 L.slips.length a9] 26)::(a5++F)) w∧mz=(AO L.slips).length-k) ?_ ?_
 ·intro a w hS hD hW;exact ⟨_,k2,0,(vS g8 (CI (CM L) L.sorts.toNat L.places.toNat).length g9),(vN),[],IR _,Nat.zero_le _,b6,(Own.nil _ _ _),hS.sub (.cons 3 rfl (.cons 4 rfl (.cons 6 rfl (.cons 2 rfl (.cons 5 rfl (.nil _)))))),hD,hW,rfl⟩
 rintro mz a w ⟨J0,k,hv,c2,a5,hJ0,hk,b9,b5,hS,hD,hW,rfl⟩
 refine AS hS hD hW ?_;clear hS hD hW a w;replace a0:=a0.mono hJ0;obtain ⟨a6,a7,c9,h0⟩:=b5.shape;subst c9;have s4:=OJ (l:=evTo L k);have s0:(evTo L k).length≤8:=by unfold evTo;rw [LK,FT];omega
 obtain ⟨c7,c8,o0,o3,k9,i3,o1,o2,f8,i4⟩:=id b9;subst i3;refine rq (rqr (sp 4 [(16,.bool (cmp .lss (↑k) (↑((AO L.slips).length))))] (se (rc 16 rfl (fun h1=>?_) (fun h1=>?_)))))
 ·
  have h9:=h1;have h1:=CC h1;refine AQ (NX (rq (rb 1 (rq (rq ?_)))));obtain ⟨s7,k7,n9,s8,s9⟩:=slip_at hg (i:=k) (by omega);have s5:=rowsAt_len (L:=L) (i:=k);have n8:=(rowsAt_in hg (i:=k)).at (p:=(((AO L.slips).getD (k) AB).place:Int).toNat) (by omega);have n5:=ixR_lt (b:=((AO L.slips).getD (k) AB).soil) k7;have n4:=ixR_lt (b:=true) k7;have s6:=n8.2.2 _ n5;have k6:∃ m,ixR ((AO L.slips).getD (k) AB).sort.toNat true≤m∧RowsI 100000 m (ED L k):=⟨_,n4,rowsAt_in hg⟩;have f4:((AO L.slips).getD (k) AB).kind=1→0≤((AO L.slips).getD (k) AB).to∧((AO L.slips).getD (k) AB).to<((ED L k).length:Int):=fun hq=>by have:=n9 hq;omega
  refine rd0 26 (ox 2 [(20,vI (↑k)),(19,vS a1 (AO L.slips).length a2)] ?_);refine AD (di 21 8 (k) a0.addr) (ox 1 [(22,.pointer (some ⟨a3,a4+k*8+7,none⟩))] ?_);refine AD (dl 23 (FO a0 (k) (by omega) 7 (by decide) (v:=vI (((AO L.slips).getD (k) AB).amt)) rfl)) (ox 3 [(26,vI (↑k)),(25,vS a1 (AO L.slips).length a2),(24,vS c7 (ED L k).length c8)] ?_);refine AD (di 27 8 (k) a0.addr) (ox 1 [(28,.pointer (some ⟨a3,a4+k*8+3,none⟩))] ?_);refine AD (dl 29 (FO a0 (k) (by omega) 3 (by decide) (v:=vI (((AO L.slips).getD (k) AB).place)) rfl)) ?_;refine AD (diI 30 1 (((AO L.slips).getD (k) AB).place) f8.addr) ?_;have d3:=i4 ((((AO L.slips).getD (k) AB).place:Int).toNat) (by omega);obtain ⟨l4,l6,l5,l9,d2,l7,l8,d4⟩:=id d3;rw [d2] at d3;refine AD (CG (dl 31 (FS f8 ((((AO L.slips).getD (k) AB).place:Int).toNat) (by omega))) d2) (ox 2 [(33,vI (↑k)),(32,vS a1 (AO L.slips).length a2)] ?_);refine AD (di 34 8 (k) a0.addr) (ox 1 [(35,.pointer (some ⟨a3,a4+k*8+5,none⟩))] ?_);refine AD (dl 36 (FO a0 (k) (by omega) 5 (by decide) (v:=vI (((AO L.slips).getD (k) AB).sort)) rfl)) (ox 2 [(38,vI (↑k)),(37,vS a1 (AO L.slips).length a2)] ?_);refine AD (di 39 8 (k) a0.addr) (ox 1 [(40,.pointer (some ⟨a3,a4+k*8+6,none⟩))] ?_);refine AD (dl 41 (FO a0 (k) (by omega) 6 (by decide) (v:=.bool (((AO L.slips).getD (k) AB).soil)) rfl)) ?_;refine AD (dc 42 (fun I' hI=>(rat_ct I' (((AO L.slips).getD (k) AB).sort) (((AO L.slips).getD (k) AB).soil) (by omega) :))) ?_;refine AD (di 43 1 (ixR (((AO L.slips).getD (k) AB).sort).toNat (((AO L.slips).getD (k) AB).soil)) d4.addr) ?_;refine AD (dl 44 (DB d4 (ixR (((AO L.slips).getD (k) AB).sort).toNat (((AO L.slips).getD (k) AB).soil)) (by omega))) ?_;refine AW (sd (dsb 45 (((AO L.slips).getD (k) AB).amt) (((ED L k).getD ((((AO L.slips).getD (k) AB).place:Int).toNat) []).getD (ixR (((AO L.slips).getD (k) AB).sort).toNat (((AO L.slips).getD (k) AB).soil)) 0)) (sp 1 [(7,vI ((((AO L.slips).getD (k) AB).amt)-(((ED L k).getD ((((AO L.slips).getD (k) AB).place:Int).toNat) []).getD (ixR (((AO L.slips).getD (k) AB).sort).toNat (((AO L.slips).getD (k) AB).soil)) 0)))] (se (rq ?_))));refine BZ (fun a w=>Slots 73 [(2,vN),(3,vS a6 (AV (evTo L k)).length a7),(4,vS c7 (ED L k).length c8),(5,vS a1 (AO L.slips).length a2),(6,vI (↑k)),(7,vI ((((AO L.slips).getD (k) AB).amt)-(((ED L k).getD ((((AO L.slips).getD (k) AB).place:Int).toNat) []).getD (ixR (((AO L.slips).getD (k) AB).sort).toNat (((AO L.slips).getD (k) AB).soil)) 0))),(55,.bool ((cmp .eql (((AO L.slips).getD (k) AB).kind) (4))&&(!(cmp .eql ((((AO L.slips).getD (k) AB).amt)-(((ED L k).getD ((((AO L.slips).getD (k) AB).place:Int).toNat) []).getD (ixR (((AO L.slips).getD (k) AB).sort).toNat (((AO L.slips).getD (k) AB).soil)) 0)) (0)))))] a∧a.defers=[]∧St J0 ((bX b1 #[vI (L.places),vI (L.sorts),vS b0 L.start.length b2,vS b3 L.keeps.length b4,vS a8 L.slips.length a9] 26)::(a5++F)) w) ?_ ?_
  ·
   refine rr (sp 2 [(47,vI (↑k)),(46,vS a1 (AO L.slips).length a2)] (sd (di 48 8 (k) a0.addr) (sp 1 [(49,.pointer (some ⟨a3,a4+k*8+2,none⟩))] (sd (dl 50 (FO a0 (k) (by omega) 2 (by decide) (v:=vI (((AO L.slips).getD (k) AB).kind)) rfl)) (sp 2 [(52,.bool (cmp .eql (((AO L.slips).getD (k) AB).kind) (4)))] ?_)))));refine AY 52 rfl (fun h2=>?_) (fun h2=>?_)
   ·
    have b7:=h2;have b7:=BI b7;refine sp 3 [(55,.bool (!(cmp .eql ((((AO L.slips).getD (k) AB).amt)-(((ED L k).getD ((((AO L.slips).getD (k) AB).place:Int).toNat) []).getD (ixR (((AO L.slips).getD (k) AB).sort).toNat (((AO L.slips).getD (k) AB).soil)) 0)) (0))))] (ee ?_);refine AK (fun a w hS hD hW=>⟨hS.sub (.cons 2 rfl (.cons 3 rfl (.cons 4 rfl (.cons 5 rfl (.cons 6 rfl (.cons 7 rfl (.consE 55 rfl (congrArg Value.bool (by simp only [h2,kA,kB,kC,kD,kE,kF,kG,kH,kI,kJ])) (.nil _)))))))),hD,hW⟩)
   have b7:=h2;have b7:=BL b7;refine sp 3 [(55,.bool (false))] (ee ?_);refine AK (fun a w hS hD hW=>⟨hS.sub (.cons 2 rfl (.cons 3 rfl (.cons 4 rfl (.cons 5 rfl (.cons 6 rfl (.cons 7 rfl (.consE 55 rfl (congrArg Value.bool (by simp only [h2,kA,kB,kC,kD,kE,kF,kG,kH,kI,kJ])) (.nil _)))))))),hD,hW⟩)
  rintro a w ⟨hS,hD,hW⟩
  refine AS hS hD hW ?_;clear hS hD hW a w;refine rc 55 rfl (fun h3=>?_) (fun h3=>?_)
  ·
   have d9:=h3;obtain ⟨e2,e3⟩:=HF h3;have e2:=BI e2;have e3:=BL (BX e3);refine rr (sp 3 [(58,vI (↑k)),(57,vS a1 (AO L.slips).length a2),(56,vS a6 (AV (evTo L k)).length a7)] (sd (di 59 8 (k) a0.addr) (sp 1 [(60,.pointer (some ⟨a3,a4+k*8,none⟩))] (sd (dl 61 (FO a0 (k) (by omega) 0 (by decide) (v:=vI (((AO L.slips).getD (k) AB).num)) rfl)) (sp 2 [(63,.agg #[vI (((AO L.slips).getD (k) AB).num),vI ((((AO L.slips).getD (k) AB).amt)-(((ED L k).getD ((((AO L.slips).getD (k) AB).place:Int).toNat) []).getD (ixR (((AO L.slips).getD (k) AB).sort).toNat (((AO L.slips).getD (k) AB).soil)) 0))])] (sS (sbs 64 59 1 #[vI (((AO L.slips).getD (k) AB).num),vI ((((AO L.slips).getD (k) AB).amt)-(((ED L k).getD ((((AO L.slips).getD (k) AB).place:Int).toNat) []).getD (ixR (((AO L.slips).getD (k) AB).sort).toNat (((AO L.slips).getD (k) AB).soil)) 0))] (fun r8=>(sS (AZ (d:=65) (x:=(.tmp 56)) (y:=(.tmp 64)) (T:=39) (T':=39) (E:=59) (E':=59) (sz:=2) (bs:=16) (z:=.agg #[vI (0),vI (0)]) (cell:=KU) (xs:=AV (evTo L k)) (ys:=[(⟨((AO L.slips).getD (k) AB).num,(((AO L.slips).getD (k) AB).amt)-(((ED L k).getD ((((AO L.slips).getD (k) AB).place:Int).toNat) []).getD (ixR (((AO L.slips).getD (k) AB).sort).toNat (((AO L.slips).getD (k) AB).soil)) 0)⟩:Gap)]) (Ms:=a5) (ty:=39) (gd:=none) (by kernel_rfl) rfl (by kernel_rfl) (by kernel_rfl) (by kernel_rfl) (by kernel_rfl) (by kernel_rfl) (by decide) (by kernel_rfl) rfl rfl (b5) (PU (PM.symm)) (one_gapCell _) (DJ 0 rfl rfl) (by first | omega | (simp only [LC,LN];omega)) (fun t3 e1 f3=>(BC (M':=((bX b1 #[vI (L.places),vI (L.sorts),vS b0 L.start.length b2,vS b3 L.keeps.length b4,vS a8 L.slips.length a9] 26)::(e1++F))) (fun w h=>(h.perm (PW PM)).sub (TC _ (TR _))) ?_))))))))))));obtain ⟨g2,g3,j6,q1⟩:=f3.shape;subst j6;refine sp 1 [(3,vS g2 ((AV (evTo L k))++([(⟨((AO L.slips).getD (k) AB).num,(((AO L.slips).getD (k) AB).amt)-(((ED L k).getD ((((AO L.slips).getD (k) AB).place:Int).toNat) []).getD (ixR (((AO L.slips).getD (k) AB).sort).toNat (((AO L.slips).getD (k) AB).soil)) 0)⟩:Gap)])).length g3)] (se (rr (sp 3 [(68,vI (↑k)),(67,vS a1 (AO L.slips).length a2),(66,vS c7 (ED L k).length c8)] (sd (di 69 8 (k) a0.addr) (sd (BN (x:=(.tmp 69)) (T:=28) (n:=8) (vs:=[vI (((AO L.slips).getD (k) AB).num),vI (((AO L.slips).getD (k) AB).hour),vI (((AO L.slips).getD (k) AB).kind),vI (((AO L.slips).getD (k) AB).place),vI (((AO L.slips).getD (k) AB).to),vI (((AO L.slips).getD (k) AB).sort),.bool (((AO L.slips).getD (k) AB).soil),vI (((AO L.slips).getD (k) AB).amt)]) (d:=70) (ty:=28) (gd:=none) (by kernel_rfl) rfl (by kernel_rfl) (by kernel_rfl) rfl rfl (CO (vals:=CR) (fun _=>rfl) a0 (k) (by omega))) ?_)))));have e6:=rdone_ct J0 _ _ ((AO L.slips).getD (k) AB) b9 (by omega) (by omega) (by exact f4) (by omega) (by omega) (by omega) (by exact k6);refine sS (sc (some 71) (e6 :) (.refl _) (fun q9 k3 q5 b8 i1=>?_));obtain ⟨t1,f6,f1,j7⟩:=i1;rw [f6,f1];clear f6 f1;replace a0:=a0.mono b8;replace b9:=b9.mono b8;have d5:=j7;obtain ⟨c3,c4,m1,m4,j9,g6,m2,m3,m5,m6⟩:=id d5;subst g6;refine nm ?_;have c1:IsRows k3 (vS c3 (ED L (k+1)).length c4) (ED L (k+1)):=by have hq:=d5;rw [LG hg (by omega)] at hq;exact hq
   rw [LG hg (by omega)];obtain ⟨i8,j0,i9,j3,g1,e0,j1,j2,j4,j5⟩:=id c1
   injection e0 with nx_e1 nx_e2 nx_e3;subst nx_e1;subst nx_e3
   refine sp 1 [(4,vS c3 (ED L (k+1)).length c4)] (ee (NB (NX (rr (sp 1 [(17,vI (↑k))] (sd (da 18 (↑k) (1)) (sp 1 [(6,vI (↑k+1))] (ee ?_))))))));refine AM ((AO L.slips).length-(k+1)) (by omega) ?_;intro a w hS hD hW;exact ⟨k3,k+1,(vS c3 (ED L (k+1)).length c4),vS g2 ((AV (evTo L k))++([(⟨((AO L.slips).getD (k) AB).num,(((AO L.slips).getD (k) AB).amt)-(((ED L k).getD ((((AO L.slips).getD (k) AB).place:Int).toNat) []).getD (ixR (((AO L.slips).getD (k) AB).sort).toNat (((AO L.slips).getD (k) AB).soil)) 0)⟩:Gap)])).length g3,e1,(IT hJ0 b8),by omega,c1,(gaps_yes hg (by omega) d9▸f3),hS.sub (.consE 3 rfl rfl (.consE 4 rfl rfl (.consE 6 rfl rfl (.cons 2 rfl (.cons 5 rfl (.nil _)))))),hD,hW,rfl⟩
  have d9:=h3;refine AQ (NX (rr (sp 3 [(68,vI (↑k)),(67,vS a1 (AO L.slips).length a2),(66,vS c7 (ED L k).length c8)] (sd (di 69 8 (k) a0.addr) (sd (BN (x:=(.tmp 69)) (T:=28) (n:=8) (vs:=[vI (((AO L.slips).getD (k) AB).num),vI (((AO L.slips).getD (k) AB).hour),vI (((AO L.slips).getD (k) AB).kind),vI (((AO L.slips).getD (k) AB).place),vI (((AO L.slips).getD (k) AB).to),vI (((AO L.slips).getD (k) AB).sort),.bool (((AO L.slips).getD (k) AB).soil),vI (((AO L.slips).getD (k) AB).amt)]) (d:=70) (ty:=28) (gd:=none) (by kernel_rfl) rfl (by kernel_rfl) (by kernel_rfl) rfl rfl (CO (vals:=CR) (fun _=>rfl) a0 (k) (by omega))) ?_)))));have e7:=rdone_ct J0 _ _ ((AO L.slips).getD (k) AB) b9 (by omega) (by omega) (by exact f4) (by omega) (by omega) (by omega) (by exact k6);refine sS (sc (some 71) (e7 :) (.refl _) (fun r0 k4 q6 e9 i2=>?_));obtain ⟨t2,f7,f2,j8⟩:=i2;rw [f7,f2];clear f7 f2;have d6:=j8;obtain ⟨c5,c6,m7,n0,k0,g7,m8,m9,n1,n2⟩:=id d6;subst g7;refine nm ?_;have c1:IsRows k4 (vS c5 (ED L (k+1)).length c6) (ED L (k+1)):=by have hq:=d6;rw [LG hg (by omega)] at hq;exact hq
  rw [LG hg (by omega)];obtain ⟨i8,j0,i9,j3,g1,e0,j1,j2,j4,j5⟩:=id c1
  injection e0 with nx_e1 nx_e2 nx_e3;subst nx_e1;subst nx_e3
  refine sp 1 [(4,vS c5 (ED L (k+1)).length c6)] (ee (NB (NX (rr (sp 1 [(17,vI (↑k))] (sd (da 18 (↑k) (1)) (sp 1 [(6,vI (↑k+1))] (ee ?_))))))));refine AM ((AO L.slips).length-(k+1)) (by omega) ?_;intro a w hS hD hW;exact ⟨k4,k+1,(vS c5 (ED L (k+1)).length c6),vS a6 (AV (evTo L k)).length a7,a5,(IT hJ0 e9),by omega,c1,(gaps_no hg (by omega) d9▸b5),hS.sub (.consE 3 rfl rfl (.consE 4 rfl rfl (.consE 6 rfl rfl (.cons 2 rfl (.cons 5 rfl (.nil _)))))),hD,hW,rfl⟩
 have h9:=h1;have h1:=CH h1;refine CB 0 ((EP (EP (EB (NX (rqr (sp 2 [(2,vS a6 (AV (evTo L k)).length a7)] (se (BJ (ppm (M':=((a5++(bX b1 #[vI (L.places),vI (L.sorts),vS b0 L.start.length b2,vS b3 L.keeps.length b4,vS a8 L.slips.length a9] 26)::F))) (PM.symm) (AG (t:=2) (a5) (by kernel_rfl) rfl (TA (TC _ (TR _)) _) (IT (IT (IT e8 d0) d1) hJ0) ?_)))))))))));exact ⟨_,_,rfl,rfl,((congrArg AV (evTo_all (L:=L) (i:=k) (by omega)))▸b5)⟩
end Go.Proofs.YtgcemienebmdeaaGreat
namespace Go.Sh
open Go Go.Sl
def QN (n amt:Int) (h:List Int) (S:List Int) (s:Slip):List Int:=
  if s.num=n∧h.length=1∧1≤h.getD 0 0∧h.getD 0 0≤9 then S.set (h.getD 0 0*2+s.sort).toNat (S.getD (h.getD 0 0*2+s.sort).toNat 0-amt) else S
def sumSl (n amt:Int) (h:List Int) (S:List Int) (l:List Slip):List Int:=l.foldl (QN n amt h) S
def owG (L:Lin) (S:List Int) (g:Gap):List Int:=if 0≤g.amt then S else sumSl g.num g.amt (AX L g.num).1 S L.slips
def sumsM (L:Lin) (l:List Gap):List Int:=l.foldl (owG L) (List.replicate 20 0)
def missG (m:Int) (g:Gap):Int:=if 0≤g.amt then m else m-g.amt
def missM (l:List Gap):Int:=l.foldl missG 0
section
variable {L:Lin} {n amt:Int} {h S:List Int} {s:Slip} {l:List Slip} {G:List Gap} {i j:Nat}
end
def DU (S:List Int):Nat→List Debt
  | 0=>[]
  | n+1=>if S.getD n 0=0 then DU S n else DU S n++[⟨(n:Int)/2,(n:Int)%2,S.getD n 0⟩]
section
variable {S:List Int} {n:Nat}
theorem KR (h:S.getD n 0=0):DU S n=DU S (n+1):=(if_pos h).symm
theorem debtsFrom_1 (h:¬ S.getD n 0=0):DU S n++[⟨(n:Int)/2,(n:Int)%2,S.getD n 0⟩]=DU S (n+1):=(if_neg h).symm
theorem debtsFrom_mem {x:Debt}:∀ {n:Nat},x∈DU S n↔∃ i:Nat,i<n∧S.getD i 0≠0∧x=⟨(i:Int)/2,(i:Int)%2,S.getD i 0⟩:=by
  intro n
  induction n with
  | zero=>simp [DU]
  | succ n ih=>
    have up:(∃ i:Nat,i<n+1∧S.getD i 0≠0∧x=⟨(i:Int)/2,(i:Int)%2,S.getD i 0⟩)↔(∃ i:Nat,i<n∧S.getD i 0≠0∧x=⟨(i:Int)/2,(i:Int)%2,S.getD i 0⟩)∨(S.getD n 0≠0∧x=⟨(n:Int)/2,(n:Int)%2,S.getD n 0⟩):=by
      constructor
      · rintro ⟨i,h1,h2⟩
        rcases Nat.lt_or_ge i n with h3 | h3
        · exact .inl ⟨i,h3,h2⟩
        · have:i=n:=by omega
          subst this;exact .inr h2
      · rintro (⟨i,h1,h2⟩ | h2)
        · exact ⟨i,by omega,h2⟩
        · exact ⟨n,by omega,h2⟩
    rw [up,← ih];simp only [DU]
    split
    · rename_i h;exact ⟨.inl,fun q=>q.elim id (fun e=>absurd h e.1)⟩
    · rename_i h;simp only [List.mem_append,List.mem_singleton];exact ⟨fun q=>q.elim .inl (fun e=>.inr ⟨h,e⟩),fun q=>q.elim .inl (fun e=>.inr e.2)⟩
theorem OB:∀ {n:Nat},Asc' DV (DU S n):=by
  intro n
  induction n with
  | zero=>exact List.Pairwise.nil
  | succ n ih=>
    simp only [DU];split
    · exact ih
    · refine List.pairwise_append.2 ⟨ih,by simp,fun a ha b hb=>?_⟩
      obtain ⟨i,h1,_,rfl⟩:=debtsFrom_mem.1 ha;simp only [List.mem_singleton] at hb;subst hb;unfold DV;simp only;split <;> omega
theorem OC:(DU S n).length≤n:=by
  induction n with
  | zero=>exact Nat.le_refl _
  | succ n ih => simp only [DU]; split
                 · omega
                 · simp only [List.length_append,List.length_singleton];omega
end
def sumQ (S:List Int) (q:EvH):List Int:=if q.1.gap<0∧q.2.length=1 then S.set (q.2.getD 0 0*2+q.1.slip.sort).toNat (S.getD (q.2.getD 0 0*2+q.1.slip.sort).toNat 0-q.1.gap) else S
def missQ (m:Int) (q:EvH):Int:=if 0≤q.1.gap then m else m-q.1.gap
structure Rel (S:List Int) (O:Ods):Prop where
  len:S.length=20
  zero:S.getD 0 0=0∧S.getD 1 0=0
  at_:∀ i:Nat,2≤i→i<20→S.getD i 0=NO ⟨(i:Int)/2,(i:Int)%2,0⟩ O
  pos:∀ x∈O,0<x.2
  nod:(O.map Prod.fst).Nodup
  nn:∀ k,0≤NO k O
theorem Rel.start:Rel (List.replicate 20 0) []:=⟨by simp,by decide,fun i _ h2=>by
  show (List.replicate 20 (0:Int)).getD i 0=0
  rw [List.getD_eq_getElem?_getD,List.getElem?_replicate,if_pos h2];rfl,fun x hx=>(by cases hx),List.nodup_nil,fun k=>Int.le_refl _⟩
theorem putO_mem {k:Debt} {v:Int}:∀ {O:Ods} {x:Debt × Int},x∈putO k v O→x∈O∨x=(k,v):=by
  intro O
  induction O with
  | nil=>intro x hx;simp only [putO,List.mem_singleton] at hx;exact .inr hx
  | cons y r ih=>
    intro x hx;simp only [putO] at hx
    split at hx
    · rcases List.mem_cons.1 hx with rfl | hx
      · exact .inr rfl
      · exact .inl (by simp [hx])
    · rcases List.mem_cons.1 hx with rfl | hx
      · exact .inl (by simp)
      · rcases ih hx with h | h
        · exact .inl (by simp [h])
        · exact .inr h
theorem Rel.step {L:Lin} {S:List Int} {O:Ods} {q:EvH} (g:GoodL L) (r:Rel S O) (hq:q∈BR L):Rel (sumQ S q) (MF O q):=by
  unfold sumQ MF
  by_cases hc:q.1.gap<0∧q.2.length=1
  · rw [if_pos hc,if_pos hc]
    have hl:=HQ g hq;have hw:=hl.2.2 _ (BE (xs:=q.2) (d:=0) (k:=0) (by omega));have hs:=hl.2.1;have hn:=r.nn (oweK q);have hlen:=r.len;obtain ⟨j,hj⟩:∃ j:Nat,(q.2.getD 0 0*2+q.1.slip.sort).toNat=j:=⟨_,rfl⟩;have hj2:(j:Int)=q.2.getD 0 0*2+q.1.slip.sort:=by omega
    have hk:oweK q=⟨(j:Int)/2,(j:Int)%2,0⟩:=by
      unfold oweK;congr 1 <;> omega
    have hv:=r.at_ j (by omega) (by omega)
    rw [← hk] at hv;rw [hj];refine ⟨by rw [List.length_set];exact hlen,⟨?_,?_⟩,fun i h1 h2=>?_,fun x hx=>?_,putO_once r.nod,fun k=>?_⟩
    · rw [List.getD_eq_getElem?_getD,List.getElem?_set_ne (by omega)];exact r.zero.1
    · rw [List.getD_eq_getElem?_getD,List.getElem?_set_ne (by omega)];exact r.zero.2
    · rw [getO_put]
      by_cases e:j=i
      · subst e
        rw [if_pos hk.symm,List.getD_eq_getElem?_getD,List.getElem?_set_self (by omega)];simp only [Option.getD_some];omega
      · rw [if_neg (fun e2=>e (by rw [hk] at e2;simp only [Debt.mk.injEq] at e2;omega)),List.getD_eq_getElem?_getD,List.getElem?_set_ne e]
        exact r.at_ i h1 h2
    · rcases putO_mem hx with hx | rfl
      · exact r.pos x hx
      · simp only;omega
    · rw [getO_put];split
      · omega
      · exact r.nn k
  · rw [if_neg hc,if_neg hc];exact r
theorem sumset {l:List Int} {k:Nat} {v:Int} (hk:k<l.length):(l.set k v).sum=l.sum-l.getD k 0+v:=by
  induction l generalizing k with
  | nil=>simp at hk
  | cons x r ih=>
    cases k with
    | zero=>simp [List.getD];omega
    | succ k=>
      have:=ih (k:=k) (by simpa using hk);simp only [List.set_cons_succ,List.sum_cons,this,List.getD_cons_succ];omega
theorem rel_all {L:Lin} (g:GoodL L):∀ {l:List EvH},(∀ q∈l,q∈BR L)→∀ {S:List Int} {O:Ods} {m:Int},Rel S O→S.sum≤m→Rel (l.foldl sumQ S) (l.foldl MF O)∧(l.foldl sumQ S).sum≤l.foldl missQ m:=by
  intro l
  induction l with
  | nil=>intro _ S O m r hm;exact ⟨r,hm⟩
  | cons q t ih=>
    intro hq S O m r hm;refine ih (fun x hx=>hq x (by simp [hx])) (r.step g (hq q (by simp))) ?_;unfold sumQ missQ;have hl:=HQ g (hq q (by simp))
    split
    · rename_i hc
      have hw:=hl.2.2 _ (BE (xs:=q.2) (d:=0) (k:=0) (by omega));have hs:=hl.2.1;have hlen:=r.len;rw [sumset (by omega),if_neg (by omega)];omega
    · split <;> omega
def gapQ (q:EvH):Gap:=⟨q.1.slip.num,q.1.gap⟩
theorem lack_gaps {L:Lin}:∀ (S:List Slip) (H:Hs) (q:Hs × List EvH),((evs H S).foldl (ND L) q).2.map gapQ=q.2.map gapQ++AV (evs H S):=by
  intro S
  induction S with
  | nil=>intro H q;simp [evs,AV]
  | cons s r ih=>
    intro H q;simp only [evs,List.foldl_cons];rw [ih,show AV (PT H s::evs (doSlip s H) r)=NN (PT H s)++AV (evs (doSlip s H) r) from rfl,← List.append_assoc]
    congr 1
    unfold ND NN
    by_cases e:(PT H s).slip.kind=4
    · rw [if_neg (fun h=>h e)];simp only
      by_cases e2:(PT H s).gap≠0
      · rw [if_pos e2,if_pos e2,List.map_append];rfl
      · rw [if_neg e2,if_neg e2,List.append_nil]
    · rw [if_pos e]
      have e0:(PT H s).gap=0:=gap_f e;rw [if_neg (fun h=>h e0),List.append_nil]
theorem RN {L:Lin}:(BR L).map gapQ=AV (AL L):=by
  have:=lack_gaps (L:=L) (AE AC L.slips) (CM L) ([],[])
  simpa [BR,EM,AL] using this
theorem find_uniq {α:Type} {f:α→Int}:∀ {l:List α},(l.map f).Nodup→∀ x∈l,l.find? (fun q=>decide (f q=f x))=some x:=by
  intro l
  induction l with
  | nil=>intro _ x hx;cases hx
  | cons y r ih=>
    intro hn x hx;rw [List.map_cons,List.nodup_cons] at hn;rcases List.mem_cons.1 hx with rfl | hx
    · simp
    · have hne:f y≠f x:=fun e=>hn.1 (by rw [e];exact List.mem_map_of_mem hx)
      rw [List.find?_cons_of_neg (by simpa using hne)];exact ih hn.2 x hx
section
variable {L:Lin} (g:GoodL L)
include g
theorem lack_once:((BR L).map fun q=>q.1.slip.num).Nodup:=by
  have h1:(BR L).map (fun q=>q.1.slip.num)=(AV (AL L)).map (·.num):=by rw [← RN,List.map_map];rfl
  rw [h1];have h2:∀ {E:List Sh.Event},((AV E).map (·.num)).Sublist (E.map fun e=>e.slip.num):=by
    intro E
    induction E with
    | nil=>exact List.Sublist.slnil
    | cons e r ih=>
      rw [show AV (e::r)=NN e++AV r from rfl,List.map_append,List.map_cons];unfold NN;split
      · exact ih.cons_cons _
      · exact ih.cons _
  exact (evs_nums g).sublist h2
theorem lack_held {q:EvH} (hq:q∈BR L):AX L q.1.slip.num=(q.2,0):=by
  have h1:=QE (L:=L) (i:=(AL L).length) (E:=AL L) (Nat.le_refl _) (q:=q) (by rw [List.take_length];exact hq);rw [List.take_length] at h1;have hm:q.1.slip∈L.slips:=(BQ _).subset (MP h1.1)
  obtain ⟨j,h2,h3,h4,_⟩:=HW (p:=fun x:Slip=>decide (x.num=q.1.slip.num)) (l:=L.slips) (d:=AB) (by
    rcases Int.lt_or_le (KG (fun x:Slip=>decide (x.num=q.1.slip.num)) L.slips) 0 with h | h
    · have:=RM h;rw [List.any_eq_false] at this;exact absurd (by simp) (this _ hm)
    · exact h)
  have h5:L.slips.getD j AB=q.1.slip:=RS g.once _ (BE (d:=AB) h3) _ hm (of_decide_eq_true h4);refine KJ (MQ g) h2 ?_ ?_
  · rw [h5]
    obtain ⟨k,hk,e⟩:=List.mem_iff_getElem.1 h1.1;have h6:=h1.2.1;have hk2:k<(AE AC L.slips).length:=by unfold AL at hk;rwa [GC] at hk
    have h7:=ev_at (L:=L) hk2;have h8:(AL L)[k]?=some (PT (aft (CM L) ((AE AC L.slips).take k)) ((AE AC L.slips).getD k AB)):=by
      rw [← List.getElem?_take_of_lt (show k<k+1 by omega),h7,List.getElem?_append_right (by rw [List.length_take];omega),List.length_take,Nat.min_eq_left (by omega)];simp
    rw [List.getElem?_eq_getElem hk,e] at h8;have h9:=Option.some.inj h8;rcases Classical.em (q.1.slip.kind=4) with h | h
    · exact h
    · exfalso
      rw [h9] at h6 h;exact h6 (gap_f h)
  · unfold LY
    rw [find_uniq (f:=fun q:EvH=>q.1.slip.num) (lack_once g) q hq];rfl
theorem sum_one {q:EvH} (hq:q∈BR L) {S:List Int}:owG L S (gapQ q)=sumQ S q:=by
  have h1:=QE (L:=L) (i:=(AL L).length) (E:=AL L) (Nat.le_refl _) (q:=q) (by rw [List.take_length];exact hq);rw [List.take_length] at h1;have hm:q.1.slip∈L.slips:=(BQ _).subset (MP h1.1);have hl:=HQ g hq;unfold owG sumQ
  by_cases e:0≤(gapQ q).amt
  · rw [if_pos e,if_neg (fun h=>by have:=h.1;simp only [gapQ] at e;omega)]
  · rw [if_neg e]
    simp only [gapQ] at e ⊢;rw [lack_held g hq];simp only;have hone:=g.once;have aux:∀ {l:List Slip},Once l→∀ {S:List Int},(q.1.slip∈l→sumSl q.1.slip.num q.1.gap q.2 S l=QN q.1.slip.num q.1.gap q.2 S q.1.slip)∧((∀ x∈l,x.num≠q.1.slip.num)→sumSl q.1.slip.num q.1.gap q.2 S l=S):=by
      intro l
      induction l with
      | nil=>intro _ S;exact ⟨fun h=>(by cases h),fun _=>rfl⟩
      | cons y r ih=>
        intro ho S;rw [Once,List.map_cons,List.nodup_cons] at ho;have hcons:sumSl q.1.slip.num q.1.gap q.2 S (y::r)=sumSl q.1.slip.num q.1.gap q.2 (QN q.1.slip.num q.1.gap q.2 S y) r:=rfl;refine ⟨fun h=>?_,fun h=>?_⟩
        · rw [hcons]
          rcases List.mem_cons.1 h with h | h
          · subst h
            exact (ih ho.2).2 fun x hx e2=>ho.1 (by rw [← e2];exact List.mem_map_of_mem hx)
          · have hne:y.num≠q.1.slip.num:=fun e2=>ho.1 (by rw [e2];exact List.mem_map_of_mem h)
            rw [show QN q.1.slip.num q.1.gap q.2 S y=S from if_neg (fun h=>hne h.1)];exact (ih ho.2).1 h
        · rw [hcons,show QN q.1.slip.num q.1.gap q.2 S y=S from if_neg (fun h2=>h y (by simp) h2.1)]
          exact (ih ho.2).2 fun x hx=>h x (by simp [hx])
    rw [(aux hone).1 hm];unfold QN
    by_cases hc:q.2.length=1
    · have hw:=hl.2.2 _ (BE (xs:=q.2) (d:=0) (k:=0) (by omega))
      rw [if_pos ⟨rfl,hc,hw.1,hw.2⟩,if_pos ⟨by omega,hc⟩]
    · rw [if_neg (fun h=>hc h.2.1),if_neg (fun h=>hc h.2)]
theorem sums_eq:sumsM L (HB L).1=(BR L).foldl sumQ (List.replicate 20 0)∧missM (HB L).1=(BR L).foldl missQ 0:=by
  rw [OL g,← RN];have aux:∀ {l:List EvH},(∀ q∈l,q∈BR L)→∀ {S:List Int},(l.map gapQ).foldl (owG L) S=l.foldl sumQ S:=by
    intro l
    induction l with
    | nil=>intro _ S;rfl
    | cons q t ih=>intro hq S;simp only [List.map_cons,List.foldl_cons];rw [sum_one g (hq q (by simp)),ih (fun x hx=>hq x (by simp [hx]))]
  have aux2:∀ {l:List EvH} {m:Int},(l.map gapQ).foldl missG m=l.foldl missQ m:=by
    intro l
    induction l with
    | nil=>intro m;rfl
    | cons q t ih=>intro m;simp only [List.map_cons,List.foldl_cons];rw [ih];rfl
  exact ⟨aux (fun _ h=>h),aux2⟩
theorem owed_law:(II L).1=DU (sumsM L (HB L).1) 20∧(sumsM L (HB L).1).sum≤missM (HB L).1:=by
  obtain ⟨e1,e2⟩:=sums_eq g;rw [e1,e2,owedE_2 (MQ g)];obtain ⟨r,hs⟩:=rel_all g (l:=BR L) (fun _ h=>h) Rel.start (m:=0) (by decide);refine ⟨?_,hs⟩;show AE DV ((EJ (BR L)).map mkD)=_;have hk:=owes_keys g (xs:=BR L) (fun _ h=>h);have hst:=MH (O:=EJ (BR L)) r.nod (fun x hx=>(hk x hx).1);have hnd:=nodup_debts (O:=EJ (BR L)) r.nod (fun x hx=>(hk x hx).1);have hasc:∀ {l:List Debt},Asc' DV l→l.Nodup:=fun h=>h.imp fun hab e=>by subst e;unfold DV at hab;split at hab <;> omega
  refine ML (hst.perm (BQ _)) ?_ (HY hst hnd) OB;refine (List.perm_ext_iff_of_nodup ((BQ _).nodup_iff.2 hnd) (hasc OB)).2 fun x=>?_
  rw [(BQ _).mem_iff,List.mem_map,debtsFrom_mem]
  constructor
  · rintro ⟨y,hy,rfl⟩
    have h1:=hk y hy;have h2:=r.pos y hy;have h3:=getO_mem r.nod hy;have hkey:y.1=⟨(((y.1.who*2+y.1.sort).toNat:Nat):Int)/2,(((y.1.who*2+y.1.sort).toNat:Nat):Int)%2,0⟩:=by
      rcases hy1:y.1 with ⟨a1,a2,a3⟩
      rw [hy1] at h1;simp only at h1 ⊢;congr 1 <;> omega
    have h4:=r.at_ (y.1.who*2+y.1.sort).toNat (by omega) (by omega)
    rw [← hkey] at h4;have h5:(List.foldl sumQ (List.replicate 20 0) (BR L)).getD (y.1.who*2+y.1.sort).toNat 0=y.2:=h4.trans h3;refine ⟨(y.1.who*2+y.1.sort).toNat,by omega,by rw [h5];omega,?_⟩;rw [h5];unfold mkD;congr 1 <;> omega
  · rintro ⟨i,h1,h2,rfl⟩
    have hi:2≤i:=by
      have:=r.zero;rcases (by omega:i=0∨i=1∨2≤i) with rfl | rfl | h
      · exact absurd this.1 h2
      · exact absurd this.2 h2
      · exact h
    have h4:=r.at_ i hi h1
    have h5:=mem_getO (H:=EJ (BR L)) (k:=⟨(i:Int)/2,(i:Int)%2,0⟩) (by rw [h4] at h2;exact h2);refine ⟨_,h5,?_⟩;unfold mkD;rw [h4];rfl
end
section
variable {S:List Int} {n:Nat}
end
theorem takeWhile_take {α:Type} {p:α→Bool} {d:α}:∀ {l:List α} {k:Nat},(∀ j,j<k→p (l.getD j d)=true)→k≤l.length→(k<l.length→p (l.getD k d)=false)→l.takeWhile p=l.take k:=by
  intro l
  induction l with
  | nil=>intro k _ hk _;simp
  | cons x r ih=>
    intro k h1 h2 h3;cases k with
    | zero=>have:=h3 (by simp);simp only [List.getD_cons_zero] at this;rw [List.takeWhile_cons,this];rfl
    | succ k=>
      have h0:=h1 0 (by omega);simp only [List.getD_cons_zero] at h0;rw [List.takeWhile_cons,h0];simp only [if_true,List.take_succ_cons];rw [ih (k:=k) (fun j hj=>by simpa using h1 (j+1) (by omega)) (by simpa using h2) (fun h=>by simpa using h3 (by simpa using h))]
section
variable {L:Lin} {k:Nat} {n:Int}
end
section
variable {P:Nat} {H:Hs}
end
section
variable {L:Lin} {so n:Int} (g:GoodL L)
include g
end
structure SmallL (L:Lin):Prop where
  start:L.start.length≤20
  rows:∀ r∈L.start,r.length≤20
  keeps:L.keeps.length≤20
  slips:L.slips.length≤20
structure FitL (L:Lin):Prop where
  start:L.start.length≤1000000
  rows:∀ r∈L.start,r.length≤1000000
  keeps:L.keeps.length≤1000000
  slips:L.slips.length≤1000000
theorem SmallL.fit {L:Lin} (h:SmallL L):FitL L:=⟨by have:=h.start;omega,fun r hr=>by have:=h.rows r hr;omega,by have:=h.keeps;omega,by have:=h.slips;omega⟩
theorem GoodL.fit {L:Lin} (h:GoodL L):FitL L:=⟨by have h1:=h.start;have h2:=h.places;omega,fun r hr=>by have h1:=h.rows r hr;have h2:=h.sorts;omega,by have:=h.keeps;omega,by have:=h.slips;omega⟩
section
variable {A B L:Lin} {k:Nat}
theorem large_end (ha:∀ r∈L.start.take k,r.length≤20) (hx:(cmp .lss (k:Int) L.start.length&&cmp .lss (k:Int) 20)=false) (hq:(cmp .gtr (L.start.length:Int) 20||(cmp .gtr (L.keeps.length:Int) 20||cmp .gtr (L.slips.length:Int) 20))=false):SmallL L:=by
  simp only [cmp,Bool.or_eq_false_iff,decide_eq_false_iff_not,Bool.and_eq_false_iff] at hx hq;have hk:L.start.length≤k:=by omega
  rw [List.take_of_length_le hk] at ha;exact ⟨by omega,ha,by omega,by omega⟩
theorem lin_eq (h:(!cmp .eql A.places B.places||(!cmp .eql A.sorts B.sorts||(!decide (A.start=B.start)||!cmp .eql (A.keeps.length:Int) B.keeps.length)))=false) (hl:A.keeps.length=B.keeps.length) (ht:A.keeps.take k=B.keeps.take k) (hk:A.keeps.length≤k):decide (A.slips=B.slips)=decide (A=B):=by
  rw [List.take_of_length_le hk,List.take_of_length_le (by omega)] at ht;simp only [GO,Bool.or_eq_false_iff,Bool.not_eq_false',decide_eq_true_eq] at h;obtain ⟨h1,h2,h3,_⟩:=h;obtain ⟨a1,a2,a3,a4,a5⟩:=A;obtain ⟨b1,b2,b3,b4,b5⟩:=B;simp only at *;subst h1 h2 h3 ht;simp
theorem lin_ne (h:(!cmp .eql A.places B.places||(!cmp .eql A.sorts B.sorts||(!decide (A.start=B.start)||!cmp .eql (A.keeps.length:Int) B.keeps.length)))=true):decide (A=B)=false:=decide_eq_false fun e=>by subst e;simp [cmp] at h
end
def FB (L:Lin) (s:Slip):Int:=HE s ((AO L.slips).takeWhile fun x=>!decide (x.num=s.num))
section
variable {L:Lin} {s:Slip} {k:Nat}
theorem from_end (hn:∀ j,j<k→((AO L.slips).getD j AB).num≠s.num) (hk:k≤(AO L.slips).length) (h:k<(AO L.slips).length→((AO L.slips).getD k AB).num=s.num):HE s ((AO L.slips).take k)=FB L s:=by
  unfold FB;rw [takeWhile_take (d:=AB) (fun j hj=>by simpa using hn j hj) hk (fun hlt=>by simpa using h hlt)]
theorem from_at (ho:Once L.slips) (hk:k<(AO L.slips).length):FB L ((AO L.slips).getD k AB)=HE ((AO L.slips).getD k AB) ((AO L.slips).take k):=by
  refine (from_end (fun j hj e=>?_) (Nat.le_of_lt hk) (fun _=>rfl)).symm;have h1:Once (AO L.slips):=(once_perm (GG _)).2 ho;have h2:=List.pairwise_iff_getElem.1 h1 j k (by simp;omega) (by simp;omega) hj;simp only [List.getElem_map] at h2;simp only [List.getD_eq_getElem?_getD,List.getElem?_eq_getElem hk,List.getElem?_eq_getElem (Nat.lt_trans hj hk),Option.getD_some] at e;exact h2 e
theorem sinceM_le {s:Slip} {B:Int}:∀ {l:List Slip},0≤B→(∀ x∈l,x.hour≤B)→HE s l≤B:=by
  intro l hB h;have:∀ {l:List Slip} {a:Int},a≤B→(∀ x∈l,x.hour≤B)→l.foldl (sstep s) a≤B:=by
    intro l
    induction l with
    | nil=>intro a ha _;exact ha
    | cons x r ih=>intro a ha h;exact ih (by unfold sstep;split;exact h x (by simp);exact ha) (fun y hy=>h y (by simp [hy]))
  exact this hB h
theorem from_in (g:GoodL L):0≤FB L s∧FB L s≤200:=by
  have h:∀ x∈(AO L.slips).takeWhile fun x=>!decide (x.num=s.num),0≤x.hour∧x.hour≤200:=fun x hx=>(GF (g.slipOf ((GG _).subset ((List.takeWhile_sublist _).subset hx)))).2.1
  exact ⟨sinceM_ge fun x hx=>(h x hx).1,sinceM_le (by decide) fun x hx=>(h x hx).2⟩
end
def NP (L:Lin) (p who frm:Int):Nat→Bool
  | 0=>false
  | n+1=>NP L p who frm n||cmp .eql (BU L p (frm+n)) who
theorem heldW_iff {L:Lin} {p who frm:Int}:∀ {n:Nat},NP L p who frm n=true↔∃ i:Nat,i<n∧BU L p (frm+i)=who:=by
  intro n
  induction n with
  | zero=>simp [NP]
  | succ n ih=>
    simp only [NP,Bool.or_eq_true,ih,GO,decide_eq_true_eq]
    constructor
    · rintro (⟨i,h1,h2⟩ | h)
      · exact ⟨i,by omega,h2⟩
      · exact ⟨n,by omega,h⟩
    · rintro ⟨i,h1,h2⟩
      by_cases e:i=n
      · subst e;exact .inr h2
      · exact .inl ⟨i,by omega,h2⟩
theorem heldW_had {L:Lin} (g:GoodL L) {p who frm to:Int} {n:Nat} (hw:1≤who) (hf:0≤frm) (hn:to<frm+n) (hn2:(n:Int)≤to+1-frm∨n=0):NP L p who frm n=hadE L p who frm to:=by
  rw [Bool.eq_iff_iff,heldW_iff,had_iff g hw hf]
  constructor
  · rintro ⟨i,h1,h2⟩
    refine ⟨(frm+i).toNat,by omega,by omega,?_⟩;rw [show (((frm+i).toNat:Nat):Int)=frm+i by omega];exact h2
  · rintro ⟨h,h1,h2,h3⟩
    refine ⟨((h:Int)-frm).toNat,by omega,?_⟩;rw [show frm+((((h:Int)-frm).toNat:Nat):Int)=h by omega];exact h3
theorem heldW_t {L:Lin} {p who frm:Int} {n:Nat} (h:NP L p who frm n=true):true=NP L p who frm (n+1):=by show true=(NP L p who frm n||_);rw [h];rfl
theorem heldW_f {L:Lin} {p who frm:Int} {n:Nat} (h:NP L p who frm n=false):cmp .eql (BU L p (frm+n)) who=NP L p who frm (n+1):=by show _=(NP L p who frm n||_);rw [h];rfl
abbrev dueO (L:Lin) (s:Slip):List Int:=QU L s.place (FB L s) s.hour 9
section
variable {L:Lin} {n:Int} {i k:Nat} (g:GoodL L)
include g
omit g in
theorem in_sorted {s:Slip} (hs:s∈L.slips):∃ j,j<(AO L.slips).length∧(AO L.slips).getD j AB=s:=by
  obtain ⟨j,hj,e⟩:=List.mem_iff_getElem.1 ((GG L.slips).symm.subset hs);exact ⟨j,hj,by simp [List.getD,hj,e]⟩
theorem ref_held (hi:KG (fun x:Slip=>decide (x.num=n)) L.slips=(i:Int)) (h4:(L.slips.getD i AB).kind=4) (hk:k<(AV (AL L)).length) (hn:((AV (AL L)).getD k GJ).num=n):AX L n=(dueO L (L.slips.getD i AB),0):=by
  obtain ⟨_,h1,h2,h3,_⟩:=HW (p:=fun x:Slip=>decide (x.num=n)) (l:=L.slips) (d:=AB) (by omega);have e:i<L.slips.length∧(L.slips.getD i AB).num=n:=by
    rw [hi] at h1;have h1:=Int.ofNat.inj h1;subst h1;exact ⟨h2,of_decide_eq_true h3⟩
  obtain ⟨j,hj,hj2⟩:=in_sorted (BE (xs:=L.slips) (d:=AB) e.1)
  have hs:=hs_some (m:=(HB L).1.length) g hj (by rw [hj2];exact h4) (Nat.le_refl _) (by
    rw [List.take_length,OL g,hj2,e.2]
    unfold QX;rw [List.any_eq_true]
    exact ⟨_,BE (d:=GJ) hk,by simpa using hn⟩)
  rw [← from_at g.once hj,hj2,e.2] at hs;exact hs
theorem ref_none (hi:KG (fun x:Slip=>decide (x.num=n)) L.slips=(i:Int)) (h4:(L.slips.getD i AB).kind=4) (hn:∀ j,j<k→((AV (AL L)).getD j GJ).num≠n) (hk:(AV (AL L)).length≤k):AX L n=([],11):=by
  obtain ⟨_,h1,h2,h3,_⟩:=HW (p:=fun x:Slip=>decide (x.num=n)) (l:=L.slips) (d:=AB) (by omega);have e:i<L.slips.length∧(L.slips.getD i AB).num=n:=by
    rw [hi] at h1;have h1:=Int.ofNat.inj h1;subst h1;exact ⟨h2,of_decide_eq_true h3⟩
  obtain ⟨j,hj,hj2⟩:=in_sorted (BE (xs:=L.slips) (d:=AB) e.1)
  have hs:=hs_none (m:=(HB L).1.length) g hj (by rw [hj2];exact h4) (Nat.le_refl _) (by
    rw [List.take_length,OL g,hj2,e.2]
    unfold QX;rw [List.any_eq_false]
    intro q hq
    obtain ⟨m,hm,rfl⟩:=List.mem_iff_getElem.1 hq
    have:=hn m (by omega)
    simpa [List.getD,hm] using this)
  rw [hj2,e.2] at hs;exact hs
end
def DO (L:Lin) (i:Nat):EvH:=(BR L).getD i (noEvent,[])
def oweQ (w so:Int) (n:Int) (q:EvH):Int:=if q.1.gap<0∧q.1.slip.sort=so∧q.2.length=1∧q.2.getD 0 0=w then n-q.1.gap else n
def NU (L:Lin) (w so:Int) (i:Nat):Int:=((BR L).take i).foldl (oweQ w so) 0
section
variable {L:Lin} {w so:Int} {i:Nat} (g:GoodL L)
omit g in
theorem oweM_step (hi:i<(BR L).length):NU L w so (i+1)=oweQ w so (NU L w so i) (DO L i):=by
  unfold NU DO;rw [CE (d:=(noEvent,[])) hi,List.foldl_append];rfl
include g
omit g in
theorem lack_at (hi:i<(BR L).length):DO L i∈BR L:=BE hi
omit g in
theorem gap_of (hi:i<(BR L).length):(AV (AL L)).getD i GJ=gapQ (DO L i):=by
  rw [← RN];unfold DO;simp [List.getD,hi]
omit g in
theorem JH:(AV (AL L)).length=(BR L).length:=by rw [← RN,List.length_map]
theorem lack_slip (hi:i<(BR L).length):∃ j:Nat,KG (fun x:Slip=>decide (x.num=(DO L i).1.slip.num)) L.slips=(j:Int)∧j<L.slips.length∧L.slips.getD j AB=(DO L i).1.slip∧(DO L i).1.slip.kind=4∧dueO L (DO L i).1.slip=(DO L i).2:=by
  have hq:=lack_at hi;have h1:=QE (L:=L) (i:=(AL L).length) (E:=AL L) (Nat.le_refl _) (q:=DO L i) (by rw [List.take_length];exact hq);rw [List.take_length] at h1;have hm:(DO L i).1.slip∈L.slips:=(BQ _).subset (MP h1.1)
  obtain ⟨j,h2,h3,h4,_⟩:=HW (p:=fun x:Slip=>decide (x.num=(DO L i).1.slip.num)) (l:=L.slips) (d:=AB) (by
    rcases Int.lt_or_le (KG (fun x:Slip=>decide (x.num=(DO L i).1.slip.num)) L.slips) 0 with h | h
    · have:=RM h;rw [List.any_eq_false] at this;exact absurd (by simp) (this _ hm)
    · exact h)
  have h5:L.slips.getD j AB=(DO L i).1.slip:=RS g.once _ (BE (d:=AB) h3) _ hm (of_decide_eq_true h4);have hg:=lack_held g hq;have hk:(DO L i).1.slip.kind=4:=by
    rcases Classical.em ((DO L i).1.slip.kind=4) with h | h
    · exact h
    · have:=MS (MQ g) h2 (by rw [h5];exact h)
      rw [hg] at this;have:=(Prod.mk.inj this).2;omega
  have:=ref_held g (k:=i) h2 (by rw [h5];exact hk) (by rw [JH];exact hi) (by rw [gap_of hi];rfl);rw [hg,h5] at this;exact ⟨j,h2,h3,h5,hk,(Prod.mk.inj this).1.symm⟩
theorem oweM_in:i≤(BR L).length→0≤NU L w so i∧NU L w so i≤1000000*i:=by
  induction i with
  | zero=>intro _;simp [NU]
  | succ i ih=>
    intro hi;have h1:=ih (by omega);have h2:=(HQ g (lack_at (i:=i) (by omega))).1;rw [oweM_step (by omega)];unfold oweQ
    split <;> omega
theorem owe_sum (hw:1≤w∧w≤9) (hs:0≤so∧so≤1):(sumsM L (HB L).1).getD (w*2+so).toNat 0=NU L w so (BR L).length:=by
  rw [(sums_eq g).1];unfold NU;rw [List.take_length];have key:∀ {l:List EvH},(∀ q∈l,q∈BR L)→∀ {S:List Int} {n:Int},S.length=20→S.getD (w*2+so).toNat 0=n→(l.foldl sumQ S).getD (w*2+so).toNat 0=l.foldl (oweQ w so) n:=by
    intro l
    induction l with
    | nil=>intro _ S n _ h;exact h
    | cons q r ih=>
      intro hq S n hl h;have hla:=HQ g (hq q (by simp));refine ih (fun x hx=>hq x (by simp [hx])) (by unfold sumQ;split <;> simp [hl]) ?_;unfold sumQ oweQ
      by_cases hc:q.1.gap<0∧q.2.length=1
      · rw [if_pos hc]
        have hw2:=hla.2.2 _ (BE (xs:=q.2) (d:=0) (k:=0) (by omega))
        by_cases he:q.1.slip.sort=so∧q.2.getD 0 0=w
        · rw [if_pos ⟨hc.1,he.1,hc.2,he.2⟩,he.1,he.2]
          rw [List.getD_eq_getElem?_getD,List.getElem?_set_self (by omega),Option.getD_some,h]
        · rw [if_neg (fun e=>he ⟨e.2.1,e.2.2.2⟩),List.getD_eq_getElem?_getD,List.getElem?_set_ne (by omega),← List.getD_eq_getElem?_getD];exact h
      · rw [if_neg hc,if_neg (fun e=>hc ⟨e.1,e.2.2.1⟩)];exact h
  exact key (fun _ h=>h) (by simp) (by simp only [List.getD,List.getElem?_replicate];split <;> rfl)
theorem owe_none {n:Nat} (h:n<2∨(L.sorts≤1∧n%2=1)):(sumsM L (HB L).1).getD n 0=0:=by
  rw [(sums_eq g).1];have key:∀ {l:List EvH},(∀ q∈l,q∈BR L)→∀ {S:List Int},S.getD n 0=0→(l.foldl sumQ S).getD n 0=0:=by
    intro l
    induction l with
    | nil=>intro _ S h;exact h
    | cons q r ih=>
      intro hq S hS;have hm:=hq q (by simp);have hla:=HQ g hm;refine ih (fun x hx=>hq x (by simp [hx])) ?_;unfold sumQ
      split
      · rename_i hc
        have hw2:=hla.2.2 _ (BE (xs:=q.2) (d:=0) (k:=0) (by omega));have h1:=QE (L:=L) (i:=(AL L).length) (E:=AL L) (Nat.le_refl _) (q:=q) (by rw [List.take_length];exact hm);rw [List.take_length] at h1;have hso:=(GF (g.slipOf ((BQ _).subset (MP h1.1)))).2.2.2.2.1;rw [List.getD_eq_getElem?_getD,List.getElem?_set_ne (by omega),← List.getD_eq_getElem?_getD];exact hS
      · exact hS
  exact key (fun _ h=>h) (by simp only [List.getD,List.getElem?_replicate];split <;> rfl)
def EH (L:Lin) (n:Nat):List Debt:=DU (sumsM L (HB L).1) n
theorem debtsO_2:EH L 2=[]:=by
  have h0:=owe_none g (n:=0) (.inl (by omega));have h1:=owe_none g (n:=1) (.inl (by omega));show DU _ (0+1+1)=[];rw [← KR h1,← KR h0];rfl
theorem debtsO_next (hw:1≤w∧w≤9) {k:Nat} (hk:k≤1) (hi:(BR L).length≤i) (hile:i≤(BR L).length):EH L ((w*2).toNat+(k+1))=if 0<NU L w (k:Int) i then EH L ((w*2).toNat+k)++[⟨w,(k:Int),NU L w (k:Int) i⟩] else EH L ((w*2).toNat+k):=by
  have e:i=(BR L).length:=by omega
  subst e;have h1:=owe_sum g hw (so:=(k:Int)) (by omega);have h2:=oweM_in g (w:=w) (so:=(k:Int)) (i:=(BR L).length) (Nat.le_refl _);rw [show (w*2+(k:Int)).toNat=(w*2).toNat+k by omega] at h1;unfold EH;rw [show (w*2).toNat+(k+1)=(w*2).toNat+k+1 by omega]
  split
  · rename_i h
    rw [← debtsFrom_1 (by rw [h1];omega),h1]
    congr 2
    rw [show ((((w*2).toNat+k:Nat):Int))/2=w by omega,show ((((w*2).toNat+k:Nat):Int))%2=k by omega]
  · rename_i h
    exact (KR (by rw [h1];omega)).symm
theorem debtsO_row (hw:1≤w∧w≤9) {k:Nat} (hk:L.sorts≤k) (hk2:(k:Int)≤L.sorts):EH L ((w*2).toNat+k)=EH L ((w+1)*2).toNat:=by
  have hs:=g.sorts;rcases (by omega:k=1∨k=2) with rfl | rfl
  · have h0:=owe_none g (n:=(w*2).toNat+1) (.inr ⟨by omega,by omega⟩)
    unfold EH;rw [KR h0];congr 1;omega
  · congr 1;omega
theorem debtsO_end:EH L 20=(II L).1:=(owed_law g).1.symm
omit g in
theorem debtsO_len {n:Nat}:(EH L n).length≤n:=OC
end
section
variable {L:Lin} {q m i j:Nat} (g:GoodL L)
include g
omit g in
theorem owe_t (hi : i < (AV (AL L)).length) {so w : Int} (h3 : L.slips.getD j AB = (DO L i).1.slip) (h5 : dueO L (DO L i).1.slip = (DO L i).2)
    (h:(cmp .lss ((AV (AL L)).getD i GJ).amt 0&&(cmp .eql (L.slips.getD j AB).sort so&&(cmp .eql ((dueO L (L.slips.getD j AB)).length:Int) 1&&cmp .eql ((dueO L (L.slips.getD j AB)).getD 0 0) w)))=true):NU L w so i-((AV (AL L)).getD i GJ).amt=NU L w so (i+1):=by
  rw [JH] at hi;rw [h3,h5,gap_of hi] at h;rw [oweM_step hi,gap_of hi];simp only [Bool.and_eq_true] at h;obtain ⟨a,b,c,d⟩:=h;have a:(gapQ (DO L i)).amt<0:=of_decide_eq_true a;have b:=of_decide_eq_true b;have c:(((DO L i).2.length:Int))=1:=of_decide_eq_true c;have d:=of_decide_eq_true d;unfold oweQ;rw [if_pos ⟨a,b,by omega,d⟩];rfl
omit g in
theorem owe_f (hi : i < (AV (AL L)).length) {so w : Int} (h3 : L.slips.getD j AB = (DO L i).1.slip) (h5 : dueO L (DO L i).1.slip = (DO L i).2)
    (h:(cmp .lss ((AV (AL L)).getD i GJ).amt 0&&(cmp .eql (L.slips.getD j AB).sort so&&(cmp .eql ((dueO L (L.slips.getD j AB)).length:Int) 1&&cmp .eql ((dueO L (L.slips.getD j AB)).getD 0 0) w)))=false):NU L w so i=NU L w so (i+1):=by
  rw [JH] at hi;rw [h3,h5,gap_of hi] at h;rw [oweM_step hi];unfold oweQ;rw [if_neg]
  rintro ⟨a,b,c,d⟩
  rw [← Bool.not_eq_true] at h;refine h ?_;simp only [Bool.and_eq_true];exact ⟨decide_eq_true a,decide_eq_true b,decide_eq_true (by omega),decide_eq_true d⟩
theorem debtsN_0:EH L (2*(0+1))=[]:=debtsO_2 g
theorem debtsN_t (hq:q<9) (hm:m≤1) (hi:(AV (AL L)).length≤i) (hi2:i≤(AV (AL L)).length) (h:0<NU L ((q:Int)+1) (m:Int) i):EH L (2*(q+1)+m)++[⟨(q:Int)+1,(m:Int),NU L ((q:Int)+1) (m:Int) i⟩]=EH L (2*(q+1)+(m+1)):=by
  rw [JH] at hi hi2;have:=debtsO_next g (w:=(q:Int)+1) (by omega) hm hi hi2;rw [if_pos h,show (((q:Int)+1)*2).toNat=2*(q+1) by omega] at this;exact this.symm
theorem debtsN_f (hq:q<9) (hm:m≤1) (hi:(AV (AL L)).length≤i) (hi2:i≤(AV (AL L)).length) (h:¬ 0<NU L ((q:Int)+1) (m:Int) i):EH L (2*(q+1)+m)=EH L (2*(q+1)+(m+1)):=by
  rw [JH] at hi hi2;have:=debtsO_next g (w:=(q:Int)+1) (by omega) hm hi hi2;rw [if_neg h,show (((q:Int)+1)*2).toNat=2*(q+1) by omega] at this;exact this.symm
theorem debtsN_row (hq:q<9) (hm:L.sorts≤m) (hm2:(m:Int)≤L.sorts):EH L (2*(q+1)+m)=EH L (2*(q+1+1)):=by
  have:=debtsO_row g (w:=(q:Int)+1) (by omega) hm hm2;rw [show (((q:Int)+1)*2).toNat=2*(q+1) by omega,show (((q:Int)+1+1)*2).toNat=2*(q+1+1) by omega] at this;exact this
theorem debtsN_end (hq:9≤q) (hq2:q≤9):EH L (2*(q+1))=(II L).1:=by
  have:q=9:=by omega
  subst this;exact debtsO_end g
theorem owe_small (hi:i≤(AV (AL L)).length) {w so:Int}:0≤NU L w so i∧NU L w so i≤8000000:=by
  have h1:(BR L).length≤8:=MU g;rw [JH] at hi;have:=oweM_in g (w:=w) (so:=so) hi;omega
end
theorem held_short {L:Lin} {n:Int}:(AX L n).1.length≤9:=by
  by_cases h:BG L=0
  · have g:=IU h
    rcases Int.lt_or_le (KG (fun x:Slip=>decide (x.num=n)) L.slips) 0 with h2 | h2
    · rw [QC h h2];exact Nat.zero_le _
    · obtain ⟨i,hi⟩:∃ i:Nat,KG (fun x:Slip=>decide (x.num=n)) L.slips=(i:Int):=⟨_,(Int.toNat_of_nonneg h2).symm⟩
      by_cases h4:(L.slips.getD i AB).kind=4
      · cases hl:LY n (BR L) with
        | none=>rw [QD h hi h4 hl];exact Nat.zero_le _
        | some l=>
          rw [KJ h hi h4 hl];unfold LY at hl;obtain ⟨q,hq,e⟩:=Option.map_eq_some_iff.1 hl;have hm:=List.mem_of_find?_eq_some hq;have h1:=QE (L:=L) (i:=(AL L).length) (E:=AL L) (Nat.le_refl _) (q:=q) (by rw [List.take_length];exact hm);obtain ⟨s,hs⟩:=h1.2.2;rw [← e,hs];have:=OP (L:=L) (s:=q.1.slip) (since:=s) g.keeps;simp only;omega
      · rw [MS h hi h4];exact Nat.zero_le _
  · rw [QB h];exact Nat.zero_le _
theorem owed_short {L:Lin}:(II L).1.length≤20:=by
  by_cases h:BG L=0
  · rw [(owed_law (IU h)).1];exact OC
  · rw [owedE_1 h];exact Nat.zero_le _
def addK (L:Lin) (k:Keep):Lin:=⟨L.places,L.sorts,L.start,[k]++L.keeps,L.slips⟩
theorem addK_fit {L:Lin} {k:Keep} (h:GoodL L):FitL (addK L k):=⟨h.fit.start,h.fit.rows,by show ([k]++L.keeps).length≤_;have:=h.keeps;rw [List.length_append,List.length_singleton];omega,h.fit.slips⟩
end Go.Sh
namespace Go.Sl
open Go
section
variable {ρ:Option Nat} {P:Program} {N:Nat} {ops:Array Oper} {i:Nat} {l:Sl} {I:Imm} {R M:Seg} {d:Nat} {ty:TypeId} {gd:Option (Nat × Bool)}
theorem det_eqlBool {x y : Operand} {T T' : TypeId} {a b : Bool} (hop : GB ops N i = some (some d, .binOp .eql T x y T', ty, gd)) (hg : FH ops l gd = some true) (hT : tyFK P T = some .b)
    (hx:CJ l x=some (.bool a)) (hy:CJ l y=some (.bool b)):Det P N ops i l I R d (.bool (a == b)):=
  GZ hop hg (JJ hx hy) fun I' M'=>by
    show wpL P ((do eqGuard .eql T x y (rho l x) (rho l y);binOp .eql T (rho l x) (rho l y)) >>= fun x=>pure (Next.value x)) _ I' M';rw [BO hx,BO hy];refine EK ?_;show wpL P (Op.equalIn 10000 T (.bool a) (.bool b) >>= fun b=>pure (Value.bool b)) _ I' M';rw [AF];exact wpL_scalar hT rfl rfl ⟨rfl,rfl⟩
end
end Go.Sl
namespace Go.Proofs.YtgcemienebmdeaaGreat
open Go Go.Sl Go.Sh
set_option maxRecDepth 100000
noncomputable def c_rKeeper (p:List Nat):Code:=sub (AU Tryz.f133) p
theorem rKeeper_ct (I:Imm) (l:Value) (L:Lin) (pl:Int) (hr:Int) (l_f:IsLin I l L):CtV Tryz.prog 133 #[l,vI pl,vI hr] I (vI (BU L pl hr)):=by
 obtain ⟨l1,l2,l3,d9,b8,c0,c2⟩:=id l_f;subst d9;obtain ⟨a7,a8,c4,c7,c3,b7,c5,c6,c8,c9⟩:=id b8;subst b7;obtain ⟨a0,a1,d0,d3,b9,d1,d2,a9⟩:=id c0;subst b9;obtain ⟨b0,b2,d4,d7,c1,d5,d6,d8⟩:=id c2;subst c1;refine fr (args:=[_,_,_]) (N:=44) Tryz.func133 (fun F=>?_);show Run _ _ (c_rKeeper []) _ _ [(0,.agg #[vI (L.places),vI (L.sorts),vS a7 L.start.length a8,vS a0 L.keeps.length a1,vS b0 L.slips.length b2]),(1,vI (pl)),(2,vI (hr))] _ _;refine rnm (rqr ?_);refine sS (sb 3 26 #[vI (L.places),vI (L.sorts),vS a7 L.start.length a8,vS a0 L.keeps.length a1,vS b0 L.slips.length b2] (fun b1=>(sp 1 [(6,vI (0))] (sn (sp 2 [(8,vI ((-1))),(7,vI (0))] (se (rq (rqr (sp 1 [(9,vI (0))] (se (rb 0 ?_)))))))))));refine rl (fun mz a w=>∃ J0:Imm,∃ k:Nat,(I.le J0)∧(k≤L.keeps.length)∧Slots 44 [(7,vI ((GW pl hr (L.keeps.take k)).1)),(8,vI ((GW pl hr (L.keeps.take k)).2)),(9,vI ↑k),(1,vI (pl)),(2,vI (hr)),(3,vP b1 0),(6,vI (0))] a∧a.defers=[]∧St J0 ((bX b1 #[vI (L.places),vI (L.sorts),vS a7 L.start.length a8,vS a0 L.keeps.length a1,vS b0 L.slips.length b2] 26)::F) w∧mz=L.keeps.length-k) ?_ ?_
 ·intro a w hS hD hW;exact ⟨_,I,0,IR _,Nat.zero_le _,hS.sub (.cons 7 rfl (.cons 8 rfl (.cons 9 rfl (.cons 1 rfl (.cons 2 rfl (.cons 3 rfl (.cons 6 rfl (.nil _)))))))),hD,hW,rfl⟩
 rintro mz a w ⟨J0,k,hJ0,hk,hS,hD,hW,rfl⟩
 refine AS hS hD hW ?_;clear hS hD hW a w;replace a9:=a9.mono hJ0;refine rq (rqr (sp 2 [(12,vP b1 3),(11,vI (↑k))] (sd (dlb 13 0 3 b1 (vS a0 L.keeps.length a1)) (sp 2 [(15,.bool (cmp .lss (↑k) (↑(L.keeps.length))))] (se (rc 15 rfl (fun h1=>?_) (fun h1=>?_)))))))
 ·
  have b5:=h1;have h1:=CC h1;refine AQ (NX (rq (rb 1 (rqr (sp 1 [(18,vP b1 3)] (sd (dlb 19 0 3 b1 (vS a0 L.keeps.length a1)) (sp 1 [(20,vI (↑k))] (sd (di 21 3 (k) a9.addr) (sd (BN (x:=(.tmp 21)) (T:=50) (n:=3) (vs:=[vI ((L.keeps.getD (k) AJ).place),vI ((L.keeps.getD (k) AJ).hour),vI ((L.keeps.getD (k) AJ).who)]) (d:=22) (ty:=50) (gd:=none) (by kernel_rfl) rfl (by kernel_rfl) (by kernel_rfl) rfl rfl (CO (vals:=HP) (fun _=>rfl) a9 (k) (by omega))) (sS (sal 10 50 #[vI (0),vI (0),vI (0)] (fun b3=>(sS (ss 0 0 b3 [vI ((L.keeps.getD (k) AJ).place),vI ((L.keeps.getD (k) AJ).hour),vI ((L.keeps.getD (k) AJ).who)] [vI ((L.keeps.getD (k) AJ).place),vI ((L.keeps.getD (k) AJ).hour),vI ((L.keeps.getD (k) AJ).who)] (_::_::_) (cs:=[_,_,_]) rfl rfl (se (rq ?_))))))))))))))));refine BZ (fun a w=>Slots 44 [(1,vI (pl)),(2,vI (hr)),(3,vP b1 0),(6,vI (0)),(7,vI ((GW pl hr (L.keeps.take k)).1)),(8,vI ((GW pl hr (L.keeps.take k)).2)),(9,vI (↑k)),(10,vP b3 0),(38,.bool ((cmp .eql ((L.keeps.getD (k) AJ).place) (pl))&&((cmp .leq ((L.keeps.getD (k) AJ).hour) (hr))&&(cmp .gtr ((L.keeps.getD (k) AJ).hour) ((GW pl hr (L.keeps.take k)).2)))))] a∧a.defers=[]∧St J0 ((bX b3 #[vI ((L.keeps.getD (k) AJ).place),vI ((L.keeps.getD (k) AJ).hour),vI ((L.keeps.getD (k) AJ).who)] 50)::(bX b1 #[vI (L.places),vI (L.sorts),vS a7 L.start.length a8,vS a0 L.keeps.length a1,vS b0 L.slips.length b2] 26)::F) w) ?_ ?_
  ·
   refine rr (sp 1 [(23,vP b3 0)] (sd (dlb 24 0 0 b3 (vI ((L.keeps.getD (k) AJ).place))) (sp 3 [(27,.bool (cmp .eql ((L.keeps.getD (k) AJ).place) (pl)))] ?_)));refine AY 27 rfl (fun h2=>?_) (fun h2=>?_)
   ·
    have a2:=h2;have a2:=BI a2;refine sp 1 [(28,vP b3 1)] (sd (dlb 29 0 1 b3 (vI ((L.keeps.getD (k) AJ).hour))) (sp 4 [(33,.bool (cmp .leq ((L.keeps.getD (k) AJ).hour) (hr)))] ?_));refine AY 33 rfl (fun h3=>?_) (fun h3=>?_)
    ·
     have a3:=h3;have a3:=QG a3;refine sp 1 [(34,vP b3 1)] (sd (dlb 35 0 1 b3 (vI ((L.keeps.getD (k) AJ).hour))) (sp 3 [(38,.bool (cmp .gtr ((L.keeps.getD (k) AJ).hour) ((GW pl hr (L.keeps.take k)).2)))] (ee ?_)));refine AK (fun a w hS hD hW=>⟨hS.sub (.cons 1 rfl (.cons 2 rfl (.cons 3 rfl (.cons 6 rfl (.cons 7 rfl (.cons 8 rfl (.cons 9 rfl (.cons 10 rfl (.consE 38 rfl (congrArg Value.bool (by simp only [h2,h3,kA,kB,kC,kD,kE,kF,kG,kH,kI,kJ])) (.nil _)))))))))),hD,hW⟩)
    have a3:=h3;have a3:=leq_f a3;refine sp 5 [(38,.bool (false))] (ee ?_);refine AK (fun a w hS hD hW=>⟨hS.sub (.cons 1 rfl (.cons 2 rfl (.cons 3 rfl (.cons 6 rfl (.cons 7 rfl (.cons 8 rfl (.cons 9 rfl (.cons 10 rfl (.consE 38 rfl (congrArg Value.bool (by simp only [h2,h3,kA,kB,kC,kD,kE,kF,kG,kH,kI,kJ])) (.nil _)))))))))),hD,hW⟩)
   have a2:=h2;have a2:=BL a2;refine sp 11 [(38,.bool (false))] (ee ?_);refine AK (fun a w hS hD hW=>⟨hS.sub (.cons 1 rfl (.cons 2 rfl (.cons 3 rfl (.cons 6 rfl (.cons 7 rfl (.cons 8 rfl (.cons 9 rfl (.cons 10 rfl (.consE 38 rfl (congrArg Value.bool (by simp only [h2,kA,kB,kC,kD,kE,kF,kG,kH,kI,kJ])) (.nil _)))))))))),hD,hW⟩)
  rintro a w ⟨hS,hD,hW⟩
  refine AS hS hD hW ?_;clear hS hD hW a w;refine rc 38 rfl (fun h4=>?_) (fun h4=>?_)
  ·
   have a6:=h4;obtain ⟨b4,b6⟩:=HF h4;have b4:=BI b4;obtain ⟨a4,a5⟩:=HF b6;have a4:=QG a4;have a5:=IF a5;refine rd0 5 (ox 1 [(39,vP b3 2)] ?_);refine AD (dlb 40 0 2 b3 (vI ((L.keeps.getD (k) AJ).who))) (ox 1 [(41,vP b3 1)] ?_);refine AD (dlb 42 0 1 b3 (vI ((L.keeps.getD (k) AJ).hour))) (ox 1 [(7,vI ((L.keeps.getD (k) AJ).who))] ?_);refine AW (sp 1 [(8,vI ((L.keeps.getD (k) AJ).hour))] (ee (NB (NX (rr (sp 1 [(16,vI (↑k))] (sd (da 17 (↑k) (1)) (sp 1 [(9,vI (↑k+1))] (ee ?_)))))))));refine AM (L.keeps.length-(k+1)) (by omega) ?_;intro a w hS hD hW;exact ⟨J0,k+1,hJ0,by omega,hS.sub (.consE 7 rfl (congrArg (fun q:Int × Int=>Value.int .i64 q.1) (kfold_t (by omega) a6)) (.consE 8 rfl (congrArg (fun q:Int × Int=>Value.int .i64 q.2) (kfold_t (by omega) a6)) (.consE 9 rfl rfl (.cons 1 rfl (.cons 2 rfl (.cons 3 rfl (.cons 6 rfl (.nil _)))))))),hD,(hW.perm (PR _)).sub (TC _ (TR _)),rfl⟩
  have a6:=h4;refine AQ (NB (NX (rr (sp 1 [(16,vI (↑k))] (sd (da 17 (↑k) (1)) (sp 1 [(9,vI (↑k+1))] (ee ?_)))))));refine AM (L.keeps.length-(k+1)) (by omega) ?_;intro a w hS hD hW;exact ⟨J0,k+1,hJ0,by omega,hS.sub (.consE 7 rfl (congrArg (fun q:Int × Int=>Value.int .i64 q.1) (kfold_f (by omega) a6)) (.consE 8 rfl (congrArg (fun q:Int × Int=>Value.int .i64 q.2) (kfold_f (by omega) a6)) (.consE 9 rfl rfl (.cons 1 rfl (.cons 2 rfl (.cons 3 rfl (.cons 6 rfl (.nil _)))))))),hD,(hW.perm (PR _)).sub (TC _ (TR _)),rfl⟩
 have b5:=h1;have h1:=CH h1;refine CB 0 ((EP (EP (EB (NX (rqr (sp 2 [(6,vI ((GW pl hr (L.keeps.take k)).1))] (se (BJ (AG (t:=6) [] (by kernel_rfl) rfl (TC _ (TR _)) hJ0 ?_))))))))));exact ⟨congrArg (fun q:Int × Int=>Value.int .i64 q.1) (show GW pl hr (L.keeps.take k)=GW pl hr L.keeps from by rw [List.take_of_length_le (by omega)]),rfl⟩
noncomputable def c_rfrom (p:List Nat):Code:=sub (AU Tryz.f132) p
theorem rfrom_ct (I:Imm) (l:Value) (L:Lin) (s:Slip) (l_f:IsLin I l L) (hg:GoodL L):Ct Tryz.prog 132 #[l,.agg #[vI s.num,vI s.hour,vI s.kind,vI s.place,vI s.to,vI s.sort,.bool s.soil,vI s.amt]] I ([]) (fun v I' M'=>v=vI (FB L s)∧M'=[]):=by
 obtain ⟨l1,l2,l3,g7,e0,e2,c5⟩:=id l_f;subst g7;obtain ⟨a7,a8,f1,f4,e7,d9,f2,f3,f5,f6⟩:=id e0;subst d9;obtain ⟨a9,b0,f7,g0,e1,f8,f9,g1⟩:=id e2;subst e1;obtain ⟨a3,a4,g2,g5,e3,g3,g4,g6⟩:=id c5;subst e3;refine fr (args:=[_,_]) (N:=55) Tryz.func132 (fun F=>?_);show Run _ _ (c_rfrom []) _ _ [(0,.agg #[vI (L.places),vI (L.sorts),vS a7 L.start.length a8,vS a9 L.keeps.length b0,vS a3 L.slips.length a4]),(1,.agg #[vI (s.num),vI (s.hour),vI (s.kind),vI (s.place),vI (s.to),vI (s.sort),.bool (s.soil),vI (s.amt)])] _ _;refine rnm ?_;have h7:=hg.slips;have e9:Once L.slips:=hg.once;have h0:(AO L.slips).length=L.slips.length:=(GG _).length_eq;refine rqr (sS (sb 2 26 #[vI (L.places),vI (L.sorts),vS a7 L.start.length a8,vS a9 L.keeps.length b0,vS a3 L.slips.length a4] (fun b1=>(sS (sb 3 28 #[vI (s.num),vI (s.hour),vI (s.kind),vI (s.place),vI (s.to),vI (s.sort),.bool (s.soil),vI (s.amt)] (fun b3=>(sp 1 [(4,vI (0))] (sn (sp 1 [(5,vI (0))] (sn (sp 1 [(9,vP b1 4)] (sd (dlb 10 1 4 b1 (vS a3 L.slips.length a4)) (sS (sc (some 11) (Sorted_ct _ _ _ c5 (by assumption) (by omega) :) (.refl _) (fun g9 I5 g8 c4 f0=>?_)))))))))))))));obtain ⟨h8,c9,e6,e5,c6⟩:=f0;rw [e6,e5];clear e6 e5;obtain ⟨a5,a6,c7,e8⟩:=c6.shape;subst c7;refine pm (M':=((bX b3 #[vI (s.num),vI (s.hour),vI (s.kind),vI (s.place),vI (s.to),vI (s.sort),.bool (s.soil),vI (s.amt)] 28)::(bX b1 #[vI (L.places),vI (L.sorts),vS a7 L.start.length a8,vS a9 L.keeps.length b0,vS a3 L.slips.length a4] 26)::(c9++F))) (PW PM) (sp 1 [(6,vS a5 (AO L.slips).length a6)] (se (rq (rq ?_))));refine BP (B:=((bX b3 #[vI (s.num),vI (s.hour),vI (s.kind),vI (s.place),vI (s.to),vI (s.sort),.bool (s.soil),vI (s.amt)] 28)::(bX b1 #[vI (L.places),vI (L.sorts),vS a7 L.start.length a8,vS a9 L.keeps.length b0,vS a3 L.slips.length a4] 26)::F)) AB c6 (by first | omega | (simp only [LS,LC,LN,LA,LK,LD] <;> omega) | decide) (PU (PM.symm)) (PR _) (fun e4 b7 b9=>?_);obtain ⟨d0,d2,d1,d5,b8,d3,d4,a0⟩:=id b9;cases b8;refine rr (sp 1 [(7,vI (0))] (se (rb 0 ?_)));refine rl (fun mz a w=>∃ J0:Imm,∃ k:Nat,(e4.le J0)∧(k≤(AO L.slips).length)∧(∀ j,j<k→((AO L.slips).getD j AB).num≠s.num)∧Slots 55 [(5,vI (HE s ((AO L.slips).take k))),(7,vI ↑k),(3,vP b3 0),(6,vS a5 (AO L.slips).length a6)] a∧a.defers=[]∧St J0 ((bX b3 #[vI (s.num),vI (s.hour),vI (s.kind),vI (s.place),vI (s.to),vI (s.sort),.bool (s.soil),vI (s.amt)] 28)::(bX b1 #[vI (L.places),vI (L.sorts),vS a7 L.start.length a8,vS a9 L.keeps.length b0,vS a3 L.slips.length a4] 26)::F) w∧mz=(AO L.slips).length-k) ?_ ?_
 ·intro a w hS hD hW;exact ⟨_,e4,0,IR _,Nat.zero_le _,(fun j hj=>by omega),hS.sub (.cons 5 rfl (.cons 7 rfl (.cons 3 rfl (.cons 6 rfl (.nil _))))),hD,hW,rfl⟩
 rintro mz a w ⟨J0,k,hJ0,hk,c8,hS,hD,hW,rfl⟩
 refine AS hS hD hW ?_;clear hS hD hW a w;replace a0:=a0.mono hJ0;refine rq (rqr (sp 4 [(15,.bool (cmp .lss (↑k) (↑((AO L.slips).length))))] (se (rc 15 rfl (fun h1=>?_) (fun h1=>?_)))))
 ·
  have d6:=h1;have h1:=CC h1;refine AQ (NX (rq (rb 1 (rqr (sp 2 [(19,vI (↑k)),(18,vS a5 (AO L.slips).length a6)] (sd (di 20 8 (k) a0.addr) (sd (BN (x:=(.tmp 20)) (T:=28) (n:=8) (vs:=[vI (((AO L.slips).getD (k) AB).num),vI (((AO L.slips).getD (k) AB).hour),vI (((AO L.slips).getD (k) AB).kind),vI (((AO L.slips).getD (k) AB).place),vI (((AO L.slips).getD (k) AB).to),vI (((AO L.slips).getD (k) AB).sort),.bool (((AO L.slips).getD (k) AB).soil),vI (((AO L.slips).getD (k) AB).amt)]) (d:=21) (ty:=28) (gd:=none) (by kernel_rfl) rfl (by kernel_rfl) (by kernel_rfl) rfl rfl (CO (vals:=CR) (fun _=>rfl) a0 (k) (by omega))) (sS (sal 8 28 #[vI (0),vI (0),vI (0),vI (0),vI (0),vI (0),.bool (false),vI (0)] (fun a2=>(sS (ss 0 0 a2 [vI (((AO L.slips).getD (k) AB).num),vI (((AO L.slips).getD (k) AB).hour),vI (((AO L.slips).getD (k) AB).kind),vI (((AO L.slips).getD (k) AB).place),vI (((AO L.slips).getD (k) AB).to),vI (((AO L.slips).getD (k) AB).sort),.bool (((AO L.slips).getD (k) AB).soil),vI (((AO L.slips).getD (k) AB).amt)] [vI (((AO L.slips).getD (k) AB).num),vI (((AO L.slips).getD (k) AB).hour),vI (((AO L.slips).getD (k) AB).kind),vI (((AO L.slips).getD (k) AB).place),vI (((AO L.slips).getD (k) AB).to),vI (((AO L.slips).getD (k) AB).sort),.bool (((AO L.slips).getD (k) AB).soil),vI (((AO L.slips).getD (k) AB).amt)] (_::_::_::_) (cs:=[_,_,_,_,_,_,_,_]) rfl rfl (se (rq (rqr (sp 1 [(22,vP a2 0)] (sd (dlb 23 0 0 a2 (vI (((AO L.slips).getD (k) AB).num))) (sp 1 [(24,vP b3 0)] (sd (dlb 25 1 0 b3 (vI (s.num))) (sp 1 [(26,.bool (cmp .eql (((AO L.slips).getD (k) AB).num) (s.num)))] (se (rc 26 rfl (fun h2=>?_) (fun h2=>?_)))))))))))))))))))))))
  ·
   have d7:=h2;have h2:=BI h2;refine rqr (sp 2 [(4,vI (HE s ((AO L.slips).take k)))] (se (BJ ((RP (RB (RP (RP (RB (RP (AG (t:=4) [] (by kernel_rfl) rfl (TC _ (TC _ (TC _ (TR _)))) (IT (IT c4 b7) hJ0) ?_)))))))))));exact ⟨congrArg (Value.int .i64) (from_end c8 (by omega) (fun _=>h2)),rfl⟩
  have d7:=h2;have h2:=BL h2;refine AQ (NX (rq ?_));refine BZ (fun a w=>Slots 55 [(3,vP b3 0),(5,vI (HE s ((AO L.slips).take k))),(6,vS a5 (AO L.slips).length a6),(7,vI (↑k)),(8,vP a2 0),(51,.bool ((cmp .eql (((AO L.slips).getD (k) AB).kind) (4))&&((cmp .eql (((AO L.slips).getD (k) AB).place) (s.place))&&((cmp .eql (((AO L.slips).getD (k) AB).sort) (s.sort))&&((((AO L.slips).getD (k) AB).soil) == (s.soil))))))] a∧a.defers=[]∧St J0 ((bX a2 #[vI (((AO L.slips).getD (k) AB).num),vI (((AO L.slips).getD (k) AB).hour),vI (((AO L.slips).getD (k) AB).kind),vI (((AO L.slips).getD (k) AB).place),vI (((AO L.slips).getD (k) AB).to),vI (((AO L.slips).getD (k) AB).sort),.bool (((AO L.slips).getD (k) AB).soil),vI (((AO L.slips).getD (k) AB).amt)] 28)::(bX b3 #[vI (s.num),vI (s.hour),vI (s.kind),vI (s.place),vI (s.to),vI (s.sort),.bool (s.soil),vI (s.amt)] 28)::(bX b1 #[vI (L.places),vI (L.sorts),vS a7 L.start.length a8,vS a9 L.keeps.length b0,vS a3 L.slips.length a4] 26)::F) w) ?_ ?_
  ·
   refine rr (sp 1 [(28,vP a2 2)] (sd (dlb 29 0 2 a2 (vI (((AO L.slips).getD (k) AB).kind))) (sp 2 [(31,.bool (cmp .eql (((AO L.slips).getD (k) AB).kind) (4)))] ?_)));refine AY 31 rfl (fun h3=>?_) (fun h3=>?_)
   ·
    have b2:=h3;have b2:=BI b2;refine sp 1 [(32,vP a2 3)] (sd (dlb 33 0 3 a2 (vI (((AO L.slips).getD (k) AB).place))) (sp 1 [(34,vP b3 3)] (sd (dlb 35 1 3 b3 (vI (s.place))) (sp 3 [(38,.bool (cmp .eql (((AO L.slips).getD (k) AB).place) (s.place)))] ?_))));refine AY 38 rfl (fun h4=>?_) (fun h4=>?_)
    ·
     have b4:=h4;have b4:=BI b4;refine sp 1 [(39,vP a2 5)] (sd (dlb 40 0 5 a2 (vI (((AO L.slips).getD (k) AB).sort))) (sp 1 [(41,vP b3 5)] (sd (dlb 42 1 5 b3 (vI (s.sort))) (sp 3 [(45,.bool (cmp .eql (((AO L.slips).getD (k) AB).sort) (s.sort)))] ?_))));refine AY 45 rfl (fun h5=>?_) (fun h5=>?_)
     ·
      have b5:=h5;have b5:=BI b5;refine sp 1 [(46,vP a2 6)] (sd (dlb 47 0 6 a2 (.bool (((AO L.slips).getD (k) AB).soil))) (sp 1 [(48,vP b3 6)] (sd (dlb 49 1 6 b3 (.bool (s.soil))) (sd (det_eqlBool (x:=(.tmp 47)) (y:=(.tmp 49)) (T:=4) (T':=4) (d:=50) (ty:=4) (gd:=(some (17,true))) (by kernel_rfl) (by kernel_rfl) (by kernel_rfl) rfl rfl) (sp 1 [(51,.bool ((((AO L.slips).getD (k) AB).soil) == (s.soil)))] (ee ?_))))));refine AK (fun a w hS hD hW=>⟨hS.sub (.cons 3 rfl (.cons 5 rfl (.cons 6 rfl (.cons 7 rfl (.cons 8 rfl (.consE 51 rfl (congrArg Value.bool (by simp only [h3,h4,h5,kA,kB,kC,kD,kE,kF,kG,kH,kI,kJ])) (.nil _))))))),hD,hW⟩)
     have b5:=h5;have b5:=BL b5;refine sp 6 [(51,.bool (false))] (ee ?_);refine AK (fun a w hS hD hW=>⟨hS.sub (.cons 3 rfl (.cons 5 rfl (.cons 6 rfl (.cons 7 rfl (.cons 8 rfl (.consE 51 rfl (congrArg Value.bool (by simp only [h3,h4,h5,kA,kB,kC,kD,kE,kF,kG,kH,kI,kJ])) (.nil _))))))),hD,hW⟩)
    have b4:=h4;have b4:=BL b4;refine sp 13 [(51,.bool (false))] (ee ?_);refine AK (fun a w hS hD hW=>⟨hS.sub (.cons 3 rfl (.cons 5 rfl (.cons 6 rfl (.cons 7 rfl (.cons 8 rfl (.consE 51 rfl (congrArg Value.bool (by simp only [h3,h4,kA,kB,kC,kD,kE,kF,kG,kH,kI,kJ])) (.nil _))))))),hD,hW⟩)
   have b2:=h3;have b2:=BL b2;refine sp 20 [(51,.bool (false))] (ee ?_);refine AK (fun a w hS hD hW=>⟨hS.sub (.cons 3 rfl (.cons 5 rfl (.cons 6 rfl (.cons 7 rfl (.cons 8 rfl (.consE 51 rfl (congrArg Value.bool (by simp only [h3,kA,kB,kC,kD,kE,kF,kG,kH,kI,kJ])) (.nil _))))))),hD,hW⟩)
  rintro a w ⟨hS,hD,hW⟩
  refine AS hS hD hW ?_;clear hS hD hW a w;refine rc 51 rfl (fun h6=>?_) (fun h6=>?_)
  ·
   have c1:=h6;obtain ⟨c2,d8⟩:=HF h6;have c2:=BI c2;obtain ⟨b6,c0⟩:=HF d8;have b6:=BI b6;obtain ⟨a1,c3⟩:=HF c0;have a1:=BI a1;refine rr (sp 1 [(52,vP a2 1)] (sd (dlb 53 0 1 a2 (vI (((AO L.slips).getD (k) AB).hour))) (sp 1 [(5,vI (((AO L.slips).getD (k) AB).hour))] (ee (NB (NX (rr (sp 1 [(16,vI (↑k))] (sd (da 17 (↑k) (1)) (sp 1 [(7,vI (↑k+1))] (ee ?_)))))))))));refine AM ((AO L.slips).length-(k+1)) (by omega) ?_;intro a w hS hD hW;exact ⟨J0,k+1,hJ0,by omega,GY c8 h2,hS.sub (.consE 5 rfl (congrArg (Value.int .i64) (since_t (by omega) c1)) (.consE 7 rfl rfl (.cons 3 rfl (.cons 6 rfl (.nil _))))),hD,(hW.perm (PR _)).sub (TC _ (TR _)),rfl⟩
  have c1:=h6;refine AQ (NB (NX (rr (sp 1 [(16,vI (↑k))] (sd (da 17 (↑k) (1)) (sp 1 [(7,vI (↑k+1))] (ee ?_)))))));refine AM ((AO L.slips).length-(k+1)) (by omega) ?_;intro a w hS hD hW;exact ⟨J0,k+1,hJ0,by omega,GY c8 h2,hS.sub (.consE 5 rfl (congrArg (Value.int .i64) (since_f (by omega) c1)) (.consE 7 rfl rfl (.cons 3 rfl (.cons 6 rfl (.nil _))))),hD,(hW.perm (PR _)).sub (TC _ (TR _)),rfl⟩
 have d6:=h1;have h1:=CH h1;refine CB 0 ((EP (EP (EB (NX (rqr (sp 2 [(4,vI (HE s ((AO L.slips).take k)))] (se (BJ (AG (t:=4) [] (by kernel_rfl) rfl (TC _ (TC _ (TR _))) (IT (IT c4 b7) hJ0) ?_))))))))));exact ⟨congrArg (Value.int .i64) (from_end c8 (by omega) (fun hq=>absurd hq (by omega))),rfl⟩
noncomputable def c_rholders (p:List Nat):Code:=sub (AU Tryz.f80) p
theorem rholders_ct (I:Imm) (l:Value) (L:Lin) (s:Slip) (l_f:IsLin I l L) (hg:GoodL L) (hsh:0≤s.hour∧s.hour≤200):Ct Tryz.prog 80 #[l,.agg #[vI s.num,vI s.hour,vI s.kind,vI s.place,vI s.to,vI s.sort,.bool s.soil,vI s.amt]] I ([]) (fun v I' M'=>∃ u:Value,∃ Ms:Seg,v=u∧M'=Ms∧Own 3 1 AN u (dueO L s) Ms):=by
 obtain ⟨l1,l2,l3,f2,a3,a4,a5⟩:=id l_f;subst f2;obtain ⟨a6,a7,d6,d9,d4,c8,d7,d8,e0,e1⟩:=id a3;subst c8;obtain ⟨a8,a9,e2,e5,c9,e3,e4,e6⟩:=id a4;subst c9;obtain ⟨b0,b2,e7,f0,d0,e8,e9,f1⟩:=id a5;subst d0;refine fr (args:=[_,_]) (N:=38) Tryz.func80 (fun F=>?_);show Run _ _ (c_rholders []) _ _ [(0,.agg #[vI (L.places),vI (L.sorts),vS a6 L.start.length a7,vS a8 L.keeps.length a9,vS b0 L.slips.length b2]),(1,.agg #[vI (s.num),vI (s.hour),vI (s.kind),vI (s.place),vI (s.to),vI (s.sort),.bool (s.soil),vI (s.amt)])] _ _;refine rnm (rqr ?_);refine sS (sb 2 26 #[vI (L.places),vI (L.sorts),vS a6 L.start.length a7,vS a8 L.keeps.length a9,vS b0 L.slips.length b2] (fun b1=>(sS (sb 3 28 #[vI (s.num),vI (s.hour),vI (s.kind),vI (s.place),vI (s.to),vI (s.sort),.bool (s.soil),vI (s.amt)] (fun b3=>(sp 1 [(4,vN)] (sn (sp 1 [(5,vN)] (se (rq (rqr (sp 1 [(6,vI (1))] (EE 6 rfl (show (vI (1):Value)=vI (↑(0:Nat)+1) from congrArg (Value.int .i64) rfl) (se (rb 0 ?_)))))))))))))));refine rl (fun mz a w=>∃ J0:Imm,∃ q:Nat,∃ b6:Value,∃ a0:Seg,(I.le J0)∧(q≤9)∧(Own 3 1 AN b6 (QU L s.place (FB L s) s.hour q) a0)∧Slots 38 [(5,b6),(6,vI (↑q+1)),(2,vP b1 0),(3,vP b3 0),(4,vN)] a∧a.defers=[]∧St J0 ((bX b3 #[vI (s.num),vI (s.hour),vI (s.kind),vI (s.place),vI (s.to),vI (s.sort),.bool (s.soil),vI (s.amt)] 28)::(bX b1 #[vI (L.places),vI (L.sorts),vS a6 L.start.length a7,vS a8 L.keeps.length a9,vS b0 L.slips.length b2] 26)::(a0++F)) w∧mz=9-q) ?_ ?_
 ·intro a w hS hD hW;exact ⟨_,I,0,(vN),[],IR _,by omega,(Own.nil _ _ _),hS.sub (.cons 5 rfl (.cons 6 rfl (.cons 2 rfl (.cons 3 rfl (.cons 4 rfl (.nil _)))))),hD,hW,rfl⟩
 rintro mz a w ⟨J0,q,b6,a0,hJ0,hq,b4,hS,hD,hW,rfl⟩
 refine AS hS hD hW ?_;clear hS hD hW a w;replace a3:=a3.mono hJ0;replace a4:=a4.mono hJ0;replace a5:=a5.mono hJ0;obtain ⟨a1,a2,b7,c4⟩:=b4.shape;subst b7;have f8:=dueW_len (L:=L) (p:=s.place) (frm:=FB L s) (to:=s.hour) (n:=q);refine rq (rqr (sp 2 [(10,.bool (cmp .leq (↑q+1) (9)))] (se (rc 10 rfl (fun h1=>?_) (fun h1=>?_)))))
 ·
  have c5:=h1;have h1:=QG h1;refine AQ (NX (rq (rb 1 (rqr (sp 1 [(7,.bool (false))] (se (rq (rq ?_))))))));have f7:=from_in (s:=s) hg;refine rr (sd (dnb 13 1 0 b1 [vI (L.places),vI (L.sorts),vS a6 L.start.length a7,vS a8 L.keeps.length a9,vS b0 L.slips.length b2]) (sd (dnb 14 0 0 b3 [vI (s.num),vI (s.hour),vI (s.kind),vI (s.place),vI (s.to),vI (s.sort),.bool (s.soil),vI (s.amt)]) ?_));have c0:=rfrom_ct J0 _ (L) (s) (EG a3 a4 a5) (by assumption);refine sS (sc (some 15) (c0 :) (.refl _) (fun f5 I5 f4 b5 d5=>?_));obtain ⟨d3,d2⟩:=d5;rw [d3,d2];clear d3 d2;replace a3:=a3.mono b5;replace a4:=a4.mono b5;replace a5:=a5.mono b5;refine nm ?_;refine sp 1 [(8,vI ((FB L s)))] (EE 8 rfl (show (vI ((FB L s)):Value)=vI (FB L s+↑(0:Nat)) from congrArg (Value.int .i64) (by omega)) (EE 7 rfl (show (.bool (false):Value)=.bool (NP L s.place (↑q+1) (FB L s) 0) from congrArg Value.bool rfl) (se (rb 2 ?_))));refine rl (fun mz a w=>∃ J1:Imm,∃ n:Nat,(I5.le J1)∧((n:Int)≤s.hour+1-FB L s∨n=0)∧Slots 38 [(7,.bool (NP L s.place (↑q+1) (FB L s) n)),(8,vI (FB L s+↑n)),(2,vP b1 0),(3,vP b3 0),(4,vN),(5,vS a1 (QU L s.place (FB L s) s.hour q).length a2),(6,vI (↑q+1))] a∧a.defers=[]∧St J1 ((bX b3 #[vI (s.num),vI (s.hour),vI (s.kind),vI (s.place),vI (s.to),vI (s.sort),.bool (s.soil),vI (s.amt)] 28)::(bX b1 #[vI (L.places),vI (L.sorts),vS a6 L.start.length a7,vS a8 L.keeps.length a9,vS b0 L.slips.length b2] 26)::(a0++F)) w∧mz=(s.hour+1-FB L s).toNat-n) ?_ ?_
  ·intro a w hS hD hW;exact ⟨_,I5,0,IR _,.inr rfl,hS.sub (.cons 7 rfl (.cons 8 rfl (.cons 2 rfl (.cons 3 rfl (.cons 4 rfl (.cons 5 rfl (.cons 6 rfl (.nil _)))))))),hD,hW,rfl⟩
  rintro mz a w ⟨J1,n,hJ1,hn,hS,hD,hW,rfl⟩
  refine AS hS hD hW ?_;clear hS hD hW a w;replace a3:=a3.mono hJ1;replace a4:=a4.mono hJ1;replace a5:=a5.mono hJ1;refine rq (rqr (sp 2 [(17,vP b3 1),(16,vI (FB L s+↑n))] (sd (dlb 18 0 1 b3 (vI (s.hour))) (sp 1 [(19,.bool (cmp .leq (FB L s+↑n) (s.hour)))] (se (rc 19 rfl (fun h2=>?_) (fun h2=>?_)))))))
  ·
   have c6:=h2;have h2:=QG h2;refine AQ (NX (rq (rb 3 (rr (sp 2 [(23,.bool (NP L s.place (↑q+1) (FB L s) n))] ?_)))));refine AY 23 rfl (fun h3=>?_) (fun h3=>?_)
   ·
    have c7:=h3;refine sp 9 [(7,.bool (true))] (ee (NB (NX (rr (sp 1 [(20,vI (FB L s+↑n))] (sd (da 21 (FB L s+↑n) (1)) (sp 1 [(8,vI ((FB L s+↑n)+1))] (ee ?_))))))));refine AM ((s.hour+1-FB L s).toNat-(n+1)) (by omega) ?_;intro a w hS hD hW;exact ⟨J1,n+1,hJ1,by omega,hS.sub (.consE 7 rfl (congrArg Value.bool (heldW_t h3)) (.consE 8 rfl (congrArg (Value.int .i64) (by omega)) (.cons 2 rfl (.cons 3 rfl (.cons 4 rfl (.cons 5 rfl (.cons 6 rfl (.nil _)))))))),hD,hW,rfl⟩
   have c7:=h3;refine sd (dnb 24 1 0 b1 [vI (L.places),vI (L.sorts),vS a6 L.start.length a7,vS a8 L.keeps.length a9,vS b0 L.slips.length b2]) (sp 1 [(25,vP b3 3)] (sd (dlb 26 0 3 b3 (vI (s.place))) (sp 1 [(27,vI (FB L s+↑n))] (sd (dc 28 (fun I' hI=>(rKeeper_ct I' _ (L) (s.place) (FB L s+↑n) ((EG a3 a4 a5).mono hI) :))) (sp 4 [(7,.bool (cmp .eql ((BU L s.place (FB L s+↑n))) (↑q+1)))] (ee (NB (NX (rr (sp 1 [(20,vI (FB L s+↑n))] (sd (da 21 (FB L s+↑n) (1)) (sp 1 [(8,vI ((FB L s+↑n)+1))] (ee ?_)))))))))))));refine AM ((s.hour+1-FB L s).toNat-(n+1)) (by omega) ?_;intro a w hS hD hW;exact ⟨J1,n+1,hJ1,by omega,hS.sub (.consE 7 rfl (congrArg Value.bool (heldW_f h3)) (.consE 8 rfl (congrArg (Value.int .i64) (by omega)) (.cons 2 rfl (.cons 3 rfl (.cons 4 rfl (.cons 5 rfl (.cons 6 rfl (.nil _)))))))),hD,hW,rfl⟩
  have c6:=h2;have h2:=leq_f h2;refine CB 2 ((EP (EP (EB (NX (rqr (sp 1 [(32,.bool (NP L s.place (↑q+1) (FB L s) n))] (se (rc 32 rfl (fun h4=>?_) (fun h4=>?_))))))))))
  ·
   have b8:=h4;refine rr (sp 2 [(34,vI (↑q+1)),(33,vS a1 (QU L s.place (FB L s) s.hour q).length a2)] (sS (sbs 35 3 1 #[vI (↑q+1)] (fun f6=>(sS (AZ (d:=36) (x:=(.tmp 33)) (y:=(.tmp 35)) (T:=29) (T':=29) (E:=3) (E':=3) (sz:=1) (bs:=8) (z:=vI (0)) (cell:=AN) (xs:=QU L s.place (FB L s) s.hour q) (ys:=[(↑q+1:Int)]) (Ms:=a0) (ty:=29) (gd:=none) (by kernel_rfl) rfl (by kernel_rfl) (by kernel_rfl) (by kernel_rfl) (by kernel_rfl) (by kernel_rfl) (by decide) (by kernel_rfl) rfl rfl (b4) (PU (PU (PM.symm))) (DT _) (DJ 0 rfl rfl) (by first | omega | (simp only [LC,LN];omega)) (fun f9 b9 c1=>(BC (M':=((bX b3 #[vI (s.num),vI (s.hour),vI (s.kind),vI (s.place),vI (s.to),vI (s.sort),.bool (s.soil),vI (s.amt)] 28)::(bX b1 #[vI (L.places),vI (L.sorts),vS a6 L.start.length a7,vS a8 L.keeps.length a9,vS b0 L.slips.length b2] 26)::(b9++F))) (fun w h=>(h.perm (PW (PW PM))).sub (TC _ (TR _))) ?_))))))));obtain ⟨c2,c3,d1,f3⟩:=c1.shape;subst d1;refine sp 1 [(5,vS c2 ((QU L s.place (FB L s) s.hour q)++([(↑q+1:Int)])).length c3)] (ee (NB (NX (rr (sp 1 [(11,vI (↑q+1))] (sd (da 12 (↑q+1) (1)) (sp 1 [(6,vI ((↑q+1)+1))] (ee ?_))))))));refine AM (9-(q+1)) (by omega) ?_;intro a w hS hD hW;exact ⟨J1,q+1,vS c2 ((QU L s.place (FB L s) s.hour q)++([(↑q+1:Int)])).length c3,b9,(IT (IT hJ0 b5) hJ1),by omega,(dueW_t ((heldW_had hg (by omega) (by omega) (by omega) (by omega)).symm.trans b8)▸c1),hS.sub (.consE 5 rfl rfl (.consE 6 rfl (congrArg (Value.int .i64) (by omega)) (.cons 2 rfl (.cons 3 rfl (.cons 4 rfl (.nil _)))))),hD,hW,rfl⟩
  have b8:=h4;refine AQ (NB (NX (rr (sp 1 [(11,vI (↑q+1))] (sd (da 12 (↑q+1) (1)) (sp 1 [(6,vI ((↑q+1)+1))] (ee ?_)))))));refine AM (9-(q+1)) (by omega) ?_;intro a w hS hD hW;exact ⟨J1,q+1,vS a1 (QU L s.place (FB L s) s.hour q).length a2,a0,(IT (IT hJ0 b5) hJ1),by omega,(dueW_f ((heldW_had hg (by omega) (by omega) (by omega) (by omega)).symm.trans b8)▸b4),hS.sub (.consE 5 rfl rfl (.consE 6 rfl (congrArg (Value.int .i64) (by omega)) (.cons 2 rfl (.cons 3 rfl (.cons 4 rfl (.nil _)))))),hD,hW,rfl⟩
 have c5:=h1;have h1:=leq_f h1;refine CB 0 ((EP (EP (EB (NX (rqr (sp 2 [(4,vS a1 (QU L s.place (FB L s) s.hour q).length a2)] (se (BJ (ppm (M':=((a0++(bX b3 #[vI (s.num),vI (s.hour),vI (s.kind),vI (s.place),vI (s.to),vI (s.sort),.bool (s.soil),vI (s.amt)] 28)::(bX b1 #[vI (L.places),vI (L.sorts),vS a6 L.start.length a7,vS a8 L.keeps.length a9,vS b0 L.slips.length b2] 26)::F))) (PU (PM.symm)) (AG (t:=4) (a0) (by kernel_rfl) rfl (TA (TC _ (TC _ (TR _))) _) hJ0 ?_)))))))))));exact ⟨_,_,rfl,rfl,((show QU L s.place (FB L s) s.hour q=dueO L s from by rw [show q=9 by omega])▸b4)⟩
noncomputable def c_rHolders (p:List Nat):Code:=sub (AU Tryz.f31) p
theorem rHolders_ct (I:Imm) (l:Value) (L:Lin) (n:Int) (l_f:IsLin I l L):Ct Tryz.prog 31 #[l,vI n] I ([]) (fun v I' M'=>∃ u0:Value,∃ Ms0:Seg,v=.tuple #[u0,vI ((AX L n).2)]∧M'=Ms0∧Own 3 1 AN u0 ((AX L n).1) Ms0):=by
 obtain ⟨l1,l2,l3,h0,a5,a8,a2⟩:=id l_f;subst h0;obtain ⟨a3,a4,f7,g0,f2,e2,f8,f9,g1,g2⟩:=id a5;subst e2;obtain ⟨a6,a7,g3,g6,e3,g4,g5,g7⟩:=id a8;subst e3;obtain ⟨a0,a1,e4,e6,e5,g8,g9,a9⟩:=id a2;subst e5;refine fr (args:=[_,_]) (N:=50) Tryz.func31 (fun F=>?_);show Run _ _ (c_rHolders []) _ _ [(0,.agg #[vI (L.places),vI (L.sorts),vS a3 L.start.length a4,vS a6 L.keeps.length a7,vS a0 L.slips.length a1]),(1,vI (n))] _ _;refine rnm (rqr ?_);refine sS (sb 2 26 #[vI (L.places),vI (L.sorts),vS a3 L.start.length a4,vS a6 L.keeps.length a7,vS a0 L.slips.length a1] (fun b1=>(sp 2 [(5,vI (0)),(4,vN)] (se (rq (rqr (sd (dnb 10 0 0 b1 [vI (L.places),vI (L.sorts),vS a3 L.start.length a4,vS a6 L.keeps.length a7,vS a0 L.slips.length a1]) (sd (dc 11 (fun I' hI=>(rCheck_ct I' _ (L) ((EG a5 a8 a2).mono hI) :))) (sp 1 [(6,vI ((BG L)))] (sn (sp 2 [(13,.bool (!(cmp .eql ((BG L)) (0))))] (se (rc 13 rfl (fun h1=>?_) (fun h1=>?_))))))))))))))
 ·
  have d6:=h1;have h1:=BL (BX h1);refine rqr (sp 3 [(5,vI ((BG L))),(4,vN)] (se (BJ ((RP ?_)))));have hE:=QB (L:=L) (n:=n) h1;refine CN (t:=4) (u:=5) ([]) (by kernel_rfl) rfl rfl (TC _ (TR _)) (IR _) ?_;exact ⟨_,_,(by rw [hE]),rfl,((show []=(AX L n).1 from by rw [hE])▸Own.nil _ _ _)⟩
 have d6:=h1;have h1:=BI (BT h1);refine AQ (NX (rq ?_));have hz:BG L=0:=by omega
 have hg:=IU hz;have i3:=hg.slips;have i4:(AV (AL L)).length≤8:=by rw [JH];exact MU hg
 refine rr (sp 1 [(15,vP b1 4)] (sd (dlb 16 0 4 b1 (vS a0 L.slips.length a1)) (sp 1 [(17,vI (n))] (sd (dc 18 (fun I' hI=>(there_ct I' _ _ (n) (a2.mono hI) :))) (sp 1 [(7,vI ((KG (fun x:Slip=>decide (x.num=n)) L.slips)))] (se (rq (rqr (sp 2 [(20,.bool (cmp .lss ((KG (fun x:Slip=>decide (x.num=n)) L.slips)) (0)))] (se (rc 20 rfl (fun h2=>?_) (fun h2=>?_))))))))))))
 ·
  have d7:=h2;have h2:=CC h2;refine rqr (sp 2 [(5,vI (3)),(4,vN)] (se (BJ ((RP ?_)))));have hE:=QC (n:=n) hz (by omega);refine CN (t:=4) (u:=5) ([]) (by kernel_rfl) rfl rfl (TC _ (TR _)) (IR _) ?_;exact ⟨_,_,(by rw [hE]),rfl,((show []=(AX L n).1 from by rw [hE])▸Own.nil _ _ _)⟩
 have d7:=h2;have h2:=CH h2;refine AQ (NX (rq (rq ?_)));obtain ⟨i0,d1,f5,i5,i6⟩:=HW (p:=(fun x:Slip=>decide (x.num=n))) (l:=L.slips) (d:=AB) (by omega);rw [d1];have i7:=(GF (hg.slipAt f5)).2.1;refine rr (sp 1 [(21,vP b1 4)] (sd (dlb 22 0 4 b1 (vS a0 L.slips.length a1)) (sp 1 [(23,vI (↑i0))] (sd (di 24 8 (i0) a9.addr) (sp 1 [(25,.pointer (some ⟨e4,e6+i0*8+2,none⟩))] (sd (dl 26 (FO a9 (i0) (by omega) 2 (by decide) (v:=vI ((L.slips.getD (i0) AB).kind)) rfl)) (sp 1 [(27,.bool (!(cmp .eql ((L.slips.getD (i0) AB).kind) (4))))] (se (rc 27 rfl (fun h3=>?_) (fun h3=>?_))))))))))
 ·
  have d8:=h3;have h3:=BL (BX h3);refine rqr (sp 2 [(5,vI (8)),(4,vN)] (se (BJ ((RP ?_)))));have hE:=MS (n:=n) hz d1 h3;refine CN (t:=4) (u:=5) ([]) (by kernel_rfl) rfl rfl (TC _ (TR _)) (IR _) ?_;exact ⟨_,_,(by rw [hE]),rfl,((show []=(AX L n).1 from by rw [hE])▸Own.nil _ _ _)⟩
 have d8:=h3;have h3:=BI (BT h3);refine AQ (NX (rqr (sd (dnb 28 0 0 b1 [vI (L.places),vI (L.sorts),vS a3 L.start.length a4,vS a6 L.keeps.length a7,vS a0 L.slips.length a1]) ?_)));have c1:=rgaps_ct I _ (L) (EG a5 a8 a2) (by assumption);refine sS (sc (some 29) (c1 :) (.refl _) (fun h8 I3 h6 b3 f6=>?_));obtain ⟨u8,f4,f1,e9,c6⟩:=f6;rw [f1,e9];clear f1 e9;replace a5:=a5.mono b3;replace a8:=a8.mono b3;replace a2:=a2.mono b3;replace a9:=a9.mono b3;obtain ⟨b9,c0,e7,i1⟩:=c6.shape;subst e7;refine pm (M':=((bX b1 #[vI (L.places),vI (L.sorts),vS a3 L.start.length a4,vS a6 L.keeps.length a7,vS a0 L.slips.length a1] 26)::(f4++F))) PM (sp 1 [(8,vS b9 (AV (AL L)).length c0)] (se (rq (rq ?_))));refine BP (B:=((bX b1 #[vI (L.places),vI (L.sorts),vS a3 L.start.length a4,vS a6 L.keeps.length a7,vS a0 L.slips.length a1] 26)::F)) GJ c6 (by first | omega | (simp only [LS,LC,LN,LA,LK,LD] <;> omega) | decide) (PM.symm) (PR _) (fun e8 b0 b7=>?_);replace a5:=a5.mono b0;replace a8:=a8.mono b0;replace a2:=a2.mono b0;replace a9:=a9.mono b0;obtain ⟨d2,d3,b5,b8,b6,d4,d5,b2⟩:=id b7;cases b6;refine rr (sp 1 [(9,vI (0))] (se (rb 0 ?_)));refine rl (fun mz a w=>∃ J0:Imm,∃ k:Nat,(e8.le J0)∧(k≤(AV (AL L)).length)∧(∀ j,j<k→((AV (AL L)).getD j GJ).num≠n)∧Slots 50 [(9,vI ↑k),(1,vI (n)),(2,vP b1 0),(7,vI (↑i0)),(8,vS b9 (AV (AL L)).length c0)] a∧a.defers=[]∧St J0 ((bX b1 #[vI (L.places),vI (L.sorts),vS a3 L.start.length a4,vS a6 L.keeps.length a7,vS a0 L.slips.length a1] 26)::F) w∧mz=(AV (AL L)).length-k) ?_ ?_
 ·intro a w hS hD hW;exact ⟨_,e8,0,IR _,Nat.zero_le _,(fun j hj=>by omega),hS.sub (.cons 9 rfl (.cons 1 rfl (.cons 2 rfl (.cons 7 rfl (.cons 8 rfl (.nil _)))))),hD,hW,rfl⟩
 rintro mz a w ⟨J0,k,hJ0,hk,f0,hS,hD,hW,rfl⟩
 refine AS hS hD hW ?_;clear hS hD hW a w;replace a5:=a5.mono hJ0;replace a8:=a8.mono hJ0;replace a2:=a2.mono hJ0;replace a9:=a9.mono hJ0;replace b2:=b2.mono hJ0;refine rq (rqr (sp 4 [(33,.bool (cmp .lss (↑k) (↑((AV (AL L)).length))))] (se (rc 33 rfl (fun h4=>?_) (fun h4=>?_)))))
 ·
  have d9:=h4;have h4:=CC h4;refine AQ (NX (rq (rb 1 (rqr (sp 2 [(37,vI (↑k)),(36,vS b9 (AV (AL L)).length c0)] (sd (di 38 2 (k) b2.addr) (sp 1 [(39,.pointer (some ⟨b5,b8+k*2,none⟩))] (sd (dl 40 (FO b2 (k) (by omega) 0 (by decide) (v:=vI (((AV (AL L)).getD (k) GJ).num)) rfl)) (sp 2 [(42,.bool (cmp .eql (((AV (AL L)).getD (k) GJ).num) (n)))] (se (rc 42 rfl (fun h5=>?_) (fun h5=>?_))))))))))))
  ·
   have e0:=h5;have h5:=BI h5;refine rq ?_;refine rd0 6 ?_;refine AD (dnb 43 0 0 b1 [vI (L.places),vI (L.sorts),vS a3 L.start.length a4,vS a6 L.keeps.length a7,vS a0 L.slips.length a1]) (ox 1 [(44,vP b1 4)] ?_);refine AD (dlb 45 0 4 b1 (vS a0 L.slips.length a1)) (ox 1 [(46,vI (↑i0))] ?_);refine AD (di 47 8 (i0) a9.addr) ?_;refine AD (BN (x:=(.tmp 47)) (T:=28) (n:=8) (vs:=[vI ((L.slips.getD (i0) AB).num),vI ((L.slips.getD (i0) AB).hour),vI ((L.slips.getD (i0) AB).kind),vI ((L.slips.getD (i0) AB).place),vI ((L.slips.getD (i0) AB).to),vI ((L.slips.getD (i0) AB).sort),.bool ((L.slips.getD (i0) AB).soil),vI ((L.slips.getD (i0) AB).amt)]) (d:=48) (ty:=28) (gd:=none) (by kernel_rfl) rfl (by kernel_rfl) (by kernel_rfl) rfl rfl (CO (vals:=CR) (fun _=>rfl) a9 (i0) (by omega))) ?_;refine AW ?_;have c2:=rholders_ct J0 _ (L) (L.slips.getD (i0) AB) (EG a5 a8 a2) (by assumption) (by omega);refine sS (sc (some 49) (c2 :) (.refl _) (fun h9 i2 h7 c3 e1=>?_));obtain ⟨i8,b4,c5,c4,c7⟩:=e1;rw [c5,c4];clear c5 c4;obtain ⟨c8,c9,d0,f3⟩:=c7.shape;subst d0;refine pm (M':=((bX b1 #[vI (L.places),vI (L.sorts),vS a3 L.start.length a4,vS a6 L.keeps.length a7,vS a0 L.slips.length a1] 26)::(b4++F))) PM (sp 2 [(5,vI (0)),(4,vS c8 (dueO L (L.slips.getD (i0) AB)).length c9)] (se (BJ ((RB (RP (RP (RB (RP ?_)))))))));have hE:=ref_held hg d1 (by omega) (by omega) h5;refine ppm (M':=((b4++(bX b1 #[vI (L.places),vI (L.sorts),vS a3 L.start.length a4,vS a6 L.keeps.length a7,vS a0 L.slips.length a1] 26)::F))) (PM.symm) (CN (t:=4) (u:=5) (b4) (by kernel_rfl) rfl rfl (TA (TC _ (TR _)) _) (IT (IT (IT b3 b0) hJ0) c3) ?_);exact ⟨_,_,(by rw [hE]),rfl,((show dueO L (L.slips.getD (i0) AB)=(AX L n).1 from by rw [hE])▸c7)⟩
  have e0:=h5;have h5:=BL h5;refine AQ (NB (NX (rr (sp 1 [(34,vI (↑k))] (sd (da 35 (↑k) (1)) (sp 1 [(9,vI (↑k+1))] (ee ?_)))))));refine AM ((AV (AL L)).length-(k+1)) (by omega) ?_;intro a w hS hD hW;exact ⟨J0,k+1,hJ0,by omega,GY f0 h5,hS.sub (.consE 9 rfl rfl (.cons 1 rfl (.cons 2 rfl (.cons 7 rfl (.cons 8 rfl (.nil _)))))),hD,hW,rfl⟩
 have d9:=h4;have h4:=CH h4;refine CB 0 ((EP (EP (EB (NX (rqr (sp 2 [(5,vI (11)),(4,vN)] (se (BJ ?_)))))))));have hE:=ref_none hg d1 (by omega) f0 (by omega);refine CN (t:=4) (u:=5) ([]) (by kernel_rfl) rfl rfl (TC _ (TR _)) (IT (IT b3 b0) hJ0) ?_;exact ⟨_,_,(by rw [hE]),rfl,((show []=(AX L n).1 from by rw [hE])▸Own.nil _ _ _)⟩
noncomputable def c_rOwed (p:List Nat):Code:=sub (AU Tryz.f33) p
set_option maxHeartbeats 1000000 in
theorem rOwed_ct (I:Imm) (l:Value) (L:Lin) (l_f:IsLin I l L):Ct Tryz.prog 33 #[l] I ([]) (fun v I' M'=>∃ u0:Value,∃ Ms0:Seg,v=.tuple #[u0,vI ((II L).2)]∧M'=Ms0∧Own 61 3 CW u0 ((II L).1) Ms0):=by
 obtain ⟨l1,l2,l3,m7,a9,b0,a8⟩:=id l_f;subst m7;obtain ⟨a4,a5,k9,l5,k1,j0,l0,l4,l6,l7⟩:=id a9;subst j0;obtain ⟨a6,a7,l8,m1,j1,l9,m0,m2⟩:=id b0;subst j1;obtain ⟨a2,a3,m3,m6,j2,m4,m5,b4⟩:=id a8;subst j2;refine fr (args:=[_]) (N:=92) Tryz.func33 (fun F=>?_);show Run _ _ (c_rOwed []) _ _ [(0,.agg #[vI (L.places),vI (L.sorts),vS a4 L.start.length a5,vS a6 L.keeps.length a7,vS a2 L.slips.length a3])] _ _;refine rnm (rqr ?_);refine sS (sb 1 26 #[vI (L.places),vI (L.sorts),vS a4 L.start.length a5,vS a6 L.keeps.length a7,vS a2 L.slips.length a3] (fun b1=>(sp 2 [(3,vI (0)),(2,vN)] (se (rq (rqr (sd (dnb 13 0 0 b1 [vI (L.places),vI (L.sorts),vS a4 L.start.length a5,vS a6 L.keeps.length a7,vS a2 L.slips.length a3]) (sd (dc 14 (fun I' hI=>(rCheck_ct I' _ (L) ((EG a9 b0 a8).mono hI) :))) (sp 1 [(4,vI ((BG L)))] (sn (sp 2 [(16,.bool (!(cmp .eql ((BG L)) (0))))] (se (rc 16 rfl (fun h1=>?_) (fun h1=>?_))))))))))))))
 ·
  have i3:=h1;have h1:=BL (BX h1);refine rqr (sp 3 [(3,vI ((BG L))),(2,vN)] (se (BJ ((RP ?_)))));have hE:=owedE_1 (L:=L) h1;refine CN (t:=2) (u:=3) ([]) (by kernel_rfl) rfl rfl (TC _ (TR _)) (IR _) ?_;exact ⟨_,_,(by rw [hE]),rfl,((show []=(II L).1 from by rw [hE])▸Own.nil _ _ _)⟩
 have i3:=h1;have h1:=BI (BT h1);refine AQ (NX (rq ?_));have hz:BG L=0:=by omega
 have hg:=IU hz;have n8:=hg.slips;have o0:(AV (AL L)).length≤8:=by rw [JH];exact MU hg
 have n7:=hg.sorts;refine rr (sp 1 [(5,vN)] (sn (sd (dnb 18 0 0 b1 [vI (L.places),vI (L.sorts),vS a4 L.start.length a5,vS a6 L.keeps.length a7,vS a2 L.slips.length a3]) ?_)));have f0:=rgaps_ct I _ (L) (EG a9 b0 a8) (by assumption);refine sS (sc (some 19) (f0 :) (.refl _) (fun n1 I3 m9 d3 k8=>?_));obtain ⟨u8,k3,k0,j9,f7⟩:=k8;rw [k0,j9];clear k0 j9;replace a9:=a9.mono d3;replace b0:=b0.mono d3;replace a8:=a8.mono d3;replace b4:=b4.mono d3;obtain ⟨b9,c0,j4,n3⟩:=f7.shape;subst j4;refine pm (M':=((bX b1 #[vI (L.places),vI (L.sorts),vS a4 L.start.length a5,vS a6 L.keeps.length a7,vS a2 L.slips.length a3] 26)::(k3++F))) PM (sp 1 [(6,vS b9 (AV (AL L)).length c0)] (se (rq (rq ?_))));refine BP (B:=((bX b1 #[vI (L.places),vI (L.sorts),vS a4 L.start.length a5,vS a6 L.keeps.length a7,vS a2 L.slips.length a3] 26)::F)) GJ f7 (by first | omega | (simp only [LS,LC,LN,LA,LK,LD] <;> omega) | decide) (PM.symm) (PR _) (fun j5 b8 e3=>?_);replace a9:=a9.mono b8;replace b0:=b0.mono b8;replace a8:=a8.mono b8;replace b4:=b4.mono b8;obtain ⟨g4,g5,c1,c2,e2,g6,g7,a0⟩:=id e3;cases e2;refine rr (sp 1 [(7,vI (1))] (EE 7 rfl (show (vI (1):Value)=vI (↑(0:Nat)+1) from congrArg (Value.int .i64) rfl) (se (rb 0 ?_))));refine rl (fun mz a w=>∃ J0:Imm,∃ q:Nat,∃ d5:Value,∃ b5:Seg,(j5.le J0)∧(q≤9)∧(Own 61 3 CW d5 (EH L (2*(q+1))) b5)∧Slots 92 [(5,d5),(7,vI (↑q+1)),(1,vP b1 0),(2,vN),(3,vI (0)),(6,vS b9 (AV (AL L)).length c0)] a∧a.defers=[]∧St J0 ((bX b1 #[vI (L.places),vI (L.sorts),vS a4 L.start.length a5,vS a6 L.keeps.length a7,vS a2 L.slips.length a3] 26)::(b5++F)) w∧mz=9-q) ?_ ?_
 ·intro a w hS hD hW;exact ⟨_,j5,0,(vN),[],IR _,by omega,(show Own _ _ _ _ (EH L (2*(0+1))) _ from by rw [debtsN_0 hg];exact Own.nil _ _ _),hS.sub (.cons 5 rfl (.cons 7 rfl (.cons 1 rfl (.cons 2 rfl (.cons 3 rfl (.cons 6 rfl (.nil _))))))),hD,hW,rfl⟩
 rintro mz a w ⟨J0,q,d5,b5,hJ0,hq,d4,hS,hD,hW,rfl⟩
 refine AS hS hD hW ?_;clear hS hD hW a w;replace a9:=a9.mono hJ0;replace b0:=b0.mono hJ0;replace a8:=a8.mono hJ0;replace b4:=b4.mono hJ0;replace a0:=a0.mono hJ0;obtain ⟨c4,c5,d7,g0⟩:=d4.shape;subst d7;have k4:=debtsO_len (L:=L) (n:=2*(q+1));refine rq (rqr (sp 2 [(21,.bool (cmp .leq (↑q+1) (9)))] (se (rc 21 rfl (fun h2=>?_) (fun h2=>?_)))))
 ·
  have i4:=h2;have h2:=QG h2;refine AQ (NX (rq (rb 1 (rqr (sp 1 [(8,vI (0))] (se (rb 2 ?_)))))));refine rl (fun mz a w=>∃ J1:Imm,∃ m:Nat,∃ d6:Value,∃ a1:Seg,(J0.le J1)∧((m:Int)≤L.sorts)∧(Own 61 3 CW d6 (EH L (2*(q+1)+m)) a1)∧Slots 92 [(5,d6),(8,vI ↑m),(1,vP b1 0),(2,vN),(3,vI (0)),(6,vS b9 (AV (AL L)).length c0),(7,vI (↑q+1))] a∧a.defers=[]∧St J1 ((bX b1 #[vI (L.places),vI (L.sorts),vS a4 L.start.length a5,vS a6 L.keeps.length a7,vS a2 L.slips.length a3] 26)::(a1++F)) w∧mz=L.sorts.toNat-m) ?_ ?_
  ·intro a w hS hD hW;exact ⟨_,J0,0,vS c4 (EH L (2*(q+1))).length c5,b5,IR _,by omega,d4,hS.sub (.cons 5 rfl (.cons 8 rfl (.cons 1 rfl (.cons 2 rfl (.cons 3 rfl (.cons 6 rfl (.cons 7 rfl (.nil _)))))))),hD,hW,rfl⟩
  rintro mz a w ⟨J1,m,d6,a1,hJ1,hm,c3,hS,hD,hW,rfl⟩
  refine AS hS hD hW ?_;clear hS hD hW a w;replace a9:=a9.mono hJ1;replace b0:=b0.mono hJ1;replace a8:=a8.mono hJ1;replace b4:=b4.mono hJ1;replace a0:=a0.mono hJ1;obtain ⟨b2,b3,d8,g1⟩:=c3.shape;subst d8;have k4:=debtsO_len (L:=L) (n:=2*(q+1)+m);refine rq (rqr (sp 2 [(25,vP b1 1),(24,vI (↑m))] (sd (dlb 26 0 1 b1 (vI (L.sorts))) (sp 1 [(27,.bool (cmp .lss (↑m) (L.sorts)))] (se (rc 27 rfl (fun h3=>?_) (fun h3=>?_)))))))
  ·
   have i5:=h3;have h3:=CC h3;refine AQ (NX (rq (rb 3 (rqr (sp 1 [(9,vI (0))] (EE 9 rfl (show (vI (0):Value)=vI (NU L (↑q+1) ↑m 0) from congrArg (Value.int .i64) rfl) (se (rq (rqr (sp 1 [(10,vI (0))] (se (rb 4 ?_))))))))))));refine rl (fun mz a w=>∃ J2:Imm,∃ i:Nat,(J1.le J2)∧(i≤(AV (AL L)).length)∧Slots 92 [(9,vI (NU L (↑q+1) ↑m i)),(10,vI ↑i),(1,vP b1 0),(2,vN),(3,vI (0)),(5,vS b2 (EH L (2*(q+1)+m)).length b3),(6,vS b9 (AV (AL L)).length c0),(7,vI (↑q+1)),(8,vI (↑m))] a∧a.defers=[]∧St J2 ((bX b1 #[vI (L.places),vI (L.sorts),vS a4 L.start.length a5,vS a6 L.keeps.length a7,vS a2 L.slips.length a3] 26)::(a1++F)) w∧mz=(AV (AL L)).length-i) ?_ ?_
   ·intro a w hS hD hW;exact ⟨_,J1,0,IR _,Nat.zero_le _,hS.sub (.cons 9 rfl (.cons 10 rfl (.cons 1 rfl (.cons 2 rfl (.cons 3 rfl (.cons 5 rfl (.cons 6 rfl (.cons 7 rfl (.cons 8 rfl (.nil _)))))))))),hD,hW,rfl⟩
   rintro mz a w ⟨J2,i,hJ2,hi,hS,hD,hW,rfl⟩
   refine AS hS hD hW ?_;clear hS hD hW a w;replace a9:=a9.mono hJ2;replace b0:=b0.mono hJ2;replace a8:=a8.mono hJ2;replace b4:=b4.mono hJ2;replace a0:=a0.mono hJ2;refine rq (rqr (sp 4 [(33,.bool (cmp .lss (↑i) (↑((AV (AL L)).length))))] (se (rc 33 rfl (fun h4=>?_) (fun h4=>?_)))))
   ·
    have i6:=h4;have h4:=CC h4;refine AQ (NX (rq (rb 5 (rq ?_))));obtain ⟨j,k6,k7,j7,o1,j8⟩:=lack_slip hg (i:=i) (by rw [← JH];omega);have o3:=(GF (hg.slipAt k7)).2.1;have o2:=owe_small hg (i:=i) (by omega) (w:=(↑q+1)) (so:=↑m);have n9:=(HQ hg (lack_at (i:=i) (by rw [← JH];omega))).1;have j6:=gap_of (L:=L) (i:=i) (by rw [← JH];omega);have k5:((AV (AL L)).getD (i) GJ).amt=(DO L i).1.gap:=by rw [j6];rfl
    refine rd 13 [(0,true),(1,true),(2,true),(3,true),(4,true),(5,true),(6,true),(7,true),(8,true),(9,true),(10,true),(11,true),(12,false)] ((bX b1 #[vI (L.places),vI (L.sorts),vS a4 L.start.length a5,vS a6 L.keeps.length a7,vS a2 L.slips.length a3] 26)::[]) ((a1++F)) (ox 1 [(36,vP b1 4)] ?_);refine AD (dlb 37 0 4 b1 (vS a2 L.slips.length a3)) (ox 1 [(38,vP b1 4)] ?_);refine AD (dlb 39 0 4 b1 (vS a2 L.slips.length a3)) (ox 2 [(41,vI (↑i)),(40,vS b9 (AV (AL L)).length c0)] ?_);refine AD (di 42 2 (i) a0.addr) (ox 1 [(43,.pointer (some ⟨c1,c2+i*2,none⟩))] ?_);refine AD (dl 44 (FO a0 (i) (by omega) 0 (by decide) (v:=vI (((AV (AL L)).getD (i) GJ).num)) rfl)) ?_;refine AD (dc 45 (fun I' hI=>(there_ct I' _ _ (((AV (AL L)).getD (i) GJ).num) (a8.mono hI) :))) ?_;refine OFP.sub 45 (show (vI ((KG (fun x:Slip=>decide (x.num=(((AV (AL L)).getD (i) GJ).num))) L.slips)):Value)=vI (↑j) from congrArg (Value.int .i64) (by rw [j6];exact k6)) ?_;refine AD (di 46 8 (j) b4.addr) ?_;refine AD (BN (x:=(.tmp 46)) (T:=28) (n:=8) (vs:=[vI ((L.slips.getD (j) AB).num),vI ((L.slips.getD (j) AB).hour),vI ((L.slips.getD (j) AB).kind),vI ((L.slips.getD (j) AB).place),vI ((L.slips.getD (j) AB).to),vI ((L.slips.getD (j) AB).sort),.bool ((L.slips.getD (j) AB).soil),vI ((L.slips.getD (j) AB).amt)]) (d:=47) (ty:=28) (gd:=none) (by kernel_rfl) rfl (by kernel_rfl) (by kernel_rfl) rfl rfl (CO (vals:=CR) (fun _=>rfl) b4 (j) (by omega))) ?_;refine IG (sal 11 28 #[vI (0),vI (0),vI (0),vI (0),vI (0),vI (0),.bool (false),vI (0)] (fun d9=>?_));refine EO (S':=((bX d9 #[vI (0),vI (0),vI (0),vI (0),vI (0),vI (0),.bool (false),vI (0)] 28)::(a1++F))) (PS _ _ _) ?_;refine JK (nm (nm ?_));refine sS (ss 1 0 d9 [vI ((L.slips.getD (j) AB).num),vI ((L.slips.getD (j) AB).hour),vI ((L.slips.getD (j) AB).kind),vI ((L.slips.getD (j) AB).place),vI ((L.slips.getD (j) AB).to),vI ((L.slips.getD (j) AB).sort),.bool ((L.slips.getD (j) AB).soil),vI ((L.slips.getD (j) AB).amt)] [vI ((L.slips.getD (j) AB).num),vI ((L.slips.getD (j) AB).hour),vI ((L.slips.getD (j) AB).kind),vI ((L.slips.getD (j) AB).place),vI ((L.slips.getD (j) AB).to),vI ((L.slips.getD (j) AB).sort),.bool ((L.slips.getD (j) AB).soil),vI ((L.slips.getD (j) AB).amt)] (_::_::_) (cs:=[_,_,_,_,_,_,_,_]) rfl rfl (sn (sd (dnb 48 0 0 b1 [vI (L.places),vI (L.sorts),vS a4 L.start.length a5,vS a6 L.keeps.length a7,vS a2 L.slips.length a3]) (sd (dnb 49 1 0 d9 [vI ((L.slips.getD (j) AB).num),vI ((L.slips.getD (j) AB).hour),vI ((L.slips.getD (j) AB).kind),vI ((L.slips.getD (j) AB).place),vI ((L.slips.getD (j) AB).to),vI ((L.slips.getD (j) AB).sort),.bool ((L.slips.getD (j) AB).soil),vI ((L.slips.getD (j) AB).amt)]) ?_))));have f1:=rholders_ct J2 _ (L) (L.slips.getD (j) AB) (EG a9 b0 a8) (by assumption) (by omega);refine sS (sc (some 50) (f1 :) (.refl _) (fun n2 n4 n0 d1 i9=>?_));obtain ⟨o4,g3,f4,f2,f8⟩:=i9;rw [f4,f2];clear f4 f2;replace a0:=a0.mono d1;obtain ⟨e0,e1,f9,k2⟩:=f8.shape;subst f9;refine pm (M':=((bX b1 #[vI (L.places),vI (L.sorts),vS a4 L.start.length a5,vS a6 L.keeps.length a7,vS a2 L.slips.length a3] 26)::(bX d9 #[vI ((L.slips.getD (j) AB).num),vI ((L.slips.getD (j) AB).hour),vI ((L.slips.getD (j) AB).kind),vI ((L.slips.getD (j) AB).place),vI ((L.slips.getD (j) AB).to),vI ((L.slips.getD (j) AB).sort),.bool ((L.slips.getD (j) AB).soil),vI ((L.slips.getD (j) AB).amt)] 28)::(g3++(a1++F)))) (PW PM) (sp 1 [(12,vS e0 (dueO L (L.slips.getD (j) AB)).length e1)] (se (rq ?_)));have n6:(dueO L (L.slips.getD j AB)).length≤9:=dueW_len;refine BP (B:=((bX b1 #[vI (L.places),vI (L.sorts),vS a4 L.start.length a5,vS a6 L.keeps.length a7,vS a2 L.slips.length a3] 26)::(bX d9 #[vI ((L.slips.getD (j) AB).num),vI ((L.slips.getD (j) AB).hour),vI ((L.slips.getD (j) AB).kind),vI ((L.slips.getD (j) AB).place),vI ((L.slips.getD (j) AB).to),vI ((L.slips.getD (j) AB).sort),.bool ((L.slips.getD (j) AB).soil),vI ((L.slips.getD (j) AB).amt)] 28)::(a1++F))) 0 f8 (by first | omega | (simp only [LS,LC,LN,LA,LK,LD] <;> omega) | decide) (PU (PM.symm)) (PR _) (fun g2 d2 e5=>?_);replace a0:=a0.mono d2;obtain ⟨g8,h0,g9,i2,e4,i0,i1,c6⟩:=id e5;cases e4;refine BZ (fun a w=>Slots 92 [(1,vP b1 0),(2,vN),(3,vI (0)),(5,vS b2 (EH L (2*(q+1)+m)).length b3),(6,vS b9 (AV (AL L)).length c0),(7,vI (↑q+1)),(8,vI (↑m)),(9,vI (NU L (↑q+1) ↑m i)),(10,vI (↑i)),(74,.bool ((cmp .lss (((AV (AL L)).getD (i) GJ).amt) (0))&&((cmp .eql ((L.slips.getD (j) AB).sort) (↑m))&&((cmp .eql (↑((dueO L (L.slips.getD (j) AB)).length)) (1))&&(cmp .eql ((dueO L (L.slips.getD (j) AB)).getD (0) 0) (↑q+1))))))] a∧a.defers=[]∧St g2 ((bX b1 #[vI (L.places),vI (L.sorts),vS a4 L.start.length a5,vS a6 L.keeps.length a7,vS a2 L.slips.length a3] 26)::(bX d9 #[vI ((L.slips.getD (j) AB).num),vI ((L.slips.getD (j) AB).hour),vI ((L.slips.getD (j) AB).kind),vI ((L.slips.getD (j) AB).place),vI ((L.slips.getD (j) AB).to),vI ((L.slips.getD (j) AB).sort),.bool ((L.slips.getD (j) AB).soil),vI ((L.slips.getD (j) AB).amt)] 28)::(a1++F)) w) ?_ ?_
    ·
     refine rr (sp 2 [(52,vI (↑i)),(51,vS b9 (AV (AL L)).length c0)] (sd (di 53 2 (i) a0.addr) (sp 1 [(54,.pointer (some ⟨c1,c2+i*2+1,none⟩))] (sd (dl 55 (FO a0 (i) (by omega) 1 (by decide) (v:=vI (((AV (AL L)).getD (i) GJ).amt)) rfl)) (sp 2 [(57,.bool (cmp .lss (((AV (AL L)).getD (i) GJ).amt) (0)))] ?_)))));refine AY 57 rfl (fun h5=>?_) (fun h5=>?_)
     ·
      have c7:=h5;have c7:=CC c7;refine sp 1 [(58,vP d9 5)] (sd (dlb 59 1 5 d9 (vI ((L.slips.getD (j) AB).sort))) (sp 4 [(63,.bool (cmp .eql ((L.slips.getD (j) AB).sort) (↑m)))] ?_));refine AY 63 rfl (fun h6=>?_) (fun h6=>?_)
      ·
       have c8:=h6;have c8:=BI c8;refine sp 5 [(68,.bool (cmp .eql (↑((dueO L (L.slips.getD (j) AB)).length)) (1)))] ?_;refine AY 68 rfl (fun h7=>?_) (fun h7=>?_)
       ·
        have c9:=h7;have c9:=BI c9;refine sp 1 [(69,vS e0 (dueO L (L.slips.getD (j) AB)).length e1)] (sd (di 70 1 (0) c6.addr) (sd (dl 71 (DB c6 (0) (by omega))) (sp 3 [(74,.bool (cmp .eql ((dueO L (L.slips.getD (j) AB)).getD (0) 0) (↑q+1)))] (ee ?_))));refine AK (fun a w hS hD hW=>⟨hS.sub (.cons 1 rfl (.cons 2 rfl (.cons 3 rfl (.cons 5 rfl (.cons 6 rfl (.cons 7 rfl (.cons 8 rfl (.cons 9 rfl (.cons 10 rfl (.consE 74 rfl (congrArg Value.bool (by simp only [h5,h6,h7,kA,kB,kC,kD,kE,kF,kG,kH,kI,kJ])) (.nil _))))))))))),hD,hW⟩)
       have c9:=h7;have c9:=BL c9;refine sp 6 [(74,.bool (false))] (ee ?_);refine AK (fun a w hS hD hW=>⟨hS.sub (.cons 1 rfl (.cons 2 rfl (.cons 3 rfl (.cons 5 rfl (.cons 6 rfl (.cons 7 rfl (.cons 8 rfl (.cons 9 rfl (.cons 10 rfl (.consE 74 rfl (congrArg Value.bool (by simp only [h5,h6,h7,kA,kB,kC,kD,kE,kF,kG,kH,kI,kJ])) (.nil _))))))))))),hD,hW⟩)
      have c8:=h6;have c8:=BL c8;refine sp 11 [(74,.bool (false))] (ee ?_);refine AK (fun a w hS hD hW=>⟨hS.sub (.cons 1 rfl (.cons 2 rfl (.cons 3 rfl (.cons 5 rfl (.cons 6 rfl (.cons 7 rfl (.cons 8 rfl (.cons 9 rfl (.cons 10 rfl (.consE 74 rfl (congrArg Value.bool (by simp only [h5,h6,kA,kB,kC,kD,kE,kF,kG,kH,kI,kJ])) (.nil _))))))))))),hD,hW⟩)
     have c7:=h5;have c7:=CH c7;refine sp 17 [(74,.bool (false))] (ee ?_);refine AK (fun a w hS hD hW=>⟨hS.sub (.cons 1 rfl (.cons 2 rfl (.cons 3 rfl (.cons 5 rfl (.cons 6 rfl (.cons 7 rfl (.cons 8 rfl (.cons 9 rfl (.cons 10 rfl (.consE 74 rfl (congrArg Value.bool (by simp only [h5,kA,kB,kC,kD,kE,kF,kG,kH,kI,kJ])) (.nil _))))))))))),hD,hW⟩)
    rintro a w ⟨hS,hD,hW⟩
    refine AS hS hD hW ?_;clear hS hD hW a w;refine rc 74 rfl (fun h8=>?_) (fun h8=>?_)
    ·
     have e7:=h8;obtain ⟨e9,i7⟩:=HF h8;have e9:=CC e9;obtain ⟨d0,e6⟩:=HF i7;have d0:=BI d0;obtain ⟨b6,b7⟩:=HF e6;have b6:=BI b6;have b7:=BI b7;refine rr (sp 3 [(77,vI (↑i)),(76,vS b9 (AV (AL L)).length c0),(75,vI (NU L (↑q+1) ↑m i))] (sd (di 78 2 (i) a0.addr) (sp 1 [(79,.pointer (some ⟨c1,c2+i*2+1,none⟩))] (sd (dl 80 (FO a0 (i) (by omega) 1 (by decide) (v:=vI (((AV (AL L)).getD (i) GJ).amt)) rfl)) (sd (dsb 81 (NU L (↑q+1) ↑m i) (((AV (AL L)).getD (i) GJ).amt)) (sp 1 [(9,vI ((NU L (↑q+1) ↑m i)-(((AV (AL L)).getD (i) GJ).amt)))] (ee (NB (NX (rr (sp 1 [(34,vI (↑i))] (sd (da 35 (↑i) (1)) (sp 1 [(10,vI (↑i+1))] (ee ?_))))))))))))));refine AM ((AV (AL L)).length-(i+1)) (by omega) ?_;intro a w hS hD hW;exact ⟨g2,i+1,(IT (IT hJ2 d1) d2),by omega,hS.sub (.consE 9 rfl (congrArg (Value.int .i64) (owe_t (by omega) j7 j8 e7)) (.consE 10 rfl rfl (.cons 1 rfl (.cons 2 rfl (.cons 3 rfl (.cons 5 rfl (.cons 6 rfl (.cons 7 rfl (.cons 8 rfl (.nil _)))))))))),hD,(hW.perm (PS _ _ _)).sub (TC _ (TR _)),rfl⟩
    have e7:=h8;refine AQ (NB (NX (rr (sp 1 [(34,vI (↑i))] (sd (da 35 (↑i) (1)) (sp 1 [(10,vI (↑i+1))] (ee ?_)))))));refine AM ((AV (AL L)).length-(i+1)) (by omega) ?_;intro a w hS hD hW;exact ⟨g2,i+1,(IT (IT hJ2 d1) d2),by omega,hS.sub (.consE 9 rfl (congrArg (Value.int .i64) (owe_f (by omega) j7 j8 e7)) (.consE 10 rfl rfl (.cons 1 rfl (.cons 2 rfl (.cons 3 rfl (.cons 5 rfl (.cons 6 rfl (.cons 7 rfl (.cons 8 rfl (.nil _)))))))))),hD,(hW.perm (PS _ _ _)).sub (TC _ (TR _)),rfl⟩
   have i6:=h4;have h4:=CH h4;refine CB 4 ((EP (EP (EB (NX (rqr (sp 2 [(83,.bool (cmp .gtr (NU L (↑q+1) ↑m i) (0)))] (se (rc 83 rfl (fun h9=>?_) (fun h9=>?_))))))))))
   ·
    have i8:=h9;have h9:=IF h9;refine rr (sp 5 [(88,.agg #[vI (↑q+1),vI (↑m),vI (NU L (↑q+1) ↑m i)]),(84,vS b2 (EH L (2*(q+1)+m)).length b3)] (sS (sbs 89 61 1 #[vI (↑q+1),vI (↑m),vI (NU L (↑q+1) ↑m i)] (fun n5=>(sS (AZ (d:=90) (x:=(.tmp 84)) (y:=(.tmp 89)) (T:=53) (T':=53) (E:=61) (E':=61) (sz:=3) (bs:=24) (z:=.agg #[vI (0),vI (0),vI (0)]) (cell:=CW) (xs:=EH L (2*(q+1)+m)) (ys:=[(⟨↑q+1,↑m,NU L (↑q+1) ↑m i⟩:Debt)]) (Ms:=a1) (ty:=53) (gd:=none) (by kernel_rfl) rfl (by kernel_rfl) (by kernel_rfl) (by kernel_rfl) (by kernel_rfl) (by kernel_rfl) (by decide) (by kernel_rfl) rfl rfl (c3) (PU (PM.symm)) (MD _) (DJ 0 rfl rfl) (by first | omega | (simp only [LC,LN];omega)) (fun o5 e8 f3=>(BC (M':=((bX b1 #[vI (L.places),vI (L.sorts),vS a4 L.start.length a5,vS a6 L.keeps.length a7,vS a2 L.slips.length a3] 26)::(e8++F))) (fun w h=>(h.perm (PW PM)).sub (TC _ (TR _))) ?_))))))));obtain ⟨f5,f6,j3,m8⟩:=f3.shape;subst j3;refine sp 1 [(5,vS f5 ((EH L (2*(q+1)+m))++([(⟨↑q+1,↑m,NU L (↑q+1) ↑m i⟩:Debt)])).length f6)] (ee (NB (NX (rr (sp 1 [(28,vI (↑m))] (sd (da 29 (↑m) (1)) (sp 1 [(8,vI (↑m+1))] (ee ?_))))))));refine AM (L.sorts.toNat-(m+1)) (by omega) ?_;intro a w hS hD hW;exact ⟨J2,m+1,vS f5 ((EH L (2*(q+1)+m))++([(⟨↑q+1,↑m,NU L (↑q+1) ↑m i⟩:Debt)])).length f6,e8,(IT hJ1 hJ2),by omega,(debtsN_t hg (q:=q) (m:=m) (i:=i) (by omega) (by omega) (by omega) (by omega) (by omega)▸f3),hS.sub (.consE 5 rfl rfl (.consE 8 rfl rfl (.cons 1 rfl (.cons 2 rfl (.cons 3 rfl (.cons 6 rfl (.cons 7 rfl (.nil _)))))))),hD,hW,rfl⟩
   have i8:=h9;have h9:=KW h9;refine AQ (NB (NX (rr (sp 1 [(28,vI (↑m))] (sd (da 29 (↑m) (1)) (sp 1 [(8,vI (↑m+1))] (ee ?_)))))));refine AM (L.sorts.toNat-(m+1)) (by omega) ?_;intro a w hS hD hW;exact ⟨J2,m+1,vS b2 (EH L (2*(q+1)+m)).length b3,a1,(IT hJ1 hJ2),by omega,(debtsN_f hg (q:=q) (m:=m) (i:=i) (by omega) (by omega) (by omega) (by omega) (by omega)▸c3),hS.sub (.consE 5 rfl rfl (.consE 8 rfl rfl (.cons 1 rfl (.cons 2 rfl (.cons 3 rfl (.cons 6 rfl (.cons 7 rfl (.nil _)))))))),hD,hW,rfl⟩
  have i5:=h3;have h3:=CH h3;refine CB 2 ((EP (EP (EB (NB (NX (rr (sp 1 [(22,vI (↑q+1))] (sd (da 23 (↑q+1) (1)) (sp 1 [(7,vI ((↑q+1)+1))] (ee ?_)))))))))));refine AM (9-(q+1)) (by omega) ?_;intro a w hS hD hW;exact ⟨J1,q+1,vS b2 (EH L (2*(q+1)+m)).length b3,a1,(IT hJ0 hJ1),by omega,(debtsN_row hg (q:=q) (m:=m) (by omega) (by omega) (by omega)▸c3),hS.sub (.consE 5 rfl rfl (.consE 7 rfl (congrArg (Value.int .i64) (by omega)) (.cons 1 rfl (.cons 2 rfl (.cons 3 rfl (.cons 6 rfl (.nil _))))))),hD,hW,rfl⟩
 have i4:=h2;have h2:=leq_f h2;refine CB 0 ((EP (EP (EB (NX (rqr (sp 3 [(3,vI (0)),(2,vS c4 (EH L (2*(q+1))).length c5)] (se (BJ ?_)))))))));have hE:=owedE_2 hz;have hE2:=debtsN_end hg (q:=q) (by omega) (by omega);refine ppm (M':=((b5++(bX b1 #[vI (L.places),vI (L.sorts),vS a4 L.start.length a5,vS a6 L.keeps.length a7,vS a2 L.slips.length a3] 26)::F))) (PM.symm) (CN (t:=2) (u:=3) (b5) (by kernel_rfl) rfl rfl (TA (TC _ (TR _)) _) (IT (IT d3 b8) hJ0) ?_);exact ⟨_,_,(by rw [hE2,hE]),rfl,(hE2▸d4)⟩
noncomputable def c_EqualDebts_ct (p:List Nat):Code:=sub (AU Tryz.f34) p
theorem EqualDebts_ct (I:Imm) (a:Value) (xs:List Debt) (b:Value) (ys:List Debt) (a_f:IsDebts I a xs) (b_f:IsDebts I b ys):CtV Tryz.prog 34 #[a,b] I (.bool (decide (xs=ys))):=by
 obtain ⟨a0,a1,b1,b4,a9,b2,b3,a7⟩:=id a_f;subst a9;obtain ⟨a2,a3,b5,b8,b0,b6,b7,a8⟩:=id b_f;subst b0;refine fr (args:=[_,_]) (N:=26) Tryz.func34 (fun F=>?_);show Run _ _ (c_EqualDebts_ct []) _ _ [(0,vS a0 xs.length a1),(1,vS a2 ys.length a3)] _ _;refine rnm (rqr ?_);refine sp 1 [(4,.bool (false))] (se (rq (rqr (sp 5 [(10,.bool (!(cmp .eql (↑(xs.length)) (↑(ys.length)))))] (se (rc 10 rfl (fun h1=>?_) (fun h1=>?_)))))))
 ·
  have a4:=h1;have h1:=BL (BX h1);refine rqr (sp 1 [(4,.bool (false))] (se (BJ ((RP (AG (t:=4) [] (by kernel_rfl) rfl (TR _) (IR _) ?_))))));exact ⟨by rw [decide_eq_false (fun e=>h1 (by rw [e]))],rfl⟩
 have a4:=h1;have h1:=BI (BT h1);refine AQ (NX (rq (rqr (sp 1 [(5,vI (0))] (se (rb 0 ?_))))));refine rl (fun mz a w=>∃ k:Nat,(k≤xs.length)∧(xs.length=ys.length)∧(xs.take k=ys.take k)∧Slots 26 [(5,vI ↑k),(0,vS a0 xs.length a1),(1,vS a2 ys.length a3)] a∧a.defers=[]∧St I (F) w∧mz=xs.length-k) ?_ ?_
 ·intro a w hS hD hW;exact ⟨_,0,Nat.zero_le _,by omega,rfl,hS.sub (.cons 5 rfl (.cons 0 rfl (.cons 1 rfl (.nil _)))),hD,hW,rfl⟩
 rintro mz a w ⟨k,hk,hl,ht,hS,hD,hW,rfl⟩
 refine AS hS hD hW ?_;clear hS hD hW a w;refine rq (rqr (sp 4 [(14,.bool (cmp .lss (↑k) (↑(xs.length))))] (se (rc 14 rfl (fun h2=>?_) (fun h2=>?_)))))
 ·
  have a5:=h2;have h2:=CC h2;refine AQ (NX (rq (rb 1 (rq ?_))));refine rd0 8 (ox 2 [(18,vI (↑k)),(17,vS a0 xs.length a1)] ?_);refine AD (di 19 3 (k) a7.addr) ?_;refine AD (BN (x:=(.tmp 19)) (T:=61) (n:=3) (vs:=[vI ((xs.getD (k) DP).who),vI ((xs.getD (k) DP).sort),vI ((xs.getD (k) DP).amt)]) (d:=20) (ty:=61) (gd:=none) (by kernel_rfl) rfl (by kernel_rfl) (by kernel_rfl) rfl rfl (CO (vals:=IP) (fun _=>rfl) a7 (k) (by omega))) (ox 2 [(22,vI (↑k)),(21,vS a2 ys.length a3)] ?_);refine AD (di 23 3 (k) a8.addr) ?_;refine AD (BN (x:=(.tmp 23)) (T:=61) (n:=3) (vs:=[vI ((ys.getD (k) DP).who),vI ((ys.getD (k) DP).sort),vI ((ys.getD (k) DP).amt)]) (d:=24) (ty:=61) (gd:=none) (by kernel_rfl) rfl (by kernel_rfl) (by kernel_rfl) rfl rfl (CO (vals:=IP) (fun _=>rfl) a8 (k) (by omega))) ?_;refine AW (sd (KI (L:=[(0,.i .i64),(1,.i .i64),(2,.i .i64)]) (x:=(.tmp 20)) (y:=(.tmp 24)) (T:=61) (T':=61) (d:=25) (ty:=4) (gd:=none) (by kernel_rfl) rfl (by kernel_rfl) rfl rfl rfl (eqDebt (xs.getD (k) DP) (ys.getD (k) DP))) (se (rc 25 rfl (fun h3=>?_) (fun h3=>?_))))
  ·
   have a6:=h3;have h3:=dec_f (BX h3);refine rqr (sp 1 [(4,.bool (false))] (se (BJ ((RB (RP (RP (RB (RP (AG (t:=4) [] (by kernel_rfl) rfl (TR _) (IR _) ?_))))))))));exact ⟨by rw [decide_eq_false (PZ hl h3)],rfl⟩
  have a6:=h3;have h3:=dec_t (BT h3);refine AQ (NB (NX (rr (sp 1 [(15,vI (↑k))] (sd (da 16 (↑k) (1)) (sp 1 [(5,vI (↑k+1))] (ee ?_)))))));refine AM (xs.length-(k+1)) (by omega) ?_;intro a w hS hD hW;exact ⟨k+1,by omega,hl,JQ (d:=DP) hl ht (by omega) h3,hS.sub (.consE 5 rfl rfl (.cons 0 rfl (.cons 1 rfl (.nil _)))),hD,hW,rfl⟩
 have a5:=h2;have h2:=CH h2;refine CB 0 ((EP (EP (EB (NX (rqr (sp 1 [(4,.bool (true))] (se (BJ (AG (t:=4) [] (by kernel_rfl) rfl (TR _) (IR _) ?_))))))))));exact ⟨by rw [decide_eq_true (MZ hl ht (by omega))],rfl⟩
noncomputable def NM (p:List Nat):Code:=sub (AU Tryz.f21) p
theorem LQ (I:Imm) (l:Value) (L:Lin) (l_f:IsLin I l L) (h1:L.start.length≤1000000) (h2:∀ x∈L.start,x.length≤1000000) (h3:L.keeps.length≤1000000) (h4:L.slips.length≤1000000):Ct Tryz.prog 21 #[l] I ([]) (fun v I' M'=>∃ u1:Value,∃ u2:Value,∃ u3:Value,∃ Ms:Seg,v=.agg #[vI (L).places,vI (L).sorts,u1,u2,u3]∧M'=Ms∧IsRows I' u1 (L).start∧IE I' u2 (L).keeps∧Own 28 8 BA u3 (L).slips Ms):=by
 obtain ⟨l1,l2,l3,j4,d4,c3,c4⟩:=id l_f;subst j4;obtain ⟨a6,a7,h8,i1,h5,g4,h9,i0,i2,i3⟩:=id d4;subst g4;obtain ⟨a4,a5,i4,i7,g5,i5,i6,i8⟩:=id c3;subst g5;obtain ⟨a2,a3,i9,j2,g6,j0,j1,j3⟩:=id c4;subst g6;refine fr (args:=[_]) (N:=18) Tryz.func21 (fun F=>?_);show Run _ _ (NM []) _ _ [(0,.agg #[vI (L.places),vI (L.sorts),vS a6 L.start.length a7,vS a4 L.keeps.length a5,vS a2 L.slips.length a3])] _ _;refine rnm (rqr ?_);refine sS (sb 1 26 #[vI (L.places),vI (L.sorts),vS a6 L.start.length a7,vS a4 L.keeps.length a5,vS a2 L.slips.length a3] (fun b1=>(sS (sal 2 26 #[vI (0),vI (0),vN,vN,vN] (fun b3=>(se (rq ?_)))))));refine rdX (M:=((bX b3 #[vI (0),vI (0),vN,vN,vN] 26)::(bX b1 #[vI (L.places),vI (L.sorts),vS a6 L.start.length a7,vS a4 L.keeps.length a5,vS a2 L.slips.length a3] 26)::[])) (F0:=F) [(3,6,.sl 50),(7,10,.sl 28)] 12 [(0,true),(1,true),(4,true),(5,true),(8,true),(9,true),(2,false),(11,true),(3,false),(6,false),(7,false),(10,false)] (by simp only [AA,CA,NA,List.append_nil];exact PR _) (LV (alOk_of (ops:=FY (NM [1,0])) (i:=3) (d:=6) (by kernel_rfl) (by kernel_rfl) (by kernel_rfl)) (LV (alOk_of (ops:=FY (NM [1,0])) (i:=7) (d:=10) (by kernel_rfl) (by kernel_rfl) (by kernel_rfl)) HV)) ?_;refine AH (AR (d:=3) (v:=vP b1 2) (by kernel_rfl)) ?_;refine AH (dlb 4 1 2 b1 (vS a6 L.start.length a7)) ?_;refine BH (AR (d:=7) (v:=vP b1 3) (by kernel_rfl)) ?_;refine OW (Rx:=((bX b1 #[vI (L.places),vI (L.sorts),vS a6 L.start.length a7,vS a4 L.keeps.length a5,vS a2 L.slips.length a3] 26)::[])) (PS _ _ _) (dlb 8 0 3 b1 (vS a4 L.keeps.length a5)) ?_;refine BH (AR (d:=11) (v:=vP b1 4) (by kernel_rfl)) ?_;refine OW (Rx:=((bX b1 #[vI (L.places),vI (L.sorts),vS a6 L.start.length a7,vS a4 L.keeps.length a5,vS a2 L.slips.length a3] 26)::[])) (PS _ _ _) (dlb 12 0 4 b1 (vS a2 L.slips.length a3)) ?_;refine DX (Mx:=fun FX=>((bX b3 #[vI (0),vI (0),vN,vN,vN] 26)::(bX b1 #[vI (L.places),vI (L.sorts),vS a6 L.start.length a7,vS a4 L.keeps.length a5,vS a2 L.slips.length a3] 26)::FX)) rfl (fun FX=>by simp only [AA,CA,NA,List.append_nil];exact PR _) (fun FX=>?_);refine id (sc (some 5) (F:=((bX b3 #[vI (0),vI (0),vN,vN,vN] 26)::(bX b1 #[vI (L.places),vI (L.sorts),vS a6 L.start.length a7,vS a4 L.keeps.length a5,vS a2 L.slips.length a3] 26)::FX)) (CopyRows_ct _ _ _ d4 (by omega) (by assumption) :) (PR _) (fun j8 I5 j7 d0 h7=>?_));obtain ⟨k1,a8,b6,h0,g9,d5,c1⟩:=h7;rw [h0,g9];clear h0 g9;replace c3:=c3.mono d0;replace c4:=c4.mono d0;obtain ⟨a0,a1,d6,h6⟩:=d5.shape;subst d6;have c2:=c1.1
 try simp only [LS,LA,LC,LN,LK] at c2
 refine FR (M1:=((bX b3 #[vI (0),vI (0),vN,vN,vN] 26)::(bX b1 #[vI (L.places),vI (L.sorts),vS a6 L.start.length a7,vS a4 L.keeps.length a5,vS a2 L.slips.length a3] 26)::(b6++[]))) (by simp only [AA,CA,NA,List.append_nil];exact (PW PM)) (.part (PS _ _ _) (.none (.part (PS _ _ _) (.none (.wait (by kernel_rfl) (.wait (by kernel_rfl) .nil)))))) ?_;show OFPX _ _ _ _ _ _ _ _ _ _ ((5,vS a0 a8.length a1)::_) _ _;refine BH (AR (d:=14) (v:=vP b1 2) (by kernel_rfl)) ?_;refine ofx_al rfl (fun d7=>?_);refine DX (Mx:=fun FX=>((bX d7 #[] 50)::(bX b3 #[vI (0),vI (0),vN,vN,vN] 26)::(bX b1 #[vI (L.places),vI (L.sorts),vS a6 L.start.length a7,vS a4 L.keeps.length a5,vS a2 L.slips.length a3] 26)::(b6++FX))) rfl (fun FX=>by simp only [AA,CA,NA,List.append_nil];exact PR _) (fun FX=>?_);have g2:Own 50 3 HO (vS (some ⟨d7,0,none⟩) 0 0) ([]:List Keep) [(bX d7 #[] 50)]:=Own.lit rfl rfl;refine id (AZ (d:=9) (x:=(.tmp 6)) (y:=(.tmp 8)) (T:=23) (T':=23) (E:=50) (E':=50) (sz:=3) (bs:=24) (z:=.agg #[vI (0),vI (0),vI (0)]) (cell:=HO) (xs:=([]:List Keep)) (ys:=L.keeps) (Ms:=[(bX d7 #[] 50)]) (ty:=23) (gd:=none) (by kernel_rfl) rfl (by kernel_rfl) (by kernel_rfl) (by kernel_rfl) (by kernel_rfl) (by kernel_rfl) (by decide) (by kernel_rfl) rfl rfl (g2) (PR _) (ME _) c3.src (by first | omega | (simp only [LC,LN,LA,LK,LD];omega)) (fun k2 b8 d1=>?_));rw [NA] at d1;refine FR (M1:=((bX b3 #[vI (0),vI (0),vN,vN,vN] 26)::(bX b1 #[vI (L.places),vI (L.sorts),vS a6 L.start.length a7,vS a4 L.keeps.length a5,vS a2 L.slips.length a3] 26)::(b8++(b6++[])))) (by simp only [AA,CA,NA,List.append_nil];exact (PW PM)) (.none (.part (PS _ _ _) (.none (.wait (by kernel_rfl) (.wait (by kernel_rfl) (.wait (by kernel_rfl) (.wait (by kernel_rfl) .nil))))))) ?_;obtain ⟨a9,b0,g7,j5⟩:=d1.shape;subst g7;show OFPX _ _ _ _ _ _ _ _ _ _ ((9,vS a9 L.keeps.length b0)::_) _ _;refine ofx_al rfl (fun d8=>?_);refine DX (Mx:=fun FX=>((bX d8 #[] 28)::(bX b3 #[vI (0),vI (0),vN,vN,vN] 26)::(bX b1 #[vI (L.places),vI (L.sorts),vS a6 L.start.length a7,vS a4 L.keeps.length a5,vS a2 L.slips.length a3] 26)::(b8++(b6++FX)))) rfl (fun FX=>by simp only [AA,CA,NA,List.append_nil];exact PR _) (fun FX=>?_);have g3:Own 28 8 BA (vS (some ⟨d8,0,none⟩) 0 0) ([]:List Slip) [(bX d8 #[] 28)]:=Own.lit rfl rfl;refine id (AZ (d:=13) (x:=(.tmp 10)) (y:=(.tmp 12)) (T:=24) (T':=24) (E:=28) (E':=28) (sz:=8) (bs:=64) (z:=.agg #[vI (0),vI (0),vI (0),vI (0),vI (0),vI (0),.bool (false),vI (0)]) (cell:=BA) (xs:=([]:List Slip)) (ys:=L.slips) (Ms:=[(bX d8 #[] 28)]) (ty:=24) (gd:=none) (by kernel_rfl) rfl (by kernel_rfl) (by kernel_rfl) (by kernel_rfl) (by kernel_rfl) (by kernel_rfl) (by decide) (by kernel_rfl) rfl rfl (g3) (PR _) (DE _) c4.src (by first | omega | (simp only [LC,LN,LA,LK,LD];omega)) (fun k3 b7 d2=>?_));rw [NA] at d2;refine FR (M1:=((bX b3 #[vI (0),vI (0),vN,vN,vN] 26)::(bX b1 #[vI (L.places),vI (L.sorts),vS a6 L.start.length a7,vS a4 L.keeps.length a5,vS a2 L.slips.length a3] 26)::(b7++(b8++(b6++[]))))) (by simp only [AA,CA,NA,List.append_nil];exact (PW PM)) (.none (.wait (by kernel_rfl) (.wait (by kernel_rfl) (.wait (by kernel_rfl) (.wait (by kernel_rfl) (.wait (by kernel_rfl) (.wait (by kernel_rfl) .nil))))))) ?_;obtain ⟨b2,b4,g8,j6⟩:=d2.shape;subst g8;show OFPX _ _ _ _ _ _ _ _ _ _ ((13,vS b2 L.slips.length b4)::_) _ _;refine FW (BC (M':=((bX b3 #[vI (0),vI (0),vN,vN,vN] 26)::(bX b1 #[vI (L.places),vI (L.sorts),vS a6 L.start.length a7,vS a4 L.keeps.length a5,vS a2 L.slips.length a3] 26)::(b7++(b8++(b6++F))))) (fun w h=>by simpa only [AA,CA,NA,List.append_nil] using h) (nm ?_));refine sS (ss 1 2 b1 [vS a0 a8.length a1] [vI (L.places),vI (L.sorts),vS a0 a8.length a1,vS a4 L.keeps.length a5,vS a2 L.slips.length a3] (_::_::_) (cs:=[_,_,_,_,_]) rfl rfl (sp 1 [(15,vP b1 3)] (sS (ss 1 3 b1 [vS a9 L.keeps.length b0] [vI (L.places),vI (L.sorts),vS a0 a8.length a1,vS a9 L.keeps.length b0,vS a2 L.slips.length a3] (_::_::_) (cs:=[_,_,_,_,_]) rfl rfl (sp 1 [(16,vP b1 4)] (sS (ss 1 4 b1 [vS b2 L.slips.length b4] [vI (L.places),vI (L.sorts),vS a0 a8.length a1,vS a9 L.keeps.length b0,vS b2 L.slips.length b4] (_::_::_) (cs:=[_,_,_,_,_]) rfl rfl (se (rq ?_)))))))));refine BP (B:=((bX b3 #[vI (0),vI (0),vN,vN,vN] 26)::(bX b1 #[vI (L.places),vI (L.sorts),vS a0 a8.length a1,vS a9 L.keeps.length b0,vS b2 L.slips.length b4] 26)::(b7++(b8++F)))) undef d5 (by first | omega | (simp only [LS,LC,LN,LA,LK,LD] <;> omega) | decide) (PU (PU (PV (PO _ _ _)))) (PR _) (fun j9 c5 b9=>?_);replace c1:=c1.mono c5;obtain ⟨e8,f0,e9,f3,c8,f1,f2,f4⟩:=id b9;cases c8;have b5:=c1.isRows b9;have d3:=c1.1;obtain ⟨e0,e2,e1,e5,d9,c7,e3,e4,e6,e7⟩:=id b5
 injection c7 with fr28_e1 fr28_e2 fr28_e3;subst fr28_e1;subst fr28_e3
 refine BP (B:=((bX b3 #[vI (0),vI (0),vN,vN,vN] 26)::(bX b1 #[vI (L.places),vI (L.sorts),vS a0 a8.length a1,vS a9 L.keeps.length b0,vS b2 L.slips.length b4] 26)::(b7++F))) AJ d1 (by first | omega | (simp only [LS,LC,LN,LA,LK,LD] <;> omega) | decide) (PU (PU (PO _ _ _))) (PR _) (fun k0 c6 c0=>?_);replace b5:=b5.mono c6;obtain ⟨f5,f7,f6,g0,c9,f8,f9,g1⟩:=id c0;cases c9;refine rr (sd (dnb 17 1 0 b1 [vI (L.places),vI (L.sorts),vS a0 a8.length a1,vS a9 L.keeps.length b0,vS b2 L.slips.length b4]) (sS (ss 0 0 b3 [vI (L.places),vI (L.sorts),vS a0 a8.length a1,vS a9 L.keeps.length b0,vS b2 L.slips.length b4] [vI (L.places),vI (L.sorts),vS a0 a8.length a1,vS a9 L.keeps.length b0,vS b2 L.slips.length b4] (_::_::_) (cs:=[_,_,_,_,_]) rfl rfl (se (BJ (ppm (M':=((b7++(bX b3 #[vI (L.places),vI (L.sorts),vS a0 a8.length a1,vS a9 L.keeps.length b0,vS b2 L.slips.length b4] 26)::(bX b1 #[vI (L.places),vI (L.sorts),vS a0 a8.length a1,vS a9 L.keeps.length b0,vS b2 L.slips.length b4] 26)::F))) (PU (PM.symm)) (GL (t:=2) (T:=26) (n:=5) (b7) (by kernel_rfl) rfl (by kernel_rfl) rfl (CV (n:=5) (cs:=#[vI (L.places),vI (L.sorts),vS a0 a8.length a1,vS a9 L.keeps.length b0,vS b2 L.slips.length b4]) (b:=b3) (off:=0) (T:=26) (fz:=(0,0)) (vs:=[vI (L.places),vI (L.sorts),vS a0 a8.length a1,vS a9 L.keeps.length b0,vS b2 L.slips.length b4]) (by simp) rfl) (.inl ⟨by kernel_rfl,rfl⟩) (TA (TC _ (TC _ (TR _))) _) (IT (IT d0 c5) c6) ?_)))))));exact ⟨_,_,_,_,rfl,rfl,b5,c0,d2⟩
end Go.Proofs.YtgcemienebmdeaaGreat
namespace Go.Sh
open Go Go.Sl
def linD:Lin:=⟨0,0,[],[],[]⟩
def lvD:Int × Int × Value × Value × Value:=(0,0,undef,undef,undef)
def lvCell (t:Int × Int × Value × Value × Value):Nat→Value
  | 0=>.int .i64 t.1
  | 1=>.int .i64 t.2.1
  | 2=>t.2.2.1
  | 3=>t.2.2.2.1
  | _=>t.2.2.2.2
def LinsV (I:Imm) (xs:List (Int × Int × Value × Value × Value)) (Ls:List Lin):Prop:=xs.length=Ls.length∧∀ i,i<xs.length→IsLin I (.agg #[.int .i64 (xs.getD i lvD).1,.int .i64 (xs.getD i lvD).2.1,(xs.getD i lvD).2.2.1,(xs.getD i lvD).2.2.2.1,(xs.getD i lvD).2.2.2.2]) (Ls.getD i linD)
theorem LinsV.mono {I J:Imm} {xs:List (Int × Int × Value × Value × Value)} {Ls:List Lin} (h:LinsV I xs Ls) (le:I.le J):LinsV J xs Ls:=⟨h.1,fun i hi=>(h.2 i hi).mono le⟩
theorem LinsV.nil (I:Imm):LinsV I [] []:=⟨rfl,fun i hi=>by simp at hi⟩
theorem LinsV.snoc {I:Imm} {xs:List (Int × Int × Value × Value × Value)} {Ls:List Lin} {p q:Int} {a b c:Value} {L:Lin} (h:LinsV I xs Ls) (hL:IsLin I (.agg #[.int .i64 p,.int .i64 q,a,b,c]) L):LinsV I (xs++[(p,q,a,b,c)]) (Ls++[L]):=by
  refine ⟨by simp [h.1],fun i hi=>?_⟩;rw [List.length_append,List.length_singleton] at hi;have hl:=h.1
  by_cases hb:i<xs.length
  · have e1:(xs++[(p,q,a,b,c)]).getD i lvD=xs.getD i lvD:=by simp [List.getD,List.getElem?_append_left hb]
    have e2:(Ls++[L]).getD i linD=Ls.getD i linD:=by simp [List.getD,List.getElem?_append_left (show i<Ls.length by omega)]
    rw [e1,e2];exact h.2 i hb
  · obtain rfl:i=xs.length:=by omega
    have e1:(xs++[(p,q,a,b,c)]).getD xs.length lvD=(p,q,a,b,c):=by simp [List.getD]
    have e2:(Ls++[L]).getD xs.length linD=L:=by simp [List.getD,hl]
    rw [e1,e2];exact hL
theorem LinsV.at {I : Imm} {xs : List (Int × Int × Value × Value × Value)} {Ls : List Lin} (h : LinsV I xs Ls) {i : Nat} (hi : i < xs.length) :
    ∃ (Y:Lin) (a b c:Value),xs.getD i lvD=(Y.places,Y.sorts,a,b,c)∧Y∈Ls∧IsRows I a Y.start∧IE I b Y.keeps∧GN I c Y.slips:=by
  obtain ⟨v1,v2,v3,h1,h2,h3,h4⟩:=h.2 i hi;simp only [Value.agg.injEq] at h1;have e:=congrArg Array.toList h1;simp only [List.cons.injEq,Value.int.injEq,true_and,and_true] at e;refine ⟨Ls.getD i linD,v1,v2,v3,?_,BE (by rw [← h.1];exact hi),h2,h3,h4⟩;rw [← e.1,← e.2.1,← e.2.2.1,← e.2.2.2.1,← e.2.2.2.2]
theorem RO {I:Imm} {a:Option Addr} {b o n:Nat} {xs:List (Int × Int × Value × Value × Value)} (h:Row 5 I a b o n (fun i f=>lvCell (xs.getD i lvD) f)) {M:Seg} (i:Nat) (hi:i<n) {p q:Int} {v1 v2 v3:Value} (he:xs.getD i lvD=(p,q,v1,v2,v3)):SeesN I M b (o+i*5) [.int .i64 p,.int .i64 q,v1,v2,v3]:=fun k v hv=>by
  have hk:k<5:=(List.getElem?_eq_some_iff.1 hv).1;have hc:=h.get i hi k hk;rw [he] at hc
  match k,hk with
  | 0,_=>exact (Option.some.inj hv)▸hc.sees
  | 1,_=>exact (Option.some.inj hv)▸hc.sees
  | 2,_=>exact (Option.some.inj hv)▸hc.sees
  | 3,_=>exact (Option.some.inj hv)▸hc.sees
  | 4,_=>exact (Option.some.inj hv)▸hc.sees
end Go.Sh
namespace Go.Proofs.YtgcemienebmdeaaGreat
open Go Go.Sl Go.Sh
set_option maxRecDepth 100000
noncomputable def c_EqualSlips_ct (p:List Nat):Code:=sub (AU Tryz.f74) p
theorem EqualSlips_ct (I:Imm) (a:Value) (xs:List Slip) (b:Value) (ys:List Slip) (a_f:GN I a xs) (b_f:GN I b ys):CtV Tryz.prog 74 #[a,b] I (.bool (decide (xs=ys))):=by
 obtain ⟨a0,a1,b1,b4,a9,b2,b3,a7⟩:=id a_f;subst a9;obtain ⟨a2,a3,b5,b8,b0,b6,b7,a8⟩:=id b_f;subst b0;refine fr (args:=[_,_]) (N:=26) Tryz.func74 (fun F=>?_);show Run _ _ (c_EqualSlips_ct []) _ _ [(0,vS a0 xs.length a1),(1,vS a2 ys.length a3)] _ _;refine rnm (rqr ?_);refine sp 1 [(4,.bool (false))] (se (rq (rqr (sp 5 [(10,.bool (!(cmp .eql (↑(xs.length)) (↑(ys.length)))))] (se (rc 10 rfl (fun h1=>?_) (fun h1=>?_)))))))
 ·
  have a4:=h1;have h1:=BL (BX h1);refine rqr (sp 1 [(4,.bool (false))] (se (BJ ((RP (AG (t:=4) [] (by kernel_rfl) rfl (TR _) (IR _) ?_))))));exact ⟨by rw [decide_eq_false (fun e=>h1 (by rw [e]))],rfl⟩
 have a4:=h1;have h1:=BI (BT h1);refine AQ (NX (rq (rqr (sp 1 [(5,vI (0))] (se (rb 0 ?_))))));refine rl (fun mz a w=>∃ k:Nat,(k≤xs.length)∧(xs.length=ys.length)∧(xs.take k=ys.take k)∧Slots 26 [(5,vI ↑k),(0,vS a0 xs.length a1),(1,vS a2 ys.length a3)] a∧a.defers=[]∧St I (F) w∧mz=xs.length-k) ?_ ?_
 ·intro a w hS hD hW;exact ⟨_,0,Nat.zero_le _,by omega,rfl,hS.sub (.cons 5 rfl (.cons 0 rfl (.cons 1 rfl (.nil _)))),hD,hW,rfl⟩
 rintro mz a w ⟨k,hk,hl,ht,hS,hD,hW,rfl⟩
 refine AS hS hD hW ?_;clear hS hD hW a w;refine rq (rqr (sp 4 [(14,.bool (cmp .lss (↑k) (↑(xs.length))))] (se (rc 14 rfl (fun h2=>?_) (fun h2=>?_)))))
 ·
  have a5:=h2;have h2:=CC h2;refine AQ (NX (rq (rb 1 (rq ?_))));refine rd0 8 (ox 2 [(18,vI (↑k)),(17,vS a0 xs.length a1)] ?_);refine AD (di 19 8 (k) a7.addr) ?_;refine AD (BN (x:=(.tmp 19)) (T:=28) (n:=8) (vs:=[vI ((xs.getD (k) AB).num),vI ((xs.getD (k) AB).hour),vI ((xs.getD (k) AB).kind),vI ((xs.getD (k) AB).place),vI ((xs.getD (k) AB).to),vI ((xs.getD (k) AB).sort),.bool ((xs.getD (k) AB).soil),vI ((xs.getD (k) AB).amt)]) (d:=20) (ty:=28) (gd:=none) (by kernel_rfl) rfl (by kernel_rfl) (by kernel_rfl) rfl rfl (CO (vals:=CR) (fun _=>rfl) a7 (k) (by omega))) (ox 2 [(22,vI (↑k)),(21,vS a2 ys.length a3)] ?_);refine AD (di 23 8 (k) a8.addr) ?_;refine AD (BN (x:=(.tmp 23)) (T:=28) (n:=8) (vs:=[vI ((ys.getD (k) AB).num),vI ((ys.getD (k) AB).hour),vI ((ys.getD (k) AB).kind),vI ((ys.getD (k) AB).place),vI ((ys.getD (k) AB).to),vI ((ys.getD (k) AB).sort),.bool ((ys.getD (k) AB).soil),vI ((ys.getD (k) AB).amt)]) (d:=24) (ty:=28) (gd:=none) (by kernel_rfl) rfl (by kernel_rfl) (by kernel_rfl) rfl rfl (CO (vals:=CR) (fun _=>rfl) a8 (k) (by omega))) ?_;refine AW (sd (KI (L:=[(0,.i .i64),(1,.i .i64),(2,.i .i64),(3,.i .i64),(4,.i .i64),(5,.i .i64),(6,.b),(7,.i .i64)]) (x:=(.tmp 20)) (y:=(.tmp 24)) (T:=28) (T':=28) (d:=25) (ty:=4) (gd:=none) (by kernel_rfl) rfl (by kernel_rfl) rfl rfl rfl (eqSlip (xs.getD (k) AB) (ys.getD (k) AB))) (se (rc 25 rfl (fun h3=>?_) (fun h3=>?_))))
  ·
   have a6:=h3;have h3:=dec_f (BX h3);refine rqr (sp 1 [(4,.bool (false))] (se (BJ ((RB (RP (RP (RB (RP (AG (t:=4) [] (by kernel_rfl) rfl (TR _) (IR _) ?_))))))))));exact ⟨by rw [decide_eq_false (PZ hl h3)],rfl⟩
  have a6:=h3;have h3:=dec_t (BT h3);refine AQ (NB (NX (rr (sp 1 [(15,vI (↑k))] (sd (da 16 (↑k) (1)) (sp 1 [(5,vI (↑k+1))] (ee ?_)))))));refine AM (xs.length-(k+1)) (by omega) ?_;intro a w hS hD hW;exact ⟨k+1,by omega,hl,JQ (d:=AB) hl ht (by omega) h3,hS.sub (.consE 5 rfl rfl (.cons 0 rfl (.cons 1 rfl (.nil _)))),hD,hW,rfl⟩
 have a5:=h2;have h2:=CH h2;refine CB 0 ((EP (EP (EB (NX (rqr (sp 1 [(4,.bool (true))] (se (BJ (AG (t:=4) [] (by kernel_rfl) rfl (TR _) (IR _) ?_))))))))));exact ⟨by rw [decide_eq_true (MZ hl ht (by omega))],rfl⟩
noncomputable def c_EqualLinens (p:List Nat):Code:=sub (AU Tryz.f28) p
theorem EqualLinens_ct (I:Imm) (l:Value) (A:Lin) (m:Value) (B:Lin) (l_f:IsLin I l A) (m_f:IsLin I m B):CtV Tryz.prog 28 #[l,m] I (.bool (decide (A=B))):=by
 obtain ⟨l1,l2,l3,f7,c3,d4,c5⟩:=id l_f;subst f7;obtain ⟨b0,b2,e2,e5,e0,d2,e3,e4,e6,e7⟩:=id c3;subst d2;obtain ⟨a2,a3,e8,f1,d3,e9,f0,c4⟩:=id d4;subst d3;obtain ⟨b4,b5,f2,f5,d5,f3,f4,f6⟩:=id c5;subst d5;obtain ⟨m1,m2,m3,h9,c6,d8,c8⟩:=id m_f;subst h9;obtain ⟨b6,b7,f8,g1,e1,d6,f9,g0,g2,g3⟩:=id c6;subst d6;obtain ⟨a4,a5,g4,g7,d7,g5,g6,c7⟩:=id d8;subst d7;obtain ⟨b8,b9,g8,h7,d9,g9,h0,h8⟩:=id c8;subst d9;refine fr (args:=[_,_]) (N:=58) Tryz.func28 (fun F=>?_);show Run _ _ (c_EqualLinens []) _ _ [(0,.agg #[vI (A.places),vI (A.sorts),vS b0 A.start.length b2,vS a2 A.keeps.length a3,vS b4 A.slips.length b5]),(1,.agg #[vI (B.places),vI (B.sorts),vS b6 B.start.length b7,vS a4 B.keeps.length a5,vS b8 B.slips.length b9])] _ _;refine rnm (rqr ?_);refine sS (sb 2 26 #[vI (A.places),vI (A.sorts),vS b0 A.start.length b2,vS a2 A.keeps.length a3,vS b4 A.slips.length b5] (fun b1=>(sS (sb 3 26 #[vI (B.places),vI (B.sorts),vS b6 B.start.length b7,vS a4 B.keeps.length a5,vS b8 B.slips.length b9] (fun b3=>(sp 1 [(4,.bool (false))] (se (rq (rq ?_)))))))));refine BZ (fun a w=>Slots 58 [(2,vP b1 0),(3,vP b3 0),(4,.bool (false)),(34,.bool ((!(cmp .eql (A.places) (B.places)))||((!(cmp .eql (A.sorts) (B.sorts)))||((!(decide (A.start=B.start)))||(!(cmp .eql (↑(A.keeps.length)) (↑(B.keeps.length))))))))] a∧a.defers=[]∧St I ((bX b3 #[vI (B.places),vI (B.sorts),vS b6 B.start.length b7,vS a4 B.keeps.length a5,vS b8 B.slips.length b9] 26)::(bX b1 #[vI (A.places),vI (A.sorts),vS b0 A.start.length b2,vS a2 A.keeps.length a3,vS b4 A.slips.length b5] 26)::F) w) ?_ ?_
 ·
  refine rr (sp 1 [(6,vP b1 0)] (sd (dlb 7 1 0 b1 (vI (A.places))) (sp 1 [(8,vP b3 0)] (sd (dlb 9 0 0 b3 (vI (B.places))) (sp 2 [(11,.bool (!(cmp .eql (A.places) (B.places))))] ?_)))));refine AY 11 rfl (fun h1=>?_) (fun h1=>?_)
  ·
   have a6:=h1;have a6:=BL (BX a6);refine sp 23 [(34,.bool (true))] (ee ?_);refine AK (fun a w hS hD hW=>⟨hS.sub (.cons 2 rfl (.cons 3 rfl (.cons 4 rfl (.consE 34 rfl (congrArg Value.bool (by simp only [h1,kA,kB,kC,kD,kE,kF,kG,kH,kI,kJ])) (.nil _))))),hD,hW⟩)
  have a6:=h1;have a6:=BI (BT a6);refine sp 1 [(12,vP b1 1)] (sd (dlb 13 1 1 b1 (vI (A.sorts))) (sp 1 [(14,vP b3 1)] (sd (dlb 15 0 1 b3 (vI (B.sorts))) (sp 3 [(18,.bool (!(cmp .eql (A.sorts) (B.sorts))))] ?_))));refine AY 18 rfl (fun h2=>?_) (fun h2=>?_)
  ·
   have a7:=h2;have a7:=BL (BX a7);refine sp 16 [(34,.bool (true))] (ee ?_);refine AK (fun a w hS hD hW=>⟨hS.sub (.cons 2 rfl (.cons 3 rfl (.cons 4 rfl (.consE 34 rfl (congrArg Value.bool (by simp only [h1,h2,kA,kB,kC,kD,kE,kF,kG,kH,kI,kJ])) (.nil _))))),hD,hW⟩)
  have a7:=h2;have a7:=BI (BT a7);refine sp 1 [(19,vP b1 2)] (sd (dlb 20 1 2 b1 (vS b0 A.start.length b2)) (sp 1 [(21,vP b3 2)] (sd (dlb 22 0 2 b3 (vS b6 B.start.length b7)) (sd (dc 23 (fun I' hI=>(QQ I' _ _ _ _ (c3.mono hI) (c6.mono hI) :))) (sp 3 [(26,.bool (!(decide (A.start=B.start))))] ?_)))));refine AY 26 rfl (fun h3=>?_) (fun h3=>?_)
  ·
   have a8:=h3;have a8:=dec_f (BX a8);refine sp 8 [(34,.bool (true))] (ee ?_);refine AK (fun a w hS hD hW=>⟨hS.sub (.cons 2 rfl (.cons 3 rfl (.cons 4 rfl (.consE 34 rfl (congrArg Value.bool (by simp only [h1,h2,h3,kA,kB,kC,kD,kE,kF,kG,kH,kI,kJ])) (.nil _))))),hD,hW⟩)
  have a8:=h3;have a8:=dec_t (BT a8);refine sp 1 [(27,vP b1 3)] (sd (dlb 28 1 3 b1 (vS a2 A.keeps.length a3)) (sp 2 [(30,vP b3 3),(29,vI (↑(A.keeps.length)))] (sd (dlb 31 0 3 b3 (vS a4 B.keeps.length a5)) (sp 3 [(34,.bool (!(cmp .eql (↑(A.keeps.length)) (↑(B.keeps.length)))))] (ee ?_)))));refine AK (fun a w hS hD hW=>⟨hS.sub (.cons 2 rfl (.cons 3 rfl (.cons 4 rfl (.consE 34 rfl (congrArg Value.bool (by simp only [h1,h2,h3,kA,kB,kC,kD,kE,kF,kG,kH,kI,kJ])) (.nil _))))),hD,hW⟩)
 rintro a w ⟨hS,hD,hW⟩
 refine AS hS hD hW ?_;clear hS hD hW a w;refine rc 34 rfl (fun h4=>?_) (fun h4=>?_)
 ·
  have c1:=h4;refine rqr (sp 1 [(4,.bool (false))] (se (BJ ((RP (AG (t:=4) [] (by kernel_rfl) rfl (TC _ (TC _ (TR _))) (IR _) ?_))))));exact ⟨congrArg Value.bool ((lin_ne c1).symm),rfl⟩
 have c1:=h4;obtain ⟨c2,c9⟩:=or_f h4;have c2:=BI (BT c2);obtain ⟨a9,c0⟩:=or_f c9;have a9:=BI (BT a9);obtain ⟨a0,a1⟩:=or_f c0;have a0:=dec_t (BT a0);have a1:=BI (BT a1);refine AQ (NX (rq (rq ?_)));have hEk:=c1;refine rr (sp 1 [(5,vI (0))] (se (rb 0 ?_)));refine rl (fun mz a w=>∃ k:Nat,(k≤A.keeps.length)∧(A.keeps.length=B.keeps.length)∧(A.keeps.take k=B.keeps.take k)∧Slots 58 [(5,vI ↑k),(2,vP b1 0),(3,vP b3 0)] a∧a.defers=[]∧St I ((bX b3 #[vI (B.places),vI (B.sorts),vS b6 B.start.length b7,vS a4 B.keeps.length a5,vS b8 B.slips.length b9] 26)::(bX b1 #[vI (A.places),vI (A.sorts),vS b0 A.start.length b2,vS a2 A.keeps.length a3,vS b4 A.slips.length b5] 26)::F) w∧mz=A.keeps.length-k) ?_ ?_
 ·intro a w hS hD hW;exact ⟨_,0,Nat.zero_le _,by omega,rfl,hS.sub (.cons 5 rfl (.cons 2 rfl (.cons 3 rfl (.nil _)))),hD,hW,rfl⟩
 rintro mz a w ⟨k,hk,hl,ht,hS,hD,hW,rfl⟩
 refine AS hS hD hW ?_;clear hS hD hW a w;refine rq (rqr (sp 2 [(36,vP b1 3),(35,vI (↑k))] (sd (dlb 37 1 3 b1 (vS a2 A.keeps.length a3)) (sp 2 [(39,.bool (cmp .lss (↑k) (↑(A.keeps.length))))] (se (rc 39 rfl (fun h5=>?_) (fun h5=>?_)))))))
 ·
  have d0:=h5;have h5:=CC h5;refine AQ (NX (rq (rb 1 (rq ?_))));refine rd0 10 (ox 1 [(42,vP b1 3)] ?_);refine AD (dlb 43 1 3 b1 (vS a2 A.keeps.length a3)) (ox 1 [(44,vI (↑k))] ?_);refine AD (di 45 3 (k) c4.addr) ?_;refine AD (BN (x:=(.tmp 45)) (T:=50) (n:=3) (vs:=[vI ((A.keeps.getD (k) AJ).place),vI ((A.keeps.getD (k) AJ).hour),vI ((A.keeps.getD (k) AJ).who)]) (d:=46) (ty:=50) (gd:=none) (by kernel_rfl) rfl (by kernel_rfl) (by kernel_rfl) rfl rfl (CO (vals:=HP) (fun _=>rfl) c4 (k) (by omega))) (ox 1 [(47,vP b3 3)] ?_);refine AD (dlb 48 0 3 b3 (vS a4 B.keeps.length a5)) (ox 1 [(49,vI (↑k))] ?_);refine AD (di 50 3 (k) c7.addr) ?_;refine AD (BN (x:=(.tmp 50)) (T:=50) (n:=3) (vs:=[vI ((B.keeps.getD (k) AJ).place),vI ((B.keeps.getD (k) AJ).hour),vI ((B.keeps.getD (k) AJ).who)]) (d:=51) (ty:=50) (gd:=none) (by kernel_rfl) rfl (by kernel_rfl) (by kernel_rfl) rfl rfl (CO (vals:=HP) (fun _=>rfl) c7 (k) (by omega))) ?_;refine AW (sd (KI (L:=[(0,.i .i64),(1,.i .i64),(2,.i .i64)]) (x:=(.tmp 46)) (y:=(.tmp 51)) (T:=50) (T':=50) (d:=52) (ty:=4) (gd:=none) (by kernel_rfl) rfl (by kernel_rfl) rfl rfl rfl (eqKeep (A.keeps.getD (k) AJ) (B.keeps.getD (k) AJ))) (se (rc 52 rfl (fun h6=>?_) (fun h6=>?_))))
  ·
   have d1:=h6;have h6:=dec_f (BX h6);refine rqr (sp 1 [(4,.bool (false))] (se (BJ ((RB (RP (RP (RB (RP (AG (t:=4) [] (by kernel_rfl) rfl (TC _ (TC _ (TR _))) (IR _) ?_))))))))));exact ⟨congrArg Value.bool ((decide_eq_false (fun e=>h6 (by rw [e]))).symm),rfl⟩
  have d1:=h6;have h6:=dec_t (BT h6);refine AQ (NB (NX (rr (sp 1 [(40,vI (↑k))] (sd (da 41 (↑k) (1)) (sp 1 [(5,vI (↑k+1))] (ee ?_)))))));refine AM (A.keeps.length-(k+1)) (by omega) ?_;intro a w hS hD hW;exact ⟨k+1,by omega,hl,JQ (d:=AJ) hl ht (by omega) h6,hS.sub (.consE 5 rfl rfl (.cons 2 rfl (.cons 3 rfl (.nil _)))),hD,hW,rfl⟩
 have d0:=h5;have h5:=CH h5;refine CB 0 ((EP (EP (EB (NX (rqr (sp 1 [(53,vP b1 4)] (sd (dlb 54 1 4 b1 (vS b4 A.slips.length b5)) (sp 1 [(55,vP b3 4)] (sd (dlb 56 0 4 b3 (vS b8 B.slips.length b9)) (sd (dc 57 (fun I' hI=>(EqualSlips_ct I' _ _ _ _ (c5.mono hI) (c8.mono hI) :))) (sp 1 [(4,.bool (decide (A.slips=B.slips)))] (se (BJ (AG (t:=4) [] (by kernel_rfl) rfl (TC _ (TC _ (TR _))) (IR _) ?_)))))))))))))));exact ⟨congrArg Value.bool (lin_eq hEk hl ht (by omega)),rfl⟩
noncomputable def c_large (p:List Nat):Code:=sub (AU Tryz.f15) p
theorem large_ct (I:Imm) (l:Value) (L:Lin) (l_f:IsLin I l L):Ct Tryz.prog 15 #[l] I ([]) (fun v I' M'=>∃ lg:Bool,v=.bool (lg)∧M'=[]∧(lg=false→SmallL L)):=by
 obtain ⟨l1,l2,l3,d9,b8,c1,c3⟩:=id l_f;subst d9;obtain ⟨a0,a1,c5,c8,c4,b7,c6,c7,b3,b9⟩:=id b8;subst b7;obtain ⟨a2,a3,c9,d2,c0,d0,d1,d3⟩:=id c1;subst c0;obtain ⟨a4,a5,d4,d7,c2,d5,d6,d8⟩:=id c3;subst c2;refine fr (args:=[_]) (N:=38) Tryz.func15 (fun F=>?_);show Run _ _ (c_large []) _ _ [(0,.agg #[vI (L.places),vI (L.sorts),vS a0 L.start.length a1,vS a2 L.keeps.length a3,vS a4 L.slips.length a5])] _ _;refine rnm (rqr ?_);refine sS (sb 1 26 #[vI (L.places),vI (L.sorts),vS a0 L.start.length a1,vS a2 L.keeps.length a3,vS a4 L.slips.length a5] (fun b1=>(sp 1 [(2,.bool (false))] (se (rq (rqr (sp 1 [(3,vI (0))] (se (rb 0 ?_)))))))));refine rl (fun mz a w=>∃ k:Nat,(k≤L.start.length)∧(∀ r∈L.start.take k,r.length≤20)∧Slots 38 [(3,vI ↑k),(1,vP b1 0)] a∧a.defers=[]∧St I ((bX b1 #[vI (L.places),vI (L.sorts),vS a0 L.start.length a1,vS a2 L.keeps.length a3,vS a4 L.slips.length a5] 26)::F) w∧mz=L.start.length-k) ?_ ?_
 ·intro a w hS hD hW;exact ⟨_,0,Nat.zero_le _,(fun x h=>by simp at h),hS.sub (.cons 3 rfl (.cons 1 rfl (.nil _))),hD,hW,rfl⟩
 rintro mz a w ⟨k,hk,ha,hS,hD,hW,rfl⟩
 refine AS hS hD hW ?_;clear hS hD hW a w;refine rq (rq ?_);refine BZ (fun a w=>Slots 38 [(1,vP b1 0),(3,vI (↑k)),(12,.bool ((cmp .lss (↑k) (↑(L.start.length)))&&(cmp .lss (↑k) (20))))] a∧a.defers=[]∧St I ((bX b1 #[vI (L.places),vI (L.sorts),vS a0 L.start.length a1,vS a2 L.keeps.length a3,vS a4 L.slips.length a5] 26)::F) w) ?_ ?_
 ·
  refine rr (sp 2 [(5,vP b1 2),(4,vI (↑k))] (sd (dlb 6 0 2 b1 (vS a0 L.start.length a1)) (sp 3 [(9,.bool (cmp .lss (↑k) (↑(L.start.length))))] ?_)));refine AY 9 rfl (fun h1=>?_) (fun h1=>?_)
  ·
   have a6:=h1;have a6:=CC a6;refine sp 3 [(12,.bool (cmp .lss (↑k) (20)))] (ee ?_);refine AK (fun a w hS hD hW=>⟨hS.sub (.cons 1 rfl (.cons 3 rfl (.consE 12 rfl (congrArg Value.bool (by simp only [h1,kA,kB,kC,kD,kE,kF,kG,kH,kI,kJ])) (.nil _)))),hD,hW⟩)
  have a6:=h1;have a6:=CH a6;refine sp 3 [(12,.bool (false))] (ee ?_);refine AK (fun a w hS hD hW=>⟨hS.sub (.cons 1 rfl (.cons 3 rfl (.consE 12 rfl (congrArg Value.bool (by simp only [h1,kA,kB,kC,kD,kE,kF,kG,kH,kI,kJ])) (.nil _)))),hD,hW⟩)
 rintro a w ⟨hS,hD,hW⟩
 refine AS hS hD hW ?_;clear hS hD hW a w;refine rc 12 rfl (fun h2=>?_) (fun h2=>?_)
 ·
  have b2:=h2;obtain ⟨a9,b0⟩:=HF h2;have a9:=CC a9;have b0:=CC b0;refine AQ (NX (rq (rb 1 (rqr (sp 1 [(15,vP b1 2)] (sd (dlb 16 0 2 b1 (vS a0 L.start.length a1)) (sp 1 [(17,vI (↑k))] (sd (di 18 1 (k) b3.addr) ?_))))))));have b5:=b9 (k) (by omega);obtain ⟨e0,e2,e1,e5,b4,e3,e4,e6⟩:=id b5;rw [b4] at b5;refine sd (CG (dl 19 (FS b3 (k) (by omega))) b4) (sp 2 [(21,.bool (cmp .gtr (↑((L.start.getD (k) []).length)) (20)))] (se (rc 21 rfl (fun h3=>?_) (fun h3=>?_))))
  ·
   have b6:=h3;have h3:=IF h3;refine rqr (sp 1 [(2,.bool (true))] (se (BJ ((RB (RP (RP (RB (RP (AG (t:=2) [] (by kernel_rfl) rfl (TC _ (TR _)) (IR _) ?_))))))))));exact ⟨true,rfl,rfl,fun hq=>absurd hq (by decide)⟩
  have b6:=h3;have h3:=KW h3;refine AQ (NB (NX (rr (sp 1 [(13,vI (↑k))] (sd (da 14 (↑k) (1)) (sp 1 [(3,vI (↑k+1))] (ee ?_)))))));refine AM (L.start.length-(k+1)) (by omega) ?_;intro a w hS hD hW;exact ⟨k+1,by omega,MK (d:=[]) ha (by omega) (by omega),hS.sub (.consE 3 rfl rfl (.cons 1 rfl (.nil _))),hD,hW,rfl⟩
 have b2:=h2;refine CB 0 ((EP (EP (EB (NX (rq ?_))))));refine BZ (fun a w=>Slots 38 [(2,.bool ((cmp .gtr (↑(L.start.length)) (20))||((cmp .gtr (↑(L.keeps.length)) (20))||(cmp .gtr (↑(L.slips.length)) (20)))))] a∧a.defers=[]∧St I ((bX b1 #[vI (L.places),vI (L.sorts),vS a0 L.start.length a1,vS a2 L.keeps.length a3,vS a4 L.slips.length a5] 26)::F) w) ?_ ?_
 ·
  refine rr (sp 1 [(22,vP b1 2)] (sd (dlb 23 0 2 b1 (vS a0 L.start.length a1)) (sp 3 [(26,.bool (cmp .gtr (↑(L.start.length)) (20)))] ?_)));refine AY 26 rfl (fun h4=>?_) (fun h4=>?_)
  ·
   have a7:=h4;have a7:=IF a7;refine sp 12 [(2,.bool (true))] (ee ?_);refine AK (fun a w hS hD hW=>⟨hS.sub (.consE 2 rfl (congrArg Value.bool (by simp only [h4,kA,kB,kC,kD,kE,kF,kG,kH,kI,kJ])) (.nil _)),hD,hW⟩)
  have a7:=h4;have a7:=KW a7;refine sp 1 [(27,vP b1 3)] (sd (dlb 28 0 3 b1 (vS a2 L.keeps.length a3)) (sp 4 [(32,.bool (cmp .gtr (↑(L.keeps.length)) (20)))] ?_));refine AY 32 rfl (fun h5=>?_) (fun h5=>?_)
  ·
   have a8:=h5;have a8:=IF a8;refine sp 6 [(2,.bool (true))] (ee ?_);refine AK (fun a w hS hD hW=>⟨hS.sub (.consE 2 rfl (congrArg Value.bool (by simp only [h4,h5,kA,kB,kC,kD,kE,kF,kG,kH,kI,kJ])) (.nil _)),hD,hW⟩)
  have a8:=h5;have a8:=KW a8;refine sp 1 [(33,vP b1 4)] (sd (dlb 34 0 4 b1 (vS a4 L.slips.length a5)) (sp 4 [(2,.bool (cmp .gtr (↑(L.slips.length)) (20)))] (ee ?_)));refine AK (fun a w hS hD hW=>⟨hS.sub (.consE 2 rfl (congrArg Value.bool (by simp only [h4,h5,kA,kB,kC,kD,kE,kF,kG,kH,kI,kJ])) (.nil _)),hD,hW⟩)
 rintro a w ⟨hS,hD,hW⟩
 refine AS hS hD hW ?_;clear hS hD hW a w;refine BJ (AG (t:=2) [] (by kernel_rfl) rfl (TC _ (TR _)) (IR _) ?_);exact ⟨_,rfl,rfl,fun hq=>large_end ha b2 hq⟩
end Go.Proofs.YtgcemienebmdeaaGreat
namespace Go.Sh
open Go Go.Sl
section
variable {Y:Yard} {s:Shift} {k:Nat}
end
section
variable {Y:Yard} {goal:Yard→Bool} {d k:Nat} {ds:List Shift}
end
theorem deal_put {n k:Nat} (hk:k<n):(GA k++List.replicate (n-k) (0:Int)).set k (k:Int)=GA (k+1)++List.replicate (n-(k+1)) 0:=by
  rw [List.set_append_right _ _ (by rw [GH];omega),GH,Nat.sub_self,show n-k=(n-(k+1))+1 by omega,List.replicate_succ,List.set_cons_zero,wholeL_succ];simp
theorem swap_perm {l:List Int} {i j:Nat} (hi:i<l.length) (hj:j<l.length):((l.set i (l.getD j 0)).set j (l.getD i 0)).Perm l:=by
  have e1:l.getD i 0=l[i]:=by simp [List.getD,hi]
  have e2:l.getD j 0=l[j]:=by simp [List.getD,hj]
  rw [e1,e2];exact List.set_set_perm hi hj
end Go.Sh
namespace Go.Sl
open Go
theorem own_val_int {E:TypeId} {v:Value} {M:Seg} {vs:List Value} {ys:List Int} (h:Own E 1 DF v vs M) (he:vs=ys.map fun n=>Value.int .i64 n):Own E 1 AN v ys M:=by
  have e1:CL 1 DF vs=CL 1 AN ys:=by
    rw [he,encL_vals];simp only [CL,AN,List.range_one,List.map_cons,List.map_nil];exact List.map_eq_flatMap
  have e2:vs.length=ys.length:=by rw [he,List.length_map]
  rcases h with ⟨hv,hx,hM⟩ | ⟨b,c,sp,hv,hc,hM,hl⟩
  · refine .inl ⟨hv,?_,hM⟩
    rw [hx] at e2;exact List.length_eq_zero_iff.1 e2.symm
  · exact .inr ⟨b,c,sp,by rw [hv,e2],by rw [← e2];exact hc,by rw [← e1];exact hM,by rw [← e1];exact hl⟩
end Go.Sl
namespace Go.Sh
open Go Go.Sl
end Go.Sh
namespace Go.Proofs.YtgcemienebmdeaaGreat
open Go Go.Sl Go.Sh
set_option maxRecDepth 100000
noncomputable def c_Deal (p:List Nat):Code:=sub (AU Tryz.f53) p
theorem Deal_ct (I:Imm) (p:Nat) (p_s:Int) (n:Nat) (hn:n≤1000):Ct Tryz.prog 53 #[vP p 0,vI ↑n] I ([(bX p #[.int .u64 (p_s)] 91)]) (fun v I' M'=>∃ p_t:Int,∃ l:List Int,∃ u:Value,∃ Ms:Seg,v=u∧M'=[(bX p #[.int .u64 (p_t)] 91)]++(Ms)∧(l.Perm (GA n))∧Own 3 1 AN u (l) Ms):=by
 refine fr (args:=[_,_]) (N:=45) Tryz.func53 (fun F=>?_);show Run _ _ (c_Deal []) _ _ [(0,vP p 0),(1,vI (↑n))] _ _;refine rnm (rqr ?_);refine sp 1 [(4,vN)] (sn (sp 2 [(10,vI ((if (↑n:Int)<(0:Int) then 0 else ↑n)))] (EE 10 rfl (show (vI ((if (↑n:Int)<(0:Int) then 0 else ↑n)):Value)=vI (↑n) from congrArg (Value.int .i64) (by split <;> omega)) (sS (PD (d:=11) (x:=(.tmp 10)) (T:=29) (E:=3) (bs:=8) (n:=n) (z:=vI (0)) (zv:=vI (0)) (ty:=29) (gd:=none) (by kernel_rfl) rfl (by kernel_rfl) (by kernel_rfl) (by kernel_rfl) rfl (by kernel_rfl) (by decide) rfl (by omega) (fun b1=>?_))))));have d5:Own 3 1 DF (vS (some ⟨b1,0,none⟩) n n) (List.replicate n (vI (0))) [(b1,Obj.cells (List.replicate n (vI (0))).toArray 3 (0,0))]:=Own.made _;obtain ⟨mS4,hmS4⟩:∃ X:Seg,X=[(b1,Obj.cells (List.replicate n (vI (0))).toArray 3 (0,0))]:=⟨_,rfl⟩;rw [← hmS4] at d5;refine BC (I':=I) (M':=((mS4++(bX p #[.int .u64 (p_s)] 91)::F))) (fun w h=>by rw [hmS4];exact h) (pm (M':=((bX p #[.int .u64 (p_s)] 91)::(mS4++F))) PM ?_);have d1:=own_val_int (ys:=List.replicate n (0:Int)) d5 (by rw [List.map_replicate]);refine sp 1 [(5,vS (some ⟨b1,0,none⟩) n n)] (se (rq (rqr (sp 1 [(6,vI (0))] (se (rb 0 ?_))))));refine rl (fun mz a w=>∃ k:Nat,∃ b2:Value,∃ a7:Seg,(k≤n)∧(Own 3 1 AN b2 ((GA k++List.replicate (n-k) (0:Int))) a7)∧Slots 45 [(5,b2),(6,vI ↑k),(0,vP p 0),(1,vI (↑n)),(4,vN)] a∧a.defers=[]∧St I ((bX p #[.int .u64 (p_s)] 91)::(a7++F)) w∧mz=n-k) ?_ ?_
 ·intro a w hS hD hW;exact ⟨_,0,vS (some ⟨b1,0,none⟩) n n,mS4,Nat.zero_le _,(show Own _ _ _ _ (GA 0++List.replicate (n-0) (0:Int)) _ from d1),hS.sub (.cons 5 rfl (.cons 6 rfl (.cons 0 rfl (.cons 1 rfl (.cons 4 rfl (.nil _)))))),hD,hW,rfl⟩
 rintro mz a w ⟨k,b2,a7,hk,a8,hS,hD,hW,rfl⟩
 refine AS hS hD hW ?_;clear hS hD hW a w;obtain ⟨a5,a6,b4,c6⟩:=a8.shape;subst b4;have d7:=GH k;have e6:(GA k++List.replicate (n-k) (0:Int)).length=n:=by rw [LA,d7,List.length_replicate];omega
 refine rq (rqr (sp 3 [(14,.bool (cmp .lss (↑k) (↑n)))] (se (rc 14 rfl (fun h1=>?_) (fun h1=>?_)))))
 ·
  have c8:=h1;have h1:=CC h1;refine AQ (NX (rq (rb 1 (rr (sp 3 [(19,vI (↑k)),(18,vI (↑k)),(17,vS a5 ((GA k++List.replicate (n-k) (0:Int))).length a6)] ?_)))));obtain ⟨e7,c5⟩:=a8.row 0;refine sd (di 20 1 (k) c5.addr) (sS (BD (T:=3) (x:=(.tmp 20)) (y:=(.tmp 19)) (rc:=fun i f=>AN (((GA k++List.replicate (n-k) (0:Int))).getD i 0) f) 0 (k) 0 (↑k) (ty:=0) (gd:=none) (by kernel_rfl) rfl a8 c5 (by omega) (by decide) rfl rfl (by kernel_rfl) rfl rfl (by intro f hf;match f,hf with | 0,_=>rfl) (PM.symm) (fun d4 d6=>(pm (M':=((bX p #[.int .u64 (p_s)] 91)::(d4++F))) PM (ee (NB (NX (rr (sp 1 [(15,vI (↑k))] (sd (da 16 (↑k) (1)) (sp 1 [(6,vI (↑k+1))] (ee ?_))))))))))));refine AM (n-(k+1)) (by omega) ?_;intro a w hS hD hW;exact ⟨k+1,vS a5 ((GA k++List.replicate (n-k) (0:Int))).length a6,d4,by omega,(by rw [← deal_put (by omega)];exact d6),hS.sub (.consE 5 rfl rfl (.consE 6 rfl rfl (.cons 0 rfl (.cons 1 rfl (.cons 4 rfl (.nil _)))))),hD,hW,rfl⟩
 have c8:=h1;have h1:=CH h1;refine CB 0 ((EP (EP (EB (NX (rq (rqr (sp 1 [(21,vI (↑n))] (sd (dsb 22 (↑n) (1)) (sp 1 [(7,vI (↑n-1))] (se (rb 2 ?_))))))))))));refine rl (fun mz a w=>∃ J1:Imm,∃ k:Nat,∃ zs:List Int,∃ s:Int,∃ b3:Value,∃ a2:Seg,(I.le J1)∧(k≤n)∧(zs.Perm (GA n))∧(Own 3 1 AN b3 (zs) a2)∧Slots 45 [(5,b3),(7,vI (↑k-1)),(0,vP p 0),(4,vN)] a∧a.defers=[]∧St J1 ((bX p #[.int .u64 (s)] 91)::(a2++F)) w∧mz=k+1) ?_ ?_
 ·intro a w hS hD hW;exact ⟨_,I,n,(GA n),p_s,vS a5 ((GA k++List.replicate (n-k) (0:Int))).length a6,a7,IR _,Nat.le_refl _,PR _,((show (GA k++List.replicate (n-k) (0:Int))=GA n from by rw [show k=n by omega,Nat.sub_self,List.replicate_zero,List.append_nil])▸a8),hS.sub (.cons 5 rfl (.cons 7 rfl (.cons 0 rfl (.cons 4 rfl (.nil _))))),hD,hW,rfl⟩
 rintro mz a w ⟨J1,k,zs,s,b3,a2,hJ1,hk,d3,a3,hS,hD,hW,rfl⟩
 refine AS hS hD hW ?_;clear hS hD hW a w;obtain ⟨a0,a1,b5,c7⟩:=a3.shape;subst b5;have d8:=d3.length_eq;rw [GH] at d8;refine rq (rqr (sp 2 [(24,.bool (cmp .gtr (↑k-1) (0)))] (se (rc 24 rfl (fun h2=>?_) (fun h2=>?_)))))
 ·
  have c9:=h2;have h2:=IF h2;refine AQ (NX (rq (rb 3 (rqr (sp 2 [(28,vI (↑k-1)),(27,vP p 0)] (sS (sc (some 29) (F:=((a2++F))) (PN _ (p) (s) (↑k-1) (by omega) :) (.refl _) (fun e5 I9 e4 c1 d2=>?_))))))));obtain ⟨a4,a9,c4,c2,e3⟩:=d2;rw [c4,c2];clear c4 c2;refine nm ?_;refine sp 1 [(8,vI (↑a9))] (se ?_);refine rdX (M:=((bX p #[.int .u64 (a4)] 91)::(a2++[]))) (F0:=F) [] 14 [(0,true),(1,true),(2,true),(3,true),(4,true),(5,true),(6,true),(7,true),(8,true),(9,true),(10,true),(11,true),(12,true),(13,false)] (by simp only [AA,CA,NA,List.append_nil];exact PR _) HV ?_;refine AH (AR (d:=30) (v:=vS a0 zs.length a1) (by kernel_rfl)) ?_;refine AH (AR (d:=31) (v:=vI (↑k-1)) (by kernel_rfl)) ?_;refine BH (AR (d:=32) (v:=vS a0 zs.length a1) (by kernel_rfl)) ?_;refine BH (AR (d:=33) (v:=vI (↑a9)) (by kernel_rfl)) ?_;refine AH (AR (d:=34) (v:=vS a0 zs.length a1) (by kernel_rfl)) ?_;refine AH (AR (d:=35) (v:=vI (↑a9)) (by kernel_rfl)) ?_;obtain ⟨d9,b6⟩:=a3.row 0;refine AH (di 36 1 (a9) b6.addr) ?_;refine AH (dl 37 (b6.get (a9) (by omega) 0 (by decide) _ _ (fun x hx=>by simp [hx]))) ?_;refine AH (AR (d:=38) (v:=vS a0 zs.length a1) (by kernel_rfl)) ?_;refine AH (AR (d:=39) (v:=vI (↑k-1)) (by kernel_rfl)) ?_;obtain ⟨e0,b7⟩:=a3.row 0;refine AH (diI 40 1 (↑k-1) b7.addr) ?_;refine AH (dl 41 (b7.get ((↑k-1:Int).toNat) (by omega) 0 (by decide) _ _ (fun x hx=>by simp [hx]))) ?_;obtain ⟨e1,b8⟩:=a3.row 0;refine AH (diI 42 1 (↑k-1) b8.addr) ?_;refine DX (Mx:=fun FX=>((bX p #[.int .u64 (a4)] 91)::(a2++FX))) rfl (fun FX=>by simp only [AA,CA,NA,List.append_nil];exact PR _) (fun FX=>?_);refine id (BD (T:=3) (x:=(.tmp 42)) (y:=(.tmp 37)) (rc:=fun i f=>AN ((zs).getD i 0) f) 0 ((↑k-1:Int).toNat) 0 (zs.getD (a9) 0) (ty:=0) (gd:=none) (by kernel_rfl) rfl a3 b8 (by omega) (by decide) rfl rfl (by kernel_rfl) rfl rfl (by intro f hf;match f,hf with | 0,_=>rfl) (PM.symm) (fun b9 c3=>?_));refine FR (M1:=((bX p #[.int .u64 (a4)] 91)::(b9++[]))) (by simp only [AA,CA,NA,List.append_nil];exact PM) (.wait (by kernel_rfl) (.wait (by kernel_rfl) (.wait (by kernel_rfl) (.wait (by kernel_rfl) (.wait (by kernel_rfl) (.wait (by kernel_rfl) (.wait (by kernel_rfl) (.wait (by kernel_rfl) (.wait (by kernel_rfl) (.none (.none (.wait (by kernel_rfl) (.wait (by kernel_rfl) .nil))))))))))))) ?_;refine FW (BC (M':=((bX p #[.int .u64 (a4)] 91)::(b9++F))) (fun w h=>by simpa only [AA,CA,NA,List.append_nil] using h) (nm ?_));obtain ⟨e2,b0⟩:=c3.row 0;simp only [LS] at b0;refine sd (di 43 1 (a9) (fun _=>b0.addr (by omega)) (n:=zs.length)) (sS (BD (T:=3) (x:=(.tmp 43)) (y:=(.tmp 41)) (rc:=fun i f=>AN ((zs.set ((↑k-1:Int).toNat) (zs.getD (a9) 0)).getD i 0) f) 0 (a9) 0 (zs.getD ((↑k-1:Int).toNat) 0) (ty:=0) (gd:=none) (by kernel_rfl) rfl c3 (by simpa only [LS] using b0) (by simp only [LS];omega) (by decide) rfl rfl (by kernel_rfl) rfl rfl (by intro f hf;match f,hf with | 0,_=>rfl) (PM.symm) (fun c0 d0=>(pm (M':=((bX p #[.int .u64 (a4)] 91)::(c0++F))) PM (ee (NB (NX (rr (sp 1 [(25,vI (↑k-1))] (sd (dsb 26 (↑k-1) (1)) (sp 1 [(7,vI ((↑k-1)-1))] (ee ?_))))))))))));refine AM (k-1+1) (by omega) ?_;intro a w hS hD hW;exact ⟨I9,k-1,(zs.set ((↑k-1:Int).toNat) (zs.getD (a9) 0)).set (a9) (zs.getD ((↑k-1:Int).toNat) 0),a4,vS a0 zs.length a1,c0,(IT hJ1 c1),by omega,(swap_perm (by omega) (by omega)).trans d3,d0,hS.sub (.consE 5 rfl rfl (.consE 7 rfl (congrArg (Value.int .i64) (by omega)) (.cons 0 rfl (.cons 4 rfl (.nil _))))),hD,hW,rfl⟩
 have c9:=h2;have h2:=KW h2;refine CB 2 ((EP (EP (EB (NX (rqr (sp 2 [(4,vS a0 zs.length a1)] (se (BJ (AG (t:=4) ([(bX p #[.int .u64 (s)] 91)]++(a2)) (by kernel_rfl) rfl (by simp only [AA,NA,CA];exact (TK _ (TA (TR _) _))) hJ1 ?_))))))))));exact ⟨_,_,_,_,rfl,rfl,d3,a3⟩
noncomputable def c_Shuffled (p:List Nat):Code:=sub (AU Tryz.f18) p
theorem Shuffled_ct (I:Imm) (p:Nat) (p_s:Int) (l:Value) (L:Lin) (l_f:IsLin I l L) (hg:GoodL L):Ct Tryz.prog 18 #[vP p 0,l] I ([(bX p #[.int .u64 (p_s)] 91)]) (fun v I' M'=>∃ p_t:Int,∃ B:Lin,∃ u:Value,v=u∧M'=[(bX p #[.int .u64 (p_t)] 91)]∧(SameB L B)∧IsLin I' u (B)):=by
 obtain ⟨l1,l2,l3,k7,c4,c5,c6⟩:=id l_f;subst k7;obtain ⟨a9,b0,j2,j5,i8,g8,j3,j4,j6,j7⟩:=id c4;subst g8;obtain ⟨b2,b4,j8,k1,g9,j9,k0,k2⟩:=id c5;subst g9;obtain ⟨a6,a7,k3,k6,h0,k4,k5,c2⟩:=id c6;subst h0;refine fr (args:=[_,_]) (N:=34) Tryz.func18 (fun F=>?_);show Run _ _ (c_Shuffled []) _ _ [(0,vP p 0),(1,.agg #[vI (L.places),vI (L.sorts),vS a9 L.start.length b0,vS b2 L.keeps.length b4,vS a6 L.slips.length a7])] _ _;refine rnm ?_;have m2:L.start.length≤1000000:=by have h1:=hg.start;have h2:=hg.places;omega
 have m3:∀ x∈L.start,x.length≤1000000:=fun x hx=>by have h1:=hg.rows x hx;have h2:=hg.sorts;omega
 have m4:L.keeps.length≤1000000:=by have h1:=hg.keeps;omega
 have m5:L.slips.length≤1000000:=by have h1:=hg.slips;omega
 have m1:=hg.slips;refine rqr (sS (sb 3 26 #[vI (L.places),vI (L.sorts),vS a9 L.start.length b0,vS b2 L.keeps.length b4,vS a6 L.slips.length a7] (fun b1=>(sS (sal 4 26 #[vI (0),vI (0),vN,vN,vN] (fun b3=>(sn (sp 2 [(9,vP b1 4),(8,vP p 0)] (sd (dlb 10 1 4 b1 (vS a6 L.slips.length a7)) (sp 1 [(11,vI (↑(L.slips.length)))] (sS (sc (some 12) (F:=((bX b3 #[vI (0),vI (0),vN,vN,vN] 26)::(bX b1 #[vI (L.places),vI (L.sorts),vS a9 L.start.length b0,vS b2 L.keeps.length b4,vS a6 L.slips.length a7] 26)::F)) (Deal_ct _ (p) (p_s) (L.slips.length) (by omega) :) ((PC _ (PS _ _ _)).trans (PS _ _ _)) (fun l4 I5 k9 d0 j1=>?_)))))))))))));obtain ⟨a8,b8,m9,e0,i7,i6,h3,e7⟩:=j1;rw [i7,i6];clear i7 i6;replace c4:=c4.mono d0;replace c5:=c5.mono d0;replace c6:=c6.mono d0;replace c2:=c2.mono d0;obtain ⟨d1,d2,e9,i9⟩:=e7.shape;subst e9;refine BC (M':=((bX p #[.int .u64 (a8)] 91)::(e0++(bX b3 #[vI (0),vI (0),vN,vN,vN] 26)::(bX b1 #[vI (L.places),vI (L.sorts),vS a9 L.start.length b0,vS b2 L.keeps.length b4,vS a6 L.slips.length a7] 26)::F))) (fun w h=>by simpa only [AA,CA,NA] using h) (pm (M':=((bX p #[.int .u64 (a8)] 91)::(bX b3 #[vI (0),vI (0),vN,vN,vN] 26)::(bX b1 #[vI (L.places),vI (L.sorts),vS a9 L.start.length b0,vS b2 L.keeps.length b4,vS a6 L.slips.length a7] 26)::(e0++F))) (PC _ (PW PM)) ?_);have f0:=h3;have m6:=pick_len f0;refine sfz (A:=((bX p #[.int .u64 (a8)] 91)::(bX b3 #[vI (0),vI (0),vN,vN,vN] 26)::(bX b1 #[vI (L.places),vI (L.sorts),vS a9 L.start.length b0,vS b2 L.keeps.length b4,vS a6 L.slips.length a7] 26)::F)) 0 e7 (PU (PU (PM.symm))) (fun l9 c1 d6=>?_);replace c4:=c4.mono c1;replace c5:=c5.mono c1;replace c6:=c6.mono c1;replace c2:=c2.mono c1;obtain ⟨f2,f4,f3,f7,d5,f5,f6,b7⟩:=id d6;cases d5;refine sp 1 [(5,vS d1 b8.length d2)] (sn (sd (dnb 13 2 0 b1 [vI (L.places),vI (L.sorts),vS a9 L.start.length b0,vS b2 L.keeps.length b4,vS a6 L.slips.length a7]) (sS (sc (some 14) (LQ _ _ (L) (EG c4 c5 c6) (by assumption) (by assumption) (by assumption) (by assumption) :) (.refl _) (fun l5 j0 l0 c8 g7=>?_)))));obtain ⟨l6,l7,l8,e1,e4,e3,e6,e5,e8⟩:=g7;rw [e4,e3];clear e4 e3;replace c2:=c2.mono c8;replace b7:=b7.mono c8;have b9:=e6;have c0:=e5;obtain ⟨a2,a3,h4,h7,f1,d7,h5,h6,h8,h9⟩:=id b9;obtain ⟨a4,a5,i0,i3,d8,i1,i2,i4⟩:=id c0;subst d7;subst d8;obtain ⟨a0,a1,d9,i5⟩:=e8.shape;subst d9;refine pm (M':=((bX p #[.int .u64 (a8)] 91)::(bX b3 #[vI (0),vI (0),vN,vN,vN] 26)::(bX b1 #[vI (L.places),vI (L.sorts),vS a9 L.start.length b0,vS b2 L.keeps.length b4,vS a6 L.slips.length a7] 26)::(e1++F))) (PW (PW PM)) (sS (sal 6 26 #[vI (0),vI (0),vN,vN,vN] (fun d3=>(sS (ss 0 0 d3 [vI (L.places),vI (L.sorts),vS a2 L.start.length a3,vS a4 L.keeps.length a5,vS a0 L.slips.length a1] [vI (L.places),vI (L.sorts),vS a2 L.start.length a3,vS a4 L.keeps.length a5,vS a0 L.slips.length a1] (_::_::_::_::_) (cs:=[_,_,_,_,_]) rfl rfl (se (rq (rqr (sp 1 [(7,vI (0))] (se (rb 0 ?_)))))))))));refine rl (fun mz a w=>∃ k:Nat,∃ b5:Seg,(k≤L.slips.length)∧(Own 28 8 BA (vS a0 L.slips.length a1) ((LO L (b8.take k)++L.slips.drop k)) b5)∧Slots 34 [(7,vI ↑k),(3,vP b1 0),(4,vP b3 0),(5,vS d1 b8.length d2),(6,vP d3 0)] a∧a.defers=[]∧St j0 ((bX d3 #[vI (L.places),vI (L.sorts),vS a2 L.start.length a3,vS a4 L.keeps.length a5,(vS a0 L.slips.length a1)] 26)::(bX p #[.int .u64 (a8)] 91)::(bX b3 #[vI (0),vI (0),vN,vN,vN] 26)::(bX b1 #[vI (L.places),vI (L.sorts),vS a9 L.start.length b0,vS b2 L.keeps.length b4,vS a6 L.slips.length a7] 26)::(b5++F)) w∧mz=L.slips.length-k) ?_ ?_
 ·intro a w hS hD hW;exact ⟨_,0,e1,Nat.zero_le _,e8,hS.sub (.cons 7 rfl (.cons 3 rfl (.cons 4 rfl (.cons 5 rfl (.cons 6 rfl (.nil _)))))),hD,hW,rfl⟩
 rintro mz a w ⟨k,b5,hk,b6,hS,hD,hW,rfl⟩
 refine AS hS hD hW ?_;clear hS hD hW a w;have m8:(LO L (b8.take k)++L.slips.drop k).length=L.slips.length:=by rw [LA,OX (by omega),LD];omega
 refine rq (rqr (sp 4 [(18,.bool (cmp .lss (↑k) (↑(b8.length))))] (se (rc 18 rfl (fun h1=>?_) (fun h1=>?_)))))
 ·
  have g5:=h1;have h1:=CC h1;refine AQ (NX (rq (rb 1 ?_)));have m7:=pick_rng f0 (k:=k) (by omega);refine rd0 11 (ox 1 [(21,vP d3 4)] ?_);refine AD (dlb 22 0 4 d3 (vS a0 L.slips.length a1)) (ox 2 [(24,vP b1 4),(23,vI (↑k))] ?_);refine AD (dlb 25 3 4 b1 (vS a6 L.slips.length a7)) (ox 2 [(27,vI (↑k)),(26,vS d1 b8.length d2)] ?_);refine AD (di 28 1 (k) b7.addr) ?_;refine AD (dl 29 (DB b7 (k) (by omega))) ?_;refine AD (diI 30 8 (b8.getD (k) 0) c2.addr) ?_;refine AD (BN (x:=(.tmp 30)) (T:=28) (n:=8) (vs:=[vI ((L.slips.getD ((b8.getD (k) 0:Int).toNat) AB).num),vI ((L.slips.getD ((b8.getD (k) 0:Int).toNat) AB).hour),vI ((L.slips.getD ((b8.getD (k) 0:Int).toNat) AB).kind),vI ((L.slips.getD ((b8.getD (k) 0:Int).toNat) AB).place),vI ((L.slips.getD ((b8.getD (k) 0:Int).toNat) AB).to),vI ((L.slips.getD ((b8.getD (k) 0:Int).toNat) AB).sort),.bool ((L.slips.getD ((b8.getD (k) 0:Int).toNat) AB).soil),vI ((L.slips.getD ((b8.getD (k) 0:Int).toNat) AB).amt)]) (d:=31) (ty:=28) (gd:=none) (by kernel_rfl) rfl (by kernel_rfl) (by kernel_rfl) rfl rfl (CO (vals:=CR) (fun _=>rfl) c2 ((b8.getD (k) 0:Int).toNat) (by omega))) ?_;refine AW ?_;obtain ⟨k8,d4⟩:=b6.row AB;refine sd (di 32 8 (k) (fun _=>d4.addr (by omega)) (n:=L.slips.length)) (sS (FF (T:=28) (x:=(.tmp 32)) (y:=(.tmp 31)) (rc:=fun i f=>BA (((LO L (b8.take k)++L.slips.drop k)).getD i AB) f) AB (k) (L.slips.getD ((b8.getD (k) 0:Int).toNat) AB) (ty:=0) (gd:=none) (by kernel_rfl) rfl b6 d4 (by omega) rfl rfl (by kernel_rfl) rfl (MC _) (PU (PU (PU (PM.symm)))) (fun e2 g6=>(pm (M':=((bX d3 #[vI (L.places),vI (L.sorts),vS a2 L.start.length a3,vS a4 L.keeps.length a5,vS a0 L.slips.length a1] 26)::(bX p #[.int .u64 (a8)] 91)::(bX b3 #[vI (0),vI (0),vN,vN,vN] 26)::(bX b1 #[vI (L.places),vI (L.sorts),vS a9 L.start.length b0,vS b2 L.keeps.length b4,vS a6 L.slips.length a7] 26)::(e2++F))) (PW (PW (PW PM))) (ee (NB (NX (rr (sp 1 [(19,vI (↑k))] (sd (da 20 (↑k) (1)) (sp 1 [(7,vI (↑k+1))] (ee ?_))))))))))));refine AM (L.slips.length-(k+1)) (by omega) ?_;intro a w hS hD hW;exact ⟨k+1,e2,by omega,(by rw [← pick_step f0 (by omega)];exact g6),hS.sub (.consE 7 rfl rfl (.cons 3 rfl (.cons 4 rfl (.cons 5 rfl (.cons 6 rfl (.nil _)))))),hD,hW,rfl⟩
 have g5:=h1;have h1:=CH h1;refine CB 0 ((EP (EP (EB (NX (rq ?_))))));refine BP (B:=((bX d3 #[vI (L.places),vI (L.sorts),vS a2 L.start.length a3,vS a4 L.keeps.length a5,vS a0 L.slips.length a1] 26)::(bX p #[.int .u64 (a8)] 91)::(bX b3 #[vI (0),vI (0),vN,vN,vN] 26)::(bX b1 #[vI (L.places),vI (L.sorts),vS a9 L.start.length b0,vS b2 L.keeps.length b4,vS a6 L.slips.length a7] 26)::F)) AB b6 (by first | omega | (simp only [LS,LC,LN,LA,LK,LD] <;> omega) | decide) (PU (PU (PU (PM.symm)))) (PR _) (fun m0 c9 c3=>?_);replace b9:=b9.mono c9;replace c0:=c0.mono c9;obtain ⟨f8,g0,f9,g3,c7,g1,g2,g4⟩:=id c3
 first | cases c7 | (injection c7 with fz42_e1 fz42_e2 fz42_e3;subst fz42_e1;subst fz42_e3;try rw [← fz42_e2] at c3)
 refine rr (sd (dnb 33 0 0 d3 [vI (L.places),vI (L.sorts),vS a2 L.start.length a3,vS a4 L.keeps.length a5,vS a0 L.slips.length a1]) (sS (ss 2 0 b3 [vI (L.places),vI (L.sorts),vS a2 L.start.length a3,vS a4 L.keeps.length a5,vS a0 L.slips.length a1] [vI (L.places),vI (L.sorts),vS a2 L.start.length a3,vS a4 L.keeps.length a5,vS a0 L.slips.length a1] (_::_::_::_::_) (cs:=[_,_,_,_,_]) rfl rfl (se (BJ (ppm (PS _ _ _) (GL (t:=4) (T:=26) (n:=5) ([(bX p #[.int .u64 (a8)] 91)]) (by kernel_rfl) rfl (by kernel_rfl) rfl (CV (n:=5) (cs:=#[vI (L.places),vI (L.sorts),vS a2 L.start.length a3,vS a4 L.keeps.length a5,vS a0 L.slips.length a1]) (b:=b3) (off:=0) (T:=26) (fz:=(0,0)) (vs:=[vI (L.places),vI (L.sorts),vS a2 L.start.length a3,vS a4 L.keeps.length a5,vS a0 L.slips.length a1]) (by simp) rfl) (.inl ⟨by kernel_rfl,rfl⟩) (TK _ (TC _ (TC _ (TC _ (TR _))))) (IT (IT (IT d0 c1) c8) c9) ?_)))))));exact ⟨_,⟨L.places,L.sorts,L.start,L.keeps,(LO L (b8.take k)++L.slips.drop k)⟩,_,rfl,rfl,shuf_same f0 (by omega),(EG b9 c0 c3)⟩
end Go.Proofs.YtgcemienebmdeaaGreat

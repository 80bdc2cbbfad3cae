/- A part of the proof of the laws of this seat. -/
import Derived.Test.YtgcemienebmdeaaP2
import Derived.Test.YtgcemienebmdeaaP3
import Derived.Test.YtgcemienebmdeaaP1
set_option linter.unusedVariables false
set_option linter.unusedSimpArgs false
namespace Go.Sl
open Go
section
variable {P:Program} {N:Nat} {ops:Array Oper} {i:Nat} {l:Sl} {I:Imm} {M:Seg} {ty:TypeId} {gd:Option (Nat × Bool)} {K:Sl→Imm→Seg→Prop}
theorem LJ {α:Type} {sz:Nat} {cell:α→Nat→Value} {xs:List α} {k:Nat}:BS sz cell xs=BS sz cell (xs.take k)++BS sz cell (xs.drop k):=by simp only [BS];rw [← List.flatMap_append,List.take_append_drop]
theorem stp_appendCut {α : Type} {d : Nat} {x y : Operand} {T T' E E' sz : Nat} {cell : α → Nat → Value} {a : Option Addr} {n c k : Nat} {xs : List α} {Ms Rest : Seg}
    (hop:FE ops N i=some (some d,.call { callee:=.builtin .append,args:=#[x,y],argTypes:=#[T,T'] },ty,gd)) (hg:ET ops l gd=some true)
    (hT:GU P T=some E) (hsz:EE P E=some sz) (hT':GU P T'=some E')
    (hx:BT l x=some (.slice a k c)) (hy:BT l y=some (.slice (if c=k+1 then a else a.map (·.add ((k+1)*sz))) (n-(k+1)) (c-(k+1))))
    (own:Own E sz cell (.slice a n c) xs Ms) (hk:k<n) (hM:M.Perm (Ms++Rest)) (hone:∀ c∈BS sz cell xs,CH c=true)
    (next:∀ Ms',Own E sz cell (.slice a (n-1) c) (xs.eraseIdx k) Ms'→K ((d,.slice a (n-1) c)::l) I (Ms'++Rest)):Stp P N ops i l I M K:=by
  refine HL hop hg ?_ hM ?_
  · intro o ho
    simp only [Op.operands,Call.operands] at ho;simp at ho;rcases ho with rfl | rfl
    · exact DQ hx
    · exact DQ hy
  rcases own with ⟨hv,rfl,rfl⟩ | ⟨b,c',sp,hv,hc,rfl,hlen⟩
  · simp only [Value.slice.injEq] at hv;omega
  simp only [Value.slice.injEq] at hv;obtain ⟨rfl,rfl,rfl⟩:=hv;have hly:(BS sz cell (xs.drop (k+1))).length=(xs.length-(k+1))*sz:=by rw [BH,List.length_drop]
  have hA:(BS sz cell (xs.take k)).length=k*sz:=by rw [BH,List.length_take,Nat.min_eq_left (by omega)]
  have hA1:(BS sz cell (xs.take (k+1))).length=(k+1)*sz:=by rw [BH,List.length_take,Nat.min_eq_left (by omega)]
  have hB:(BS sz cell (xs.drop k)).length=(xs.length-k)*sz:=by rw [BH,List.length_drop]
  have hle:(BS sz cell (xs.drop (k+1))).length≤(BS sz cell (xs.drop k)).length:=by rw [hly,hB];exact Nat.mul_le_mul_right sz (by omega)
  have hsrc:Src I ([(b,Obj.cells (BS sz cell xs++sp).toArray E (0,0))]++Rest) (.slice (if c=k+1 then some ⟨b,0,none⟩ else (some (⟨b,0,none⟩:Addr)).map (·.add ((k+1)*sz))) (xs.length-(k+1)) (c-(k+1))) (xs.length-(k+1)) (BS sz cell (xs.drop (k+1))):=by
    refine ⟨_,_,rfl,?_⟩;rcases Nat.lt_or_ge (k+1) xs.length with h | h
    · rw [if_neg (by omega)]
      refine .inr ⟨b,(k+1)*sz,by simp [Addr.add];exact fun h=>h.symm,fun j u hj=>⟨rfl,(BS sz cell xs++sp).toArray,E,(0,0),.inl (by simp),?_⟩⟩;simp only [List.getElem?_toArray];rw [LJ (k:=k+1),List.append_assoc,List.getElem?_append_right (by rw [hA1];omega),hA1,Nat.add_sub_cancel_left,List.getElem?_append_left (List.getElem?_eq_some_iff.1 hj).1];exact hj
    · exact .inl (by rw [List.drop_of_length_le h];rfl)
  have main : wpL P (Builtin.append_ #[T, T'] ty #[.slice (some ⟨b, 0, none⟩) k c, .slice (if c = k + 1 then some ⟨b, 0, none⟩ else (some (⟨b, 0, none⟩ : Addr)).map (·.add ((k + 1) * sz))) (xs.length - (k + 1)) (c - (k + 1))])
      (fun r M'=>r=.slice (some ⟨b,0,none⟩) (xs.length-1) c∧∃ Ms',M'=Ms'++Rest∧Own E sz cell (.slice (some ⟨b,0,none⟩) (xs.length-1) c) (xs.eraseIdx k) Ms') I ([(b,Obj.cells (BS sz cell xs++sp).toArray E (0,0))]++Rest):=by
    unfold Builtin.append_;simp only [List.getElem?_toArray,List.getElem?_cons_zero,List.getElem?_cons_succ,AE,AL (CI hT),BX hsz,AL (CI hT'),CM,Builtin.lenOf];simp only [Bool.false_eq_true,if_false,Bool.not_false,if_true,CM,false_or];rw [AE,CM];have hroom:k+(xs.length-(k+1))≤c:=by omega
    rw [if_pos hroom,AE];refine GJ hsrc hly ?_;show wpL P (storeCells (Addr.add ⟨b,0,none⟩ (k*sz)) (BS sz cell (xs.drop (k+1))).toArray.toList >>= fun _=>pure (Value.slice (some ⟨b,0,none⟩) (k+(xs.length-(k+1))) _)) _ I _;rw [AE,ER,Nat.zero_add];refine EN (T:=E) (k:=0) _ 0 _ (BS sz cell xs++sp).toArray _ (by simp) ?_ (fun c hc=>hone c (by rw [LJ (k:=k+1)];exact List.mem_append_right _ (by simpa using hc))) ?_
    · rw [LJ (xs:=xs) (k:=k)]
      simp only [List.toList_toArray,List.size_toArray,List.length_append,hA];omega
    have hset:=GW (BS sz cell (xs.drop (k+1))) (BS sz cell (xs.take k)) (BS sz cell (xs.drop k)++sp) (by rw [List.length_append];omega);rw [hA] at hset;have hset':HJ (BS sz cell xs++sp).toArray (k*sz+0) (BS sz cell (xs.drop (k+1))).toArray.toList=(BS sz cell (xs.eraseIdx k)++(BS sz cell (xs.drop k)++sp).drop (BS sz cell (xs.drop (k+1))).length).toArray:=by
      apply Array.ext'
      rw [Nat.add_zero];simp only [List.toList_toArray];rw [LJ (xs:=xs) (k:=k),List.append_assoc,hset,List.eraseIdx_eq_take_drop_succ,HB]
    rw [hset'];have hel:(xs.eraseIdx k).length=xs.length-1:=List.length_eraseIdx_of_lt hk;refine ⟨by rw [show k+(xs.length-(k+1))=xs.length-1 by omega],_,rfl,.inr ⟨b,c,_,by rw [hel],by rw [hel];omega,rfl,?_⟩⟩;rw [← hlen,LJ (xs:=xs) (k:=k),List.eraseIdx_eq_take_drop_succ,HB];simp only [List.length_append,List.length_drop];omega
  unfold JF execOp resolve;simp only [List.map_toArray,List.map_cons,List.map_nil,BC hx,BC hy];show wpL P (Builtin.append_ #[T,T'] ty #[.slice (some ⟨b,0,none⟩) k c,.slice (if c=k+1 then some ⟨b,0,none⟩ else (some (⟨b,0,none⟩:Addr)).map (·.add ((k+1)*sz))) (xs.length-(k+1)) (c-(k+1))] >>= fun x=>pure (Next.value x)) _ I _;refine DK ?_;refine wpL_mono (fun r M' ⟨hr,Ms',e,hown⟩=>?_) main;subst e hr;exact ⟨_,_,.inl rfl,List.Sublist.refl _,next Ms' hown⟩
end
end Go.Sl
namespace Go.Sh
open Go Go.Sl
def aheadE (p q:Slip):Bool:=cmp .lss p.hour q.hour||(cmp .eql p.hour q.hour&&cmp .lss p.num q.num)
theorem ahead_iff {p q:Slip}:aheadE p q=true↔AC p q<0:=by rw [IL];simp [aheadE,cmp]
section
variable {l lf ot T:List Slip} {i n:Nat}
theorem minAt_t (h:aheadE (l.getD i AB) (l.getD (CL l i) AB)=true):i=CL l (i+1):=(if_pos (ahead_iff.1 h)).symm
theorem minAt_f (h:aheadE (l.getD i AB) (l.getD (CL l i) AB)=false):CL l i=CL l (i+1):=(if_neg (fun e=>by rw [ahead_iff.2 e] at h;cases h)).symm
theorem sel_step (h0:0<lf.length) (hi:i=lf.length) (h:ot++selS lf.length lf=T):(ot++[lf.getD (CL lf i) AB])++selS (lf.eraseIdx (CL lf i)).length (lf.eraseIdx (CL lf i))=T:=by
  subst hi;have hlt:=OL lf lf.length h0 (Nat.le_refl _);rw [← h,List.length_eraseIdx_of_lt hlt,List.append_assoc];obtain ⟨n,hn⟩:∃ n,lf.length=n+1:=⟨lf.length-1,by omega⟩;have e:selS lf.length lf=lf.getD (CL lf lf.length) AB::selS n (lf.eraseIdx (CL lf lf.length)):=by rw [hn];simp only [selS];rw [hn]
  rw [e,show lf.length-1=n by omega];rfl
theorem sel_len (h:lf.length=n) (hlt:i<lf.length):(lf.eraseIdx i).length=n-1:=by rw [List.length_eraseIdx_of_lt hlt,h]
theorem sel_end (h:ot++selS lf.length lf=selS l.length l) (h0:¬ 0<lf.length) (ho:Once l):ot=AJ l:=by
  rw [← selS_sort l.length l rfl ho,← h,show lf.length=0 by omega];simp [selS]
end
end Go.Sh
namespace Go.Proofs.Ytgcemienebmdeaa
open Go Go.Sl Go.Sh
set_option maxRecDepth 100000
noncomputable def c_ahead (p:List Nat):Code:=sub (AR Try.f47) p
theorem ahead_ct (I:Imm) (p:Slip) (q:Slip):CtV Try.prog 47 #[.agg #[vI p.num,vI p.hour,vI p.kind,vI p.place,vI p.to,vI p.sort,.bool p.soil,vI p.amt],.agg #[vI q.num,vI q.hour,vI q.kind,vI q.place,vI q.to,vI q.sort,.bool q.soil,vI q.amt]] I (.bool (aheadE p q)):=by
 refine fr (args:=[_,_]) (N:=24) Try.func47 (fun F=>?_);show Run _ _ (c_ahead []) _ _ [(0,.agg #[vI (p.num),vI (p.hour),vI (p.kind),vI (p.place),vI (p.to),vI (p.sort),.bool (p.soil),vI (p.amt)]),(1,.agg #[vI (q.num),vI (q.hour),vI (q.kind),vI (q.place),vI (q.to),vI (q.sort),.bool (q.soil),vI (q.amt)])] _ _;refine rnm (rqr ?_);refine sS (sb 2 47 #[vI (p.num),vI (p.hour),vI (p.kind),vI (p.place),vI (p.to),vI (p.sort),.bool (p.soil),vI (p.amt)] (fun b1=>(sS (sb 3 47 #[vI (q.num),vI (q.hour),vI (q.kind),vI (q.place),vI (q.to),vI (q.sort),.bool (q.soil),vI (q.amt)] (fun b3=>(sp 1 [(4,.bool (false))] (se (rq ?_))))))));refine CS (fun a w=>Slots 24 [(4,.bool ((cmp .lss (p.hour) (q.hour))||((cmp .eql (p.hour) (q.hour))&&(cmp .lss (p.num) (q.num)))))] a∧a.defers=[]∧St I ((bX b3 #[vI (q.num),vI (q.hour),vI (q.kind),vI (q.place),vI (q.to),vI (q.sort),.bool (q.soil),vI (q.amt)] 47)::(bX b1 #[vI (p.num),vI (p.hour),vI (p.kind),vI (p.place),vI (p.to),vI (p.sort),.bool (p.soil),vI (p.amt)] 47)::F) w) ?_ ?_
 ·
  refine rr (sp 1 [(5,vP b1 1)] (sd (dlb 6 1 1 b1 (vI (p.hour))) (sp 1 [(7,vP b3 1)] (sd (dlb 8 0 1 b3 (vI (q.hour))) (sp 2 [(10,.bool (cmp .lss (p.hour) (q.hour)))] ?_)))));refine BG 10 rfl (fun h1=>?_) (fun h1=>?_)
  ·
   have a0:=h1;have a0:=CP a0;refine sp 14 [(4,.bool (true))] (ee ?_);refine AO (fun a w hS hD hW=>⟨hS.sub (.consE 4 rfl (congrArg Value.bool (by simp only [h1,kA,kB,kC,kD,kE,kF,kG,kH,kI,kJ])) (.nil _)),hD,hW⟩)
  have a0:=h1;have a0:=CX a0;refine sp 1 [(11,vP b1 1)] (sd (dlb 12 1 1 b1 (vI (p.hour))) (sp 1 [(13,vP b3 1)] (sd (dlb 14 0 1 b3 (vI (q.hour))) (sp 2 [(16,.bool (cmp .eql (p.hour) (q.hour)))] ?_))));refine BG 16 rfl (fun h2=>?_) (fun h2=>?_)
  ·
   have a1:=h2;have a1:=BR a1;refine sp 1 [(17,vP b1 0)] (sd (dlb 18 1 0 b1 (vI (p.num))) (sp 1 [(19,vP b3 0)] (sd (dlb 20 0 0 b3 (vI (q.num))) (sp 4 [(4,.bool (cmp .lss (p.num) (q.num)))] (ee ?_)))));refine AO (fun a w hS hD hW=>⟨hS.sub (.consE 4 rfl (congrArg Value.bool (by simp only [h1,h2,kA,kB,kC,kD,kE,kF,kG,kH,kI,kJ])) (.nil _)),hD,hW⟩)
  have a1:=h2;have a1:=BW a1;refine sp 8 [(4,.bool (false))] (ee ?_);refine AO (fun a w hS hD hW=>⟨hS.sub (.consE 4 rfl (congrArg Value.bool (by simp only [h1,h2,kA,kB,kC,kD,kE,kF,kG,kH,kI,kJ])) (.nil _)),hD,hW⟩)
 rintro a w ⟨hS,hD,hW⟩
 refine AU hS hD hW ?_;clear hS hD hW a w;refine BU (AK (t:=4) [] (by kernel_rfl) rfl (TC _ (TC _ (TR _))) (IR _) ?_);exact ⟨rfl,rfl⟩
noncomputable def c_Sorted (p:List Nat):Code:=sub (AR Try.f19) p
theorem Sorted_ct (I:Imm) (z:Value) (xs:List Slip) (z_f:IE I z xs) (ho:Once xs) (hl:xs.length≤1000):Ct Try.prog 19 #[z] I ([]) (fun v I' M'=>∃ u:Value,∃ Ms:Seg,v=u∧M'=Ms∧Own 47 8 AW u (AJ xs) Ms):=by
 obtain ⟨d1,d2,e8,f1,d9,e9,f0,f2⟩:=id z_f;subst d9;refine fr (args:=[_]) (N:=45) Try.func19 (fun F=>?_);show Run _ _ (c_Sorted []) _ _ [(0,vS d1 xs.length d2)] _ _;refine rnm (rqr ?_);refine sp 1 [(2,vN)] (sn (sS (sbs 7 47 0 #[] (fun b1=>(sp 1 [(8,vS d1 xs.length d2)] ?_)))));have d5:Own 47 8 AW (vS (some ⟨b1,0,none⟩) 0 0) ([]:List Slip) [(bX b1 #[] 47)]:=Own.lit rfl rfl;refine sS (BF (d:=9) (x:=(.tmp 7)) (y:=(.tmp 8)) (T:=38) (T':=38) (E:=47) (E':=47) (sz:=8) (bs:=64) (z:=.agg #[vI (0),vI (0),vI (0),vI (0),vI (0),vI (0),.bool (false),vI (0)]) (cell:=AW) (xs:=([]:List Slip)) (ys:=xs) (Ms:=[(bX b1 #[] 47)]) (ty:=38) (gd:=none) (by kernel_rfl) rfl (by kernel_rfl) (by kernel_rfl) (by kernel_rfl) (by kernel_rfl) (by kernel_rfl) (by decide) (by kernel_rfl) rfl rfl (d5) (PR _) (CR _) z_f.src (by first | omega | (simp only [LC,LN,LA,LK,LD];omega)) (fun v4 d3 c6=>?_));rw [NA] at c6;refine nm ?_;obtain ⟨c9,d0,d7,e6⟩:=c6.shape;subst d7;refine sp 1 [(3,vS c9 xs.length d0)] (sn (sp 1 [(4,vN)] (se (rq (rb 0 ?_)))));refine rl (fun mz a w=>∃ J0:Imm,∃ lf:List Slip,∃ ot:List Slip,∃ a8:Value,∃ a3:Seg,∃ a9:Value,∃ a2:Seg,(I.le J0)∧(ot++selS lf.length lf=selS xs.length xs)∧(lf.length≤xs.length)∧(ot.length+lf.length=xs.length)∧(Own 47 8 AW a8 (lf) a3)∧(Own 47 8 AW a9 (ot) a2)∧Slots 45 [(3,a8),(4,a9),(2,vN)] a∧a.defers=[]∧St J0 ((a3++(a2++F))) w∧mz=lf.length) ?_ ?_
 ·intro a w hS hD hW;exact ⟨_,I,xs,[],vS c9 xs.length d0,d3,(vN),[],IR _,rfl,Nat.le_refl _,(Nat.zero_add _),c6,(Own.nil _ _ _),hS.sub (.cons 3 rfl (.cons 4 rfl (.cons 2 rfl (.nil _)))),hD,hW,rfl⟩
 rintro mz a w ⟨J0,lf,ot,a8,a3,a9,a2,hJ0,c8,e1,e2,a4,a7,hS,hD,hW,rfl⟩
 refine AU hS hD hW ?_;clear hS hD hW a w;obtain ⟨a0,a1,b0,c1⟩:=a4.shape;subst b0;obtain ⟨a5,a6,b2,c2⟩:=a7.shape;subst b2;refine rq (rqr (sp 3 [(12,.bool (cmp .gtr (↑(lf.length)) (0)))] (se (rc 12 rfl (fun h1=>?_) (fun h1=>?_)))))
 ·
  have c3:=h1;have h1:=KI h1;refine AQ (NX (rb 1 (rqr (sp 1 [(5,vI (0))] (se (rq (rqr (sp 1 [(6,vI (0))] (se (rb 2 ?_))))))))));refine rl (fun mz a w=>∃ J1:Imm,∃ i:Nat,(J0.le J1)∧(i≤lf.length)∧Slots 45 [(5,vI ↑(CL lf i)),(6,vI ↑i),(2,vN),(3,vS a0 lf.length a1),(4,vS a5 ot.length a6)] a∧a.defers=[]∧St J1 ((a3++(a2++F))) w∧mz=lf.length-i) ?_ ?_
  ·intro a w hS hD hW;exact ⟨_,J0,0,IR _,Nat.zero_le _,hS.sub (.cons 5 rfl (.cons 6 rfl (.cons 2 rfl (.cons 3 rfl (.cons 4 rfl (.nil _)))))),hD,hW,rfl⟩
  rintro mz a w ⟨J1,i,hJ1,hi,hS,hD,hW,rfl⟩
  refine AU hS hD hW ?_;clear hS hD hW a w;have c0:=OL lf i (by omega) hi;refine rq (rqr (sp 4 [(16,.bool (cmp .lss (↑i) (↑(lf.length))))] (se (rc 16 rfl (fun h2=>?_) (fun h2=>?_)))))
  ·
   have c4:=h2;have h2:=CP h2;refine AQ (NX (rq (rb 3 (rq ?_))));refine rd0 8 (ox 2 [(20,vI (↑i)),(19,vS a0 lf.length a1)] ?_);obtain ⟨e3,b8⟩:=a4.row AB;refine AF (di 21 8 (i) b8.addr) ?_;refine AF (dn 22 (GO (vals:=DN) (fun _=>rfl) b8 (fun x hx=>by simp [hx]) (i) (by omega))) (ox 2 [(24,vI (↑(CL lf i))),(23,vS a0 lf.length a1)] ?_);obtain ⟨e4,b9⟩:=a4.row AB;refine AF (di 25 8 (CL lf i) b9.addr) ?_;refine AF (dn 26 (GO (vals:=DN) (fun _=>rfl) b9 (fun x hx=>by simp [hx]) (CL lf i) (by omega))) ?_;refine BD (sd (dc 27 (fun I' hI=>(ahead_ct I' (lf.getD (i) AB) (lf.getD (CL lf i) AB) :))) (se (rc 27 rfl (fun h3=>?_) (fun h3=>?_))))
   ·
    have c5:=h3;refine rr (sp 2 [(5,vI (↑i))] (ee (NB (NX (rr (sp 1 [(17,vI (↑i))] (sd (da 18 (↑i) (1)) (sp 1 [(6,vI (↑i+1))] (ee ?_)))))))));refine AN (lf.length-(i+1)) (by omega) ?_;intro a w hS hD hW;exact ⟨J1,i+1,hJ1,by omega,hS.sub (.consE 5 rfl (congrArg (fun q:Nat=>Value.int .i64 ↑q) (minAt_t h3)) (.consE 6 rfl rfl (.cons 2 rfl (.cons 3 rfl (.cons 4 rfl (.nil _)))))),hD,hW,rfl⟩
   have c5:=h3;refine AQ (NB (NX (rr (sp 1 [(17,vI (↑i))] (sd (da 18 (↑i) (1)) (sp 1 [(6,vI (↑i+1))] (ee ?_)))))));refine AN (lf.length-(i+1)) (by omega) ?_;intro a w hS hD hW;exact ⟨J1,i+1,hJ1,by omega,hS.sub (.consE 5 rfl (congrArg (fun q:Nat=>Value.int .i64 ↑q) (minAt_f h3)) (.consE 6 rfl rfl (.cons 2 rfl (.cons 3 rfl (.cons 4 rfl (.nil _)))))),hD,hW,rfl⟩
  have c4:=h2;have h2:=CX h2;refine CC 2 ((EP (EP (EB (NX (rqr (sp 3 [(31,vI (↑(CL lf i))),(30,vS a0 lf.length a1),(29,vS a5 ot.length a6)] ?_)))))));obtain ⟨e5,b3⟩:=a4.row AB;refine sd (di 32 8 (CL lf i) b3.addr) (sd (dn 33 (GO (vals:=DN) (fun _=>rfl) b3 (fun x hx=>by simp [hx]) (CL lf i) (by omega))) (sS (sbs 34 47 1 #[vI ((lf.getD (CL lf i) AB).num),vI ((lf.getD (CL lf i) AB).hour),vI ((lf.getD (CL lf i) AB).kind),vI ((lf.getD (CL lf i) AB).place),vI ((lf.getD (CL lf i) AB).to),vI ((lf.getD (CL lf i) AB).sort),.bool ((lf.getD (CL lf i) AB).soil),vI ((lf.getD (CL lf i) AB).amt)] (fun e0=>(sS (BF (d:=35) (x:=(.tmp 29)) (y:=(.tmp 34)) (T:=38) (T':=38) (E:=47) (E':=47) (sz:=8) (bs:=64) (z:=.agg #[vI (0),vI (0),vI (0),vI (0),vI (0),vI (0),.bool (false),vI (0)]) (cell:=AW) (xs:=ot) (ys:=[lf.getD (CL lf i) AB]) (Ms:=a2) (ty:=38) (gd:=none) (by kernel_rfl) rfl (by kernel_rfl) (by kernel_rfl) (by kernel_rfl) (by kernel_rfl) (by kernel_rfl) (by decide) (by kernel_rfl) rfl rfl (a7) (PU (PO _ _ _)) (CR _) (ED 0 rfl rfl) (by first | omega | (simp only [LC,LN];omega)) (fun e7 b4 b5=>(AY (M':=((b4++(a3++F)))) (fun w h=>(h.perm PM).sub (TC _ (TR _))) ?_))))))));obtain ⟨b6,b7,c7,d8⟩:=b5.shape;subst c7;refine sp 1 [(4,vS b6 (ot++([lf.getD (CL lf i) AB])).length b7)] (se ?_);refine rd0 7 (ox 2 [(37,vI (↑(CL lf i))),(36,vS a0 lf.length a1)] ?_);refine AF (EU (GK (x:=(.tmp 36)) (lo:=none) (hi:=(some (.tmp 37))) (T:=38) (e:=47) (sz:=8) 0 (CL lf i) (d:=38) (ty:=38) (gd:=none) (by kernel_rfl) rfl (by kernel_rfl) (by kernel_rfl) rfl (.inl ⟨rfl,rfl⟩) (.inr ⟨_,.i64,rfl,rfl⟩) (by omega) (by omega)) a4.cutE) (ox 2 [(40,vI (↑(CL lf i))),(39,vS a0 lf.length a1)] ?_);refine AF (da 41 (↑(CL lf i)) (1)) ?_;refine AF (GK (x:=(.tmp 39)) (lo:=(some (.tmp 41))) (hi:=none) (T:=38) (e:=47) (sz:=8) (CL lf i+1) (lf.length) (d:=42) (ty:=38) (gd:=none) (by kernel_rfl) rfl (by kernel_rfl) (by kernel_rfl) rfl (.inr ⟨_,.i64,rfl,(look_int rfl (by omega))⟩) (.inl ⟨rfl,rfl⟩) (by omega) (by omega)) ?_;refine BD (sS (stp_appendCut (d:=43) (x:=(.tmp 38)) (y:=(.tmp 42)) (T:=38) (T':=38) (E:=47) (E':=47) (sz:=8) (cell:=AW) (a:=a0) (n:=lf.length) (c:=a1) (k:=CL lf i) (xs:=lf) (ty:=38) (gd:=none) (by kernel_rfl) rfl (by kernel_rfl) (by kernel_rfl) (by kernel_rfl) rfl rfl a4 c0 (PO _ _ _) (CR _) (fun d4 d6=>(nm ?_))));refine sp 1 [(3,vS a0 (lf.length-1) a1)] (ee (NB ?_));refine AN ((lf.eraseIdx (CL lf i)).length) ((by rw [sel_len rfl c0];omega)) ?_;intro a w hS hD hW;exact ⟨J1,lf.eraseIdx (CL lf i),ot++([lf.getD (CL lf i) AB]),vS a0 (lf.length-1) a1,d4,vS b6 (ot++([lf.getD (CL lf i) AB])).length b7,b4,(IT hJ0 hJ1),sel_step (by omega) (by omega) c8,(by rw [sel_len rfl c0];omega),(by rw [sel_len rfl c0,LA];simp only [LC,LN];omega),d6,b5,hS.sub (.consE 3 rfl rfl (.consE 4 rfl rfl (.cons 2 rfl (.nil _)))),hD,hW,rfl⟩
 have c3:=h1;have h1:=OA h1;refine CC 0 ((EP (EP (EB (NX (rqr (sp 2 [(2,vS a5 ot.length a6)] (se (BU (ppm (M':=((a2++(a3++F)))) (PO _ _ _) (AK (t:=2) (a2) (by kernel_rfl) rfl (TA (TT (TR _) (TB _ _)) _) hJ0 ?_)))))))))));exact ⟨_,_,rfl,rfl,((sel_end c8 (by omega) ho)▸a7)⟩
end Go.Proofs.Ytgcemienebmdeaa
namespace Go.Sh
open Go Go.Sl
section
variable {so:Int} {H H':Hs} {k:HKey} {v d:Int}
end
theorem evs_slips:∀ {S:List Slip} {H:Hs},(evs H S).map (fun e=>e.slip)=S:=by
  intro S
  induction S with
  | nil=>intro H;rfl
  | cons s r ih=>intro H;simp only [evs,List.map_cons,ih];rfl
section
variable {L:Lin} {so hour:Int}
end
theorem evs_nums {L:Lin} (g:GoodL L):((BP L).map fun e=>e.slip.num).Nodup:=by
  have h1:(BP L).map (fun e=>e.slip.num)=((BP L).map fun e=>e.slip).map (·.num):=by rw [List.map_map];rfl
  rw [h1,BP,evs_slips];exact ((CT L.slips).map _).nodup_iff.2 g.once
theorem inB_of {n lo hi:Int} (h:lo≤n∧n≤hi):¬ inB n lo hi=false:=by simp [inB,h.1,h.2]
theorem LU {L:Lin} (g:GoodL L):BJ L=0:=by
  have h1:CV L=0:=by
    unfold CV;rw [if_neg (fun h=>h g.start),if_neg,if_neg]
    · rw [List.all_eq_true.2 (fun n hn => by
        obtain ⟨r,hr,hn⟩:=List.mem_flatten.1 hn
        simpa using inB_of (g.nums r hr n hn))];decide
    · rw [List.all_eq_true.2 (fun r hr=>decide_eq_true (g.rows r hr))];decide
  have h2:DL L=0:=by unfold DL;rw [if_neg (by have:=g.keeps;omega)];exact firstE_zero.2 g.keep
  unfold BJ;rw [if_neg (inB_of g.places),if_neg (inB_of g.sorts),h1,h2,if_neg (fun h=>h rfl),if_neg (fun h=>h rfl),if_neg (by have:=g.slips;omega)];exact firstE_zero.2 g.slip
theorem gaps_fst {L:Lin} (g:GoodL L):(DU L).1=CJ (BP L):=by rw [gapsE_2 (LU g)]
section
variable {L:Lin} {G:List Gap} {so n X:Int} {i m k:Nat} {s:Slip}
end
def ustep (p kh:Int) (u:Int) (x:Keep):Int:=bif cmp .eql x.place p&&cmp .gtr x.hour kh then (if x.hour-1<u then x.hour-1 else u) else u
def FC (p kh to:Int) (ks:List Keep):Int:=ks.foldl (ustep p kh) to
section
variable {p kh to f h:Int} {ks:List Keep} {k:Nat}
theorem untilM_t (hk:k<ks.length) (hc:(cmp .eql (ks.getD k AH).place p&&cmp .gtr (ks.getD k AH).hour kh)=true):(if (ks.getD k AH).hour-1<FC p kh to (ks.take k) then (ks.getD k AH).hour-1 else FC p kh to (ks.take k))=FC p kh to (ks.take (k+1)):=by
  rw [BL (d:=AH) hk];unfold FC;rw [List.foldl_append];simp only [List.foldl_cons,List.foldl_nil,ustep];rw [hc];rfl
theorem untilM_f (hk:k<ks.length) (hc:(cmp .eql (ks.getD k AH).place p&&cmp .gtr (ks.getD k AH).hour kh)=false):FC p kh to (ks.take k)=FC p kh to (ks.take (k+1)):=by
  rw [BL (d:=AH) hk];unfold FC;rw [List.foldl_append];simp only [List.foldl_cons,List.foldl_nil,ustep];rw [hc];rfl
theorem untilM_ge:∀ {ks:List Keep} {to:Int},f≤FC p kh to ks↔f≤to∧∀ x∈ks,x.place=p→kh<x.hour→f≤x.hour-1:=by
  intro ks
  induction ks with
  | nil=>intro to;simp [FC]
  | cons x r ih=>
    intro to;rw [show FC p kh to (x::r)=FC p kh (ustep p kh to x) r from rfl,ih];have e:f≤ustep p kh to x↔f≤to∧(x.place=p→kh<x.hour→f≤x.hour-1):=by
      unfold ustep;cases hc:(cmp .eql x.place p&&cmp .gtr x.hour kh) with
      | true=>
        simp [cmp] at hc;simp only [cond_true]
        constructor
        · intro h1;split at h1 <;> exact ⟨by omega,fun _ _=>by omega⟩
        · intro h1;have:=h1.2 hc.1 hc.2;split <;> omega
      | false=>
        simp [cmp] at hc;simp only [cond_false];exact ⟨fun h1=>⟨h1,fun h2 h3=>by have:=hc h2;omega⟩,fun h1=>h1.1⟩
    rw [e];simp only [List.mem_cons,forall_eq_or_imp];exact ⟨fun h1=>⟨h1.1.1,h1.1.2,h1.2⟩,fun h1=>⟨⟨h1.1,h1.2.1⟩,h1.2.2⟩⟩
theorem kfold_spec (h0:∀ x∈ks,0≤x.hour):∀ k,k≤ks.length→(IG p h (ks.take k)=(0,-1)∧∀ x∈ks.take k,x.place=p→¬ x.hour≤h)∨∃ x∈ks.take k,x.place=p∧x.hour≤h∧IG p h (ks.take k)=(x.who,x.hour)∧∀ y∈ks.take k,y.place=p→y.hour≤h→y.hour≤x.hour:=by
  intro k
  induction k with
  | zero=>intro _;exact .inl ⟨rfl,fun x hx=>by simp at hx⟩
  | succ k ih=>
    intro hk;have hm:=BA (xs:=ks) (d:=AH) (show k<ks.length by omega);have hin:∀ y,y∈ks.take (k+1)↔y∈ks.take k∨y=ks.getD k AH:=fun y=>by rw [BL (d:=AH) (by omega)];simp
    cases hc:(cmp .eql (ks.getD k AH).place p&&(cmp .leq (ks.getD k AH).hour h&&cmp .gtr (ks.getD k AH).hour (IG p h (ks.take k)).2)) with
    | true=>
      rw [← kfold_t (by omega) hc];simp only [JM,cmp_leq,cmp_gtr,Bool.and_eq_true,decide_eq_true_eq] at hc;refine .inr ⟨_,(hin _).2 (.inr rfl),hc.1,hc.2.1,rfl,fun y hy h1 h2=>?_⟩;rcases (hin y).1 hy with hy | rfl
      · rcases ih (by omega) with ⟨_,h3⟩ | ⟨x,_,_,_,h3,h4⟩
        · exact absurd h2 (h3 y hy h1)
        · have:=h4 y hy h1 h2;rw [h3] at hc;simp only at hc;omega
      · exact Int.le_refl _
    | false=>
      rw [← kfold_f (by omega) hc];have hn:¬ ((ks.getD k AH).place=p∧(ks.getD k AH).hour≤h∧(IG p h (ks.take k)).2<(ks.getD k AH).hour):=fun hh=>by
        simp only [JM,cmp_leq,cmp_gtr,hh.1,hh.2.1,hh.2.2,decide_true,Bool.and_self] at hc;cases hc
      rcases ih (by omega) with ⟨h2,h3⟩ | ⟨x,h1,h2,h5,h3,h4⟩
      · refine .inl ⟨h2,fun y hy h1 h4=>?_⟩
        rcases (hin y).1 hy with hy | rfl
        · exact h3 y hy h1 h4
        · refine hn ⟨h1,h4,?_⟩
          rw [h2];have:=h0 _ hm;simp only;omega
      · refine .inr ⟨x,(hin x).2 (.inl h1),h2,h5,h3,fun y hy h6 h7=>?_⟩
        rcases (hin y).1 hy with hy | rfl
        · exact h4 y hy h6 h7
        · rcases Int.lt_or_le x.hour (ks.getD k AH).hour with h8 | h8
          · exact absurd ⟨h6,h7,by rw [h3];exact h8⟩ hn
          · exact h8
end
theorem keepErr_ok2 {L:Lin} {i:Nat} (h:EO L i=0):(0≤(L.keeps.getD i AH).hour∧(L.keeps.getD i AH).hour≤200)∧(1≤(L.keeps.getD i AH).who∧(L.keeps.getD i AH).who≤9)∧∀ x∈L.keeps.take i,¬ (x.place=(L.keeps.getD i AH).place∧x.hour=(L.keeps.getD i AH).hour):=by
  unfold EO at h;simp only at h
  split at h;· omega
  split at h;· omega
  rename_i h2
  split at h;· omega
  rename_i h3
  split at h;· omega
  rename_i h4
  refine ⟨EF (by simpa using h2),EF (by simpa using h3),fun x hx hh=>h4 (List.any_eq_true.2 ⟨x,hx,by simp [hh.1,hh.2]⟩)⟩
section
variable {L:Lin} (g:GoodL L)
include g
theorem GoodL.keepOf {x:Keep} (hx:x∈L.keeps):(0≤x.hour∧x.hour≤200)∧(1≤x.who∧x.who≤9):=by
  obtain ⟨k,hk,rfl⟩:=List.mem_iff_getElem.1 hx;have:=keepErr_ok2 (g.keep k hk);have e:L.keeps.getD k AH=L.keeps[k]:=by simp [List.getD,hk]
  rw [e] at this;exact ⟨this.1,this.2.1⟩
theorem GoodL.keepOnce {x y:Keep} (hx:x∈L.keeps) (hy:y∈L.keeps) (h1:x.place=y.place) (h2:x.hour=y.hour):x=y:=by
  obtain ⟨i,hi,rfl⟩:=List.mem_iff_getElem.1 hx;obtain ⟨j,hj,rfl⟩:=List.mem_iff_getElem.1 hy;have aux:∀ i j (hi:i<L.keeps.length) (hj:j<L.keeps.length),i<j→¬ (L.keeps[i].place=L.keeps[j].place∧L.keeps[i].hour=L.keeps[j].hour):=fun i j hi hj hij hh=>by
    have:=(keepErr_ok2 (g.keep j hj)).2.2 L.keeps[i] (by rw [List.mem_take_iff_getElem];exact ⟨i,by omega,rfl⟩);have e:L.keeps.getD j AH=L.keeps[j]:=by simp [List.getD,hj]
    rw [e] at this;exact this hh
  rcases Nat.lt_trichotomy i j with h | h | h
  · exact absurd ⟨h1,h2⟩ (aux i j hi hj h)
  · subst h;rfl
  · exact absurd ⟨h1.symm,h2.symm⟩ (aux j i hj hi h)
theorem MW {p h w:Int} (hw:w≠0):BM L p h=w↔∃ x∈L.keeps,x.place=p∧x.hour≤h∧x.who=w∧∀ y∈L.keeps,y.place=p→y.hour≤h→y.hour≤x.hour:=by
  have hs:=kfold_spec (p:=p) (h:=h) (ks:=L.keeps) (fun x hx=>(g.keepOf hx).1.1) L.keeps.length (Nat.le_refl _);rw [List.take_length] at hs;unfold BM
  constructor
  · intro hh
    rcases hs with ⟨h1,_⟩ | ⟨x,hx,h1,h2,h3,h4⟩
    · rw [h1] at hh;exact absurd hh.symm hw
    · rw [h3] at hh;exact ⟨x,hx,h1,h2,hh,h4⟩
  · rintro ⟨x,hx,h1,h2,h3,h4⟩
    rcases hs with ⟨_,h5⟩ | ⟨y,hy,h5,h6,h7,h8⟩
    · exact absurd h2 (h5 x hx h1)
    · have e:x=y:=g.keepOnce hx hy (by rw [h1,h5]) (by have:=h8 x hx h1 h2;have:=h4 y hy h5 h6;omega)
      subst e;rw [h7];exact h3
def hadK (p who frm to:Int) (ks:List Keep) (k:Keep):Bool:=decide (k.place=p)&&decide (k.who=who)&&decide (k.hour≤to)&&decide (frm≤FC p k.hour to ks)
def hadE (L:Lin) (p who frm to:Int):Bool:=L.keeps.any (hadK p who frm to L.keeps)
theorem had_iff {p who frm to:Int} (hw:1≤who) (hf:0≤frm):hadE L p who frm to=true↔∃ h:Nat,frm≤h∧(h:Int)≤to∧BM L p h=who:=by
  unfold hadE;simp only [List.any_eq_true,hadK,Bool.and_eq_true,decide_eq_true_eq,untilM_ge]
  constructor
  · rintro ⟨k,hk,⟨⟨h1,h2⟩,h3⟩,h4,h5⟩
    have h0:=(g.keepOf hk).1.1;refine ⟨(if k.hour≤frm then frm else k.hour).toNat,?_,?_,(MW g (by omega)).2 ⟨k,hk,h1,?_,h2,fun y hy h6 h7=>?_⟩⟩
    · split <;> omega
    · split <;> omega
    · split <;> omega
    · rcases Int.lt_or_le k.hour y.hour with h8 | h8
      · have:=h5 y hy h6 h8;split at h7 <;> omega
      · exact h8
  · rintro ⟨h,h1,h2,h3⟩
    obtain ⟨k,hk,h4,h5,h6,h7⟩:=(MW g (by omega)).1 h3;refine ⟨k,hk,⟨⟨h4,h6⟩,by omega⟩,by omega,fun x hx h8 h9=>?_⟩;rcases Int.lt_or_le h x.hour with h10 | h10
    · omega
    · have:=h7 x hx h8 h10;omega
omit g in
theorem holdTo_mem {p since x:Int}:∀ {n:Nat},x∈CE L p since n↔∃ h:Nat,h<n∧since≤h∧BM L p h=x∧x≠0:=by
  intro n
  induction n with
  | zero=>simp [CE]
  | succ n ih=>
    have up:(∃ h:Nat,h<n+1∧since≤h∧BM L p h=x∧x≠0)↔(∃ h:Nat,h<n∧since≤h∧BM L p h=x∧x≠0)∨(since≤n∧BM L p n=x∧x≠0):=by
      constructor
      · rintro ⟨h,h1,h2⟩
        rcases Nat.lt_or_ge h n with h3 | h3
        · exact .inl ⟨h,h3,h2⟩
        · have:h=n:=by omega
          subst this;exact .inr h2
      · rintro (⟨h,h1,h2⟩ | h2)
        · exact ⟨h,by omega,h2⟩
        · exact ⟨n,by omega,h2⟩
    rw [up,← ih];simp only [CE]
    split
    · rename_i h;exact ⟨.inl,fun q=>q.elim id (fun e=>by omega)⟩
    · split
      · rename_i h;exact ⟨.inl,fun q=>q.elim id (fun e=>absurd (e.2.1.symm.trans h) e.2.2)⟩
      · rename_i h1 h2
        split
        · rename_i h3;exact ⟨.inl,fun q=>q.elim id (fun e=>e.2.1▸h3)⟩
        · simp only [List.mem_append,List.mem_singleton]
          exact ⟨fun q=>q.elim .inl (fun e=>.inr ⟨by omega,e.symm,e▸h2⟩),fun q=>q.elim .inl (fun e=>.inr e.2.1.symm)⟩
omit g
def NW (L:Lin) (p frm to:Int):Nat→List Int
  | 0=>[]
  | n+1=>if hadE L p ((n:Int)+1) frm to=true then NW L p frm to n++[(n:Int)+1] else NW L p frm to n
theorem dueW_t {p frm to:Int} {n:Nat} (h:hadE L p ((n:Int)+1) frm to=true):NW L p frm to n++[(n:Int)+1]=NW L p frm to (n+1):=(if_pos h).symm
theorem dueW_f {p frm to:Int} {n:Nat} (h:hadE L p ((n:Int)+1) frm to=false):NW L p frm to n=NW L p frm to (n+1):=(if_neg (by rw [h];decide)).symm
theorem dueW_len {p frm to:Int}:∀ {n:Nat},(NW L p frm to n).length≤n:=by
  intro n
  induction n with
  | zero=>exact Nat.le_refl _
  | succ n ih => simp only [NW]; split
                 · simp only [List.length_append,List.length_cons,List.length_nil];omega
                 · omega
theorem dueW_mem {p frm to x:Int}:∀ {n:Nat},x∈NW L p frm to n↔1≤x∧x≤n∧hadE L p x frm to=true:=by
  intro n
  induction n with
  | zero=>simp only [NW];exact ⟨fun h=>(by cases h),fun h=>(by omega)⟩
  | succ n ih=>
    have key:(1≤x∧x≤((n+1:Nat):Int)∧hadE L p x frm to=true)↔(1≤x∧x≤n∧hadE L p x frm to=true)∨(x=(n:Int)+1∧hadE L p ((n:Int)+1) frm to=true):=by
      constructor
      · rintro ⟨h1,h2,h3⟩
        by_cases e:x=(n:Int)+1
        · exact .inr ⟨e,e▸h3⟩
        · exact .inl ⟨h1,by omega,h3⟩
      · rintro (⟨h1,h2,h3⟩ | ⟨rfl,h3⟩)
        · exact ⟨h1,by omega,h3⟩
        · exact ⟨by omega,by omega,h3⟩
    rw [key,← ih];simp only [NW]
    split
    · rename_i h;simp only [List.mem_append,List.mem_singleton];exact ⟨fun q=>q.elim .inl (fun e=>.inr ⟨e,h⟩),fun q=>q.elim .inl (fun e=>.inr e.1)⟩
    · rename_i h;exact ⟨.inl,fun q=>q.elim id (fun e=>absurd e.2 h)⟩
theorem dueW_asc {p frm to:Int}:∀ {n:Nat},Asc' cmpZ (NW L p frm to n):=by
  intro n
  induction n with
  | zero=>exact List.Pairwise.nil
  | succ n ih=>
    simp only [NW];split
    · refine List.pairwise_append.2 ⟨ih,by simp,fun a ha b hb=>?_⟩
      have:=(dueW_mem.1 ha).2.1;simp only [List.mem_singleton] at hb;subst hb;unfold cmpZ;omega
    · exact ih
theorem strictZ {l:List Int}:Strict cmpZ l:=⟨fun a _ b _ h=>by unfold cmpZ;omega,fun a _=>by unfold cmpZ;omega,fun a _ b _ d _ h1 h2=>by unfold cmpZ at *;omega⟩
theorem asc_nodupZ {l:List Int} (h:Asc' cmpZ l):l.Nodup:=h.imp fun hab e=>by subst e;unfold cmpZ at hab;omega
theorem hold_due (g:GoodL L) {s:Slip} {since:Int} (h0:0≤since) (hh:0≤s.hour):CO L s since=NW L s.place since s.hour 9:=by
  have hn:=(KQ (L:=L) (p:=s.place) (since:=since) (s.hour+1).toNat).1;have ha:Asc' cmpZ (CO L s since):=NO strictZ hn;refine asc_unique strictZ ?_ ha dueW_asc;refine (List.perm_ext_iff_of_nodup (asc_nodupZ ha) (asc_nodupZ dueW_asc)).2 fun x=>?_
  unfold CO;rw [(CT _).mem_iff,holdTo_mem,dueW_mem]
  constructor
  · rintro ⟨h,h1,h2,h3,h4⟩
    obtain ⟨k,hk,_,_,h5,_⟩:=(MW g h4).1 h3;have hw:=(g.keepOf hk).2;rw [h5] at hw;exact ⟨hw.1,by omega,(had_iff g hw.1 h0).2 ⟨h,h2,by omega,h3⟩⟩
  · rintro ⟨h1,h2,h3⟩
    obtain ⟨h,h4,h5,h6⟩:=(had_iff g h1 h0).1 h3;exact ⟨h,by omega,h4,h6,by omega⟩
def sstep (s:Slip) (h:Int) (x:Slip):Int:=if x.kind=4∧x.place=s.place∧x.sort=s.sort∧x.soil=s.soil then x.hour else h
def EA (s:Slip) (l:List Slip):Int:=l.foldl (sstep s) 0
theorem KW {s x:Slip} {l:List Slip}:EA s (l++[x])=sstep s (EA s l) x:=by unfold EA;rw [List.foldl_append];rfl
theorem sinceM_ge {s:Slip}:∀ {l:List Slip},(∀ x∈l,0≤x.hour)→0≤EA s l:=by
  have aux:∀ {l:List Slip} {h:Int},0≤h→(∀ x∈l,0≤x.hour)→0≤l.foldl (sstep s) h:=by
    intro l
    induction l with
    | nil=>intro h h0 _;exact h0
    | cons x r ih=>
      intro h h0 hx;refine ih ?_ (fun y hy=>hx y (by simp [hy]));have:=hx x (by simp);unfold sstep;split <;> omega
  intro l h;exact aux (Int.le_refl _) h
theorem gfold_since {k:HKey} {s:Slip} (hk:k=keyOf s) {H:Hs} {S:List Slip}:∀ i,i≤S.length→CN k (DV L ((evs H S).take i)).1=EA s (S.take i):=by
  intro i
  induction i with
  | zero=>intro _;rfl
  | succ i ih=>
    intro hi;rw [evs_take (by omega),BL (d:=AB) (by omega:i<S.length),KW,← ih (by omega),GC];unfold gstep sstep;rw [show (evOf (aft H (S.take i)) (S.getD i AB)).slip=S.getD i AB from rfl]
    by_cases e:(S.getD i AB).kind=4
    · rw [if_neg (fun hh=>hh e)]
      simp only [getH_put,hk,keyOf,HKey.mk.injEq]
      by_cases e2:s.place=(S.getD i AB).place∧s.sort=(S.getD i AB).sort∧s.soil=(S.getD i AB).soil
      · rw [if_pos e2,if_pos ⟨e,e2.1.symm,e2.2.1.symm,e2.2.2.symm⟩]
      · rw [if_neg e2,if_neg (fun hh=>e2 ⟨hh.2.1.symm,hh.2.2.1.symm,hh.2.2.2.symm⟩)]
    · rw [if_pos e,if_neg (fun hh=>e hh.1)]
theorem gfold_in {q:EvH}:∀ {i:Nat} {E:List Sh.Event},i≤E.length→q∈(DV L (E.take i)).2→q.1∈E.take i∧q.1.gap≠0:=by
  intro i
  induction i with
  | zero=>intro E _ hq;simp [DV] at hq
  | succ i ih=>
    intro E hi hq;rw [BL (d:=noEvent) (by omega:i<E.length)] at hq ⊢;rw [GC] at hq;unfold gstep at hq
    split at hq
    · exact ⟨List.mem_append_left _ (ih (by omega) hq).1,(ih (by omega) hq).2⟩
    · simp only at hq
      split at hq
      · rename_i hg
        rcases List.mem_append.1 hq with hq | hq
        · exact ⟨List.mem_append_left _ (ih (by omega) hq).1,(ih (by omega) hq).2⟩
        · simp only [List.mem_singleton] at hq;subst hq;exact ⟨by simp,hg⟩
      · exact ⟨List.mem_append_left _ (ih (by omega) hq).1,(ih (by omega) hq).2⟩
def FV (G:List Gap) (n:Int):Bool:=G.any fun q=>decide (q.num=n)
theorem hasGap_iff {E:List Sh.Event} {n:Int}:FV (CJ E) n=true↔∃ e∈E,e.slip.num=n∧e.gap≠0:=by
  unfold FV CJ;simp only [List.any_eq_true,List.mem_flatMap,decide_eq_true_eq]
  constructor
  · rintro ⟨q,⟨e,he,hq⟩,hn⟩
    unfold gapOf at hq
    split at hq
    · rename_i hg;simp only [List.mem_singleton] at hq;subst hq;exact ⟨e,he,hn,hg⟩
    · cases hq
  · rintro ⟨e,he,hn,hg⟩
    exact ⟨⟨e.slip.num,e.gap⟩,⟨e,he,by unfold gapOf;rw [if_pos hg];simp⟩,hn⟩
theorem nodup_inj {α β:Type} {f:α→β} {l:List α} (h:(l.map f).Nodup):∀ a∈l,∀ b∈l,f a=f b→a=b:=by
  intro a ha b hb e
  induction l with
  | nil=>cases ha
  | cons x r ih=>
    rw [List.map_cons,List.nodup_cons] at h;rcases List.mem_cons.1 ha with rfl | ha1 <;> rcases List.mem_cons.1 hb with rfl | hb1
    · rfl
    · exact absurd (e▸List.mem_map_of_mem (f:=f) hb1) h.1
    · exact absurd (e▸List.mem_map_of_mem (f:=f) ha1) h.1
    · exact ih h.2 ha1 hb1
section
variable {i:Nat} (g:GoodL L) (hi:i<(AD AC L.slips).length)
include g hi
omit g in
theorem sorted_in:(AD AC L.slips).getD i AB∈L.slips:=(CT _).subset (BA (d:=AB) hi)
theorem NG:∃ j:Nat,LB (fun x:Slip=>decide (x.num=((AD AC L.slips).getD i AB).num)) L.slips=(j:Int)∧L.slips.getD j AB=(AD AC L.slips).getD i AB:=by
  have hm:=sorted_in hi
  obtain ⟨j,h1,h2,h3,_⟩:=idxF_spec (p:=fun x:Slip=>decide (x.num=((AD AC L.slips).getD i AB).num)) (l:=L.slips) (d:=AB) (by
    rcases Int.lt_or_le (LB (fun x:Slip=>decide (x.num=((AD AC L.slips).getD i AB).num)) L.slips) 0 with h | h
    · have:=idxF_neg h;rw [List.any_eq_false] at this;exact absurd (by simp) (this _ hm)
    · exact h)
  exact ⟨j,h1,once_inj g.once _ (BA (d:=AB) h2) _ hm (of_decide_eq_true h3)⟩
theorem held_kind (hk:((AD AC L.slips).getD i AB).kind≠4):AS L ((AD AC L.slips).getD i AB).num=([],8):=by
  obtain ⟨j,h1,h2⟩:=NG g hi;exact holdersE_3 (LU g) h1 (by rw [h2];exact hk)
omit g in
theorem ev_at:(BP L).take (i+1)=(BP L).take i++[evOf (aft (EY L) ((AD AC L.slips).take i)) ((AD AC L.slips).getD i AB)]:=evs_take hi
omit g in
theorem ev_mem:evOf (aft (EY L) ((AD AC L.slips).take i)) ((AD AC L.slips).getD i AB)∈BP L:=List.mem_of_mem_take (i:=i+1) (by rw [ev_at hi];simp)
theorem ev_gap {e:Sh.Event} (he:e∈BP L) (hn:e.slip.num=((AD AC L.slips).getD i AB).num):e=evOf (aft (EY L) ((AD AC L.slips).take i)) ((AD AC L.slips).getD i AB):=nodup_inj (evs_nums g) _ he _ (ev_mem hi) hn
theorem held_none (hk:((AD AC L.slips).getD i AB).kind=4) (hg:FV (CJ (BP L)) ((AD AC L.slips).getD i AB).num=false):AS L ((AD AC L.slips).getD i AB).num=([],11):=by
  obtain ⟨j,h1,h2⟩:=NG g hi;refine holdersE_5 (LU g) h1 (by rw [h2];exact hk) (lackAt_none fun q hq hn=>?_);have:=gfold_in (L:=L) (i:=(BP L).length) (E:=BP L) (Nat.le_refl _) (q:=q) (by rw [List.take_length];exact hq);rw [List.take_length] at this;rw [hasGap_iff.2 ⟨_,this.1,hn,this.2⟩] at hg;cases hg
theorem held_some (hk:((AD AC L.slips).getD i AB).kind=4) (hg:FV (CJ (BP L)) ((AD AC L.slips).getD i AB).num=true):AS L ((AD AC L.slips).getD i AB).num=(NW L ((AD AC L.slips).getD i AB).place (EA ((AD AC L.slips).getD i AB) ((AD AC L.slips).take i)) ((AD AC L.slips).getD i AB).hour 9,0):=by
  obtain ⟨j,h1,h2⟩:=NG g hi;have hh:∀ x∈L.slips,0≤x.hour:=fun x hx=>(NF (g.slipOf hx)).2.1.1
  rw [← hold_due g (sinceM_ge (fun x hx=>hh x ((CT _).subset (List.mem_of_mem_take hx)))) (hh _ (sorted_in hi))];refine MV (LU g) h1 (by rw [h2];exact hk) ?_;obtain ⟨e,he,hn,h3⟩:=hasGap_iff.1 hg;have hz:=ev_gap g hi he hn;rw [hz] at h3;have h4:=gfold_4 (L:=L) (xs:=(BP L).take i) (x:=evOf (aft (EY L) ((AD AC L.slips).take i)) ((AD AC L.slips).getD i AB)) hk h3;rw [← ev_at hi] at h4;have h5:(DV L ((BP L).take i)).2++[(evOf (aft (EY L) ((AD AC L.slips).take i)) ((AD AC L.slips).getD i AB),CO L ((AD AC L.slips).getD i AB) (EA ((AD AC L.slips).getD i AB) ((AD AC L.slips).take i)))] <+: LY L:=by
    rw [← gfold_since (L:=L) (k:=keyOf ((AD AC L.slips).getD i AB)) rfl (H:=EY L) i (by omega)];have h6:(DV L ((BP L).take (i+1))).2 <+: LY L:=gfold_pre (List.take_prefix _ _);rw [← h4] at h6;exact h6
  refine lackAt_hit h5 (fun q hq hq2=>?_) rfl;have h7:=(gfold_in (L:=L) (i:=i) (E:=BP L) (by rw [HC];rw [(CT _).length_eq] at hi;omega) hq).1;have h8:=ev_gap g hi (List.mem_of_mem_take h7) hq2;have hN:(((BP L).take (i+1)).map fun e=>e.slip.num).Nodup:=(evs_nums g).sublist ((List.take_sublist _ _).map _);rw [ev_at hi,List.map_append,List.nodup_append] at hN;exact hN.2.2 _ (List.mem_map_of_mem (f:=fun e:Sh.Event=>e.slip.num) h7) _ (List.mem_map_of_mem (f:=fun e:Sh.Event=>e.slip.num) (List.mem_singleton.2 rfl)) hq2
end
end
section
variable {L:Lin} {p who frm to:Int} {ks:List Keep} {k:Keep} {i m:Nat}
theorem hadK_skip (h:(!(cmp .eql k.place p)||(!(cmp .eql k.who who)||cmp .gtr k.hour to))=true):hadK p who frm to ks k=false:=by
  cases e:hadK p who frm to ks k with
  | false=>rfl
  | true=>
    simp only [hadK,Bool.and_eq_true,decide_eq_true_eq] at e;obtain ⟨⟨⟨h1,h2⟩,h3⟩,_⟩:=e;simp only [JM,cmp_gtr,h1,h2,decide_true,Bool.not_true,Bool.false_or,decide_eq_true_eq] at h;omega
theorem hadK_until (hm:ks.length≤m) (h:cmp .geq (FC p k.hour to (ks.take m)) frm=false):hadK p who frm to ks k=false:=by
  rw [List.take_of_length_le hm] at h;unfold hadK;rw [show decide (frm≤FC p k.hour to ks)=false from h,Bool.and_false]
theorem had_yes (hi:i<L.keeps.length) (hm:L.keeps.length≤m) (h:(!(cmp .eql (L.keeps.getD i AH).place p)||(!(cmp .eql (L.keeps.getD i AH).who who)||cmp .gtr (L.keeps.getD i AH).hour to))=false) (h2:cmp .geq (FC p (L.keeps.getD i AH).hour to (L.keeps.take m)) frm=true):hadE L p who frm to=true:=by
  rw [List.take_of_length_le hm] at h2;refine List.any_eq_true.2 ⟨L.keeps.getD i AH,BA (d:=AH) hi,?_⟩;simp only [JM,cmp_gtr,Bool.or_eq_false_iff,Bool.not_eq_false',decide_eq_true_eq,decide_eq_false_iff_not] at h;unfold hadK;rw [show decide (frm≤FC p (L.keeps.getD i AH).hour to L.keeps)=true from h2];simp only [h.1,h.2.1,decide_true,Bool.true_and,Bool.and_true,decide_eq_true_eq];omega
theorem had_no (h:∀ j,j<i→hadK p who frm to L.keeps (L.keeps.getD j AH)=false) (hi:L.keeps.length≤i):hadE L p who frm to=false:=by
  refine List.any_eq_false.2 fun x hx=>?_
  obtain ⟨j,hj,rfl⟩:=List.mem_iff_getElem.1 hx;have:=h j (by omega)
  simpa [List.getD,hj] using this
end
section
variable {L:Lin} {G:List Gap} {n:Int} {i k m:Nat}
theorem hasGap_snoc (hk:k<G.length):FV (G.take (k+1)) n=(FV (G.take k) n||decide ((G.getD k KJ).num=n)):=by
  rw [BL (d:=KJ) hk];unfold FV;rw [any_snoc]
theorem hasGap_t (hk:k<G.length) (h:FV (G.take k) n=true):true=FV (G.take (k+1)) n:=by rw [hasGap_snoc hk,h];rfl
theorem hasGap_f (hk:k<G.length) (h:FV (G.take k) n=false):cmp .eql (G.getD k KJ).num n=FV (G.take (k+1)) n:=by rw [hasGap_snoc hk,h];rfl
variable (g:GoodL L) (hi:i<(AJ L.slips).length)
include g hi
theorem hs_kind (hk:((AJ L.slips).getD i AB).kind≠4):AS L ((AJ L.slips).getD i AB).num=([],8):=held_kind g hi hk
theorem hs_none (hk:((AJ L.slips).getD i AB).kind=4) (hm:(DU L).1.length≤m) (hg:FV ((DU L).1.take m) ((AJ L.slips).getD i AB).num=false):AS L ((AJ L.slips).getD i AB).num=([],11):=by
  rw [List.take_of_length_le hm,gaps_fst g] at hg;exact held_none g hi hk hg
theorem hs_some (hk:((AJ L.slips).getD i AB).kind=4) (hm:(DU L).1.length≤m) (hg:FV ((DU L).1.take m) ((AJ L.slips).getD i AB).num=true):AS L ((AJ L.slips).getD i AB).num=(NW L ((AJ L.slips).getD i AB).place (EA ((AJ L.slips).getD i AB) ((AJ L.slips).take i)) ((AJ L.slips).getD i AB).hour 9,0):=by
  rw [List.take_of_length_le hm,gaps_fst g] at hg;exact held_some g hi hk hg
end
section
variable {A:List Slip} {s:Slip} {k:Nat}
theorem since_t (hk:k<A.length) (h:(cmp .eql (A.getD k AB).kind 4&&(cmp .eql (A.getD k AB).place s.place&&(cmp .eql (A.getD k AB).sort s.sort&&((A.getD k AB).soil == s.soil))))=true):(A.getD k AB).hour=EA s (A.take (k+1)):=by
  rw [BL (d:=AB) hk,KW];unfold sstep;rw [if_pos (by simpa [cmp] using h)]
theorem since_f (hk:k<A.length) (h:(cmp .eql (A.getD k AB).kind 4&&(cmp .eql (A.getD k AB).place s.place&&(cmp .eql (A.getD k AB).sort s.sort&&((A.getD k AB).soil == s.soil))))=false):EA s (A.take k)=EA s (A.take (k+1)):=by
  rw [BL (d:=AB) hk,KW];unfold sstep;rw [if_neg (fun e=>by simp only [JM,e.1,e.2.1,e.2.2.1,e.2.2.2,decide_true,beq_self_eq_true,Bool.and_self] at h;cases h)]
end
end Go.Sh
namespace Go.Proofs.Ytgcemienebmdeaa
open Go Go.Sl Go.Sh
set_option maxRecDepth 100000
noncomputable def c_had (p:List Nat):Code:=sub (AR Try.f21) p
theorem had_ct (I:Imm) (l:Value) (L:Lin) (pl:Int) (who:Int) (ff:Int) (tt:Int) (l_f:IsLin I l L) (hg:GoodL L):CtV Try.prog 21 #[l,vI pl,vI who,vI ff,vI tt] I (.bool (hadE L pl who ff tt)):=by
 obtain ⟨l1,l2,l3,e7,c6,c8,d0⟩:=id l_f;subst e7;obtain ⟨a2,a3,d2,d5,d1,c5,d3,d4,d6,d7⟩:=id c6;subst c5;obtain ⟨a0,a1,d8,e1,c7,d9,e0,b2⟩:=id c8;subst c7;obtain ⟨a4,a5,e2,e5,c9,e3,e4,e6⟩:=id d0;subst c9;refine fr (args:=[_,_,_,_,_]) (N:=76) Try.func21 (fun F=>?_);show Run _ _ (c_had []) _ _ [(0,.agg #[vI (L.places),vI (L.sorts),vS a2 L.start.length a3,vS a0 L.keeps.length a1,vS a4 L.slips.length a5]),(1,vI (pl)),(2,vI (who)),(3,vI (ff)),(4,vI (tt))] _ _;refine rnm (rqr ?_);refine sS (sb 5 40 #[vI (L.places),vI (L.sorts),vS a2 L.start.length a3,vS a0 L.keeps.length a1,vS a4 L.slips.length a5] (fun b1=>(sp 1 [(10,.bool (false))] (se (rq (rqr (sp 1 [(11,vI (0))] (se (rb 0 ?_)))))))));refine rl (fun mz a w=>∃ i:Nat,(i≤L.keeps.length)∧(∀ j,j<i→hadK pl who ff tt L.keeps (L.keeps.getD j AH)=false)∧Slots 76 [(11,vI ↑i),(1,vI (pl)),(2,vI (who)),(3,vI (ff)),(4,vI (tt)),(5,vP b1 0)] a∧a.defers=[]∧St I ((bX b1 #[vI (L.places),vI (L.sorts),vS a2 L.start.length a3,vS a0 L.keeps.length a1,vS a4 L.slips.length a5] 40)::F) w∧mz=L.keeps.length-i) ?_ ?_
 ·intro a w hS hD hW;exact ⟨_,0,Nat.zero_le _,(fun j hj=>by omega),hS.sub (.cons 11 rfl (.cons 1 rfl (.cons 2 rfl (.cons 3 rfl (.cons 4 rfl (.cons 5 rfl (.nil _))))))),hD,hW,rfl⟩
 rintro mz a w ⟨i,hi,c4,hS,hD,hW,rfl⟩
 refine AU hS hD hW ?_;clear hS hD hW a w;refine rq (rqr (sp 2 [(17,vP b1 3),(16,vI (↑i))] (sd (dlb 18 0 3 b1 (vS a0 L.keeps.length a1)) (sp 2 [(20,.bool (cmp .lss (↑i) (↑(L.keeps.length))))] (se (rc 20 rfl (fun h1=>?_) (fun h1=>?_)))))))
 ·
  have c1:=h1;have h1:=CP h1;refine AQ (NX (rq (rb 1 (rqr (sp 1 [(23,vP b1 3)] (sd (dlb 24 0 3 b1 (vS a0 L.keeps.length a1)) (sp 1 [(25,vI (↑i))] (sd (di 26 3 (i) b2.addr) (sd (CF (x:=(.tmp 26)) (T:=79) (n:=3) (vs:=[vI ((L.keeps.getD (i) AH).place),vI ((L.keeps.getD (i) AH).hour),vI ((L.keeps.getD (i) AH).who)]) (d:=27) (ty:=79) (gd:=none) (by kernel_rfl) rfl (by kernel_rfl) (by kernel_rfl) rfl rfl (DW (vals:=IX) (fun _=>rfl) b2 (i) (by omega))) (sS (sal 12 79 #[vI (0),vI (0),vI (0)] (fun b3=>(sS (ss 0 0 b3 [vI ((L.keeps.getD (i) AH).place),vI ((L.keeps.getD (i) AH).hour),vI ((L.keeps.getD (i) AH).who)] [vI ((L.keeps.getD (i) AH).place),vI ((L.keeps.getD (i) AH).hour),vI ((L.keeps.getD (i) AH).who)] (_::_::_) (cs:=[_,_,_]) rfl rfl (se (rq (rq ?_)))))))))))))))));refine CS (fun a w=>Slots 76 [(1,vI (pl)),(2,vI (who)),(3,vI (ff)),(4,vI (tt)),(5,vP b1 0),(11,vI (↑i)),(12,vP b3 0),(43,.bool ((!(cmp .eql ((L.keeps.getD (i) AH).place) (pl)))||((!(cmp .eql ((L.keeps.getD (i) AH).who) (who)))||(cmp .gtr ((L.keeps.getD (i) AH).hour) (tt)))))] a∧a.defers=[]∧St I ((bX b3 #[vI ((L.keeps.getD (i) AH).place),vI ((L.keeps.getD (i) AH).hour),vI ((L.keeps.getD (i) AH).who)] 79)::(bX b1 #[vI (L.places),vI (L.sorts),vS a2 L.start.length a3,vS a0 L.keeps.length a1,vS a4 L.slips.length a5] 40)::F) w) ?_ ?_
  ·
   refine rr (sp 1 [(28,vP b3 0)] (sd (dlb 29 0 0 b3 (vI ((L.keeps.getD (i) AH).place))) (sp 3 [(32,.bool (!(cmp .eql ((L.keeps.getD (i) AH).place) (pl))))] ?_)));refine BG 32 rfl (fun h2=>?_) (fun h2=>?_)
   ·
    have a6:=h2;have a6:=BW (CY a6);refine sp 11 [(43,.bool (true))] (ee ?_);refine AO (fun a w hS hD hW=>⟨hS.sub (.cons 1 rfl (.cons 2 rfl (.cons 3 rfl (.cons 4 rfl (.cons 5 rfl (.cons 11 rfl (.cons 12 rfl (.consE 43 rfl (congrArg Value.bool (by simp only [h2,kA,kB,kC,kD,kE,kF,kG,kH,kI,kJ])) (.nil _))))))))),hD,hW⟩)
   have a6:=h2;have a6:=BR (CQ a6);refine sp 1 [(33,vP b3 2)] (sd (dlb 34 0 2 b3 (vI ((L.keeps.getD (i) AH).who))) (sp 4 [(38,.bool (!(cmp .eql ((L.keeps.getD (i) AH).who) (who))))] ?_));refine BG 38 rfl (fun h3=>?_) (fun h3=>?_)
   ·
    have a7:=h3;have a7:=BW (CY a7);refine sp 5 [(43,.bool (true))] (ee ?_);refine AO (fun a w hS hD hW=>⟨hS.sub (.cons 1 rfl (.cons 2 rfl (.cons 3 rfl (.cons 4 rfl (.cons 5 rfl (.cons 11 rfl (.cons 12 rfl (.consE 43 rfl (congrArg Value.bool (by simp only [h2,h3,kA,kB,kC,kD,kE,kF,kG,kH,kI,kJ])) (.nil _))))))))),hD,hW⟩)
   have a7:=h3;have a7:=BR (CQ a7);refine sp 1 [(39,vP b3 1)] (sd (dlb 40 0 1 b3 (vI ((L.keeps.getD (i) AH).hour))) (sp 3 [(43,.bool (cmp .gtr ((L.keeps.getD (i) AH).hour) (tt)))] (ee ?_)));refine AO (fun a w hS hD hW=>⟨hS.sub (.cons 1 rfl (.cons 2 rfl (.cons 3 rfl (.cons 4 rfl (.cons 5 rfl (.cons 11 rfl (.cons 12 rfl (.consE 43 rfl (congrArg Value.bool (by simp only [h2,h3,kA,kB,kC,kD,kE,kF,kG,kH,kI,kJ])) (.nil _))))))))),hD,hW⟩)
  rintro a w ⟨hS,hD,hW⟩
  refine AU hS hD hW ?_;clear hS hD hW a w;refine rc 43 rfl (fun h4=>?_) (fun h4=>?_)
  ·
   have b4:=h4;refine CC 1 ((EP (EB (NX (rr (sp 1 [(21,vI (↑i))] (sd (da 22 (↑i) (1)) (sp 1 [(11,vI (↑i+1))] (ee ?_)))))))));refine AN (L.keeps.length-(i+1)) (by omega) ?_;intro a w hS hD hW;exact ⟨i+1,by omega,IK c4 (hadK_skip b4),hS.sub (.consE 11 rfl rfl (.cons 1 rfl (.cons 2 rfl (.cons 3 rfl (.cons 4 rfl (.cons 5 rfl (.nil _))))))),hD,(hW.perm (PR _)).sub (TC _ (TR _)),rfl⟩
  have b4:=h4;obtain ⟨b8,c2⟩:=or_f h4;have b8:=BR (CQ b8);obtain ⟨a8,a9⟩:=or_f c2;have a8:=BR (CQ a8);have a9:=OA a9;refine AQ (NX (rqr (sp 2 [(13,vI (tt))] (se (rq (rqr (sp 1 [(14,vI (0))] (se (rb 2 ?_)))))))));refine rl (fun mz a w=>∃ m:Nat,(m≤L.keeps.length)∧Slots 76 [(13,vI (FC pl (L.keeps.getD (i) AH).hour tt (L.keeps.take m))),(14,vI ↑m),(1,vI (pl)),(2,vI (who)),(3,vI (ff)),(4,vI (tt)),(5,vP b1 0),(11,vI (↑i)),(12,vP b3 0)] a∧a.defers=[]∧St I ((bX b3 #[vI ((L.keeps.getD (i) AH).place),vI ((L.keeps.getD (i) AH).hour),vI ((L.keeps.getD (i) AH).who)] 79)::(bX b1 #[vI (L.places),vI (L.sorts),vS a2 L.start.length a3,vS a0 L.keeps.length a1,vS a4 L.slips.length a5] 40)::F) w∧mz=L.keeps.length-m) ?_ ?_
  ·intro a w hS hD hW;exact ⟨_,0,Nat.zero_le _,hS.sub (.cons 13 rfl (.cons 14 rfl (.cons 1 rfl (.cons 2 rfl (.cons 3 rfl (.cons 4 rfl (.cons 5 rfl (.cons 11 rfl (.cons 12 rfl (.nil _)))))))))),hD,hW,rfl⟩
  rintro mz a w ⟨m,hm,hS,hD,hW,rfl⟩
  refine AU hS hD hW ?_;clear hS hD hW a w;refine rq (rqr (sp 2 [(46,vP b1 3),(45,vI (↑m))] (sd (dlb 47 1 3 b1 (vS a0 L.keeps.length a1)) (sp 2 [(49,.bool (cmp .lss (↑m) (↑(L.keeps.length))))] (se (rc 49 rfl (fun h5=>?_) (fun h5=>?_)))))))
  ·
   have c3:=h5;have h5:=CP h5;refine AQ (NX (rq (rb 3 (rqr (sp 1 [(52,vP b1 3)] (sd (dlb 53 1 3 b1 (vS a0 L.keeps.length a1)) (sp 1 [(54,vI (↑m))] (sd (di 55 3 (m) b2.addr) (sd (CF (x:=(.tmp 55)) (T:=79) (n:=3) (vs:=[vI ((L.keeps.getD (m) AH).place),vI ((L.keeps.getD (m) AH).hour),vI ((L.keeps.getD (m) AH).who)]) (d:=56) (ty:=79) (gd:=none) (by kernel_rfl) rfl (by kernel_rfl) (by kernel_rfl) rfl rfl (DW (vals:=IX) (fun _=>rfl) b2 (m) (by omega))) (sS (sal 15 79 #[vI (0),vI (0),vI (0)] (fun b5=>(sS (ss 0 0 b5 [vI ((L.keeps.getD (m) AH).place),vI ((L.keeps.getD (m) AH).hour),vI ((L.keeps.getD (m) AH).who)] [vI ((L.keeps.getD (m) AH).place),vI ((L.keeps.getD (m) AH).hour),vI ((L.keeps.getD (m) AH).who)] (_::_::_::_) (cs:=[_,_,_]) rfl rfl (se (rq ?_))))))))))))))));refine CS (fun a w=>Slots 76 [(1,vI (pl)),(2,vI (who)),(3,vI (ff)),(4,vI (tt)),(5,vP b1 0),(11,vI (↑i)),(12,vP b3 0),(13,vI (FC pl (L.keeps.getD (i) AH).hour tt (L.keeps.take m))),(14,vI (↑m)),(15,vP b5 0),(67,.bool ((cmp .eql ((L.keeps.getD (m) AH).place) (pl))&&(cmp .gtr ((L.keeps.getD (m) AH).hour) ((L.keeps.getD (i) AH).hour))))] a∧a.defers=[]∧St I ((bX b5 #[vI ((L.keeps.getD (m) AH).place),vI ((L.keeps.getD (m) AH).hour),vI ((L.keeps.getD (m) AH).who)] 79)::(bX b3 #[vI ((L.keeps.getD (i) AH).place),vI ((L.keeps.getD (i) AH).hour),vI ((L.keeps.getD (i) AH).who)] 79)::(bX b1 #[vI (L.places),vI (L.sorts),vS a2 L.start.length a3,vS a0 L.keeps.length a1,vS a4 L.slips.length a5] 40)::F) w) ?_ ?_
   ·
    refine rr (sp 1 [(57,vP b5 0)] (sd (dlb 58 0 0 b5 (vI ((L.keeps.getD (m) AH).place))) (sp 3 [(61,.bool (cmp .eql ((L.keeps.getD (m) AH).place) (pl)))] ?_)));refine BG 61 rfl (fun h6=>?_) (fun h6=>?_)
    ·
     have b0:=h6;have b0:=BR b0;refine sp 1 [(62,vP b5 1)] (sd (dlb 63 0 1 b5 (vI ((L.keeps.getD (m) AH).hour))) (sp 1 [(64,vP b3 1)] (sd (dlb 65 1 1 b3 (vI ((L.keeps.getD (i) AH).hour))) (sp 2 [(67,.bool (cmp .gtr ((L.keeps.getD (m) AH).hour) ((L.keeps.getD (i) AH).hour)))] (ee ?_)))));refine AO (fun a w hS hD hW=>⟨hS.sub (.cons 1 rfl (.cons 2 rfl (.cons 3 rfl (.cons 4 rfl (.cons 5 rfl (.cons 11 rfl (.cons 12 rfl (.cons 13 rfl (.cons 14 rfl (.cons 15 rfl (.consE 67 rfl (congrArg Value.bool (by simp only [h6,kA,kB,kC,kD,kE,kF,kG,kH,kI,kJ])) (.nil _)))))))))))),hD,hW⟩)
    have b0:=h6;have b0:=BW b0;refine sp 6 [(67,.bool (false))] (ee ?_);refine AO (fun a w hS hD hW=>⟨hS.sub (.cons 1 rfl (.cons 2 rfl (.cons 3 rfl (.cons 4 rfl (.cons 5 rfl (.cons 11 rfl (.cons 12 rfl (.cons 13 rfl (.cons 14 rfl (.cons 15 rfl (.consE 67 rfl (congrArg Value.bool (by simp only [h6,kA,kB,kC,kD,kE,kF,kG,kH,kI,kJ])) (.nil _)))))))))))),hD,hW⟩)
   rintro a w ⟨hS,hD,hW⟩
   refine AU hS hD hW ?_;clear hS hD hW a w;refine rc 67 rfl (fun h7=>?_) (fun h7=>?_)
   ·
    have b6:=h7;obtain ⟨b9,c0⟩:=KP h7;have b9:=BR b9;have c0:=KI c0;have e8:=(hg.keepOf (BA (xs:=L.keeps) (d:=AH) (k:=m) (by omega))).1;refine rr (sp 2 [(69,vP b5 1),(68,vI (FC pl (L.keeps.getD (i) AH).hour tt (L.keeps.take m)))] (sd (dlb 70 0 1 b5 (vI ((L.keeps.getD (m) AH).hour))) (sd (dsb 71 ((L.keeps.getD (m) AH).hour) (1)) (sp 2 [(13,vI ((if (((L.keeps.getD (m) AH).hour)-1:Int)<(FC pl (L.keeps.getD (i) AH).hour tt (L.keeps.take m):Int) then ((L.keeps.getD (m) AH).hour)-1 else FC pl (L.keeps.getD (i) AH).hour tt (L.keeps.take m))))] (ee (NB (NX (rr (sp 1 [(50,vI (↑m))] (sd (da 51 (↑m) (1)) (sp 1 [(14,vI (↑m+1))] (ee ?_))))))))))));refine AN (L.keeps.length-(m+1)) (by omega) ?_;intro a w hS hD hW;exact ⟨m+1,by omega,hS.sub (.consE 13 rfl (congrArg (Value.int .i64) (untilM_t (by omega) b6)) (.consE 14 rfl rfl (.cons 1 rfl (.cons 2 rfl (.cons 3 rfl (.cons 4 rfl (.cons 5 rfl (.cons 11 rfl (.cons 12 rfl (.nil _)))))))))),hD,(hW.perm (PR _)).sub (TC _ (TR _)),rfl⟩
   have b6:=h7;refine AQ (NB (NX (rr (sp 1 [(50,vI (↑m))] (sd (da 51 (↑m) (1)) (sp 1 [(14,vI (↑m+1))] (ee ?_)))))));refine AN (L.keeps.length-(m+1)) (by omega) ?_;intro a w hS hD hW;exact ⟨m+1,by omega,hS.sub (.consE 13 rfl (congrArg (Value.int .i64) (untilM_f (by omega) b6)) (.consE 14 rfl rfl (.cons 1 rfl (.cons 2 rfl (.cons 3 rfl (.cons 4 rfl (.cons 5 rfl (.cons 11 rfl (.cons 12 rfl (.nil _)))))))))),hD,(hW.perm (PR _)).sub (TC _ (TR _)),rfl⟩
  have c3:=h5;have h5:=CX h5;refine CC 2 ((EP (EP (EB (NX (rqr (sp 3 [(75,.bool (cmp .geq (FC pl (L.keeps.getD (i) AH).hour tt (L.keeps.take m)) (ff)))] (se (rc 75 rfl (fun h8=>?_) (fun h8=>?_))))))))))
  ·
   have b7:=h8;have h8:=geq_t h8;refine rqr (sp 1 [(10,.bool (true))] (se (BU ((RB (RP (RP (RB (RP (AK (t:=10) [] (by kernel_rfl) rfl (TC _ (TC _ (TR _))) (IR _) ?_))))))))));exact ⟨congrArg Value.bool (had_yes (i:=i) (by omega) (by omega) b4 b7).symm,rfl⟩
  have b7:=h8;have h8:=geq_f h8;refine AQ (NB (NX (rr (sp 1 [(21,vI (↑i))] (sd (da 22 (↑i) (1)) (sp 1 [(11,vI (↑i+1))] (ee ?_)))))));refine AN (L.keeps.length-(i+1)) (by omega) ?_;intro a w hS hD hW;exact ⟨i+1,by omega,IK c4 (hadK_until (by omega) b7),hS.sub (.consE 11 rfl rfl (.cons 1 rfl (.cons 2 rfl (.cons 3 rfl (.cons 4 rfl (.cons 5 rfl (.nil _))))))),hD,(hW.perm (PR _)).sub (TC _ (TR _)),rfl⟩
 have c1:=h1;have h1:=CX h1;refine CC 0 ((EP (EP (EB (NX (rqr (sp 1 [(10,.bool (false))] (se (BU (AK (t:=10) [] (by kernel_rfl) rfl (TC _ (TR _)) (IR _) ?_))))))))));exact ⟨congrArg Value.bool (had_no c4 (by omega)).symm,rfl⟩
end Go.Proofs.Ytgcemienebmdeaa
namespace Go.Sh
open Go Go.Sl
def gAt (cs:List Car) (i:Nat):Int:=(cs.getD i noCar).grp
structure CarsInv (cs:List Car) (g l:Int):Prop where
  ok:∀ c∈cs,carErr c=0∧c.len≤3
  le:∀ i,i<cs.length→gAt cs i≤g
  run:∀ i j,i≤j→j<cs.length→gAt cs i=gAt cs j→gAt cs i≠0→∀ m,i≤m→m≤j→gAt cs m=gAt cs i
  g0:0≤g∧g≤3
  l0:0≤l∧l≤2
  last:0<l→1≤g∧(0<cs.length→gAt cs (cs.length-1)=g∨∀ i,i<cs.length→gAt cs i<g)
theorem CarsInv.nil:CarsInv [] 0 0:=⟨fun c h=>by simp at h,fun i h=>by simp at h,fun i j _ h=>by simp at h,by omega,by omega,fun h=>by omega⟩
theorem KE {cs:List Car} {c:Car} {i:Nat}:gAt (cs++[c]) i=if i<cs.length then gAt cs i else if i=cs.length then c.grp else 0:=by
  unfold gAt;simp only [List.getD]
  split
  · rename_i h;rw [List.getElem?_append_left h]
  · rename_i h
    rw [List.getElem?_append_right (by omega)]
    split
    · rename_i h2;simp [h2]
    · rename_i h2
      have:1≤i-cs.length:=by omega
      cases hh:i-cs.length with
      | zero=>omega
      | succ n=>simp [noCar]
theorem CarsInv.snoc {cs:List Car} {g l:Int} (h:CarsInv cs g l) {c:Car} (hc:carErr c=0∧c.len≤3) (hg:(0<l→c.grp=g)∧(¬ 0<l→c.grp=0)):CarsInv (cs++[c]) g (if 0<l then l-1 else l):=by
  have hg0:=h.g0;have hl0:=h.l0;have hle:c.grp≤g:=by by_cases hl:0<l;exact Int.le_of_eq (hg.1 hl);rw [hg.2 hl];omega
  refine ⟨fun x hx=>?_,fun i hi=>?_,?_,hg0,by split <;> omega,fun hl=>?_⟩
  · rcases List.mem_append.1 hx with hx | hx
    · exact h.ok x hx
    · simp at hx;subst hx;exact hc
  · rw [KE]
    split
    · rename_i h1;exact h.le i h1
    · split
      · exact hle
      · omega
  · intro i j hij hj e h0 m him hmj
    simp only [List.length_append,List.length_cons,List.length_nil] at hj;have A:∀ x,x<cs.length→gAt (cs++[c]) x=gAt cs x:=fun x hx=>by rw [KE,if_pos hx]
    have B:gAt (cs++[c]) cs.length=c.grp:=by rw [KE,if_neg (by omega),if_pos rfl]
    by_cases hj1:j<cs.length
    · rw [A i (by omega)] at e h0 ⊢
      rw [A j hj1] at e;rw [A m (by omega)];exact h.run i j hij hj1 e h0 m him hmj
    · have hj2:j=cs.length:=by omega
      subst hj2;rw [B] at e
      by_cases hi1:i<cs.length
      · rw [A i hi1] at e h0 ⊢
        by_cases hm1:m<cs.length
        · rw [A m hm1]
          by_cases hl:0<l
          · have hcg:=hg.1 hl
            rcases (h.last hl).2 (by omega) with hla | hla
            · exact h.run i (cs.length-1) (by omega) (by omega) (by rw [hla];omega) h0 m him (by omega)
            · have:=hla i hi1;omega
          · have:=hg.2 hl;omega
        · have hm2:m=cs.length:=by omega
          subst hm2;rw [B];exact e.symm
      · have hi2:i=cs.length:=by omega
        have hm2:m=i:=by omega
        rw [hm2]
  · have hl1 : 0 < l := by
      by_cases h1:0<l
      · exact h1
      · rw [if_neg h1] at hl;exact hl
    have:=h.last hl1;refine ⟨this.1,fun _=>.inl ?_⟩;have e:(cs++[c]).length-1=cs.length:=by simp
    rw [e,KE,if_neg (by omega),if_pos rfl];exact hg.1 hl1
structure Placed (cs:List Car) (T k a:Nat) (ts:List (List Int)):Prop where
  len:ts.length=T
  a0:a<T
  perm:ts.flatten.Perm (DJ k)
  ex:∃ tr:Nat→Nat,(∀ i,i<T→ts.getD i []=(DJ k).filter fun c=>decide (tr c.toNat=i))∧(∀ c,c<k→tr c<T)∧(∀ c,c+1<k→gAt cs (c+1)≠0→gAt cs (c+1)=gAt cs c→tr (c+1)=tr c)∧(0<k→tr (k-1)=a)
theorem mem_wholeL {n:Nat} {c:Int}:c∈DJ n↔0≤c∧c<n:=by
  unfold DJ;simp only [List.mem_map,List.mem_range]
  constructor
  · rintro ⟨i,hi,rfl⟩;omega
  · intro h;exact ⟨c.toNat,by omega,by omega⟩
theorem Placed.start {cs:List Car} {T:Nat} (hT:0<T):Placed cs T 0 0 (List.replicate T []):=by
  refine ⟨by simp,hT,by simp [DJ],fun _=>0,fun i hi=>?_,fun c h=>by omega,fun c h=>by omega,fun h=>by omega⟩;simp [DJ,List.getD,hi]
theorem NZ:∀ (ts:List (List Int)) (a:Nat) (x:Int),a<ts.length→(ts.set a (ts.getD a []++[x])).flatten.Perm (ts.flatten++[x]):=by
  intro ts
  induction ts with
  | nil=>intro a x h;simp at h
  | cons t r ih=>
    intro a x h;cases a with
    | zero=>
      simp only [List.set_cons_zero,List.getD_cons_zero,List.flatten_cons,List.append_assoc];exact List.Perm.append_left t List.perm_append_comm
    | succ a=>
      simp only [List.set_cons_succ,List.getD_cons_succ,List.flatten_cons,List.append_assoc];exact List.Perm.append_left t (ih a x (by simpa using h))
theorem Placed.put {cs : List Car} {T k a a2 : Nat} {ts : List (List Int)} (h : Placed cs T k a ts) (h2 : a2 < T) (hs : k ≠ 0 → gAt cs k ≠ 0 → gAt cs k = gAt cs (k - 1) → a2 = a) :
    Placed cs T (k+1) a2 (ts.set a2 (ts.getD a2 []++[(k:Int)])):=by
  obtain ⟨tr,t1,t2,t3,t4⟩:=h.ex;have hl:=h.len;refine ⟨by rw [List.length_set];exact hl,h2,?_,fun c=>if c=k then a2 else tr c,fun i hi=>?_,fun c hc=>?_,fun c hc h0 he=>?_,fun _=>?_⟩
  · rw [KZ]
    exact (NZ ts a2 k (by omega)).trans (List.Perm.append_right _ h.perm)
  · have hf : (DJ k).filter (fun c => decide ((if c.toNat = k then a2 else tr c.toNat) = i)) = ts.getD i [] := by
      rw [t1 i hi];refine List.filter_congr fun c hc=>?_
      have:=mem_wholeL.1 hc;rw [if_neg (by omega)]
    rw [KZ,List.filter_append,hf]
    by_cases e:a2=i
    · subst e
      simp [List.getD,List.getElem?_set,hl,hi]
    · simp [List.getD,List.getElem?_set,e]
  · show (if c=k then a2 else tr c)<T
    split
    · exact h2
    · exact t2 c (by omega)
  · show (if c+1=k then a2 else tr (c+1))=(if c=k then a2 else tr c)
    by_cases e1:c+1=k
    · have e3:¬ c=k:=by omega
      rw [if_pos e1,if_neg e3];have:=hs (by omega) (by rw [← e1];exact h0) (by rw [← e1];exact he);rw [this,← t4 (by omega),← e1];rfl
    · have e3:¬ c=k:=by omega
      rw [if_neg e1,if_neg e3];exact t3 c (by omega) h0 he
  · simp
theorem sorted_prev {l:List Int} (hs:l.Pairwise (·<·)) {j:Nat} (hj:j<l.length) (hm:l.getD j 0-1∈l):0<j∧l.getD (j-1) 0=l.getD j 0-1:=by
  obtain ⟨m,hm1,hm2⟩:=List.mem_iff_getElem.1 hm;have hlt:∀ (x y:Nat) (hx:x<l.length) (hy:y<l.length),x<y→l.getD x 0<l.getD y 0:=fun x y hx hy h=>by
    have:=List.pairwise_iff_getElem.1 hs x y hx hy h
    simpa [List.getD,hx,hy] using this
  have e:l.getD m 0=l.getD j 0-1:=by simpa [List.getD,hm1] using hm2
  have h1:m<j:=by
    rcases Nat.lt_trichotomy m j with h | h | h
    · exact h
    · subst h;omega
    · have:=hlt j m hj hm1 h;omega
  rcases Nat.lt_or_ge m (j-1) with h2 | h2
  · have a:=hlt m (j-1) hm1 (by omega) h2
    have b:=hlt (j-1) j (by omega) hj (by omega);omega
  · have:m=j-1:=by omega
    subst this;exact ⟨by omega,e⟩
theorem wholeL_sorted (n:Nat):(DJ n).Pairwise (·<·):=by
  unfold DJ;rw [List.pairwise_map];exact List.pairwise_lt_range.imp fun h=>by omega
theorem Placed.groups {cs:List Car} {T a:Nat} {ts:List (List Int)} {g l:Int} (h:Placed cs T cs.length a ts) (hc:CarsInv cs g l):GrpFrom cs ts []:=by
  obtain ⟨tr,t1,t2,t3,t4⟩:=h.ex;have hmem:∀ i,i<T→∀ c,c∈ts.getD i []↔(0≤c∧c<cs.length)∧tr c.toNat=i:=fun i hi c=>by
    rw [t1 i hi,List.mem_filter,mem_wholeL,decide_eq_true_eq]
  have hgrp:∀ c:Int,grp cs c=gAt cs c.toNat:=fun c=>rfl
  have hrun:∀ n x:Nat,x+n<cs.length→gAt cs x≠0→gAt cs x=gAt cs (x+n)→tr (x+n)=tr x:=by
    intro n
    induction n with
    | zero=>intro x _ _ _;rfl
    | succ n ih=>
      intro x hx h0 e;have e1:gAt cs (x+n)=gAt cs x:=hc.run x (x+(n+1)) (by omega) hx e h0 (x+n) (by omega) (by omega);have:=ih x (by omega) h0 e1.symm;rw [← this];exact t3 (x+n) (by omega) (by rw [show x+n+1=x+(n+1) by omega,← e];exact h0) (by rw [show x+n+1=x+(n+1) by omega,← e,e1])
  have hrun2:∀ x y:Nat,x<cs.length→y<cs.length→gAt cs x≠0→gAt cs x=gAt cs y→tr x=tr y:=fun x y hx hy h0 e=>by
    rcases Nat.le_total x y with hxy | hxy
    · have:=hrun (y-x) x (by omega) h0 (by rw [show x+(y-x)=y by omega];exact e)
      rw [show x+(y-x)=y by omega] at this;exact this.symm
    · have:=hrun (x-y) y (by omega) (by rw [← e];exact h0) (by rw [show y+(x-y)=x by omega];exact e.symm)
      rw [show y+(x-y)=x by omega] at this;exact this
  intro i j hi hj h0 hm;rw [h.len] at hi;have hcm:(ts.getD i []).getD j 0∈ts.getD i []:=BA hj;obtain ⟨⟨c0,c1⟩,c2⟩:=(hmem i hi _).1 hcm
  generalize hcc:(ts.getD i []).getD j 0=c at hcm c0 c1 c2 h0 hm
  rcases hm with hm | ⟨c',hc',e⟩
  · simp at hm
  · rw [hgrp,hgrp] at e
    rw [hgrp] at h0;have hs:(ts.getD i []).Pairwise (·<·):=by rw [t1 i hi];exact (wholeL_sorted _).sublist List.filter_sublist
    have hc2:(0≤c'∧c'<cs.length)∧(tr c'.toNat<i∨c'∈(ts.getD i []).take j):=by
      rcases List.mem_append.1 hc' with hx | hx
      · obtain ⟨t,ht,hx⟩:=List.mem_flatten.1 hx
        obtain ⟨m,hm1,hm2⟩:=List.mem_iff_getElem.1 ht;have hm3:m<i∧m<ts.length:=by rw [List.length_take] at hm1;omega
        have e3:ts.getD m []=t:=by rw [← hm2];simp [List.getD,hm3.2]
        rw [← e3] at hx;obtain ⟨hb,ht2⟩:=(hmem m (by rw [← h.len];exact hm3.2) _).1 hx;exact ⟨hb,.inl (by omega)⟩
      · exact ⟨((hmem i hi _).1 (List.mem_of_mem_take hx)).1,.inr hx⟩
    obtain ⟨⟨d0,d1⟩,hd⟩:=hc2;have htr:=hrun2 c.toNat c'.toNat (by omega) (by omega) (by omega) e.symm;rcases hd with hd | hd
    · omega
    · obtain ⟨m,hm1,hm2⟩:=List.mem_iff_getElem.1 hd
      have hm3:m<j∧m<(ts.getD i []).length:=by rw [List.length_take] at hm1;omega
      have hlt:c'<c:=by
        have h1:=List.pairwise_iff_getElem.1 hs m j hm3.2 hj hm3.1;have e1:c'=(ts.getD i [])[m]:=by rw [← hm2];simp
        have e2:c=(ts.getD i [])[j]:=by rw [← hcc,List.getD,List.getElem?_eq_getElem hj];rfl
        rw [e1,e2];exact h1
      have e4:gAt cs (c.toNat-1)=gAt cs c'.toNat:=hc.run c'.toNat c.toNat (by omega) (by omega) e (by omega) (c.toNat-1) (by omega) (by omega);have e5:tr (c.toNat-1)=i:=by
        have:=hrun2 (c.toNat-1) c.toNat (by omega) (by omega) (by omega) (by omega);omega
      have hin:c-1∈ts.getD i []:=(hmem i hi _).2 ⟨by omega,by rw [show (c-1).toNat=c.toNat-1 by omega];exact e5⟩;have hp:=sorted_prev hs hj (by rw [hcc];exact hin);rw [hcc] at hp;unfold DB;have e6:((j:Int)-1).toNat=j-1:=by omega
      rw [show (↑j:Int).toNat=j by omega,e6,hp.2,hcc];have e7:inB ↑j 1 (↑(ts.getD i []).length-1)=true:=by simp only [inB,Bool.and_eq_true,decide_eq_true_eq];omega
      rw [e7];have e8:(JL cs c).grp=(JL cs (c-1)).grp:=by
        show gAt cs c.toNat=gAt cs (c-1).toNat;rw [show (c-1).toNat=c.toNat-1 by omega];omega
      rw [decide_eq_true (show 0<(JL cs c).grp from h0),decide_eq_true e8];rfl
structure Roomy (cs:List Car) (ts:List (List Int)) (k:Nat) (rm:List Int):Prop where
  len:rm.length=k
  ok:∀ n∈rm,0≤n∧n≤20
  fits:∀ i,i<k→lenOf cs (ts.getD i [])≤rm.getD i 0
theorem Roomy.nil (cs:List Car) (ts:List (List Int)):Roomy cs ts 0 []:=⟨rfl,fun n h=>by simp at h,fun i h=>by omega⟩
theorem Roomy.snoc {cs:List Car} {ts:List (List Int)} {k:Nat} {rm:List Int} (h:Roomy cs ts k rm) {n:Int} (hn:0≤n∧n≤20) (hf:lenOf cs (ts.getD k [])≤n):Roomy cs ts (k+1) (rm++[n]):=by
  have hl:=h.len;refine ⟨by simp [hl],fun x hx=>?_,fun i hi=>?_⟩
  · rcases List.mem_append.1 hx with hx | hx
    · exact h.ok x hx
    · simp at hx;subst hx;exact hn
  · by_cases e:i<k
    · have:=h.fits i e
      have e2:(rm++[n]).getD i 0=rm.getD i 0:=by simp only [List.getD];rw [List.getElem?_append_left (by omega)]
      rw [e2];exact this
    · have:i=k:=by omega
      subst this;have e2:(rm++[n]).getD i 0=n:=by simp only [List.getD];rw [List.getElem?_append_right (by omega),hl];simp
      rw [e2];exact hf
theorem Placed.tracks {cs:List Car} {T k a:Nat} {ts:List (List Int)} (h:Placed cs T k a ts):ts.flatten.length=k:=by rw [h.perm.length_eq,FA]
theorem Placed.tl {cs:List Car} {T k a:Nat} {ts:List (List Int)} (h:Placed cs T k a ts):∀ t∈ts,t.length≤k:=fun t ht=>by
  have:=GG ht;rw [h.tracks] at this;exact this
theorem Placed.okAll {cs:List Car} {T a:Nat} {ts:List (List Int)} (h:Placed cs T cs.length a ts):OkAll cs ts:=fun t ht c hc=>
  mem_wholeL.1 (h.perm.mem_iff.1 (List.mem_flatten.2 ⟨t,ht,hc⟩))
theorem perm_sum {l m:List Int} (h:l.Perm m):l.sum=m.sum:=by
  induction h with
  | nil=>rfl
  | cons x _ ih=>simp [ih]
  | swap x y l=>simp only [List.sum_cons];omega
  | trans _ _ h1 h2=>exact h1.trans h2
theorem erase_perm {α:Type} {d:α} {l:List α} {i:Nat} (h:i<l.length):(l.getD i d::l.eraseIdx i).Perm l:=by
  have e:l=l.take i++l.getD i d::l.drop (i+1):=by rw [← LI h,List.take_append_drop]
  rw [← erase_take];exact (List.perm_middle.symm).trans (List.Perm.of_eq e.symm)
structure Blk (cs:List Car) (bl:List (List Int)):Prop where
  one:∀ b∈bl,∀ x∈b,∀ y∈b,grp cs x=grp cs y
  apart:bl.Pairwise fun b c=>∀ x∈b,∀ y∈c,0<grp cs x→grp cs x≠grp cs y
theorem Blk.perm {cs:List Car} {bl bl':List (List Int)} (h:Blk cs bl) (p:bl.Perm bl'):Blk cs bl':=
  ⟨fun b hb=>h.one b (p.mem_iff.2 hb),(p.pairwise_iff (fun {b c} hbc x hx y hy h0 e=>hbc y hy x hx (by omega) e.symm)).1 h.apart⟩
def RowOk (cs:List Car) (t:List Int):Prop:=∀ k,k<t.length→0<grp cs (t.getD k 0)→(∃ c∈t.take k,grp cs c=grp cs (t.getD k 0))→0<k∧grp cs (t.getD (k-1) 0)=grp cs (t.getD k 0)
theorem OI {a b:List Int} {k:Nat}:(a++b).getD k 0=if k<a.length then a.getD k 0 else b.getD (k-a.length) 0:=by
  simp only [List.getD]
  split
  · rename_i h;rw [List.getElem?_append_left h]
  · rename_i h;rw [List.getElem?_append_right (by omega)]
theorem Blk.row {cs:List Car}:∀ {bl:List (List Int)},Blk cs bl→RowOk cs bl.flatten:=by
  intro bl
  induction bl with
  | nil=>intro _ k hk;simp at hk
  | cons b r ih=>
    intro h k hk h0 hc;have ih:=ih ⟨fun b hb=>h.one b (List.mem_cons_of_mem _ hb),(List.pairwise_cons.1 h.apart).2⟩;rw [List.flatten_cons] at hk h0 hc ⊢;obtain ⟨c,hc,e⟩:=hc
    by_cases hkb:k<b.length
    · have e0:(b++r.flatten).getD k 0=b.getD k 0:=by rw [OI,if_pos hkb]
      rw [List.take_append_of_le_length (by omega)] at hc;have hk0:0<k:=by
        rcases Nat.eq_zero_or_pos k with hz | hz
        · subst hz;simp at hc
        · exact hz
      refine ⟨hk0,?_⟩;rw [e0,OI,if_pos (by omega)];exact h.one b List.mem_cons_self _ (BA (by omega)) _ (BA hkb)
    · have e0:(b++r.flatten).getD k 0=r.flatten.getD (k-b.length) 0:=by rw [OI,if_neg hkb]
      rw [e0] at h0 e ⊢;have hk2:k-b.length<r.flatten.length:=by rw [List.length_append] at hk;omega
      have hmem:r.flatten.getD (k-b.length) 0∈r.flatten:=BA hk2;rw [List.take_append,List.take_of_length_le (by omega)] at hc;rcases List.mem_append.1 hc with hc | hc
      · exfalso
        obtain ⟨b2,hb2,hm2⟩:=List.mem_flatten.1 hmem;exact (List.pairwise_cons.1 h.apart).1 b2 hb2 c hc _ hm2 (by omega) e
      · obtain ⟨i1,i2⟩:=ih (k-b.length) hk2 h0 ⟨c,hc,e⟩
        refine ⟨by omega,?_⟩;rw [OI,if_neg (by omega),show k-1-b.length=k-b.length-1 by omega];exact i2
theorem coupled_of {cs:List Car} {t:List Int} {k:Nat} (hk:k<t.length) (h0:0<grp cs (t.getD k 0)) (h1:0<k) (e:grp cs (t.getD (k-1) 0)=grp cs (t.getD k 0)):DB cs t ↑k=true:=by
  rw [coupled_raw hk,show ((k:Int)-1).toNat=k-1 by omega,decide_eq_true (show 0<(k:Int) by omega),decide_eq_true (show 0<(JL cs (t.getD k 0)).grp from h0),decide_eq_true (show (JL cs (t.getD k 0)).grp=(JL cs (t.getD (k-1) 0)).grp from e.symm)];rfl
theorem coupled_to {cs:List Car} {t:List Int} {k:Nat} (hk:k<t.length) (h:DB cs t ↑k=true):0<k∧0<grp cs (t.getD k 0)∧grp cs (t.getD k 0)=grp cs (t.getD (k-1) 0):=by
  rw [coupled_raw hk,show ((k:Int)-1).toNat=k-1 by omega] at h;simp only [Bool.and_eq_true,decide_eq_true_eq] at h;exact ⟨by omega,h.2.1,h.2.2⟩
theorem blocks_blk {cs : List Car} {t : List Int} (h : ∀ k, k < t.length → 0 < grp cs (t.getD k 0) → (∃ c ∈ t.take k, grp cs c = grp cs (t.getD k 0)) → DB cs t ↑k = true) :
    ∀ k,k≤t.length→Blk cs (BO cs t k)∧(0<k→∃ ys y,BO cs t k=ys++[y]∧t.getD (k-1) 0∈y):=by
  intro k
  induction k with
  | zero=>intro _;exact ⟨⟨fun b hb=>by simp [BO] at hb,by simp [BO]⟩,fun h=>by omega⟩
  | succ k ih=>
    intro hk;obtain ⟨hb,hl⟩:=ih (by omega)
    by_cases hc:DB cs t ↑k=true
    · obtain ⟨c1,c2,c3⟩:=coupled_to (by omega) hc
      obtain ⟨ys,y,e,hy⟩:=hl c1;have e2:BO cs t (k+1)=ys++[y++[t.getD k 0]]:=by
        rw [blocksTo_yes hc,e];simp [List.getD]
      rw [e2];rw [e] at hb;have ho:=hb.one;have ha:=List.pairwise_append.1 hb.apart;refine ⟨⟨fun b hb2=>?_,List.pairwise_append.2 ⟨ha.1,by simp,fun b hb2 c hc2=>?_⟩⟩,fun _=>⟨ys,_,rfl,by simp⟩⟩
      · rcases List.mem_append.1 hb2 with hb2 | hb2
        · exact ho b (List.mem_append_left _ hb2)
        · have hb2:=List.mem_singleton.1 hb2
          subst hb2;have key:∀ x∈y++[t.getD k 0],grp cs x=grp cs (t.getD (k-1) 0):=fun x hx=>by
            rcases List.mem_append.1 hx with hx | hx
            · exact ho y (by simp) x hx _ hy
            · have hx:=List.mem_singleton.1 hx;subst hx;exact c3
          intro x hx z hz;rw [key x hx,key z hz]
      · have hc2:=List.mem_singleton.1 hc2
        subst hc2;intro x hx z hz h0;rcases List.mem_append.1 hz with hz | hz
        · exact ha.2.2 b hb2 y (by simp) x hx z hz h0
        · have hz:=List.mem_singleton.1 hz;subst hz
          rw [c3];exact ha.2.2 b hb2 y (by simp) x hx _ hy h0
    · have hc':DB cs t ↑k=false:=by simpa using hc
      rw [blocksTo_no hc'];refine ⟨⟨fun b hb2=>?_,List.pairwise_append.2 ⟨hb.apart,by simp,fun b hb2 c hc2=>?_⟩⟩,fun _=>⟨_,_,rfl,by simp⟩⟩
      · rcases List.mem_append.1 hb2 with hb2 | hb2
        · exact hb.one b hb2
        · have hb2:=List.mem_singleton.1 hb2
          subst hb2;intro x hx z hz;rw [List.mem_singleton.1 hx,List.mem_singleton.1 hz]
      · have hc2:=List.mem_singleton.1 hc2
        subst hc2;intro x hx z hz h0 e;have hz:=List.mem_singleton.1 hz;subst hz;refine hc (h k (by omega) (by omega) ⟨x,?_,e⟩);rw [← LG k (by omega)];exact List.mem_flatten.2 ⟨b,hb2,hx⟩
theorem rowsN_perm:∀ (n:Nat) (bl:List (List Int)),bl.length=n→∀ x∈rowsN n bl,∃ bl':List (List Int),bl'.Perm bl∧x=bl'.flatten:=by
  intro n
  induction n with
  | zero=>intro bl h x hx;simp [rowsN,ordN] at hx;subst hx;exact ⟨[],by rw [List.length_eq_zero_iff.1 h],rfl⟩
  | succ n ih=>
    intro bl h x hx;simp only [rowsN,ordN,ordFrom,List.mem_flatMap,List.mem_map] at hx;obtain ⟨i,hi,y,hy,rfl⟩:=hx;have hi:=List.mem_range'_1.1 hi;obtain ⟨bl',hp,rfl⟩:=ih _ (erase_len (k:=i) (by omega) h) y hy;refine ⟨bl.getD i []::bl',?_,rfl⟩;refine (List.Perm.cons _ hp).trans ?_;have hb:i<bl.length:=by omega
    exact erase_perm hb
theorem Fine.row {Y:Yard} (f:Fine Y) {r:List Int} (hr:r∈rowsN (HP Y.cars (trk Y 0)).length (HP Y.cars (trk Y 0))):Valid { Y with tracks:=Y.tracks.set 0 r }∧r.Perm (trk Y 0):=by
  have hlen:=f.len;have hr1:=f.room1;obtain ⟨t,ts,ht⟩:∃ t ts,Y.tracks=t::ts:=by
    cases hh:Y.tracks with
    | nil=>rw [hh] at hlen;simp at hlen;omega
    | cons t ts=>exact ⟨t,ts,rfl⟩
  have ht0:trk Y 0=t:=by show Y.tracks.getD 0 []=t;rw [ht];rfl
  rw [ht0] at hr ⊢;have hg:=groups_iff.1 f.groups;have hrow:∀ k,k<t.length→0<grp Y.cars (t.getD k 0)→(∃ c∈t.take k,grp Y.cars c=grp Y.cars (t.getD k 0))→DB Y.cars t ↑k=true:=fun k hk h0 hc=>by
    have:=hg 0 k (by rw [ht];simp) (by rw [ht];simpa using hk) (by rw [ht];simpa using h0) (.inr (by rw [ht];simpa using hc));rw [ht] at this;simpa using this
  obtain ⟨hb,_⟩:=blocks_blk hrow t.length (Nat.le_refl _);obtain ⟨bl',hp,rfl⟩:=rowsN_perm _ _ rfl r hr;have hflat:(HP Y.cars t).flatten=t:=by
    have:=LG (cs:=Y.cars) (t:=t) t.length (Nat.le_refl _);rw [List.take_length] at this;exact this
  have hperm:bl'.flatten.Perm t:=by
    have:=hp.flatten;rw [hflat] at this;exact this
  have hrok:=(Blk.perm hb hp.symm).row;refine ⟨Fine.valid ⟨f.cars,f.carOk,f.room1,f.room3,f.roomOk,by rw [List.length_set];exact f.len,?_,?_,?_,?_,?_⟩,hperm⟩
  all_goals simp only [ht,List.set_cons_zero]
  · intro x hx c hc
    have hok:=f.ok;rw [ht] at hok;rcases List.mem_cons.1 hx with e | hx
    · subst e;exact hok t List.mem_cons_self c (hperm.mem_iff.1 hc)
    · exact hok x (List.mem_cons_of_mem _ hx) c hc
  · have hn:=f.nodup
    rw [ht] at hn;rw [List.flatten_cons] at hn ⊢;exact (List.Perm.append_right _ hperm).nodup_iff.2 hn
  · intro k hk
    have hf:=f.fits;rw [ht] at hf;cases k with
    | zero=>
      have:=hf 0 (by simp);rw [List.getD_cons_zero] at this ⊢;have e:lenOf Y.cars bl'.flatten=lenOf Y.cars t:=by
        unfold lenOf;exact perm_sum (hperm.map _)
      rw [e];exact this
    | succ k=>simpa using hf (k+1) (by simpa using hk)
  · have ha:=f.all
    rw [ht] at ha;rw [List.flatten_cons,List.length_append] at ha ⊢;rw [hperm.length_eq];exact ha
  · refine groups_iff.2 ?_
    show GrpFrom Y.cars (bl'.flatten::ts) [];intro i k hi hk h0 hm;rcases hm with hm | ⟨c,hc,e⟩
    · simp at hm
    · cases i with
      | zero=>
        simp only [List.getD_cons_zero,List.take_zero,List.flatten_nil,List.nil_append] at hk h0 hc e ⊢;obtain ⟨h1,h2⟩:=hrok k hk h0 ⟨c,hc,e⟩;exact coupled_of hk h0 h1 h2
      | succ i=>
        have:=hg (i+1) k (by rw [ht];simpa using hi) (by rw [ht];simpa using hk) (by rw [ht];simpa using h0) (.inr ⟨c,by
          rw [ht]
          simp only [List.take_succ_cons,List.flatten_cons,List.getD_cons_succ,List.mem_append] at hc ⊢
          rcases hc with (hc | hc) | hc
          · exact .inl (.inl (hperm.mem_iff.1 hc))
          · exact .inl (.inr hc)
          · exact .inr hc,by rw [ht];simpa using e⟩)
        rw [ht] at this;simpa using this
section
variable {Y:Yard} {k:Nat}
end
section
variable {Y:Yard} {s:Shift} {k:Nat}
end
section
variable {Y:Yard} {goal:Yard→Bool} {d k:Nat} {ds:List Shift}
end
theorem deal_put {n k:Nat} (hk:k<n):(DJ k++List.replicate (n-k) (0:Int)).set k (k:Int)=DJ (k+1)++List.replicate (n-(k+1)) 0:=by
  rw [List.set_append_right _ _ (by rw [FA];omega),FA,Nat.sub_self,show n-k=(n-(k+1))+1 by omega,List.replicate_succ,List.set_cons_zero,KZ];simp
theorem swap_perm {l:List Int} {i j:Nat} (hi:i<l.length) (hj:j<l.length):((l.set i (l.getD j 0)).set j (l.getD i 0)).Perm l:=by
  have e1:l.getD i 0=l[i]:=by simp [List.getD,hi]
  have e2:l.getD j 0=l[j]:=by simp [List.getD,hj]
  rw [e1,e2];exact List.set_set_perm hi hj
end Go.Sh
namespace Go.Sl
open Go
theorem own_val_int {E:TypeId} {v:Value} {M:Seg} {vs:List Value} {ys:List Int} (h:Own E 1 DP v vs M) (he:vs=ys.map fun n=>Value.int .i64 n):Own E 1 AM v ys M:=by
  have e1:BS 1 DP vs=BS 1 AM ys:=by
    rw [he,encL_vals];simp only [BS,AM,List.range_one,List.map_cons,List.map_nil];exact List.map_eq_flatMap
  have e2:vs.length=ys.length:=by rw [he,List.length_map]
  rcases h with ⟨hv,hx,hM⟩ | ⟨b,c,sp,hv,hc,hM,hl⟩
  · refine .inl ⟨hv,?_,hM⟩
    rw [hx] at e2;exact List.length_eq_zero_iff.1 e2.symm
  · exact .inr ⟨b,c,sp,by rw [hv,e2],by rw [← e2];exact hc,by rw [← e1];exact hM,by rw [← e1];exact hl⟩
end Go.Sl
namespace Go.Sh
open Go Go.Sl
def yvD:Value × Value × Value:=(undef,undef,undef)
def YardsV (I:Imm) (xs:List (Value × Value × Value)) (Ys:List Yard):Prop:=xs.length=Ys.length∧∀ i,i<xs.length→IsYard I (.agg #[(xs.getD i yvD).1,(xs.getD i yvD).2.1,(xs.getD i yvD).2.2]) (Ys.getD i NS)
theorem YardsV.mono {I J:Imm} {xs:List (Value × Value × Value)} {Ys:List Yard} (h:YardsV I xs Ys) (le:I.le J):YardsV J xs Ys:=⟨h.1,fun i hi=>(h.2 i hi).mono le⟩
theorem YardsV.nil (I:Imm):YardsV I [] []:=⟨rfl,fun i hi=>by simp at hi⟩
theorem YardsV.snoc {I:Imm} {xs:List (Value × Value × Value)} {Ys:List Yard} {a b c:Value} {Y:Yard} (h:YardsV I xs Ys) (hY:IsYard I (.agg #[a,b,c]) Y):YardsV I (xs++[(a,b,c)]) (Ys++[Y]):=by
  refine ⟨by simp [h.1],fun i hi=>?_⟩;rw [List.length_append,List.length_singleton] at hi;have hl:=h.1
  by_cases hb:i<xs.length
  · have e1:(xs++[(a,b,c)]).getD i yvD=xs.getD i yvD:=by simp [List.getD,List.getElem?_append_left hb]
    have e2:(Ys++[Y]).getD i NS=Ys.getD i NS:=by simp [List.getD,List.getElem?_append_left (show i<Ys.length by omega)]
    rw [e1,e2];exact h.2 i hb
  · obtain rfl:i=xs.length:=by omega
    have e1:(xs++[(a,b,c)]).getD xs.length yvD=(a,b,c):=by simp [List.getD]
    have e2:(Ys++[Y]).getD xs.length NS=Y:=by simp [List.getD,hl]
    rw [e1,e2];exact hY
theorem YardsV.at {I : Imm} {xs : List (Value × Value × Value)} {Ys : List Yard} (h : YardsV I xs Ys) {i : Nat} (hi : i < xs.length) :
    ∃ a b c,xs.getD i yvD=(a,b,c)∧IsCars I a (Ys.getD i NS).cars∧CB I b (Ys.getD i NS).room∧IsRows I c (Ys.getD i NS).tracks:=by
  obtain ⟨v1,v2,v3,h1,h2,h3,h4⟩:=h.2 i hi;simp only [Value.agg.injEq] at h1;have e:=congrArg Array.toList h1;simp only [List.cons.injEq,and_true] at e;refine ⟨v1,v2,v3,?_,h2,h3,h4⟩;rw [← e.1,← e.2.1,← e.2.2]
def RowsS (I:Imm) (vs:List Value) (Ls:List (List Shift)):Prop:=vs.length=Ls.length∧∀ i,i<Ls.length→IsShifts I (vs.getD i undef) (Ls.getD i [])
theorem RowsS.mono {I J:Imm} {vs:List Value} {Ls:List (List Shift)} (h:RowsS I vs Ls) (le:I.le J):RowsS J vs Ls:=⟨h.1,fun i hi=>(h.2 i hi).mono le⟩
theorem RowsS.nil (I:Imm):RowsS I [] []:=⟨rfl,fun i hi=>by simp at hi⟩
theorem RowsS.snoc {I:Imm} {vs:List Value} {Ls:List (List Shift)} {v:Value} {l:List Shift} (h:RowsS I vs Ls) (hv:IsShifts I v l):RowsS I (vs++[v]) (Ls++[l]):=by
  have hl:=h.1;refine ⟨by simp [hl],fun i hi=>?_⟩;rw [List.length_append,List.length_singleton] at hi
  by_cases hb:i<Ls.length
  · have e1:(vs++[v]).getD i undef=vs.getD i undef:=by simp [List.getD,List.getElem?_append_left (show i<vs.length by omega)]
    have e2:(Ls++[l]).getD i []=Ls.getD i []:=by simp [List.getD,List.getElem?_append_left hb]
    rw [e1,e2];exact h.2 i hb
  · obtain rfl:i=Ls.length:=by omega
    have e1:(vs++[v]).getD Ls.length undef=v:=by simp [List.getD,← hl]
    have e2:(Ls++[l]).getD Ls.length []=l:=by simp [List.getD]
    rw [e1,e2];exact hv
structure Few (n:Nat) (Y:Yard):Prop where
  cars:Y.cars.length≤n
  room:Y.room.length≤n
  tracks:Y.tracks.length≤n
  each:∀ t∈Y.tracks,t.length≤n
theorem Fine.few {Y:Yard} (f:Fine Y):Few 20 Y:=by
  have h1:=f.cars;have h2:=f.room3;have h3:=f.len;refine ⟨by omega,by omega,by omega,fun t ht=>?_⟩;have:=GG ht;have:=f.sum;omega
end Go.Sh
namespace Go.Sl
open Go
end Go.Sl
namespace Go.Sh
open Go Go.Sl
end Go.Sh
namespace Go.Sl
open Go
section
variable {P:Program} {N:Nat} {ops:Array Oper} {i d:Nat} {l:Sl} {I:Imm} {R:Seg} {ty:TypeId} {gd:Option (Nat × Bool)}
theorem det_remT {x y : Operand} {T T' : TypeId} {k : IntKind} {a b : Int} (hop : FE ops N i = some (some d, .binOp .rem T x y T', ty, gd)) (hg : ET ops l gd = some true)
    (hx:BT l x=some (.int k a)) (hy:BT l y=some (.int k b)) (hb:1≤b):Det P N ops i l I R d (.int k (a.tmod b)):=
  det_bin hop hg hx hy fun I' M'=>by
    have hne:b≠0:=by omega
    simp only [binOp,Op.intDiv,ne_eq,not_true_eq_false,if_false,if_neg hne];exact ⟨rfl,rfl⟩
end
theorem tmod_bounds {x:Int} {n:Nat} (hn:2≤n):-(n:Int)<x.tmod n∧x.tmod n<n:=
  ⟨by have:=Int.lt_tmod_of_pos x (show (0:Int)<n by omega);omega,Int.tmod_lt_of_pos x (by omega)⟩
theorem fold_nat {x:Int} {n:Nat} (hn:2≤n):∃ r:Nat,(x.tmod n+n)%(n:Int)=↑r∧r<n:=by
  have h1:=Int.emod_nonneg (x.tmod n+n) (show (n:Int)≠0 by omega);have h2:=Int.emod_lt_of_pos (x.tmod n+n) (show (0:Int)<n by omega);exact ⟨((x.tmod n+n)%(n:Int)).toNat,by omega,by omega⟩
end Go.Sl
namespace Go.Sh
open Go Go.Sl
end Go.Sh
namespace Go.Proofs.Ytgcemienebmdeaa
open Go Go.Sl Go.Sh
set_option maxRecDepth 100000
noncomputable def c_Deal (p:List Nat):Code:=sub (AR Try.f41) p
theorem Deal_ct (I:Imm) (p:Nat) (p_s:Int) (n:Nat) (hn:n≤1000):Ct Try.prog 41 #[vP p 0,vI ↑n] I ([(bX p #[.int .u64 (p_s)] 71)]) (fun v I' M'=>∃ p_t:Int,∃ l:List Int,∃ u:Value,∃ Ms:Seg,v=u∧M'=[(bX p #[.int .u64 (p_t)] 71)]++(Ms)∧(l.Perm (DJ n))∧Own 3 1 AM u (l) Ms):=by
 refine fr (args:=[_,_]) (N:=45) Try.func41 (fun F=>?_);show Run _ _ (c_Deal []) _ _ [(0,vP p 0),(1,vI (↑n))] _ _;refine rnm (rqr ?_);refine sp 1 [(4,vN)] (sn (sp 2 [(10,vI ((if (↑n:Int)<(0:Int) then 0 else ↑n)))] (CK 10 rfl (show (vI ((if (↑n:Int)<(0:Int) then 0 else ↑n)):Value)=vI (↑n) from congrArg (Value.int .i64) (by split <;> omega)) (sS (MH (d:=11) (x:=(.tmp 10)) (T:=22) (E:=3) (bs:=8) (n:=n) (z:=vI (0)) (zv:=vI (0)) (ty:=22) (gd:=none) (by kernel_rfl) rfl (by kernel_rfl) (by kernel_rfl) (by kernel_rfl) rfl (by kernel_rfl) (by decide) rfl (by omega) (fun b1=>?_))))));have d5:Own 3 1 DP (vS (some ⟨b1,0,none⟩) n n) (List.replicate n (vI (0))) [(b1,Obj.cells (List.replicate n (vI (0))).toArray 3 (0,0))]:=Own.made _;obtain ⟨mS4,hmS4⟩:∃ X:Seg,X=[(b1,Obj.cells (List.replicate n (vI (0))).toArray 3 (0,0))]:=⟨_,rfl⟩;rw [← hmS4] at d5;refine AY (I':=I) (M':=((mS4++(bX p #[.int .u64 (p_s)] 71)::F))) (fun w h=>by rw [hmS4];exact h) (pm (M':=((bX p #[.int .u64 (p_s)] 71)::(mS4++F))) PM ?_);have d1:=own_val_int (ys:=List.replicate n (0:Int)) d5 (by rw [List.map_replicate]);refine sp 1 [(5,vS (some ⟨b1,0,none⟩) n n)] (se (rq (rqr (sp 1 [(6,vI (0))] (se (rb 0 ?_))))));refine rl (fun mz a w=>∃ k:Nat,∃ b2:Value,∃ a7:Seg,(k≤n)∧(Own 3 1 AM b2 ((DJ k++List.replicate (n-k) (0:Int))) a7)∧Slots 45 [(5,b2),(6,vI ↑k),(0,vP p 0),(1,vI (↑n)),(4,vN)] a∧a.defers=[]∧St I ((bX p #[.int .u64 (p_s)] 71)::(a7++F)) w∧mz=n-k) ?_ ?_
 ·intro a w hS hD hW;exact ⟨_,0,vS (some ⟨b1,0,none⟩) n n,mS4,Nat.zero_le _,(show Own _ _ _ _ (DJ 0++List.replicate (n-0) (0:Int)) _ from d1),hS.sub (.cons 5 rfl (.cons 6 rfl (.cons 0 rfl (.cons 1 rfl (.cons 4 rfl (.nil _)))))),hD,hW,rfl⟩
 rintro mz a w ⟨k,b2,a7,hk,a8,hS,hD,hW,rfl⟩
 refine AU hS hD hW ?_;clear hS hD hW a w;obtain ⟨a5,a6,b4,c6⟩:=a8.shape;subst b4;have d7:=FA k;have e6:(DJ k++List.replicate (n-k) (0:Int)).length=n:=by rw [LA,d7,List.length_replicate];omega
 refine rq (rqr (sp 3 [(14,.bool (cmp .lss (↑k) (↑n)))] (se (rc 14 rfl (fun h1=>?_) (fun h1=>?_)))))
 ·
  have c8:=h1;have h1:=CP h1;refine AQ (NX (rq (rb 1 (rr (sp 3 [(19,vI (↑k)),(18,vI (↑k)),(17,vS a5 ((DJ k++List.replicate (n-k) (0:Int))).length a6)] ?_)))));obtain ⟨e7,c5⟩:=a8.row 0;refine sd (di 20 1 (k) c5.addr) (sS (BI (T:=3) (x:=(.tmp 20)) (y:=(.tmp 19)) (rc:=fun i f=>AM (((DJ k++List.replicate (n-k) (0:Int))).getD i 0) f) 0 (k) 0 (↑k) (ty:=0) (gd:=none) (by kernel_rfl) rfl a8 c5 (by omega) (by decide) rfl rfl (by kernel_rfl) rfl rfl (by intro f hf;match f,hf with | 0,_=>rfl) (PM.symm) (fun d4 d6=>(pm (M':=((bX p #[.int .u64 (p_s)] 71)::(d4++F))) PM (ee (NB (NX (rr (sp 1 [(15,vI (↑k))] (sd (da 16 (↑k) (1)) (sp 1 [(6,vI (↑k+1))] (ee ?_))))))))))));refine AN (n-(k+1)) (by omega) ?_;intro a w hS hD hW;exact ⟨k+1,vS a5 ((DJ k++List.replicate (n-k) (0:Int))).length a6,d4,by omega,(by rw [← deal_put (by omega)];exact d6),hS.sub (.consE 5 rfl rfl (.consE 6 rfl rfl (.cons 0 rfl (.cons 1 rfl (.cons 4 rfl (.nil _)))))),hD,hW,rfl⟩
 have c8:=h1;have h1:=CX h1;refine CC 0 ((EP (EP (EB (NX (rq (rqr (sp 1 [(21,vI (↑n))] (sd (dsb 22 (↑n) (1)) (sp 1 [(7,vI (↑n-1))] (se (rb 2 ?_))))))))))));refine rl (fun mz a w=>∃ J1:Imm,∃ k:Nat,∃ zs:List Int,∃ s:Int,∃ b3:Value,∃ a2:Seg,(I.le J1)∧(k≤n)∧(zs.Perm (DJ n))∧(Own 3 1 AM b3 (zs) a2)∧Slots 45 [(5,b3),(7,vI (↑k-1)),(0,vP p 0),(4,vN)] a∧a.defers=[]∧St J1 ((bX p #[.int .u64 (s)] 71)::(a2++F)) w∧mz=k+1) ?_ ?_
 ·intro a w hS hD hW;exact ⟨_,I,n,(DJ n),p_s,vS a5 ((DJ k++List.replicate (n-k) (0:Int))).length a6,a7,IR _,Nat.le_refl _,PR _,((show (DJ k++List.replicate (n-k) (0:Int))=DJ n from by rw [show k=n by omega,Nat.sub_self,List.replicate_zero,List.append_nil])▸a8),hS.sub (.cons 5 rfl (.cons 7 rfl (.cons 0 rfl (.cons 4 rfl (.nil _))))),hD,hW,rfl⟩
 rintro mz a w ⟨J1,k,zs,s,b3,a2,hJ1,hk,d3,a3,hS,hD,hW,rfl⟩
 refine AU hS hD hW ?_;clear hS hD hW a w;obtain ⟨a0,a1,b5,c7⟩:=a3.shape;subst b5;have d8:=d3.length_eq;rw [FA] at d8;refine rq (rqr (sp 2 [(24,.bool (cmp .gtr (↑k-1) (0)))] (se (rc 24 rfl (fun h2=>?_) (fun h2=>?_)))))
 ·
  have c9:=h2;have h2:=KI h2;refine AQ (NX (rq (rb 3 (rqr (sp 2 [(28,vI (↑k-1)),(27,vP p 0)] (sS (sc (some 29) (F:=((a2++F))) (NV _ (p) (s) (↑k-1) (by omega) :) (.refl _) (fun e5 I9 e4 c1 d2=>?_))))))));obtain ⟨a4,a9,c4,c2,e3⟩:=d2;rw [c4,c2];clear c4 c2;refine nm ?_;refine sp 1 [(8,vI (↑a9))] (se ?_);refine rdX (M:=((bX p #[.int .u64 (a4)] 71)::(a2++[]))) (F0:=F) [] 14 [(0,true),(1,true),(2,true),(3,true),(4,true),(5,true),(6,true),(7,true),(8,true),(9,true),(10,true),(11,true),(12,true),(13,false)] (by simp only [AA,CA,NA,List.append_nil];exact PR _) HV ?_;refine AG (AP (d:=30) (v:=vS a0 zs.length a1) (by kernel_rfl)) ?_;refine AG (AP (d:=31) (v:=vI (↑k-1)) (by kernel_rfl)) ?_;refine BB (AP (d:=32) (v:=vS a0 zs.length a1) (by kernel_rfl)) ?_;refine BB (AP (d:=33) (v:=vI (↑a9)) (by kernel_rfl)) ?_;refine AG (AP (d:=34) (v:=vS a0 zs.length a1) (by kernel_rfl)) ?_;refine AG (AP (d:=35) (v:=vI (↑a9)) (by kernel_rfl)) ?_;obtain ⟨d9,b6⟩:=a3.row 0;refine AG (di 36 1 (a9) b6.addr) ?_;refine AG (dl 37 (b6.get (a9) (by omega) 0 (by decide) _ _ (fun x hx=>by simp [hx]))) ?_;refine AG (AP (d:=38) (v:=vS a0 zs.length a1) (by kernel_rfl)) ?_;refine AG (AP (d:=39) (v:=vI (↑k-1)) (by kernel_rfl)) ?_;obtain ⟨e0,b7⟩:=a3.row 0;refine AG (diI 40 1 (↑k-1) b7.addr) ?_;refine AG (dl 41 (b7.get ((↑k-1:Int).toNat) (by omega) 0 (by decide) _ _ (fun x hx=>by simp [hx]))) ?_;obtain ⟨e1,b8⟩:=a3.row 0;refine AG (diI 42 1 (↑k-1) b8.addr) ?_;refine EJ (Mx:=fun FX=>((bX p #[.int .u64 (a4)] 71)::(a2++FX))) rfl (fun FX=>by simp only [AA,CA,NA,List.append_nil];exact PR _) (fun FX=>?_);refine id (BI (T:=3) (x:=(.tmp 42)) (y:=(.tmp 37)) (rc:=fun i f=>AM ((zs).getD i 0) f) 0 ((↑k-1:Int).toNat) 0 (zs.getD (a9) 0) (ty:=0) (gd:=none) (by kernel_rfl) rfl a3 b8 (by omega) (by decide) rfl rfl (by kernel_rfl) rfl rfl (by intro f hf;match f,hf with | 0,_=>rfl) (PM.symm) (fun b9 c3=>?_));refine FT (M1:=((bX p #[.int .u64 (a4)] 71)::(b9++[]))) (by simp only [AA,CA,NA,List.append_nil];exact PM) (.wait (by kernel_rfl) (.wait (by kernel_rfl) (.wait (by kernel_rfl) (.wait (by kernel_rfl) (.wait (by kernel_rfl) (.wait (by kernel_rfl) (.wait (by kernel_rfl) (.wait (by kernel_rfl) (.wait (by kernel_rfl) (.none (.none (.wait (by kernel_rfl) (.wait (by kernel_rfl) .nil))))))))))))) ?_;refine FS (AY (M':=((bX p #[.int .u64 (a4)] 71)::(b9++F))) (fun w h=>by simpa only [AA,CA,NA,List.append_nil] using h) (nm ?_));obtain ⟨e2,b0⟩:=c3.row 0;simp only [LS] at b0;refine sd (di 43 1 (a9) (fun _=>b0.addr (by omega)) (n:=zs.length)) (sS (BI (T:=3) (x:=(.tmp 43)) (y:=(.tmp 41)) (rc:=fun i f=>AM ((zs.set ((↑k-1:Int).toNat) (zs.getD (a9) 0)).getD i 0) f) 0 (a9) 0 (zs.getD ((↑k-1:Int).toNat) 0) (ty:=0) (gd:=none) (by kernel_rfl) rfl c3 (by simpa only [LS] using b0) (by simp only [LS];omega) (by decide) rfl rfl (by kernel_rfl) rfl rfl (by intro f hf;match f,hf with | 0,_=>rfl) (PM.symm) (fun c0 d0=>(pm (M':=((bX p #[.int .u64 (a4)] 71)::(c0++F))) PM (ee (NB (NX (rr (sp 1 [(25,vI (↑k-1))] (sd (dsb 26 (↑k-1) (1)) (sp 1 [(7,vI ((↑k-1)-1))] (ee ?_))))))))))));refine AN (k-1+1) (by omega) ?_;intro a w hS hD hW;exact ⟨I9,k-1,(zs.set ((↑k-1:Int).toNat) (zs.getD (a9) 0)).set (a9) (zs.getD ((↑k-1:Int).toNat) 0),a4,vS a0 zs.length a1,c0,(IT hJ1 c1),by omega,(swap_perm (by omega) (by omega)).trans d3,d0,hS.sub (.consE 5 rfl rfl (.consE 7 rfl (congrArg (Value.int .i64) (by omega)) (.cons 0 rfl (.cons 4 rfl (.nil _))))),hD,hW,rfl⟩
 have c9:=h2;have h2:=OA h2;refine CC 2 ((EP (EP (EB (NX (rqr (sp 2 [(4,vS a0 zs.length a1)] (se (BU (AK (t:=4) ([(bX p #[.int .u64 (s)] 71)]++(a2)) (by kernel_rfl) rfl (by simp only [AA,NA,CA];exact (TK _ (TA (TR _) _))) hJ1 ?_))))))))));exact ⟨_,_,_,_,rfl,rfl,d3,a3⟩
end Go.Proofs.Ytgcemienebmdeaa
namespace Go.Sh
open Go Go.Sl
def KeepsOf (P:Int) (r:Int) (ks:List Keep):Prop:=ks.length≤4∧∀ j,j<ks.length→let k:=ks.getD j AH;(0≤k.place∧k.place≤P-1)∧(7*(r-j)≤k.hour∧k.hour≤7*(r-j)+6)∧(1≤k.who∧k.who≤9)
theorem KeepsOf.nil {P r:Int}:KeepsOf P r []:=⟨Nat.zero_le _,fun j hj=>absurd hj (Nat.not_lt_zero _)⟩
theorem KeepsOf.snoc {P r:Int} {ks:List Keep} {k:Keep} (h:KeepsOf P r ks) (hl:ks.length<4) (hp:0≤k.place∧k.place≤P-1) (hh:7*(r-ks.length)≤k.hour∧k.hour≤7*(r-ks.length)+6) (hw:1≤k.who∧k.who≤9):KeepsOf P r (ks++[k]):=by
  refine ⟨by simp;omega,fun j hj=>?_⟩;rcases Nat.lt_or_ge j ks.length with h1 | h1
  · have:=h.2 j h1
    simpa only [List.getD,List.getElem?_append_left h1] using this
  · have e:j=ks.length:=by simp at hj;omega
    subst e;have:(ks++[k]).getD ks.length AH=k:=by simp [List.getD]
    rw [this];exact ⟨hp,hh,hw⟩
def SlipsOf (P Q:Int) (dl:List Int) (i:Nat) (sl:List Slip):Prop:=sl.length≤i∧(∀ s∈sl,∀ L:Lin,L.places=P→L.sorts=Q→EC L s=0)∧(sl.map (·.num)).Nodup∧∀ s∈sl,∃ j,j<i∧s.num=1+dl.getD j 0
theorem SlipsOf.nil {P Q:Int} {dl:List Int}:SlipsOf P Q dl 0 []:=⟨Nat.le_refl _,fun s hs=>absurd hs List.not_mem_nil,List.nodup_nil,fun s hs=>absurd hs List.not_mem_nil⟩
theorem SlipsOf.skip {P Q:Int} {dl:List Int} {i:Nat} {sl:List Slip} (h:SlipsOf P Q dl i sl):SlipsOf P Q dl (i+1) sl:=⟨by have:=h.1;omega,h.2.1,h.2.2.1,fun s hs=>by obtain ⟨j,h1,h2⟩:=h.2.2.2 s hs;exact ⟨j,by omega,h2⟩⟩
theorem SlipsOf.snoc {P Q:Int} {dl:List Int} {i:Nat} {sl:List Slip} {s:Slip} (h:SlipsOf P Q dl i sl) (hd:dl.Nodup) (hi:i<dl.length) (hn:s.num=1+dl.getD i 0) (hs:∀ L:Lin,L.places=P→L.sorts=Q→EC L s=0):SlipsOf P Q dl (i+1) (sl++[s]):=by
  refine ⟨by have:=h.1;simp;omega,fun t ht=>?_,?_,fun t ht=>?_⟩
  · rcases List.mem_append.1 ht with ht | ht
    · exact h.2.1 t ht
    · simp only [List.mem_singleton] at ht;subst ht;exact hs
  · rw [List.map_append,List.map_cons,List.map_nil]
    refine List.nodup_append.2 ⟨h.2.2.1,by simp,fun a ha b hb=>?_⟩;simp only [List.mem_singleton] at hb;obtain ⟨t,ht,rfl⟩:=List.mem_map.1 ha;obtain ⟨j,hj,e⟩:=h.2.2.2 t ht;intro e2;rw [hb,hn] at e2;have e3:dl.getD j 0=dl.getD i 0:=by omega
    have hj2:j<dl.length:=by omega
    have:j=i:=(List.getElem_inj (h₀:=hj2) (h₁:=hi) hd).1 (by simpa [List.getD,hj2,hi] using e3);omega
  · rcases List.mem_append.1 ht with ht | ht
    · obtain ⟨j,h1,h2⟩:=h.2.2.2 t ht;exact ⟨j,by omega,h2⟩
    · simp only [List.mem_singleton] at ht;subst ht;exact ⟨i,by omega,hn⟩
theorem HK {P Q:Int} {s:Slip} (h1:1≤s.num∧s.num≤999) (h2:0≤s.hour∧s.hour≤200) (h3:1≤s.kind∧s.kind≤6) (h4:0≤s.place∧s.place≤P-1) (h5:s.kind=1→(0≤s.to∧s.to≤P-1)∧s.to≠s.place) (h6:s.kind≠1→s.to=0) (h7:0≤s.sort∧s.sort≤Q-1) (h8:s.soil=true→s.kind=1∨s.kind=4) (h9:s.kind=4∨1≤s.amt) (h10:0≤s.amt∧s.amt≤50):∀ L:Lin,L.places=P→L.sorts=Q→EC L s=0:=by
  intro L hP hQ;have t:∀ {n lo hi:Int},lo≤n∧n≤hi→¬ inB n lo hi=false:=fun h e=>by
    rw [show inB _ _ _=true from by simpa [inB] using h] at e;cases e
  unfold EC
  rw [hP,hQ,if_neg (t h1),if_neg (t h2),if_neg (t h3),if_neg (t h4),if_neg (fun e=>t (h5 e.1).1 e.2),if_neg (fun e=>(h5 e.1).2 e.2),if_neg (fun e=>e.2 (h6 e.1)),if_neg (t h7),
    if_neg (fun e=>(h8 e.1).elim e.2.1 e.2.2),if_neg (t (by split <;> omega))]
def RowsB (B:Int) (n:Nat) (xss:List (List Int)):Prop:=∀ r∈xss,r.length=n∧∀ x∈r,0≤x∧x≤B
theorem RowsB.nil {B:Int} {n:Nat}:RowsB B n []:=fun r hr=>by cases hr
theorem RowsB.snoc {B:Int} {n:Nat} {xss:List (List Int)} {r:List Int} (h:RowsB B n xss) (hl:r.length=n) (hr:∀ x∈r,0≤x∧x≤B):RowsB B n (xss++[r]):=fun q hq=>by
  rcases List.mem_append.1 hq with hq | hq
  · exact h q hq
  · simp only [List.mem_singleton] at hq;subst hq;exact ⟨hl,hr⟩
theorem RowsB.mono {B B':Int} {n:Nat} {xss:List (List Int)} (h:RowsB B n xss) (hb:B≤B'):RowsB B' n xss:=fun r hr=>⟨(h r hr).1,fun x hx=>by have:=(h r hr).2 x hx;omega⟩
theorem RowsB.set {B:Int} {n p i:Nat} {xss:List (List Int)} {v:Int} (h:RowsB B n xss) (hp:p<xss.length) (hv:0≤v∧v≤B):RowsB B n (xss.set p ((xss.getD p []).set i v)):=fun r hr=>by
  rcases List.mem_or_eq_of_mem_set hr with hr | rfl
  · exact h r hr
  · have h1:=h _ (BA (xs:=xss) (d:=[]) hp)
    refine ⟨by rw [List.length_set];exact h1.1,fun x hx=>?_⟩;rcases List.mem_or_eq_of_mem_set hx with hx | rfl
    · exact h1.2 x hx
    · exact hv
theorem RowsB.at {B:Int} {n p i:Nat} {xss:List (List Int)} (h:RowsB B n xss) (hp:p<xss.length) (hi:i<n):(xss.getD p []).length=n∧0≤(xss.getD p []).getD i 0∧(xss.getD p []).getD i 0≤B:=by
  have h1:=h _ (BA (xs:=xss) (d:=[]) hp);exact ⟨h1.1,h1.2 _ (BA (xs:=xss.getD p []) (d:=0) (by rw [h1.1];exact hi))⟩
theorem drawn_book {P Q:Int} {n:Nat} {st:List (List Int)} {ks:List Keep} {sl:List Slip} {r:Int} {dl:List Int} {i:Nat} (hP:1≤P∧P≤4) (hQ:1≤Q∧Q≤2) (hn:(n:Int)=Q) (hs:(st.length:Int)=P) (hr:RowsB 50 n st) (hr4:0≤r∧r≤4) (hkr:(ks.length:Int)≤r) (hk:KeepsOf P r ks) (hsl:SlipsOf P Q dl i sl) (hi:i≤8):GoodL ⟨P,Q,st,ks,sl⟩:=by
  have t:∀ {n lo hi:Int},lo≤n∧n≤hi→¬ inB n lo hi=false:=fun h e=>by
    rw [show inB _ _ _=true from by simpa [inB] using h] at e;cases e
  refine ⟨hP,hQ,hs,fun q hq=>by rw [(hr q hq).1,hn],fun q hq x hx=>(hr q hq).2 x hx,hk.1,fun k hk2=>?_,Nat.le_trans hsl.1 hi,fun k hk2=>?_⟩
  · obtain ⟨h1,h2,h3⟩:=hk.2 k hk2
    unfold EO;simp only;have hk3:(k:Int)<ks.length:=by exact_mod_cast hk2
    rw [if_neg (t h1),if_neg (t (by omega)),if_neg (t h3),if_neg];intro e;obtain ⟨x,hx,hx2⟩:=List.any_eq_true.1 e;obtain ⟨j,hj,rfl⟩:=List.mem_take_iff_getElem.1 hx;have hj2:j<ks.length:=by omega
    have h4:=(hk.2 j hj2).2.1;simp only [Bool.and_eq_true,decide_eq_true_eq] at hx2;have e4:(ks.getD j AH)=ks[j]:=by simp [List.getD,hj2]
    rw [e4,hx2.2] at h4;have:j<k:=by omega
    omega
  · have h1:=hsl.2.1 _ (BA (xs:=sl) (d:=AB) hk2) ⟨P,Q,st,ks,sl⟩ rfl rfl
    unfold CZ;rw [if_neg (fun h=>h h1),if_neg];intro e;unfold hasNum at e;obtain ⟨x,hx,hx2⟩:=List.any_eq_true.1 e;obtain ⟨j,hj,rfl⟩:=List.mem_take_iff_getElem.1 hx;have hj':j<min k sl.length:=hj;have hj2:j<sl.length:=by omega
    have hnd:=hsl.2.2.1;simp only [decide_eq_true_eq] at hx2;have:j=k:=(List.getElem_inj (h₀:=by simpa using hj2) (h₁:=by simpa using hk2) hnd).1 (by simpa [List.getD,hk2] using hx2);omega
end Go.Sh
namespace Go.Sl
open Go
theorem MG {α:Type} {d:α}:∀ (vs:List α) (i:Nat),vs.set i (vs.getD i d)=vs
  | [],_=>rfl
  | _::_,0=>rfl
  | v::vs,i+1=>by
    show v::vs.set i (vs.getD i d)=v::vs;rw [MG vs i]
theorem OwnEach.same {E:TypeId} {vs:List Value} {i:Nat} {v':Value} {xss:List (List Int)} {M:Seg} (h:OwnEach E (vs.set i v') xss M) (e:vs.getD i undef=v'):OwnEach E vs xss M:=by
  subst e;rwa [MG] at h
theorem fold_mod {x:Int} {n:Nat}:(x.tmod n+n)%(n:Int)=x%n:=by
  rw [Int.add_emod_right,Int.tmod_def,Int.sub_eq_add_neg,← Int.mul_neg,Int.add_mul_emod_self_left]
end Go.Sl
namespace Go.Sh
open Go Go.Sl
theorem inb_snoc {B:Int} {l:List Int} {x:Int} (h:∀ x∈l,0≤x∧x≤B) (hx:0≤x∧x≤B):∀ y∈l++[x],0≤y∧y≤B:=fun y hy=>by
  rcases List.mem_append.1 hy with hy | hy
  · exact h y hy
  · simp only [List.mem_singleton] at hy;subst hy;exact hx
theorem inb_snoc2 {B:Int} {l:List Int} {x y:Int} (h:∀ x∈l,0≤x∧x≤B) (hx:0≤x∧x≤B) (hy:0≤y∧y≤B):∀ z∈l++[x,y],0≤z∧z≤B:=fun z hz=>by
  rcases List.mem_append.1 hz with hz | hz
  · exact h z hz
  · simp only [List.mem_cons,List.not_mem_nil,or_false] at hz
    rcases hz with rfl | rfl
    · exact hx
    · exact hy
theorem FY {l:List Int} {n:Nat} (h:l.Perm (DJ n)):l.Nodup:=by
  exact h.nodup_iff.2 (List.Pairwise.map (fun i:Nat=>(i:Int)) (fun a b hab e=>hab (by exact_mod_cast e)) List.nodup_range)
theorem deal_at {l:List Int} {n t:Nat} (h:l.Perm (DJ n)) (ht:t<l.length):0≤l.getD t 0∧l.getD t 0<n:=by
  have h1:=h.mem_iff.1 (BA (xs:=l) (d:=0) ht);unfold DJ at h1;obtain ⟨a,ha,e⟩:=List.mem_map.1 h1;have:=List.mem_range.1 ha;omega
def RowB (B:Int) (n:Nat) (r:List Int):Prop:=r.length=n∧∀ x∈r,0≤x∧x≤B
theorem RowB.set {B:Int} {n i:Nat} {r:List Int} {v:Int} (h:RowB B n r) (hv:0≤v∧v≤B):RowB B n (r.set i v):=⟨by rw [List.length_set];exact h.1,fun x hx=>by
  rcases List.mem_or_eq_of_mem_set hx with hx | rfl
  · exact h.2 x hx
  · exact hv⟩
theorem RowB.at {B:Int} {n i:Nat} {r:List Int} (h:RowB B n r) (hi:i<n):r.length=n∧0≤r.getD i 0∧r.getD i 0≤B:=⟨h.1,h.2 _ (BA (xs:=r) (d:=0) (by rw [h.1];exact hi))⟩
theorem RowsB.row {B:Int} {n p:Nat} {xss:List (List Int)} (h:RowsB B n xss) (hp:p<xss.length):RowB B n (xss.getD p []):=h _ (BA (xs:=xss) (d:=[]) hp)
theorem RowsB.put {B:Int} {n p:Nat} {xss:List (List Int)} {r:List Int} (h:RowsB B n xss) (hr:RowB B n r):RowsB B n (xss.set p r):=fun q hq=>by
  rcases List.mem_or_eq_of_mem_set hq with hq | rfl
  · exact h q hq
  · exact hr
theorem ix_yes {so:Bool} {k:Int} (h:(so||(cmp .eql k 3||cmp .eql k 6))=true) (hs:so=true→k=1∨k=4):k≠2:=by
  intro e;subst e;cases so
  · simp [cmp] at h
  · have:=hs rfl;omega
theorem ix_no {so:Bool} {k:Int} (h:(so||(cmp .eql k 3||cmp .eql k 6))=false):k≠3:=by
  intro e;subst e;cases so <;> simp [cmp] at h
theorem other_place {p r n:Nat} {f:Int} (hp:p<n) (hf:1≤f∧f≤n-1) (hr:(r:Int)=(p+f)%n):r≠p:=by
  intro e;subst e;have h1:((r:Int)+f)/n=0∨((r:Int)+f)/n=1:=by
    have h2:0≤((r:Int)+f)/n:=Int.ediv_nonneg (by omega) (by omega);have h3:((r:Int)+f)/n<2:=Int.ediv_lt_of_lt_mul (by omega) (by omega);omega
  have h4:=Int.emod_add_mul_ediv ((r:Int)+f) n;rcases h1 with h1 | h1 <;> rw [h1] at h4 <;> omega
end Go.Sh

/- A part of the proof of the laws of this seat. -/
import Derived.Test.YtmhdidbgjpeadaaGreatP0
import Derived.KernelRfl
import Derived.Below
import Derived.Laws.Strings
import Derived.RangeFuncRecord
import Derived.RangeFuncLeaves
import Derived.Scope
set_option linter.unusedVariables false
set_option linter.unusedSimpArgs false
namespace Go.Sl
open Go
theorem IsSl.len {α:Type} {sz:Nat} {cell:α→Nat→Value} {dflt:α} {I:Imm} {v:Value} {xs:List α} (h:IsSl sz cell dflt I v xs):xs.length≤140737488355328:=by
  obtain ⟨_,_,_,_,_,_,h,_⟩:=h;exact h
theorem OS {α:Type} (xs:List α) (d:α) (L m i:Nat) (h:i<m):((xs.drop L).take m).getD i d=xs.getD (L+i) d:=by
  simp [List.getD,List.getElem?_take,h,List.getElem?_drop]
theorem IsSl.cut {α : Type} {sz : Nat} {cell : α → Nat → Value} {dflt : α} {I : Imm} {a : Option Addr} {n c : Nat} {xs : List α} (h : IsSl sz cell dflt I (.slice a n c) xs) (L H : Nat) (hL : L ≤ H) (hH : H ≤ n) :
    IsSl sz cell dflt I (.slice (if c=L then a else a.map (·.add (L*sz))) (H-L) (c-L)) ((xs.drop L).take (H-L)):=by
  obtain ⟨a',c',b,o,h1,h2,h3,h4⟩:=h;simp only [Value.slice.injEq] at h1;obtain ⟨rfl,rfl,rfl⟩:=h1;have hlen:((xs.drop L).take (H-L)).length=H-L:=by simp;omega
  refine ⟨_,_,b,o+L*sz,by rw [hlen],by omega,by omega,⟨fun hpos=>?_,fun i hi f hf=>?_⟩⟩
  · rw [hlen] at hpos
    rw [if_neg (by omega),h4.addr (by omega)];simp [EU]
  · rw [hlen] at hi
    have:=h4.get (L+i) (by omega) f hf;rw [show o+(L+i)*sz+f=o+L*sz+i*sz+f by rw [Nat.add_mul];omega] at this;rw [OS xs dflt L (H-L) i hi];exact this
theorem IsSl.cutLo {α : Type} {sz : Nat} {cell : α → Nat → Value} {dflt : α} {I : Imm} {a : Option Addr} {n c : Nat} {xs : List α} (h : IsSl sz cell dflt I (.slice a n c) xs) (L : Nat) (hL : L ≤ n) :
    IsSl sz cell dflt I (.slice (if c=L then a else a.map (·.add (L*sz))) (n-L) (c-L)) (xs.drop L):=by
  have hn:n=xs.length:=by obtain ⟨_,_,_,_,h1,_⟩:=h;simp only [Value.slice.injEq] at h1;exact h1.2.1
  have:=h.cut L n hL (Nat.le_refl _)
  rwa [List.take_of_length_le (by simp;omega)] at this
theorem IsSl.cutHi {α : Type} {sz : Nat} {cell : α → Nat → Value} {dflt : α} {I : Imm} {a : Option Addr} {n c : Nat} {xs : List α} (h : IsSl sz cell dflt I (.slice a n c) xs) (H : Nat) (hH : H ≤ n) :
    IsSl sz cell dflt I (.slice (if c=0 then a else a.map (·.add (0*sz))) (H-0) (c-0)) (xs.take H):=by
  have:=h.cut 0 H (Nat.zero_le _) hH
  rwa [List.drop_zero,Nat.sub_zero] at this
theorem IsSl.src {α:Type} {sz:Nat} {cell:α→Nat→Value} {dflt:α} {I:Imm} {M:Seg} {v:Value} {xs:List α} (h:IsSl sz cell dflt I v xs):Src I M v xs.length (BN sz cell xs):=by
  obtain ⟨a,c,b,o,rfl,h2,h3,h4⟩:=h;refine ⟨a,c,rfl,?_⟩
  by_cases h0:(BN sz cell xs)=[]
  · exact .inl h0
  · have hpos : 0 < xs.length := by
      cases xs with
      | nil=>exact absurd (by simp [BN]) h0
      | cons x xs=>simp
    refine .inr ⟨b,o,h4.addr hpos,fun k u hk=>?_⟩;have hk':=(List.getElem?_eq_some_iff.1 hk).1;rw [BB] at hk';have hsz:0<sz:=by
      rcases Nat.eq_zero_or_pos sz with e | e
      · subst e;simp at hk'
      · exact e
    have hi:k/sz<xs.length:=(Nat.div_lt_iff_lt_mul hsz).2 hk';have hf:k%sz<sz:=Nat.mod_lt _ hsz;have e:k/sz*sz+k%sz=k:=Nat.div_add_mod' k sz;have h5:=OQ sz cell dflt xs (k/sz) (k%sz) hi hf;rw [e,hk] at h5;have h6:=h4.get (k/sz) hi (k%sz) hf;rw [Nat.add_assoc,e] at h6;rw [Option.some.inj h5];exact h6.sees
theorem one_enc {α:Type} {sz:Nat} {cell:α→Nat→Value} (h:∀ a f,f<sz→CD (cell a f)=true) (ys:List α):∀ c∈BN sz cell ys,CD c=true:=fun c hc=>by
  simp only [BN,List.mem_flatMap,List.mem_map,List.mem_range] at hc;obtain ⟨a,_,f,hf,rfl⟩:=hc;exact h a f hf
theorem DG (ys:List Int):∀ c∈BN 1 AX ys,CD c=true:=one_enc (fun _ _ _=>rfl) ys
theorem IsSl.nil {α:Type} {sz:Nat} {cell:α→Nat→Value} {dflt:α} (I:Imm):IsSl sz cell dflt I (.slice none 0 0) ([]:List α):=
  ⟨none,0,0,0,rfl,Nat.le_refl _,by simp,⟨fun h=>by simp at h,fun i hi=>by simp at hi⟩⟩
theorem IsRows.nil (I:Imm):IsRows I (.slice none 0 0) []:=
  ⟨none,0,0,0,fun _=>undef,rfl,Nat.le_refl _,by simp,⟨fun h=>by simp at h,fun i hi=>by simp at hi⟩,fun i hi=>by simp at hi⟩
theorem parts_knownS {l:Sl} {T n:Nat} {parts:Array (Nat × Operand)} (h:(LJ l (parts.toList.map (·.2))).isSome=true):∀ x∈(Op.buildSlice T n parts).operands,JA l x:=fun x hx=>by
  obtain ⟨vs,hvs⟩:=Option.isSome_iff_exists.1 h;exact (FL hvs).1 x (by simpa [Op.operands] using hx)
theorem src_at {I : Imm} {M : Seg} {b n c : Nat} {cs : Array Value} {T : TypeId} {fz : Nat × Nat} {vs : List Value} (k : Nat) (h : M[k]? = some (b, Obj.cells cs T fz)) (hv : (cs.toList.drop 0).take vs.length = vs) :
    Src I M (.slice (some ⟨b,0,none⟩) n c) n vs:=⟨_,c,rfl,.inr ⟨b,0,rfl,seesN_at k h hv⟩⟩
theorem Row.nil {α:Type} {sz:Nat} {I:Imm} {a:Option Addr} {b o:Nat} {xs:List α} {cell:Nat→Nat→Value} (h:Row sz I a b o xs.length cell) (ha:a.isNone=true):xs=[]:=by
  cases xs with
  | nil=>rfl
  | cons x r=>rw [h.addr (by simp)] at ha;cases ha
theorem FA {I : Imm} {Ms R : Seg} {b n c : Nat} {cs : Array Value} {T : TypeId} {fz : Nat × Nat} {vs : List Value} (k : Nat) (h : R[k]? = some (b, Obj.cells cs T fz)) (hv : (cs.toList.drop 0).take vs.length = vs) :
    Src I (Ms++R) (.slice (some ⟨b,0,none⟩) n c) n vs:=by
  have hm:(b,Obj.cells cs T fz)∈Ms++R:=List.mem_append_right _ (List.mem_of_getElem? h);obtain ⟨j,hj⟩:=List.mem_iff_getElem?.1 hm;exact src_at j hj hv
theorem Src.nil {I:Imm} {M:Seg}:Src I M (.slice none 0 0) 0 []:=⟨none,0,rfl,.inl rfl⟩
theorem Own.lit {α : Type} {E : TypeId} {sz : Nat} {cell : α → Nat → Value} {b n : Nat} {cs : Array Value} {xs : List α} (hc : cs = (BN sz cell xs).toArray) (hn : xs.length = n) :
    Own E sz cell (.slice (some ⟨b,0,none⟩) n n) xs [(b,Obj.cells cs E (0,0))]:=
  .inr ⟨b,n,[],by rw [hn],Nat.le_of_eq hn,by rw [List.append_nil,hc],by rw [List.append_nil,BB,hn]⟩
section
variable {ρ:Option Nat} {P:Program} {N:Nat} {fn:Func} {I I₀:Imm} {post:Value→Imm→Seg→Prop} {F M:Seg} {l:Sl} {w:World}
theorem run_load1 {a:Addr} {v:Value} (h:Sees I M a v) (st:St I M w):(load a).run P w=.ok v w:=by
  show (Sem.load Mode.plain a Sem.pure).run P w=_;simp only [Sem.run,h.cell st]
theorem NI {b off : Nat} (st : St I M w) : ∀ (vs : List Value) (i : Nat) (acc : Array Value), (∀ k v, vs[k]? = some v → Sees I M ⟨b, off + (i + k), none⟩ v) →
    (loadCellsFrom ⟨b,off,none⟩ i vs.length acc).run P w=.ok (acc++vs.toArray) w:=by
  intro vs
  induction vs with
  | nil=>intro i acc _;simp [loadCellsFrom,pure,Sem.run]
  | cons x vs ih=>
    intro i acc h;simp only [List.length_cons,loadCellsFrom];rw [Sem.run_bind,run_load1 (by rw [EU];exact h 0 x (by simp)) st];show (loadCellsFrom ⟨b,off,none⟩ (i+1) vs.length (acc.push x)).run P w=_
    rw [ih (i+1) (acc.push x) (fun k v hv=>by
      have:=h (k+1) v (by simpa using hv)
      rwa [show i+1+k=i+(k+1) by omega])]
    simp
theorem run_isAgg {t:TypeId} {b:Bool} (h:DP P t=some b):(isAgg t).run P w=.ok b w:=by
  unfold DP at h;unfold isAgg underlying;rw [Sem.run_bind,Sem.run_bind];show Result.andThen (Result.andThen (.ok P w) _) _=_;simp only [Result.andThen];cases hu:P.underlying t with
  | none=>rw [hu] at h;cases h
  | some d=>
    rw [hu] at h;cases d <;> simp only [Option.some.injEq] at h <;> subst h <;> rfl
theorem run_sizeOf {t:TypeId} {n:Nat} (h:DJ P t=some n):(sizeOf t).run P w=.ok n w:=by
  unfold DJ at h;unfold sizeOf typeInfo;rw [Sem.run_bind,Sem.run_bind];show Result.andThen (Result.andThen (.ok P w) _) _=_;simp only [Result.andThen];cases hu:P.info? t with
  | none=>rw [hu] at h;cases h
  | some i=>rw [hu] at h;cases h;rfl
theorem run_var {T : TypeId} {b off n : Nat} {vs : List Value} {v : Value} (st : St I M w) (hs : SeesN I M b off vs) (hn : vs.length = n) (hsz : DJ P T = some n)
    (hv:(DP P T=some true∧v=.agg vs.toArray)∨(DP P T=some false∧vs=[v])):(loadVar T ⟨b,off,none⟩).run P w=.ok v w:=by
  unfold loadVar;rw [Sem.run_bind];rcases hv with ⟨ha,rfl⟩ | ⟨ha,rfl⟩
  · rw [run_isAgg ha]
    show (do pure (Value.agg (← loadCells ⟨b,off,none⟩ (← sizeOf T))):Sem Value).run P w=_;rw [Sem.run_bind,run_sizeOf hsz];show (loadCells ⟨b,off,none⟩ n >>= fun x=>pure (Value.agg x)).run P w=_;subst hn;rw [Sem.run_bind];unfold loadCells;rw [NI st vs 0 #[] (fun k v hv=>by rw [Nat.zero_add];exact hs k v hv)];simp [Result.andThen,pure,Sem.run]
  · rw [run_isAgg ha]
    show (load ⟨b,off,none⟩).run P w=_;exact run_load1 (hs 0 v (by simp)) st
theorem DR {t : Nat} {T : TypeId} {b off n : Nat} {vs : List Value} {v : Value} (M' : Seg) (hr : fn.results = #[.cell t T]) (ht : DC t l = some (.pointer (some ⟨b, off, none⟩))) (hsz : DJ P T = some n) (hn : vs.length = n)
    (hs:SeesN I M b off vs) (hv:(DP P T=some true∧v=.agg vs.toArray)∨(DP P T=some false∧vs=[v])) (hsub:(M'++F).Sublist M) (hle:I₀.le I) (hp:post v I M') :
    Pst N (RetQ P fn I₀ post F) .ret [] l I M:=fun a w hS hD hW=>
  ⟨hD,v,by
    have:=run_var (P:=P) hW hs hn hsz hv
    simp [results,hr,hS.get t _ ht,asAddr,this,Sem.run_bind,Result.andThen,pure,Sem.run],v,I,M',rfl,hle,hp,hW.sub hsub⟩
theorem pst_retC2 {t u : Nat} {T U : TypeId} {b off n b2 off2 n2 : Nat} {vs us : List Value} {v x : Value} (M' : Seg) (hr : fn.results = #[.cell t T, .cell u U]) (ht : DC t l = some (.pointer (some ⟨b, off, none⟩))) (hsz : DJ P T = some n) (hn : vs.length = n)
    (hs:SeesN I M b off vs) (hv:(DP P T=some true∧v=.agg vs.toArray)∨(DP P T=some false∧vs=[v]))
    (hu:DC u l=some (.pointer (some ⟨b2,off2,none⟩))) (hsz2:DJ P U=some n2) (hn2:us.length=n2)
    (hs2:SeesN I M b2 off2 us) (hv2:(DP P U=some true∧x=.agg us.toArray)∨(DP P U=some false∧us=[x]))
    (hsub:(M'++F).Sublist M) (hle:I₀.le I) (hp:post (.tuple #[v,x]) I M') :
    Pst N (RetQ P fn I₀ post F) .ret [] l I M:=fun a w hS hD hW=>
  ⟨hD,.tuple #[v,x],by
    have h1:=run_var (P:=P) hW hs hn hsz hv
    have h2:=run_var (P:=P) hW hs2 hn2 hsz2 hv2
    simp [results,hr,hS.get t _ ht,hS.get u _ hu,asAddr,h1,h2,Sem.run_bind,Result.andThen,pure,Sem.run],_,I,M',rfl,hle,hp,hW.sub hsub⟩
theorem HE {t u : Nat} {T : TypeId} {b off n : Nat} {vs : List Value} {v x : Value} (M' : Seg) (hr : fn.results = #[.cell t T, .tmp u]) (ht : DC t l = some (.pointer (some ⟨b, off, none⟩))) (hsz : DJ P T = some n) (hn : vs.length = n)
    (hs:SeesN I M b off vs) (hv:(DP P T=some true∧v=.agg vs.toArray)∨(DP P T=some false∧vs=[v])) (hu:DC u l=some x)
    (hsub:(M'++F).Sublist M) (hle:I₀.le I) (hp:post (.tuple #[v,x]) I M') :
    Pst N (RetQ P fn I₀ post F) .ret [] l I M:=fun a w hS hD hW=>
  ⟨hD,.tuple #[v,x],by
    have h1:=run_var (P:=P) hW hs hn hsz hv
    simp [results,hr,hS.get t _ ht,hS.get u _ hu,asAddr,h1,Sem.run_bind,Result.andThen,pure,Sem.run],_,I,M',rfl,hle,hp,hW.sub hsub⟩
end
def RowsV (I:Imm) (vs:List Value) (xss:List (List Int)):Prop:=vs.length=xss.length∧∀ i,i<xss.length→DX I (vs.getD i undef) (xss.getD i [])
theorem RowsV.mono {I J:Imm} {vs:List Value} {xss:List (List Int)} (h:RowsV I vs xss) (le:I.le J):RowsV J vs xss:=⟨h.1,fun i hi=>(h.2 i hi).mono le⟩
theorem RowsV.nil (I:Imm):RowsV I [] []:=⟨rfl,fun i hi=>by simp at hi⟩
theorem RowsV.snoc {I:Imm} {vs:List Value} {xss:List (List Int)} {v:Value} {xs:List Int} (h:RowsV I vs xss) (hv:DX I v xs):RowsV I (vs++[v]) (xss++[xs]):=by
  refine ⟨by simp [h.1],fun i hi=>?_⟩
  by_cases e:i<xss.length
  · have:=h.2 i e
    simp only [List.getD,List.getElem?_append_left (h.1▸e),List.getElem?_append_left e] at this ⊢;exact this
  · have e1:i=xss.length:=by simp at hi;omega
    subst e1;have h1:=h.1;simp only [List.getD];rw [List.getElem?_append_right (by omega),List.getElem?_append_right (by omega),h1]
    simpa using hv
theorem RowsV.isRows {I:Imm} {vs:List Value} {xss:List (List Int)} {v:Value} (h:RowsV I vs xss) (hv:IsVals I v vs):IsRows I v xss:=by
  obtain ⟨a,c,b,o,h1,h2,h3,h4⟩:=hv;rw [h.1] at h1 h2 h3 h4;exact ⟨a,c,b,o,fun i=>vs.getD i undef,h1,h2,h3,⟨h4.addr,fun i hi f hf=>h4.get i hi f hf⟩,h.2⟩
theorem St.own_freeze {α : Type} {E : TypeId} {sz : Nat} {cell : α → Nat → Value} {ρ : Option Nat} {P : Program} {N : Nat} {c : Code} {Q : Exit → Act → World → Prop} {ds : List Deferred} {l : Sl} {I : Imm} {M A B Ms : Seg} {v : Value} {xs : List α} (dflt : α)
    (h:Own E sz cell v xs Ms) (hl:xs.length≤140737488355328) (hM:M.Perm (Ms++A)) (hA:A.Perm B)
    (next:∀ J,I.le J→IsSl sz cell dflt J v xs→Run (ρ:=ρ) P N c Q ds l J B):Run (ρ:=ρ) P N c Q ds l I M:=fun a w hS hD hW=>by
  obtain ⟨J,h1,h2,h3⟩:=h.freeze dflt hl (hW.perm hM);exact next J h1 h2 a w hS hD (h3.perm hA)
theorem seesN_mem {I:Imm} {M:Seg} {b off n:Nat} {cs:Array Value} {T:TypeId} {fz:Nat × Nat} {vs:List Value} (h:(b,Obj.cells cs T fz)∈M) (hv:(cs.toList.drop off).take n=vs):SeesN I M b off vs:=by
  obtain ⟨j,hj⟩:=List.mem_iff_getElem?.1 h;exact seesN_at j hj hv
def unguarded (ops:Array Oper) (i:Nat):Bool:=
  match ops[i]? with
  | some o=>o.guard.isNone
  | none=>false
theorem stp_of_det {P : Program} {N i : Nat} {ops : Array Oper} {R S : Seg} {l : Sl} {I : Imm} {K : Sl → Imm → Seg → Prop} {d : Nat} {v : Value} (h : Det P N ops i l I R d v) (hg : unguarded ops i = true)
    (next:K ((d,v)::l) I (R++S)):Stp P N ops i l I (R++S) K:=by
  obtain ⟨o,ho,hd,hN,hs,h⟩:=h;unfold unguarded at hg;rw [ho] at hg;have hg':o.guard=none:=by simpa using hg
  have hgv:EJ ops l o.guard=some true:=by rw [hg'];rfl
  rcases h with ⟨hf,_⟩ | ⟨_,hk,hr⟩
  · rw [hgv] at hf;cases hf
  · refine ⟨o,ho,fun d' e=>by rw [hd] at e;cases e;exact hN,hs,hgv,hk,fun w st=>?_⟩
    refine (hr I S w (Imm.le.refl I) st).mono fun u w' ⟨hu,st'⟩=>?_
    subst hu;exact ⟨I,R++S,Imm.le.refl I,st',by rw [hd];exact next⟩
theorem ofp_stay {P : Program} {N : Nat} {ops : Array Oper} {R S : Seg} {Kfin : Sl → Imm → Seg → Prop} {rest : List (Nat × Bool)} {l : Sl} {I : Imm} (next : OFP P N ops R Kfin rest l I S) :
    ∃ S',(R++S).Perm (R++S')∧OFP P N ops R Kfin rest l I S':=⟨S,List.Perm.refl _,next⟩
theorem ES {P : Program} {N i : Nat} {ops : Array Oper} {R S : Seg} {Kfin : Sl → Imm → Seg → Prop} {rest : List (Nat × Bool)} {l : Sl} {I : Imm}
    (h:Stp P N ops i l I (R++S) (fun l' I' M'=>∃ S',M'.Perm (R++S')∧OFP P N ops R Kfin rest l' I' S')):OFP P N ops R Kfin ((i,false)::rest) l I S:=h
theorem BH {P : Program} {N : Nat} {ops : Array Oper} {R M S' : Seg} {Kfin : Sl → Imm → Seg → Prop} {rest : List (Nat × Bool)} {l : Sl} {I : Imm}
    (p:M.Perm (R++S')) (next:OFP P N ops R Kfin rest l I S'):∃ S',M.Perm (R++S')∧OFP P N ops R Kfin rest l I S':=⟨S',p,next⟩
theorem FI {ρ : Option Nat} {P : Program} {N n0 : Nat} {ops : Array Oper} {Q : Exit → Act → World → Prop} {ds : List Deferred} {R S : Seg} {l : Sl} {I : Imm} (h : Seq (ρ := ρ) P N ops Q ds n0 l I (R ++ S)) :
    OFP P N ops R (fun l I S=>Seq (ρ:=ρ) P N ops Q ds n0 l I (R++S)) [] l I S:=h
theorem HQ {N:Nat} {Q:Exit→Act→World→Prop} {e:Exit} {ds:List Deferred} {l:Sl} {I I':Imm} {M M':Seg} (s:∀ w,St I M w→St I' M' w) (next:Pst N Q e ds l I' M'):Pst N Q e ds l I M:=
  fun a w hS hD hW=>next a w hS hD (s w hW)
theorem seq_freeze {α : Type} {E : TypeId} {sz : Nat} {cell : α → Nat → Value} {ρ : Option Nat} {P : Program} {N : Nat} {ops : Array Oper} {i : Nat} {Q : Exit → Act → World → Prop} {ds : List Deferred} {l : Sl} {I : Imm} {M A B Ms : Seg} {v : Value} {xs : List α} (dflt : α)
    (h:Own E sz cell v xs Ms) (hl:xs.length≤140737488355328) (hM:M.Perm (Ms++A)) (hA:A.Perm B)
    (next:∀ J,I.le J→IsSl sz cell dflt J v xs→Seq (ρ:=ρ) P N ops Q ds i l J B):Seq (ρ:=ρ) P N ops Q ds i l I M:=fun a w hS hD hW=>by
  obtain ⟨J,h1,h2,h3⟩:=h.freeze dflt hl (hW.perm hM);exact next J h1 h2 a w hS hD (h3.perm hA)
structure ORow (sz:Nat) (Ms:Seg) (a:Option Addr) (b n:Nat) (cell:Nat→Nat→Value):Prop where
  addr:0<n→a=some ⟨b,0,none⟩
  get:∀ i,i<n→∀ f,f<sz→∀ (I:Imm) (M:Seg),(∀ x∈Ms,x∈M)→Sees I M ⟨b,0+i*sz+f,none⟩ (cell i f)
theorem Own.row {α : Type} {E sz : Nat} {cell : α → Nat → Value} {a : Option Addr} {n c : Nat} {xs : List α} {Ms : Seg} (dflt : α) (h : Own E sz cell (.slice a n c) xs Ms) :
    ∃ b,ORow sz Ms a b xs.length (fun i f=>cell (xs.getD i dflt) f):=by
  rcases h with ⟨hv,rfl,rfl⟩ | ⟨b,c',sp,hv,hc,rfl,hlen⟩
  · exact ⟨0,fun h=>by simp at h,fun i hi=>by simp at hi⟩
  · simp only [Value.slice.injEq] at hv
    obtain ⟨rfl,_,_⟩:=hv;refine ⟨b,fun _=>rfl,fun i hi f hf I M hM=>?_⟩;rw [Nat.zero_add];exact Own.sees (E:=E) (c:=c') (sp:=sp) dflt (hM (b,Obj.cells (BN sz cell xs++sp).toArray E (0,0)) (List.mem_singleton.2 rfl)) i f hi hf
theorem encL_set {α : Type} (sz : Nat) (cell : α → Nat → Value) (dflt : α) (y : α) (v : Value) (g : Nat) (hy : ∀ f, f < sz → f ≠ g → ∀ x, x = dflt → True) : ∀ (xs : List α) (i : Nat), i < xs.length → g < sz →
    (∀ f,f<sz→cell y f=if f=g then v else cell (xs.getD i dflt) f)→BN sz cell (xs.set i y)=(BN sz cell xs).set (i*sz+g) v:=by
  intro xs
  induction xs with
  | nil=>intro i h;simp at h
  | cons x xs ih=>
    intro i hi hg hc;have e:∀ (z:α) (zs:List α),BN sz cell (z::zs)=(List.range sz).map (cell z)++BN sz cell zs:=fun z zs=>by simp [BN]
    cases i with
    | zero=>
      rw [List.set_cons_zero,e,e,Nat.zero_mul,Nat.zero_add,List.set_append_left _ _ (by simpa using hg)]
      congr 1
      apply List.ext_getElem?
      intro k;rw [List.getElem?_set]
      by_cases hk:k<sz
      · have:=hc k hk
        simp only [List.getD_cons_zero] at this
        by_cases hkg:g=k
        · subst hkg;simp [hg,this]
        · rw [if_neg hkg];simp [hk,this,Ne.symm hkg]
      · have:g≠k:=by omega
        rw [if_neg this];simp [hk]
    | succ i=>
      rw [List.set_cons_succ,e,e,ih i (by simpa using hi) hg (fun f hf=>by simpa using hc f hf),List.set_append_right _ _ (by simp [Nat.succ_mul];omega)]
      congr 2
      simp [Nat.succ_mul];omega
theorem setRow_one (cs:Array Value) (off:Nat) (v:Value):GP cs off [v]=cs.setIfInBounds off v:=by simp [GP]
section
variable {ρ:Option Nat} {P:Program} {N:Nat} {ops:Array Oper} {i:Nat} {l:Sl} {I:Imm} {M:Seg} {ty:TypeId} {gd:Option (Nat × Bool)} {K:Sl→Imm→Seg→Prop}
theorem HY {α : Type} {T : TypeId} {x y : Operand} {v u : Value} {E sz : Nat} {cell : α → Nat → Value} {a : Option Addr} {n c b : Nat} {xs : List α} {Ms R : Seg} {rc : Nat → Nat → Value} (dflt : α) (j g : Nat) (z : α)
    (hop:EQ ops N i=some (none,.store T x y,ty,gd)) (hg:EJ ops l gd=some true) (own:Own E sz cell (.slice a n c) xs Ms) (row:ORow sz Ms a b xs.length rc) (hj:j<xs.length) (hgs:g<sz)
    (hx:BM l x=some (.pointer (some ⟨b,0+j*sz+g,none⟩))) (hy:BM l y=some v) (hsz:DJ P T=some 1) (hv1:v.cells.toList=[u]) (hone:CD u=true)
    (hc:∀ f,f<sz→cell z f=if f=g then u else cell (xs.getD j dflt) f) (hM:M.Perm (Ms++R))
    (next:∀ Ms',Own E sz cell (.slice a n c) (xs.set j z) Ms'→K l I (Ms'++R)):Stp P N ops i l I M K:=by
  have ha:=row.addr (by omega);rcases own with ⟨hv,rfl,rfl⟩ | ⟨b',c',sp,hv,hcap,rfl,hlen⟩
  · simp at hj
  · simp only [Value.slice.injEq] at hv
    obtain ⟨rfl,rfl,rfl⟩:=hv;simp only [Option.some.injEq,Addr.mk.injEq,and_true] at ha;subst ha;refine HS hop hg (HN hx hy) hM ?_;show wpL P (Instr.storeAt T (rho l x) (rho l y) >>= fun _=>pure Next.skip) _ I _;rw [AZ hx,AZ hy,AE];show wpL P (storeVar T ⟨b',0+j*sz+g,none⟩ v) _ I _;unfold storeVar;rw [AE,BO hsz];have hl:v.cells.size=1:=by rw [← Array.length_toList,hv1];rfl
    rw [if_neg (by simp [hl])];show wpL P (storeCells ⟨b',0+j*sz+g,none⟩ v.cells.toList) _ I _;rw [hv1];have hlt:0+j*sz+g<(BN sz cell xs).length:=by
      rw [BB];have:j*sz+sz≤xs.length*sz:=by rw [← Nat.succ_mul];exact Nat.mul_le_mul_right _ hj
      omega
    refine DW (T:=E) (k:=0) [u] 0 _ (BN sz cell xs++sp).toArray _ (by simp) ?_ (fun w hw=>by simp at hw;subst hw;exact hone) ?_
    · simp only [List.size_toArray,List.length_append,List.length_cons,List.length_nil];omega
    · refine ⟨undef,_,.inr ⟨rfl,rfl⟩,List.Sublist.refl _,?_⟩
      rw [Nat.add_zero,setRow_one];have e2:(BN sz cell xs++sp).toArray.setIfInBounds (0+j*sz+g) u=(BN sz cell (xs.set j z)++sp).toArray:=by
        rw [encL_set sz cell dflt z u g (fun _ _ _ _ _=>trivial) xs j hj hgs hc,List.setIfInBounds_toArray,List.set_append_left _ _ hlt];simp
      rw [e2];exact next _ (.inr ⟨b',c,sp,by simp,by simpa using hcap,rfl,by rw [← hlen,List.length_append,List.length_append,BB,BB,List.length_set]⟩)
end
theorem RowsV.set {I:Imm} {vs:List Value} {xss:List (List Int)} {v:Value} {xs:List Int} (h:RowsV I vs xss) (hv:DX I v xs) (j:Nat):RowsV I (vs.set j v) (xss.set j xs):=by
  refine ⟨by simp [h.1],fun i hi=>?_⟩;rw [List.length_set] at hi;have h0:=h.2 i hi;simp only [List.getD] at h0 ⊢;rw [List.getElem?_set,List.getElem?_set]
  by_cases e:j=i
  · subst e;simpa [hi,h.1] using hv
  · rw [if_neg e,if_neg e];exact h0
inductive OwnEach (E:TypeId):List Value→List (List Int)→Seg→Prop
  | nil:OwnEach E [] [] []
  | cons {v:Value} {xs:List Int} {vs:List Value} {xss:List (List Int)} {Ms R:Seg}:Own E 1 AX v xs Ms→OwnEach E vs xss R→OwnEach E (v::vs) (xs::xss) (Ms++R)
theorem OwnEach.length {E:TypeId} {vs:List Value} {xss:List (List Int)} {M:Seg} (h:OwnEach E vs xss M):vs.length=xss.length:=by
  induction h with
  | nil=>rfl
  | cons _ _ ih=>simp [ih]
def JR {α:Type} (vals:α→List Value) (a:α) (f:Nat):Value:=(vals a).getD f undef
section
variable {α:Type} {sz:Nat} {vals:α→List Value} {d:α} {I:Imm} {M Ms:Seg} {a:Option Addr} {b o n:Nat} {xs:List α}
theorem OR {x:α} {k:Nat} {v:Value} (hv:(vals x)[k]?=some v):JR vals x k=v:=by simp [JR,List.getD,hv]
theorem NH (h:Row sz I a b o n (fun i f=>JR vals (xs.getD i d) f)) (i:Nat) (hi:i<n) (f:Nat) (hf:f<sz) {v:Value} (hv:JR vals (xs.getD i d) f=v):Sees I M ⟨b,o+i*sz+f,none⟩ v:=hv▸(h.get i hi f hf).sees
theorem CH (hl:∀ x,(vals x).length=sz) (h:Row sz I a b o n (fun i f=>JR vals (xs.getD i d) f)) (i:Nat) (hi:i<n):SeesN I M b (o+i*sz) (vals (xs.getD i d)):=fun k v hv=>
  NH h i hi k (by have:=(List.getElem?_eq_some_iff.1 hv).1;rw [hl] at this;exact this) (OR hv)
theorem FV (hl:∀ x,(vals x).length=sz) (h:ORow sz Ms a b n (fun i f=>JR vals (xs.getD i d) f)) (hM:∀ x∈Ms,x∈M) (i:Nat) (hi:i<n):SeesN I M b (0+i*sz) (vals (xs.getD i d)):=fun k v hv=>by
  have:=h.get i hi k (by have:=(List.getElem?_eq_some_iff.1 hv).1;rw [hl] at this;exact this) I M hM
  rwa [OR hv] at this
theorem LI (hl:∀ x,(vals x).length=sz) (h:∀ x,(vals x).all CD=true) (ys:List α):∀ c∈BN sz (JR vals) ys,CD c=true:=one_enc (fun x f hf=>by
  have hf:f<(vals x).length:=by rw [hl];exact hf
  rw [OR (List.getElem?_eq_getElem hf)];exact List.all_eq_true.1 (h x) _ (List.getElem_mem hf)) ys
theorem one1_rec (hl:∀ x,(vals x).length=sz) (h:∀ x,(vals x).all CD=true) (z:α):∀ w∈(List.range sz).map (JR vals z),CD w=true:=by
  intro w hw;obtain ⟨f,hf,rfl⟩:=List.mem_map.1 hw;have hf:f<(vals z).length:=by rw [hl];exact List.mem_range.1 hf
  rw [OR (List.getElem?_eq_getElem hf)];exact List.all_eq_true.1 (h z) _ (List.getElem_mem hf)
end
end Go.Sl
namespace Go.Sh
open Go Go.Sl
structure Keep where
  place:Int
  hour:Int
  who:Int
  deriving DecidableEq
structure Slip where
  num:Int
  hour:Int
  kind:Int
  place:Int
  to:Int
  sort:Int
  soil:Bool
  amt:Int
  deriving DecidableEq
structure Gap where
  num:Int
  amt:Int
  deriving DecidableEq
structure Debt where
  who:Int
  sort:Int
  amt:Int
  deriving DecidableEq
structure Cart where
  frm:Int
  to:Int
  bales:Int
  deriving DecidableEq
structure Lin where
  places:Int
  sorts:Int
  start:List (List Int)
  keeps:List Keep
  slips:List Slip
  deriving DecidableEq
def AU:Keep:=⟨0,0,0⟩
def AD:Slip:=⟨0,0,0,0,0,0,false,0⟩
def CP:Debt:=⟨0,0,0⟩
def noCart:Cart:=⟨0,0,0⟩
def OW (k:Keep):List Value:=[.int .i64 k.place,.int .i64 k.hour,.int .i64 k.who]
def GJ (s:Slip):List Value:=[.int .i64 s.num,.int .i64 s.hour,.int .i64 s.kind,.int .i64 s.place,.int .i64 s.to,.int .i64 s.sort,.bool s.soil,.int .i64 s.amt]
def GR (d:Debt):List Value:=[.int .i64 d.who,.int .i64 d.sort,.int .i64 d.amt]
def cartVals (c:Cart):List Value:=[.int .i64 c.frm,.int .i64 c.to,.int .i64 c.bales]
abbrev keepCell:=JR OW
abbrev DL:=JR GJ
abbrev CO:=JR GR
abbrev cartCell:=JR cartVals
abbrev IsKeeps:=IsSl 3 keepCell AU
abbrev KZ:=IsSl 8 DL AD
abbrev IsDebts:=IsSl 3 CO CP
abbrev IsCarts:=IsSl 3 cartCell noCart
theorem one_slipCell (ys:List Slip):∀ c∈BN 8 DL ys,CD c=true:=LI (vals:=GJ) (fun _=>rfl) (fun _=>rfl) ys
theorem OB (ys:List Debt):∀ c∈BN 3 CO ys,CD c=true:=LI (vals:=GR) (fun _=>rfl) (fun _=>rfl) ys
theorem one1_slip (z:Slip):∀ w∈(List.range 8).map (DL z),CD w=true:=one1_rec (vals:=GJ) (fun _=>rfl) (fun _=>rfl) z
theorem one1_debt (z:Debt):∀ w∈(List.range 3).map (CO z),CD w=true:=one1_rec (vals:=GR) (fun _=>rfl) (fun _=>rfl) z
theorem eqDebt (s t:Debt):((s.who == t.who)&&((s.sort == t.sort)&&((s.amt == t.amt)&&true)))=decide (s=t):=by
  cases s;cases t;simp only [Bool.and_true,Debt.mk.injEq,Bool.decide_and];rfl
def IsLin (I:Imm) (v:Value) (L:Lin):Prop:=∃ v1 v2 v3,v=.agg #[.int .i64 L.places,.int .i64 L.sorts,v1,v2,v3]∧IsRows I v1 L.start∧IsKeeps I v2 L.keeps∧KZ I v3 L.slips
theorem IsLin.mono {I J:Imm} {v:Value} {L:Lin} (h:IsLin I v L) (le:I.le J):IsLin J v L:=by
  obtain ⟨v1,v2,v3,h1,h2,h3,h4⟩:=h;exact ⟨v1,v2,v3,h1,h2.mono le,h3.mono le,h4.mono le⟩
theorem mkLin {I:Imm} {v1 v2 v3:Value} {p s:Int} {st:List (List Int)} {ks:List Keep} {ss:List Slip} (h1:IsRows I v1 st) (h2:IsKeeps I v2 ks) (h3:KZ I v3 ss):IsLin I (.agg #[.int .i64 p,.int .i64 s,v1,v2,v3]) ⟨p,s,st,ks,ss⟩:=
  ⟨v1,v2,v3,rfl,h1,h2,h3⟩
structure Car where
  len:Int
  wt:Int
  brk:Int
  grp:Int
  pipe:Bool
  heat:Bool
  deriving DecidableEq
structure Shift where
  frm:Int
  to:Int
  many:Int
  deriving DecidableEq
structure Yard where
  cars:List Car
  room:List Int
  tracks:List (List Int)
  deriving DecidableEq
def noCar:Car:=⟨0,0,0,0,false,false⟩
def noShift:Shift:=⟨0,0,0⟩
def carCell (c:Car):Nat→Value
  | 0=>.int .i64 c.len
  | 1=>.int .i64 c.wt
  | 2=>.int .i64 c.brk
  | 3=>.int .i64 c.grp
  | 4=>.bool c.pipe
  | _=>.bool c.heat
abbrev IsCars:=IsSl 6 carCell noCar
end Go.Sh
namespace Go.Sl
open Go
inductive FK where
  | i (k:IntKind)
  | b
  deriving DecidableEq
def tyFK (P:Program) (t:TypeId):Option FK:=
  match P.underlying t with
  | some (.int k)=>some (.i k)
  | some .bool=>some .b
  | _=>none
def flatFs (P:Program):List Field→Option (List (Nat × FK))
  | []=>some []
  | f::r=>if f.name="_" then none else match tyFK P f.type,flatFs P r with
    | some k,some l=>some ((f.offset,k)::l)
    | _,_=>none
def tyFlat (P:Program) (t:TypeId):Option (List (Nat × FK)):=
  match P.underlying t with
  | some (.struct fs)=>if P.stoodInHeld t then none else if P.eqGuardType P.depth t then none else flatFs P fs.toList
  | _=>none
def vFK:Value→Option FK
  | .int k _=>some (.i k)
  | .bool _=>some .b
  | _=>none
def scEq:Value→Value→Bool
  | .int _ a,.int _ b=>a == b
  | .bool a,.bool b=>a == b
  | _,_=>false
def flatOk (xs ys:Array Value):List (Nat × FK)→Bool
  | []=>true
  | (o,k)::r=>(match xs[o]?,ys[o]? with
    | some a,some b=>decide (vFK a=some k)&&decide (vFK b=some k)
    | _,_=>false)&&flatOk xs ys r
def flatEq (xs ys:Array Value):List (Nat × FK)→Bool
  | []=>true
  | (o,_)::r=>(match xs[o]?,ys[o]? with
    | some a,some b=>scEq a b
    | _,_=>false)&&flatEq xs ys r
section
variable {ρ:Option Nat} {P:Program} {N:Nat} {ops:Array Oper} {i:Nat} {l:Sl} {I:Imm} {R M:Seg} {d:Nat} {ty:TypeId} {gd:Option (Nat × Bool)}
theorem tyFK_spec {t:TypeId} {k:FK} (h:tyFK P t=some k):(match k with | .i k=>P.underlying t=some (.int k) | .b=>P.underlying t=some .bool):=by
  unfold tyFK at h
  split at h
  · cases h;assumption
  · cases h;assumption
  · cases h
theorem wpL_part {t:TypeId} {k:FK} {cs:Array Value} {off:Nat} {v:Value} {Q:Value→Seg→Prop} (h:tyFK P t=some k) (hv:cs[off]?=some v) (hq:Q v M):wpL P (part t cs off) Q I M:=by
  unfold part;have ha:DP P t=some false:=by
    have:=tyFK_spec h;unfold DP;cases k <;> (simp only at this;rw [this])
  rw [AE,KG ha];simp only [Bool.false_eq_true,if_false,hv];exact hq
theorem wpL_scalar {t:TypeId} {k:FK} {x y:Value} {n:Nat} {Q:Bool→Seg→Prop} (h:tyFK P t=some k) (hx:vFK x=some k) (hy:vFK y=some k) (hq:Q (scEq x y) M):wpL P (Op.equalIn (n+1) t x y) Q I M:=by
  have hu:=tyFK_spec h;unfold Op.equalIn;cases k with
  | i k=>
    cases x <;> simp [vFK] at hx
    cases y <;> simp [vFK] at hy
    subst hx;subst hy;rw [AE,AK hu];simp only [if_true];exact hq
  | b=>
    cases x <;> simp [vFK] at hx
    cases y <;> simp [vFK] at hy
    rw [AE,AK hu];exact hq
theorem wpL_fields {n : Nat} {xs ys : Array Value} {Q : Bool → Seg → Prop} : ∀ (fs : List Field) (L : List (Nat × FK)), flatFs P fs = some L → flatOk xs ys L = true → Q (flatEq xs ys L) M →
    wpL P (do
      for f in fs do
        if f.name≠"_" then
          if !(← Op.equalIn (n+1) f.type (← part f.type xs f.offset) (← part f.type ys f.offset)) then return false
      pure true:Sem Bool) Q I M:=by
  intro fs
  induction fs with
  | nil=>intro L hL _ hq;simp only [flatFs,Option.some.injEq] at hL;subst hL;exact hq
  | cons f fs ih=>
    intro L hL hok hq;simp only [flatFs] at hL
    split at hL
    · cases hL
    · rename_i hne
      split at hL
      · rename_i k l2 hk hl2
        cases hL;simp only [flatOk,Bool.and_eq_true] at hok;obtain ⟨h1,h2⟩:=hok;cases hx:xs[f.offset]? with
        | none=>simp [hx] at h1
        | some a=>
          cases hy:ys[f.offset]? with
          | none=>simp [hx,hy] at h1
          | some b=>
            simp only [hx,hy,Bool.and_eq_true,decide_eq_true_eq] at h1;have key:=ih l2 hl2 h2;simp only [flatEq,hx,hy] at hq;simp only [List.forIn_cons] at key ⊢;rw [AE,AE];simp only [ne_eq,hne,not_false_eq_true,if_true];rw [AE];refine wpL_part hk hx ?_;rw [AE];refine wpL_part hk hy ?_;rw [AE];refine wpL_scalar hk h1.1 h1.2 ?_;cases hb:scEq a b with
            | false=>
              rw [hb] at hq;exact hq
            | true=>
              rw [hb,Bool.true_and] at hq;have:=key hq;rw [AE] at this;exact this
      · cases hL
theorem LO {t:TypeId} {L:List (Nat × FK)} (h:tyFlat P t=some L):∃ fs,P.underlying t=some (.struct fs)∧P.stoodInHeld t=false∧P.eqGuardType P.depth t=false∧flatFs P fs.toList=some L:=by
  unfold tyFlat at h
  split at h
  · rename_i fs hu
    split at h
    · cases h
    · rename_i h1
      split at h
      · cases h
      · rename_i h2
        exact ⟨fs,hu,by simpa using h1,by simpa using h2,h⟩
  · cases h
theorem wpL_struct {t : TypeId} {L : List (Nat × FK)} {xs ys : Array Value} {n : Nat} {Q : Bool → Seg → Prop} (h : tyFlat P t = some L) (hok : flatOk xs ys L = true) (hq : Q (flatEq xs ys L) M) :
    wpL P (Op.equalIn (n+2) t (.agg xs) (.agg ys)) Q I M:=by
  obtain ⟨fs,hu,hs,_,hf⟩:=LO h;unfold Op.equalIn;rw [AE,AK hu];show wpL P (program >>= _) Q I M;rw [AE];show wpL P _ Q I M;simp only [hs,Bool.false_eq_true,if_false];have:=wpL_fields (P:=P) (n:=n) (xs:=xs) (ys:=ys) (I:=I) (M:=M) fs.toList L hf hok hq;simp only [Array.forIn_toList] at this;exact this
theorem JO {x y : Operand} {T T' : TypeId} {L : List (Nat × FK)} {xs ys : Array Value} {c : Bool} (hop : EQ ops N i = some (some d, .binOp .eql T x y T', ty, gd)) (hg : EJ ops l gd = some true) (hT : tyFlat P T = some L)
    (hx:BM l x=some (.agg xs)) (hy:BM l y=some (.agg ys)) (hok:flatOk xs ys L=true) (hc:flatEq xs ys L=c):Det P N ops i l I R d (.bool c):=
  FG hop hg (HN hx hy) fun I' M'=>by
    show wpL P ((do eqGuard .eql T x y (rho l x) (rho l y);binOp .eql T (rho l x) (rho l y)) >>= fun x=>pure (Next.value x)) _ I' M';rw [AZ hx,AZ hy];refine CX ?_;rw [AE];obtain ⟨fs,hu,hs,hg',hf⟩:=LO hT;show wpL P (if (!P.eqGuardType P.depth T)=true then pure () else _:Sem Unit) _ I' M';simp only [hg',Bool.not_false,if_true];show wpL P (Op.equalIn 10000 T (.agg xs) (.agg ys) >>= fun b=>pure (Value.bool b)) _ I' M';rw [AE];exact wpL_struct hT hok ⟨by rw [hc],rfl⟩
theorem det_neqAgg {x y : Operand} {T T' : TypeId} {L : List (Nat × FK)} {xs ys : Array Value} {c : Bool} (hop : EQ ops N i = some (some d, .binOp .neq T x y T', ty, gd)) (hg : EJ ops l gd = some true) (hT : tyFlat P T = some L)
    (hx:BM l x=some (.agg xs)) (hy:BM l y=some (.agg ys)) (hok:flatOk xs ys L=true) (hc:flatEq xs ys L=c):Det P N ops i l I R d (.bool (!c)):=
  FG hop hg (HN hx hy) fun I' M'=>by
    show wpL P ((do eqGuard .neq T x y (rho l x) (rho l y);binOp .neq T (rho l x) (rho l y)) >>= fun x=>pure (Next.value x)) _ I' M';rw [AZ hx,AZ hy];refine CX ?_;rw [AE];obtain ⟨fs,hu,hs,hg',hf⟩:=LO hT;show wpL P (if (!P.eqGuardType P.depth T)=true then pure () else _:Sem Unit) _ I' M';simp only [hg',Bool.not_false,if_true];show wpL P (Op.equalIn 10000 T (.agg xs) (.agg ys) >>= fun b=>pure (Value.bool (!b))) _ I' M';rw [AE];exact wpL_struct hT hok ⟨by rw [hc],rfl⟩
end
def KR {κ:Type} (enc:κ→Value) (x:κ × Value):Value × Value:=(enc x.1,x.2)
def MapIs {κ:Type} (enc:κ→Value) (es:Array MapEntry) (kvs:List (κ × Value)):Prop:=es.toList.map (fun e=>(e.key,e.val))=kvs.map (KR enc)
theorem MapIs.nil {κ:Type} (enc:κ→Value):MapIs enc #[] []:=rfl
theorem MapIs.size {κ:Type} {enc:κ→Value} {es:Array MapEntry} {kvs:List (κ × Value)} (h:MapIs enc es kvs):es.size=kvs.length:=by
  have:=congrArg List.length h
  simpa using this
def ED {κ:Type} [DecidableEq κ] (k:κ):List (κ × Value)→Nat→Option (Nat × Value)
  | [],_=>none
  | x::r,i=>if x.1=k then some (i,x.2) else ED k r (i+1)
def upd {κ:Type} [DecidableEq κ] (k:κ) (v:Value):List (κ × Value)→List (κ × Value)
  | []=>[(k,v)]
  | x::r=>if x.1=k then (k,v)::r else x::upd k v r
def del {κ:Type} [DecidableEq κ] (k:κ):List (κ × Value)→List (κ × Value)
  | []=>[]
  | x::r=>if x.1=k then r else x::del k r
def IZ {κ:Type} [DecidableEq κ] (k:κ):List (κ × Value)→Option Value
  | []=>none
  | x::r=>if x.1=k then some x.2 else IZ k r
theorem findKv_get {κ:Type} [DecidableEq κ] (k:κ):∀ (kvs:List (κ × Value)) (i:Nat),(ED k kvs i).map Prod.snd=IZ k kvs:=by
  intro kvs
  induction kvs with
  | nil=>intro i;rfl
  | cons x r ih=>intro i;simp only [ED,IZ];split <;> simp_all
theorem MV {κ : Type} [DecidableEq κ] (k : κ) (v : Value) : ∀ (kvs : List (κ × Value)) (i : Nat), (match ED k kvs i with
    | some (j,_)=>i≤j∧upd k v kvs=kvs.set (j-i) (k,v)∧del k kvs=kvs.eraseIdx (j-i)∧(kvs[j-i]?).map Prod.fst=some k
    | none=>upd k v kvs=kvs++[(k,v)]∧del k kvs=kvs):=by
  intro kvs
  induction kvs with
  | nil=>intro i;exact ⟨rfl,rfl⟩
  | cons x r ih=>
    intro i;simp only [ED,upd,del]
    by_cases h:x.1=k
    · rw [if_pos h,if_pos h,if_pos h]
      simp [h]
    · rw [if_neg h,if_neg h,if_neg h]
      have:=ih (i+1);cases hf:ED k r (i+1) with
      | none=>rw [hf] at this;simp only at this ⊢;exact ⟨by rw [this.1];rfl,by rw [this.2]⟩
      | some y=>
        obtain ⟨j,u⟩:=y;rw [hf] at this;simp only at this ⊢;obtain ⟨h1,h2,h3,h4⟩:=this;have e:j-i=(j-(i+1))+1:=by omega
        refine ⟨by omega,?_,?_,?_⟩
        · rw [e,List.set_cons_succ,h2]
        · rw [e,List.eraseIdx_cons_succ,h3]
        · rw [e];simpa using h4
structure KeyOk (P:Program) (kt:TypeId) {κ:Type} [DecidableEq κ] (enc:κ→Value):Prop where
  inj:∀ a b,enc a=enc b→a=b
  check:∀ (b:Bool) (k:κ) (Q:Unit→Seg→Prop) (I:Imm) (M:Seg),Q () M→wpL P (Instr.checkKey b 10000 kt (enc k)) Q I M
  find:∀ (k:κ) (es:List MapEntry) (kvs:List (κ × Value)) (Q:Option (Nat × Value)→Seg→Prop) (I:Imm) (M:Seg),es.map (fun e=>(e.key,e.val))=kvs.map (KR enc) →
    Q (ED k kvs 0) M→wpL P (Instr.findKey kt (enc k) es) Q I M
def encI (x:Int):Value:=.int .i64 x
theorem findNow_int {k : Int} {kd : TypeDesc} (hk : kd = .int .i64) : ∀ (es : List MapEntry) (kvs : List (Int × Value)) (i : Nat), es.map (fun e => (e.key, e.val)) = kvs.map (KR encI) →
    Instr.findNow kd (encI k) es i=some (ED k kvs i):=by
  subst hk;intro es
  induction es with
  | nil=>intro kvs i h;cases kvs with
    | nil=>rfl
    | cons x r=>simp at h
  | cons e es ih=>
    intro kvs i h;cases kvs with
    | nil=>simp at h
    | cons x r=>
      simp only [List.map_cons,List.cons.injEq,KR,Prod.mk.injEq] at h;obtain ⟨⟨h1,h2⟩,h3⟩:=h;simp only [Instr.findNow,h1,encI,Instr.sameNow,ED]
      by_cases hx:x.1=k
      · rw [if_pos hx,← hx];simp [h2]
      · rw [if_neg hx]
        have:(k == x.1)=false:=by simpa using fun e=>hx e.symm
        simp only [if_true,this];exact ih r (i+1) h3
theorem HM {P:Program} {kt:TypeId} (h:P.underlying kt=some (.int .i64)):KeyOk P kt encI where
  inj:=fun a b e=>by simpa [encI] using e
  check:=fun b k Q I M hq=>by
    unfold Instr.checkKey;rw [AE,AK h];exact hq
  find:=fun k es kvs Q I M hes hq=>by
    unfold Instr.findKey;rw [AE,AK h,findNow_int rfl es kvs 0 hes];exact hq
def ON (P:Program) (t:TypeId):Option (TypeId × TypeId):=
  match P.underlying t with
  | some (.map k e)=>some (k,e)
  | _=>none
theorem IQ {P:Program} {t k e:TypeId} (h:ON P t=some (k,e)):P.underlying t=some (.map k e):=by
  unfold ON at h
  split at h
  · cases h;assumption
  · cases h
def tyI64 (P:Program) (t:TypeId):Bool:=
  match P.underlying t with
  | some (.int .i64)=>true
  | _=>false
theorem FO {P:Program} {t:TypeId} (h:tyI64 P t=true):P.underlying t=some (.int .i64):=by
  unfold tyI64 at h
  split at h
  · assumption
  · cases h
section
variable {ρ:Option Nat} {P:Program} {N:Nat} {ops:Array Oper} {i:Nat} {l:Sl} {I:Imm} {R M:Seg} {d:Nat} {ty:TypeId} {gd:Option (Nat × Bool)} {K:Sl→Imm→Seg→Prop}
variable {κ:Type} [DecidableEq κ] {enc:κ→Value}
theorem Holds.mono {I J:Imm} {R N:Seg} {r:Nat} {o:Obj} (h:Holds I R r o) (le:I.le J):Holds J (R++N) r o:=h.elim (fun h=>.inl (List.mem_append_left _ h)) (fun h=>.inr (le.blk _ _ h))
theorem IK {x y : Operand} {T kt et r cl : Nat} {es : Array MapEntry} {kvs : List (κ × Value)} {k : κ} {z v : Value} (hop : EQ ops N i = some (some d, .lookup T x y false, ty, gd)) (hg : EJ ops l gd = some true)
    (hT:ON P T=some (kt,et)) (hK:KeyOk P kt enc) (hx:BM l x=some (.map (some r))) (hy:BM l y=some (enc k)) (hz:GQ P et=some z) (hm:Holds I R r (.map es cl)) (his:MapIs enc es kvs)
    (hv:(IZ k kvs).getD z=v):Det P N ops i l I R d v:=by
  subst hv;refine KL hop hg (HN hx hy) fun I' M' hle=>?_
  show wpL P (Instr.lookup T (rho l x) (rho l y) false >>= fun x=>pure (Next.value x)) _ I' _;rw [AZ hx,AZ hy];refine CX ?_;unfold Instr.lookup;rw [AE,AK (IQ hT)];show wpL P (Sem.getObj r _) _ I' _;refine ⟨_,hm.mono hle,rfl,?_⟩;show wpL P (Instr.checkKey _ _ _ _ >>= _) _ I' _;rw [AE];refine hK.check _ _ _ _ _ ?_;rw [AE];refine hK.find k es.toList kvs _ _ _ his ?_;have hf:=findKv_get k kvs 0;cases hkv:ED k kvs 0 with
  | none=>
    rw [hkv] at hf;simp only [Option.map_none] at hf;show wpL P (zeroValue et >>= _) _ I' _;rw [AE,CY hz,← hf];exact ⟨rfl,rfl⟩
  | some p=>
    obtain ⟨j,u⟩:=p;rw [hkv] at hf;simp only [Option.map_some] at hf;rw [← hf];exact ⟨rfl,rfl⟩
theorem FP {r:Nat} {o o':Obj} {α:Type} {k:Sem α} {Q:α→Seg→Prop} (n:Nat) (ho:LB o=false) (hn:M[n]?=some (r,o')) (ho':LB o'=false) (h:wpL P k Q I (M.set n (r,o))):wpL P (.setObj r o k) Q I M:=
  ⟨ho,n,o',hn,ho',h⟩
theorem mapIs_set {κ:Type} {enc:κ→Value} {es:Array MapEntry} {kvs:List (κ × Value)} (h:MapIs enc es kvs) (j:Nat) (k:κ) (v key:Value) (hk:key=enc k):MapIs enc (es.modify j fun e=>{ e with key,val:=v }) (kvs.set j (k,v)):=by
  unfold MapIs at h ⊢;subst hk
  apply List.ext_getElem?
  intro n;have hn:=congrArg (fun l=>l[n]?) h;simp only [List.getElem?_map] at hn ⊢;rw [List.getElem?_set];simp only [Array.getElem?_toList] at hn ⊢;rw [Array.getElem?_modify]
  by_cases e:j=n
  · subst e
    rw [if_pos rfl,if_pos rfl]
    by_cases hl:j<kvs.length
    · rw [if_pos hl]
      have:j<es.size:=by rw [MapIs.size h];exact hl
      simp [this,KR]
    · rw [if_neg hl]
      have:¬ j<es.size:=by rw [MapIs.size h];exact hl
      simp [this]
  · rw [if_neg e,if_neg e];exact hn
theorem NC {κ:Type} {enc:κ→Value} {es:Array MapEntry} {kvs:List (κ × Value)} (h:MapIs enc es kvs) (k:κ) (v:Value) (c:Nat):MapIs enc (es.push { key:=enc k,val:=v,born:=c }) (kvs++[(k,v)]):=by
  unfold MapIs at h ⊢;simp only [Array.toList_push,List.map_append,h,List.map_cons,List.map_nil,KR]
def KS (ks:List κ):List (κ × Value):=ks.map (fun k=>(k,Value.bool true))
theorem getKv_trues (k:κ) (ks:List κ):(IZ k (KS ks)).getD (.bool false)=.bool (decide (k∈ks)):=by
  induction ks with
  | nil=>rfl
  | cons x r ih=>
    simp only [KS,List.map_cons,IZ]
    by_cases h:x=k
    · rw [if_pos h];simp [h]
    · rw [if_neg h]
      have:(k∈x::r)↔k∈r:=by simp [Ne.symm h]
      rw [decide_eq_decide.2 this];exact ih
theorem upd_trues (k:κ) (ks:List κ):upd k (.bool true) (KS ks)=KS (if k∈ks then ks else ks++[k]):=by
  induction ks with
  | nil=>rfl
  | cons x r ih=>
    simp only [KS,List.map_cons,upd] at ih ⊢
    by_cases h:x=k
    · rw [if_pos h];simp [h]
    · rw [if_neg h,ih]
      have h2:(k∈x::r)↔k∈r:=by simp [Ne.symm h]
      by_cases h3:k∈r
      · rw [if_pos h3,if_pos (h2.2 h3)];rfl
      · rw [if_neg h3,if_neg (fun h4=>h3 (h2.1 h4))];rfl
end
end Go.Sl
namespace Go.Sh
open Go Go.Sl
def inB (n lo hi:Int):Bool:=decide (lo≤n)&&decide (n≤hi)
theorem EW {n lo hi:Int} (h:inB n lo hi=true):lo≤n∧n≤hi:=by simpa [inB] using h
theorem HL {n lo hi:Int} (h:inB n lo hi=false):¬ (lo≤n∧n≤hi):=by
  intro hh;rw [show inB n lo hi=true by simpa [inB] using hh] at h;cases h
section
variable {α:Type} {xs ys:List α} {k:Nat} {d:α}
theorem take_step (hl:xs.length=ys.length) (h:xs.take k=ys.take k) (hk:k<xs.length) (e:xs.getD k d=ys.getD k d):xs.take (k+1)=ys.take (k+1):=by
  rw [List.take_succ_eq_append_getElem hk,List.take_succ_eq_append_getElem (hl▸hk),h];have hk':k<ys.length:=hl▸hk;simp [List.getD,hk,hk'] at e;rw [e]
theorem take_all (hl:xs.length=ys.length) (h:xs.take k=ys.take k) (hk:xs.length≤k):xs=ys:=by
  rw [List.take_of_length_le hk,List.take_of_length_le (hl▸hk)] at h;exact h
theorem DI (hk:k<xs.length):xs.take (k+1)=xs.take k++[xs.getD k d]:=by
  rw [List.take_succ_eq_append_getElem hk];simp [List.getD,hk]
theorem KE (hk:xs.length≤k):xs.take k=xs:=List.take_of_length_le hk
theorem BC (hk:k<xs.length):xs.getD k d∈xs:=by
  simp [List.getD,hk]
theorem getD_ne (hl:xs.length=ys.length) (h:xs.getD k d≠ys.getD k d):xs≠ys:=fun e=>h (by rw [e])
end
def seat (xs:List Int) (n:Int):Int:=if n∈xs then ↑(xs.idxOf n) else -1
theorem not_take_succ {xs:List Int} {n:Int} {k:Nat} (h:n∉xs.take k) (hk:k<xs.length) (hne:xs.getD k 0≠n):n∉xs.take (k+1):=by
  rw [DI (d:=0) hk];intro hm;rcases List.mem_append.1 hm with hm | hm
  · exact h hm
  · simp only [List.mem_singleton] at hm;exact hne hm.symm
theorem seat_hit {xs:List Int} {n:Int} {k:Nat} (h:n∉xs.take k) (hk:k<xs.length) (e:xs.getD k 0=n):seat xs n=↑k:=by
  have hm:n∈xs:=e▸BC hk;rw [seat,if_pos hm]
  congr 1
  have hx:xs[k]=n:=by simpa [List.getD,hk] using e
  have h1:xs=xs.take k++xs[k]::xs.drop (k+1):=by
    rw [← List.drop_eq_getElem_cons hk,List.take_append_drop]
  rw [h1,hx,List.idxOf_append,if_neg h];simp;omega
theorem seat_miss {xs:List Int} {n:Int} {k:Nat} (h:n∉xs.take k) (hk:xs.length≤k):seat xs n=-1:=by
  rw [KE hk] at h;rw [seat,if_neg h]
theorem seat_neg {xs:List Int} {n:Int}:cmp .geq (seat xs n) 0=decide (n∈xs):=by
  unfold seat
  by_cases h:n∈xs <;> simp [h,cmp]
def Ok (cs:List Car) (t:List Int):Prop:=∀ c∈t,0≤c∧c<cs.length
theorem Ok.at {cs:List Car} {t:List Int} (h:Ok cs t) (k:Nat) (hk:k<t.length):0≤t.getD k 0∧t.getD k 0<cs.length:=h _ (BC hk)
def carAt (cs:List Car) (c:Int):Car:=cs.getD c.toNat noCar
def lenOf (cs:List Car) (t:List Int):Int:=(t.map fun c=>(carAt cs c).len).sum
def Small (cs:List Car):Prop:=∀ c∈cs,0≤c.len∧c.len≤4
theorem Small.at {cs:List Car} (h:Small cs) (c:Int):0≤(carAt cs c).len∧(carAt cs c).len≤4:=by
  unfold carAt
  by_cases hc:c.toNat<cs.length
  · exact h _ (BC hc)
  · simp [List.getD,List.getElem?_eq_none (Nat.le_of_not_lt hc),noCar]
def MS (cs:List Car) (t:List Int) (at':Int):Bool:=
  inB at' 1 (↑t.length-1)&&decide (0<(carAt cs (t.getD at'.toNat 0)).grp)&&decide ((carAt cs (t.getD at'.toNat 0)).grp=(carAt cs (t.getD (at'-1).toNat 0)).grp)
def carErr (c:Car):Int:=
  if inB c.len 1 4&&inB c.wt 1 60&&inB c.brk 0 c.wt&&inB c.grp 0 3 then 0 else 1
theorem u64_range (x:Int):0≤IntKind.u64.wrap x∧IntKind.u64.wrap x≤18446744073709551615:=by
  have h1:IntKind.u64.signed=false:=rfl;have h2:(2:Int) ^ IntKind.u64.bits=18446744073709551616:=rfl;simp only [IntKind.wrap,h1,h2,Bool.false_and,Bool.false_eq_true,if_false];omega
theorem u64_mod {x m:Int} (h:0≤x) (hm:0<m):0≤x%m∧x%m<m:=⟨Int.emod_nonneg _ (by omega),Int.emod_lt_of_pos _ hm⟩
theorem fdiv_nonneg {x y:Int} (h:0≤x) (hy:0≤y):0≤x.fdiv y:=Int.fdiv_nonneg h hy
theorem up_nat {x most:Int} (h:1≤most) (h2:most≤1000000) (hx:0≤x):∃ n:Nat,IntKind.i64.wrap (x%(most+1))=↑n∧(n:Int)≤most:=by
  have:=u64_mod hx (show 0<most+1 by omega);refine ⟨(x%(most+1)).toNat,?_,by omega⟩;rw [IntWalk.i64_in _ (by omega)];omega
def Asc (l:List Int):Prop:=l.Pairwise (·<·)
theorem Asc.nil:Asc []:=List.Pairwise.nil
def grp (cs:List Car) (c:Int):Int:=(carAt cs c).grp
def goG (cs:List Car) (t:List Int) (fin:List Int→Int):Nat→List Int→List Int→Int
  | _,[],met=>fin met
  | k,c::r,met=>if decide (0<grp cs c)&&(decide (grp cs c∈met)&&!(MS cs t ↑k)) then 12 else goG cs t fin (k+1) r (if grp cs c∈met then met else met++[grp cs c])
def goGs (cs:List Car):List (List Int)→List Int→Int
  | [],_=>0
  | t::ts,met=>goG cs t (goGs cs ts) 0 t met
def groupsErr (Y:Yard):Int:=goGs Y.cars Y.tracks []
def goTrack (n:Nat) (fin:List Int→Int):List Int→List Int→Int
  | [],met=>fin met
  | c::r,met=>if inB c 0 (↑n-1) then (if c∈met then 4 else goTrack n fin r (met++[c])) else 3
def MB (cs:List Car) (fin:List Int→Int):List (List Int)→List Int→List Int→Int
  | [],_,met=>fin met
  | t::ts,rm,met=>goTrack cs.length (fun met'=>if lenOf cs t>rm.headD 0 then 9 else MB cs fin ts rm.tail met') t met
def tracksErr (Y:Yard):Int:=
  if Y.tracks.length=Y.room.length then MB Y.cars (fun met=>if met.length<Y.cars.length then 7 else groupsErr Y) Y.tracks Y.room [] else 2
def checkErr (Y:Yard):Int:=
  if 5<Y.cars.length then 6 else
  if Y.cars.all (fun c=>decide (carErr c=0)) then
    (if Y.room.length=0 then 7 else if 3<Y.room.length then 6 else if Y.room.all (fun n=>inB n 0 20) then tracksErr Y else 1)
  else 1
def OkAll (cs:List Car) (ts:List (List Int)):Prop:=∀ t∈ts,Ok cs t
theorem OkAll.at {cs:List Car} {ts:List (List Int)} (h:OkAll cs ts) (k:Nat) (hk:k<ts.length):Ok cs (ts.getD k []):=h _ (BC hk)
section
variable {cs:List Car} {t rm met:List Int} {ts:List (List Int)} {fin:List Int→Int} {n j k:Nat}
theorem Ok.nil:Ok cs []:=fun _ h=>by simp at h
theorem Ok.all (h:Ok cs (t.take j)) (hj:t.length≤j):Ok cs t:=by rwa [KE hj] at h
theorem OkAll.nil:OkAll cs []:=fun _ h=>by simp at h
theorem OkAll.all (h:OkAll cs (ts.take k)) (hk:ts.length≤k):OkAll cs ts:=by rwa [KE hk] at h
end
theorem all_snoc {α:Type} {xs:List α} {k:Nat} {d:α} {p:α→Prop} (h:∀ c∈xs.take k,p c) (hk:k<xs.length) (hp:p (xs.getD k d)):∀ c∈xs.take (k+1),p c:=by
  rw [DI (d:=d) hk];intro x hx;rcases List.mem_append.1 hx with hx | hx
  · exact h x hx
  · simp only [List.mem_singleton] at hx;subst hx;exact hp
section
variable {Y:Yard} {k:Nat}
end
def trk (Y:Yard) (i:Int):List Int:=Y.tracks.getD i.toNat []
def cutAt (Y:Yard) (s:Shift):Int:=↑(trk Y s.frm).length-s.many
def mayErr (Y:Yard) (s:Shift):Int:=
  if inB s.frm 0 (↑Y.tracks.length-1) then
    if inB s.to 0 (↑Y.tracks.length-1) then
      if s.frm=s.to then 4 else
      if s.many<1 then 7 else
      if ↑(trk Y s.frm).length<s.many then 6 else
      if MS Y.cars (trk Y s.frm) (cutAt Y s)||decide (Y.room.getD s.to.toNat 0<lenOf Y.cars ((trk Y s.frm).drop (cutAt Y s).toNat)+lenOf Y.cars (trk Y s.to)) then 9 else 0
    else 3
  else 3
def moved (Y:Yard) (s:Shift):Yard:=
  { Y with tracks:=(Y.tracks.set s.to.toNat (trk Y s.to++(trk Y s.frm).drop (cutAt Y s).toNat)).set s.frm.toNat ((trk Y s.frm).take (cutAt Y s).toNat) }
theorem Ok.drop {cs:List Car} {t:List Int} (h:Ok cs t) (n:Nat):Ok cs (t.drop n):=fun c hc=>h c (List.mem_of_mem_drop hc)
theorem Ok.take {cs:List Car} {t:List Int} (h:Ok cs t) (n:Nat):Ok cs (t.take n):=fun c hc=>h c (List.mem_of_mem_take hc)
theorem Ok.append {cs:List Car} {s t:List Int} (h:Ok cs s) (h2:Ok cs t):Ok cs (s++t):=fun c hc=>by
  rcases List.mem_append.1 hc with x | x
  · exact h c x
  · exact h2 c x
section
variable {Y:Yard} {s:Shift} {n:Nat}
end
def noYard:Yard:=⟨[],[],[]⟩
def Valid (Y:Yard):Prop:=checkErr Y=0
structure GoodY (Y:Yard):Prop where
  ok:OkAll Y.cars Y.tracks
  small:Small Y.cars
  len:Y.room.length=Y.tracks.length
  sum:Y.tracks.flatten.length≤5
theorem KW {ts:List (List Int)} {t:List Int} (h:t∈ts):t.length≤ts.flatten.length:=by
  induction ts with
  | nil=>simp at h
  | cons x r ih=>
    simp only [List.flatten_cons,List.length_append];rcases List.mem_cons.1 h with e | h
    · subst e;omega
    · have:=ih h;omega
theorem GoodY.le {Y:Yard} (h:GoodY Y):∀ t∈Y.tracks,t.length≤1000000:=fun t ht=>by
  have:=KW ht;have:=h.sum;omega
theorem set_flatten (x:List Int):∀ (ts:List (List Int)) (i:Nat),i<ts.length→((ts.set i x).flatten++ts.getD i []).Perm (ts.flatten++x):=by
  intro ts
  induction ts with
  | nil=>intro i h;simp at h
  | cons y r ih=>
    intro i h;cases i with
    | zero=>
      simp only [List.set_cons_zero,List.flatten_cons,List.getD_cons_zero];rw [List.append_assoc,List.append_assoc];refine (List.perm_append_comm_assoc x r.flatten y).trans ?_;refine ((List.Perm.append_left r.flatten (List.perm_append_comm (l₁:=x) (l₂:=y))).trans ?_);exact List.perm_append_comm_assoc r.flatten y x
    | succ i=>
      simp only [List.set_cons_succ,List.flatten_cons,List.getD_cons_succ,List.append_assoc];exact List.Perm.append_left y (ih i (by simpa using h))
theorem MH {Y:Yard} {s:Shift} (hf:0≤s.frm∧s.frm<Y.tracks.length) (ht:0≤s.to∧s.to<Y.tracks.length) (hne:s.frm≠s.to):(moved Y s).tracks.flatten.Perm Y.tracks.flatten:=by
  have hne':s.to.toNat≠s.frm.toNat:=by omega
  unfold moved;simp only
  generalize hA:trk Y s.frm=A
  generalize hB:trk Y s.to=B
  generalize (cutAt Y s).toNat=n
  have hA':Y.tracks.getD s.frm.toNat []=A:=hA;have hB':Y.tracks.getD s.to.toNat []=B:=hB;have h1:=set_flatten (B++A.drop n) Y.tracks s.to.toNat (by omega);have h2:=set_flatten (A.take n) (Y.tracks.set s.to.toNat (B++A.drop n)) s.frm.toNat (by rw [List.length_set];omega);have e2:(Y.tracks.set s.to.toNat (B++A.drop n)).getD s.frm.toNat []=A:=by
    simp only [List.getD] at hA' ⊢;rw [List.getElem?_set_ne hne'];exact hA'
  rw [e2] at h2;rw [hB'] at h1
  generalize ((Y.tracks.set s.to.toNat (B++A.drop n)).set s.frm.toNat (A.take n)).flatten=X at h2 ⊢
  generalize (Y.tracks.set s.to.toNat (B++A.drop n)).flatten=Z at h1 h2
  have h3:(Z).Perm (Y.tracks.flatten++A.drop n):=by
    refine (List.perm_append_right_iff B).1 (h1.trans ?_);rw [List.append_assoc];exact List.Perm.append_left _ List.perm_append_comm
  have h4:(X++A).Perm (Y.tracks.flatten++A):=by
    refine h2.trans ((List.Perm.append_right _ h3).trans ?_);rw [List.append_assoc];refine List.Perm.append_left _ (List.perm_append_comm.trans ?_);rw [List.take_append_drop]
  exact (List.perm_append_right_iff A).1 h4
def FC (f:Nat→Int):Nat→Int
  | 0=>0
  | n+1=>if FC f n≠0 then FC f n else f n
theorem firstE_next {f:Nat→Int} {k:Nat} (h:FC f k=0) (h2:f k=0):FC f (k+1)=0:=by simp [FC,h,h2]
theorem firstE_hit {f:Nat→Int} {k n:Nat} (h:FC f k=0) (h2:f k≠0) (hk:k<n):FC f n=f k:=by
  induction n with
  | zero=>omega
  | succ n ih=>
    simp only [FC]
    by_cases e:k=n
    · subst e;simp [h]
    · rw [ih (by omega),if_pos h2]
theorem firstE_zero {f:Nat→Int} {n:Nat}:FC f n=0↔∀ k,k<n→f k=0:=by
  induction n with
  | zero=>simp [FC]
  | succ n ih=>
    simp only [FC]
    constructor
    · intro h k hk
      by_cases h0:FC f n=0
      · simp [h0] at h
        by_cases e:k=n
        · subst e;exact h
        · exact ih.1 h0 k (by omega)
      · simp [h0] at h
    · intro h
      have h0:=ih.2 (fun k hk=>h k (by omega));simp [h0,h n (by omega)]
def DM (L:Lin):Int:=
  if (L.start.length:Int)≠L.places then 2
  else if (L.start.all fun r=>decide ((r.length:Int)=L.sorts))=false then 2
  else if (L.start.flatten.all fun n=>inB n 0 50)=false then 1 else 0
def EX (L:Lin) (i:Nat):Int:=
  let k:=L.keeps.getD i AU
  if inB k.place 0 (L.places-1)=false then 3
  else if inB k.hour 0 200=false then 1
  else if inB k.who 1 9=false then 1
  else if ((L.keeps.take i).any fun x=>decide (x.place=k.place)&&decide (x.hour=k.hour))=true then 4 else 0
def DZ (L:Lin):Int:=if L.keeps.length>4 then 6 else FC (EX L) L.keeps.length
def FD (L:Lin) (s:Slip):Int:=
  if inB s.num 1 999=false then 1
  else if inB s.hour 0 200=false then 1
  else if inB s.kind 1 6=false then 8
  else if inB s.place 0 (L.places-1)=false then 3
  else if s.kind=1∧inB s.to 0 (L.places-1)=false then 3
  else if s.kind=1∧s.to=s.place then 4
  else if s.kind≠1∧s.to≠0 then 1
  else if inB s.sort 0 (L.sorts-1)=false then 3
  else if s.soil=true∧s.kind≠1∧s.kind≠4 then 1
  else if inB s.amt (if s.kind=4 then 0 else 1) 50=false then 1 else 0
def hasNum (n:Int) (l:List Slip):Bool:=l.any fun x=>decide (x.num=n)
def DT (L:Lin) (i:Nat):Int:=
  if FD L (L.slips.getD i AD)≠0 then FD L (L.slips.getD i AD)
  else if hasNum (L.slips.getD i AD).num (L.slips.take i)=true then 4 else 0
def HO (L:Lin):Int:=
  if inB L.places 1 4=false then 1
  else if inB L.sorts 1 2=false then 1
  else if DM L≠0 then DM L
  else if DZ L≠0 then DZ L
  else if L.slips.length>8 then 6
  else FC (DT L) L.slips.length
def AC (a b:Slip):Int:=if a.hour≠b.hour then a.hour-b.hour else a.num-b.num
def insB {α:Type} (c:α→α→Int) (x:α):List α→List α
  | []=>[x]
  | y::r=>if c x y<0∧∀ z∈r,c x z<0 then x::y::r else y::insB c x r
structure HKey where
  pl:Int
  so:Int
  soil:Bool
  deriving DecidableEq
abbrev Hs:=List (HKey × Int)
def DK (k:HKey):Hs→Int
  | []=>0
  | x::r=>if x.1=k then x.2 else DK k r
def IG (k:HKey) (v:Int):Hs→Hs
  | []=>[(k,v)]
  | x::r=>if x.1=k then (k,v)::r else x::IG k v r
def MR (k:HKey) (d:Int) (h:Hs):Hs:=IG k (DK k h+d) h
theorem getH_put {k j:HKey} {v:Int} {h:Hs}:DK j (IG k v h)=if j=k then v else DK j h:=by
  induction h with
  | nil=>simp only [IG,DK];by_cases e:j=k <;> simp [e,Ne.symm,eq_comm]
  | cons x r ih=>
    simp only [IG]
    split
    · rename_i e
      simp only [DK]
      by_cases e2:j=k
      · subst e2;simp
      · simp only [if_neg e2];rw [if_neg (Ne.symm e2),e,if_neg (Ne.symm e2)]
    · rename_i e
      simp only [DK]
      split
      · rename_i e2;rw [if_neg (fun e3=>e (e2.trans e3))]
      · exact ih
def keyOf (s:Slip):HKey:=⟨s.place,s.sort,s.soil⟩
def doSlip (s:Slip) (h:Hs):Hs:=
  if s.kind=1 then MR ⟨s.to,s.sort,s.soil⟩ s.amt (MR ⟨s.place,s.sort,s.soil⟩ (-s.amt) h)
  else if s.kind=2 then MR ⟨s.place,s.sort,true⟩ s.amt (MR ⟨s.place,s.sort,false⟩ (-s.amt) h)
  else if s.kind=3 then MR ⟨s.place,s.sort,false⟩ s.amt (MR ⟨s.place,s.sort,true⟩ (-s.amt) h)
  else if s.kind=4 then IG (keyOf s) s.amt h
  else if s.kind=5 then MR ⟨s.place,s.sort,false⟩ s.amt h
  else MR ⟨s.place,s.sort,true⟩ (-s.amt) h
def falls (h g:Hs):Bool:=g.any fun x=>decide (x.2<0)&&decide (0≤DK x.1 h)
structure Event where
  slip:Slip
  gap:Int
  below:Bool
  deriving DecidableEq
def noEvent:Event:=⟨AD,0,false⟩
def evOf (h:Hs) (s:Slip):Event:=⟨s,if s.kind=4 then s.amt-DK (keyOf s) h else 0,falls h (doSlip s h)⟩
def evs:Hs→List Slip→List Event
  | _,[]=>[]
  | h,s::r=>evOf h s::evs (doSlip s h) r
def aft (h:Hs) (l:List Slip):Hs:=l.foldl (fun h s=>doSlip s h) h
def NE (p:Int) (row:List Int):Nat→Hs→Hs
  | 0,h=>h
  | j+1,h=>IG ⟨p,(j:Int),false⟩ (row.getD j 0) (NE p row j h)
def MJ (st:List (List Int)):Nat→Hs
  | 0=>[]
  | i+1=>NE (i:Int) (st.getD i []) (st.getD i []).length (MJ st i)
def MI (L:Lin):Hs:=MJ L.start L.start.length
end Go.Sh
namespace Go.Sl
open Go
def quiet (P:Program) {α:Type}:Sem α→Option α
  | .pure a=>some a
  | .program k=>quiet P (k P)
  | .mark _ k=>quiet P k
  | _=>none
theorem quiet_wpL {P:Program} {α:Type} (s:Sem α):∀ {x:α} {I:Imm} {M:Seg},quiet P s=some x→wpL P s (fun y M'=>y=x∧M'=M) I M:=by
  induction s with
  | pure a=>intro x I M h;cases h;exact ⟨rfl,rfl⟩
  | program k ih=>intro x I M h;exact ih P h
  | mark m k ih=>intro x I M h;exact ih h
  | _=>intro x I M h;cases h
def pvOp (P:Program) (l:Sl) (op:Op) (ty:TypeId):Option Value:=
  bif op.operands.all (fun x=>(BM l x).isSome) then
    match quiet P (JH (rho l) op ty) with
    | some (.value v)=>some v
    | _=>none
  else none
def pvAt (P:Program) (N:Nat) (ops:Array Oper) (l:Sl) (i:Nat):Option (Nat × Value):=
  match EQ ops N i with
  | some (some d,op,ty,gd)=>match EJ ops l gd with
    | some true=>match pvOp P l op ty with
      | some v=>some (d,v)
      | none=>none
    | some false=>some (d,undef)
    | none=>none
  | _=>none
def pvs (P:Program) (N:Nat) (ops:Array Oper):List Nat→Sl→Option Sl
  | [],l=>some l
  | i::is,l=>match pvAt P N ops l i with
    | some x=>pvs P N ops is (x::l)
    | none=>none
section
variable {ρ:Option Nat} {P:Program} {N:Nat} {ops:Array Oper} {Q:Exit→Act→World→Prop} {ds:List Deferred} {i:Nat} {l:Sl} {I:Imm} {R M S:Seg} {d:Nat} {Kfin:Sl→Imm→Seg→Prop} {order:List (Nat × Bool)}
theorem det_pv {v:Value} (h:pvAt P N ops l i=some (d,v)):Det P N ops i l I R d v:=by
  unfold pvAt at h
  split at h
  · rename_i d' op ty gd ho
    split at h
    · rename_i hg
      split at h
      · rename_i v' hv
        cases h;unfold pvOp at hv;cases hk:op.operands.all (fun x=>(BM l x).isSome) with
        | false=>rw [hk] at hv;cases hv
        | true=>
          rw [hk] at hv;simp only [cond_true] at hv
          split at hv
          · rename_i v'' hq
            cases hv
            exact FG ho hg (fun x hx=>by
              have:=Array.all_eq_true'.1 hk x hx
              exact Option.isSome_iff_exists.1 this) fun I' M'=>quiet_wpL _ hq
          · cases hv
      · cases h
    · rename_i hg;cases h;exact det_skip ho hg
    · cases h
  · cases h
theorem seq_pvs:∀ (k i:Nat) (l l':Sl),pvs P N ops (List.range' i k) l=some l'→Seq (ρ:=ρ) P N ops Q ds (i+k) l' I M→Seq (ρ:=ρ) P N ops Q ds i l I M
  | 0,i,l,l',h,next=>by cases h;exact next
  | k+1,i,l,l',h,next=>by
    rw [List.range'_succ] at h;simp only [pvs] at h
    split at h
    · rename_i x hx
      exact seq_det (det_pv hx) (seq_pvs k (i+1) _ _ h (by rw [show i+1+k=i+(k+1) by omega];exact next))
    · cases h
def pickL (l:Sl):Sl→Bool→Option Sl
  | [],_=>some []
  | (t,_)::r,b=>match DC t l,pickL l r b with
    | some v,some r'=>some ((t,v)::r')
    | _,_=>none
def told (t:Nat):Sl→Bool
  | []=>false
  | (k,_)::r=>bif Nat.beq k t then true else told t r
def NY (new l:Sl):Nat→Sl→Bool
  | 0,_=>true
  | k+1,(t,_)::r=>(told t new||!told t l)&&NY new l k r
  | _+1,[]=>true
def pxf (P:Program) (N:Nat) (ops:Array Oper) (i k:Nat) (new l:Sl):Option Sl:=
  match pvs P N ops (List.range' i k) l with
  | some l'=>bif NY new l k l' then pickL l' new true else none
  | none=>none
theorem IB {t:Nat} {v:Value}:∀ {l:Sl},DC t l=some v→told t l=true:=by
  intro l
  induction l with
  | nil=>intro h;cases h
  | cons x l ih=>
    obtain ⟨k,u⟩:=x;intro h;simp only [DC] at h;simp only [told];cases hb:Nat.beq k t with
    | true=>rfl
    | false=>rw [hb] at h;exact ih h
theorem HP {t:Nat} {a b:Sl}:DC t (a++b)=(match DC t a with | some v=>some v | none=>DC t b):=by
  induction a with
  | nil=>rfl
  | cons x a ih=>
    obtain ⟨k,u⟩:=x;simp only [List.cons_append,DC];cases hb:Nat.beq k t with
    | true=>rfl
    | false=>exact ih
theorem look_none {t:Nat}:∀ {l:Sl},DC t l=none→told t l=false:=by
  intro l
  induction l with
  | nil=>intro _;rfl
  | cons x l ih=>
    obtain ⟨k,u⟩:=x;intro h;simp only [DC] at h;simp only [told];cases hb:Nat.beq k t with
    | true=>rw [hb] at h;cases h
    | false=>rw [hb] at h;exact ih h
theorem KP {l:Sl} {b:Bool} {t:Nat} {v:Value}:∀ {new out:Sl},pickL l new b=some out→DC t out=some v→DC t l=some v:=by
  intro new
  induction new with
  | nil=>intro out h hl;cases h;cases hl
  | cons x new ih=>
    obtain ⟨k,u⟩:=x;intro out h hl;simp only [pickL] at h
    split at h
    · rename_i v' r' h1 h2
      cases h;simp only [DC] at hl;cases hb:Nat.beq k t with
      | true=>rw [hb] at hl;cases hl;rw [← Nat.eq_of_beq_eq_true hb];exact h1
      | false=>rw [hb] at hl;exact ih h2 hl
    · cases h
theorem pvs_split:∀ (is:List Nat) (l l':Sl),pvs P N ops is l=some l'→∃ ex:Sl,l'=ex++l∧ex.length=is.length:=by
  intro is
  induction is with
  | nil=>intro l l' h;cases h;exact ⟨[],rfl,rfl⟩
  | cons i is ih=>
    intro l l' h;simp only [pvs] at h
    split at h
    · rename_i x hx
      obtain ⟨ex,h1,h2⟩:=ih _ _ h;exact ⟨ex++[x],by rw [h1];simp,by simp [h2]⟩
    · cases h
theorem maskOk_spec {new l:Sl} {t:Nat}:∀ (ex r:Sl),NY new l ex.length (ex++r)=true→told t ex=true→told t new=true∨told t l=false:=by
  intro ex
  induction ex with
  | nil=>intro r _ h;cases h
  | cons x ex ih=>
    obtain ⟨k,u⟩:=x;intro r h ht;simp only [List.length_cons,List.cons_append,NY,Bool.and_eq_true,Bool.or_eq_true,Bool.not_eq_true'] at h;simp only [told] at ht;cases hb:Nat.beq k t with
    | true=>
      have e:=Nat.eq_of_beq_eq_true hb;subst e;exact h.1
    | false=>rw [hb] at ht;exact ih r h.2 ht
theorem pxf_sub {k:Nat} {new l':Sl} (h:pvs P N ops (List.range' i k) l=some l') (hp:pxf P N ops i k new l=some new):Sub (new++l) l':=by
  unfold pxf at hp;rw [h] at hp;simp only at hp;cases hm:NY new l k l' with
  | false=>rw [hm] at hp;cases hp
  | true=>
    rw [hm] at hp;simp only [cond_true] at hp;intro t v ht;rw [HP] at ht;cases hn:DC t new with
    | some u=>rw [hn] at ht;cases ht;exact KP hp hn
    | none=>
      rw [hn] at ht;simp only at ht;obtain ⟨ex,h1,h2⟩:=pvs_split _ _ _ h;rw [List.length_range'] at h2;subst h1;rw [HP];cases he:DC t ex with
      | none=>exact ht
      | some u=>
        rw [← h2] at hm;rcases maskOk_spec ex l hm (IB he) with h3 | h3
        · rw [look_none hn] at h3;cases h3
        · rw [IB ht] at h3;cases h3
theorem sp (k:Nat) (new:Sl) (next:Seq (ρ:=ρ) P N ops Q ds (i+k) (new++l) I M) (h:pxf P N ops i k new l=some new:=by kernel_rfl):Seq (ρ:=ρ) P N ops Q ds i l I M:=by
  cases hv:pvs P N ops (List.range' i k) l with
  | none=>unfold pxf at h;rw [hv] at h;cases h
  | some l'=>
    exact seq_pvs k i l l' hv fun a w hS hD hW=>next a w (hS.sub (pxf_sub hv h)) hD hW
def pvo (P:Program) (N:Nat) (ops:Array Oper):Nat→List (Nat × Bool)→Sl→Option Sl
  | 0,_,l=>some l
  | k+1,(i,true)::r,l=>match pvAt P N ops l i with
    | some x=>pvo P N ops k r (x::l)
    | none=>none
  | _,_,_=>none
theorem op_aux:∀ (k:Nat) (order:List (Nat × Bool)) (l l':Sl),pvo P N ops k order l=some l'→OFP P N ops R Kfin (order.drop k) l' I S→OFP P N ops R Kfin order l I S
  | 0,order,l,l',h,next=>by cases h;exact next
  | k+1,(i,true)::r,l,l',h,next=>by
    simp only [pvo] at h
    split at h
    · rename_i x hx
      exact AG (det_pv hx) (op_aux k r _ _ h next)
    · cases h
  | k+1,(i,false)::r,l,l',h,next=>by cases h
  | k+1,[],l,l',h,next=>by cases h
end
section
variable {ρ:Option Nat} {P:Program} {N:Nat} {ops:Array Oper} {Q:Exit→Act→World→Prop} {ds:List Deferred} {i:Nat} {l l':Sl} {I:Imm} {R M S:Seg} {d:Nat} {Kfin:Sl→Imm→Seg→Prop} {order:List (Nat × Bool)}
theorem gval_mono (s:Sub l l') {g:Option (Nat × Bool)} {b:Bool} (h:EJ ops l g=some b):EJ ops l' g=some b:=by
  cases g with
  | none=>exact h
  | some g=>
    obtain ⟨j,want⟩:=g;simp only [EJ] at h ⊢;cases hj:(ops[j]?).bind (·.dst) with
    | none=>rw [hj] at h;exact h
    | some t=>
      rw [hj] at h;simp only at h ⊢;cases ht:DC t l with
      | none=>rw [ht] at h;cases h
      | some v=>rw [ht] at h;rw [s t v ht];exact h
theorem oval_mono (s:Sub l l') {x:Operand} {v:Value} (h:BM l x=some v):BM l' x=some v:=by
  cases x with
  | tmp t=>exact s t v h
  | const u=>exact h
  | global g=>exact h
  | func f=>exact h
theorem exec_mono (s:Sub l l') {o:Oper} (hs:PlainOp o) (hk:∀ x∈o.op.operands,JA l x):execOp (rho l') o=execOp (rho l) o:=
  execOp_congr o hs.1 fun x hx=>by
    obtain ⟨v,hv⟩:=hk x hx;rw [AZ hv,AZ (oval_mono s hv)]
theorem known_mono (s:Sub l l') {x:Operand} (h:JA l x):JA l' x:=let ⟨v,hv⟩:=h;⟨v,oval_mono s hv⟩
theorem Det.more {v:Value} (s:Sub l l') (h:Det P N ops i l I R d v):Det P N ops i l' I R d v:=by
  obtain ⟨o,h1,h2,h3,h4,h5⟩:=h;refine ⟨o,h1,h2,h3,h4,?_⟩;rcases h5 with ⟨h6,h7⟩ | ⟨h6,h7,h8⟩
  · exact .inl ⟨gval_mono s h6,h7⟩
  · exact .inr ⟨gval_mono s h6,fun x hx=>known_mono s (h7 x hx),by rw [exec_mono s h4 h7];exact h8⟩
theorem Sub.cons_cons (s:Sub l l') (t:Nat) (v:Value):Sub ((t,v)::l) ((t,v)::l'):=fun u w hu=>by
  by_cases e:t=u
  · subst e;rw [CZ] at hu ⊢;exact hu
  · rw [BI e] at hu ⊢;exact s u w hu
theorem Sub.ups (s:Sub l l') (dst:Option Tmp) (v:Value):Sub (ups dst v l) (ups dst v l'):=by
  cases dst with
  | none=>exact s
  | some d=>exact s.cons_cons d v
theorem Stp.more {K:Sl→Imm→Seg→Prop} (hK:∀ l l' I M,Sub l l'→K l I M→K l' I M) (s:Sub l l') (h:Stp P N ops i l I M K):Stp P N ops i l' I M K:=by
  obtain ⟨o,h1,h2,h3,h4,h5,h6⟩:=h;refine ⟨o,h1,h2,h3,gval_mono s h4,fun x hx=>known_mono s (h5 x hx),fun w st=>?_⟩;rw [exec_mono s h3 h5];exact (h6 w st).mono fun v w' ⟨I',M',a,b,c⟩=>⟨I',M',a,b,hK _ _ _ _ (s.ups _ _) c⟩
structure KM (K:Sl→Imm→Seg→Prop):Prop where
  more:∀ l l' I S,Sub l l'→K l I S→K l' I S
theorem Seq.more {n:Nat} (s:Sub l l') (h:Seq (ρ:=ρ) P N ops Q ds n l I M):Seq (ρ:=ρ) P N ops Q ds n l' I M:=fun a w hS hD hW=>h a w (hS.sub s) hD hW
theorem km0 {n0:Nat}:KM (fun l I S=>S=[]∧Seq (ρ:=ρ) P N ops Q ds n0 l I M):=⟨fun _ _ _ _ s h=>⟨h.1,h.2.more s⟩⟩
theorem km1 {n0:Nat}:KM (fun l I S=>Seq (ρ:=ρ) P N ops Q ds n0 l I (R++S)):=⟨fun _ _ _ _ s h=>h.more s⟩
theorem OFP.more (km:KM Kfin):∀ (order:List (Nat × Bool)) (l l':Sl) (I:Imm) (S:Seg),Sub l l'→OFP P N ops R Kfin order l I S→OFP P N ops R Kfin order l' I S
  | [],l,l',I,S,s,h=>km.more _ _ _ _ s h
  | (i,true)::r,l,l',I,S,s,⟨d,v,h1,h2⟩=>⟨d,v,h1.more s,OFP.more km r _ _ _ _ (s.cons_cons d v) h2⟩
  | (i,false)::r,l,l',I,S,s,h=>Stp.more (fun _ _ _ _ s' ⟨S',p,h'⟩=>⟨S',p,OFP.more km r _ _ _ _ s' h'⟩) s h
def pof (P:Program) (N:Nat) (ops:Array Oper) (order:List (Nat × Bool)) (k:Nat) (new l:Sl):Option Sl:=
  match pvo P N ops k order l with
  | some l'=>bif NY new l k l' then pickL l' new true else none
  | none=>none
theorem pvo_split:∀ (k:Nat) (order:List (Nat × Bool)) (l l':Sl),pvo P N ops k order l=some l'→∃ ex:Sl,l'=ex++l∧ex.length=k
  | 0,_,l,l',h=>by cases h;exact ⟨[],rfl,rfl⟩
  | k+1,(i,true)::r,l,l',h=>by
    simp only [pvo] at h
    split at h
    · rename_i x hx
      obtain ⟨ex,h1,h2⟩:=pvo_split k r _ _ h;exact ⟨ex++[x],by rw [h1];simp,by simp [h2]⟩
    · cases h
  | k+1,(i,false)::r,l,l',h=>by cases h
  | k+1,[],l,l',h=>by cases h
theorem mask_sub {new:Sl} {ex:Sl} (hm:NY new l ex.length (ex++l)=true) (hp:pickL (ex++l) new true=some new):Sub (new++l) (ex++l):=by
  intro t v ht;rw [HP] at ht;cases hn:DC t new with
  | some u=>rw [hn] at ht;cases ht;exact KP hp hn
  | none=>
    rw [hn] at ht;simp only at ht;rw [HP];cases he:DC t ex with
    | none=>exact ht
    | some u=>
      rcases maskOk_spec ex l hm (IB he) with h3 | h3
      · rw [look_none hn] at h3;cases h3
      · rw [IB ht] at h3;cases h3
theorem ox (k:Nat) (new:Sl) (next:OFP P N ops R Kfin (order.drop k) (new++l) I S) (h:pof P N ops order k new l=some new:=by kernel_rfl) (km:KM Kfin:=by first | exact km0 | exact km1):OFP P N ops R Kfin order l I S:=by
  unfold pof at h;cases hv:pvo P N ops k order l with
  | none=>rw [hv] at h;cases h
  | some l'=>
    rw [hv] at h;simp only at h;obtain ⟨ex,rfl,rfl⟩:=pvo_split _ _ _ _ hv;cases hm:NY new l ex.length (ex++l) with
    | false=>rw [hm] at h;cases h
    | true=>
      rw [hm] at h;exact op_aux ex.length order l _ hv (OFP.more km _ _ _ _ _ (mask_sub hm h) next)
end
section
variable {ρ:Option Nat} {P:Program} {N:Nat} {ops:Array Oper} {Q:Exit→Act→World→Prop} {ds:List Deferred} {i:Nat} {l:Sl} {I:Imm} {M:Seg} {C:List Nat→Code} {p:List Nat}
theorem rq (h:Run (ρ:=ρ) P N (C (p++[0])) (Exit.then (fun a w=>(C (p++[1])).wpIn (fen ρ) 0 P Q a w) Q) ds l I M) (hc:C p=.seq (C (p++[0])) (C (p++[1])):=by kernel_rfl):Run (ρ:=ρ) P N (C p) Q ds l I M:=run_seq hc h
def isPlain (c:Code):Bool:=match c with | .region _ _ false=>true | _=>false
theorem isPlain_spec {c:Code} (h:isPlain c=true):∃ id,c=.region id (ET c) false:=by
  unfold isPlain at h
  split at h
  · exact ⟨_,rfl⟩
  · cases h
theorem rr (h:Seq (ρ:=ρ) P N (ET (C p)) Q ds 0 l I M) (hc:isPlain (C p)=true:=by kernel_rfl):Run (ρ:=ρ) P N (C p) Q ds l I M:=by
  obtain ⟨id,hid⟩:=isPlain_spec hc;exact run_region hid h
theorem rqr (h:Seq (ρ:=ρ) P N (ET (C (p++[0]))) (Exit.then (fun a w=>(C (p++[1])).wpIn (fen ρ) 0 P Q a w) Q) ds 0 l I M) (hc:C p=.seq (C (p++[0])) (C (p++[1])):=by kernel_rfl) (hr:isPlain (C (p++[0]))=true:=by kernel_rfl):Run (ρ:=ρ) P N (C p) Q ds l I M:=rq (rr h hr) hc
theorem se {y:Code} {Q':Exit→Act→World→Prop} (h:Run (ρ:=ρ) P N y Q ds l I M) (he:ops.size=i:=by kernel_rfl):Seq (ρ:=ρ) P N ops (Exit.then (fun a w=>y.wpIn (fen ρ) 0 P Q a w) Q') ds i l I M:=seq_end he (pst_next h)
theorem sn {Q' : Exit → Act → World → Prop} (h : Seq (ρ := ρ) P N (ET (C (p ++ [0]))) (Exit.then (fun a w => (C (p ++ [1])).wpIn (fen ρ) 0 P Q a w) Q) ds 0 l I M) (he : ops.size = i := by kernel_rfl) (hc : C p = .seq (C (p ++ [0])) (C (p ++ [1])) := by kernel_rfl) (hr : isPlain (C (p ++ [0])) = true := by kernel_rfl) :
    Seq (ρ:=ρ) P N ops (Exit.then (fun a w=>(C p).wpIn (fen ρ) 0 P Q a w) Q') ds i l I M:=se (rqr h hc hr) he
theorem rc (t : Nat) {b : Bool} (ht : DC t l = some (.bool b)) (h1 : b = true → Run (ρ := ρ) P N (C (p ++ [0])) Q ds l I M) (h2 : b = false → Run (ρ := ρ) P N (C (p ++ [1])) Q ds l I M)
    (hc:C p=.cond (.tmp t) (C (p++[0])) (C (p++[1])):=by kernel_rfl):Run (ρ:=ρ) P N (C p) Q ds l I M:=run_cond hc ht h1 h2
theorem rct (t:Nat) (ht:DC t l=some (.bool true)) (h1:Run (ρ:=ρ) P N (C (p++[0])) Q ds l I M) (hc:C p=.cond (.tmp t) (C (p++[0])) (C (p++[1])):=by kernel_rfl):Run (ρ:=ρ) P N (C p) Q ds l I M:=run_cond_true hc ht h1
theorem rcf (t:Nat) (ht:DC t l=some (.bool false)) (h1:Run (ρ:=ρ) P N (C (p++[1])) Q ds l I M) (hc:C p=.cond (.tmp t) (C (p++[0])) (C (p++[1])):=by kernel_rfl):Run (ρ:=ρ) P N (C p) Q ds l I M:=GI hc ht h1
theorem rb (id:Nat) (h:Run (ρ:=ρ) P N (C (p++[0])) (Exit.inBlock id Q) ds l I M) (hc:C p=.block id (C (p++[0])):=by kernel_rfl):Run (ρ:=ρ) P N (C p) Q ds l I M:=run_block hc h
theorem rl (J : Nat → Act → World → Prop) (h0 : ∀ a w, Slots N l a → a.defers = ds → St I M w → ∃ n0, J n0 a w) (round : ∀ n a w, J n a w → (C (p ++ [0])).wpIn (fen ρ) 0 P (Exit.then (fun a' w' => ∃ n', n' < n ∧ J n' a' w') Q) a w)
    (hc:C p=.loop (C (p++[0])):=by kernel_rfl):Run (ρ:=ρ) P N (C p) Q ds l I M:=run_loop hc J h0 round
theorem BE (h:Pst N Q .ret ds l I M) (hc:C p=.ret:=by kernel_rfl):Run (ρ:=ρ) P N (C p) Q ds l I M:=run_ret hc h
theorem AN (h:Pst N Q .normal ds l I M) (hc:C p=.skip:=by kernel_rfl):Run (ρ:=ρ) P N (C p) Q ds l I M:=run_skip hc h
theorem BK (id:Nat) (h:Pst N Q (.exit id) ds l I M) (hc:C p=.exit id:=by kernel_rfl):Run (ρ:=ρ) P N (C p) Q ds l I M:=run_exit hc h
theorem rlab (id:Nat) (h:Pst N Q .normal ds l I M) (hc:C p=.label id:=by kernel_rfl):Run (ρ:=ρ) P N (C p) Q ds l I M:=run_label hc h
def allT:Nat→Nat→List (Nat × Bool)
  | _,0=>[]
  | i,n+1=>(i,true)::allT (i+1) n
def LF (c:Code):Bool:=match c with | .region _ _ true=>true | _=>false
theorem GM {c:Code} (h:LF c=true):∃ id,c=.region id (ET c) true:=by
  unfold LF at h
  split at h
  · exact ⟨_,rfl⟩
  · cases h
theorem rd0 (n0 : Nat) (h : OFP P N (ET (C p)) M (fun l I S => S = [] ∧ Seq (ρ := ρ) P N (ET (C p)) Q ds n0 l I M) (allT 0 n0) l I []) (hm : P.follows .mixedOrders = true := by kernel_rfl) (hc : LF (C p) = true := by kernel_rfl)
    (hok:okAll (ET (C p)) n0 (allT 0 n0)=true:=by kernel_rfl):Run (ρ:=ρ) P N (C p) Q ds l I M:=by
  obtain ⟨id,hid⟩:=GM hc;exact run_draw0 n0 _ hm hid hok h
theorem rd0' (n0 : Nat) (order : List (Nat × Bool)) (h : OFP P N (ET (C p)) M (fun l I S => S = [] ∧ Seq (ρ := ρ) P N (ET (C p)) Q ds n0 l I M) order l I []) (hm : P.follows .mixedOrders = true := by kernel_rfl) (hc : LF (C p) = true := by kernel_rfl)
    (hok:okAll (ET (C p)) n0 order=true:=by kernel_rfl):Run (ρ:=ρ) P N (C p) Q ds l I M:=by
  obtain ⟨id,hid⟩:=GM hc;exact run_draw0 n0 _ hm hid hok h
theorem rd (n0 : Nat) (order : List (Nat × Bool)) (R S : Seg) (h : OFP P N (ET (C p)) R (fun l I S => Seq (ρ := ρ) P N (ET (C p)) Q ds n0 l I (R ++ S)) order l I S) (hM : M.Perm (R ++ S) := by exact List.Perm.refl _) (hm : P.follows .mixedOrders = true := by kernel_rfl)
    (hc:LF (C p)=true:=by kernel_rfl) (hok:okAll (ET (C p)) n0 order=true:=by kernel_rfl):Run (ρ:=ρ) P N (C p) Q ds l I M:=by
  obtain ⟨id,hid⟩:=GM hc;exact run_draw n0 _ hm hid hok hM h
theorem ee (next:Pst N Q .normal ds l I M) (h:ops.size=i:=by kernel_rfl):Seq (ρ:=ρ) P N ops Q ds i l I M:=seq_end h next
theorem su {l' l:Sl} (h:pickL l l' true=some l':=by kernel_rfl):Sub l' l:=fun _ _ ht=>KP h ht
theorem sd {d:Nat} {v:Value} (h:Det P N ops i l I M d v) (next:Seq (ρ:=ρ) P N ops Q ds (i+1) ((d,v)::l) I M):Seq (ρ:=ρ) P N ops Q ds i l I M:=seq_det h next
theorem sS (h:Stp P N ops i l I M (fun l' I' M'=>Seq (ρ:=ρ) P N ops Q ds (i+1) l' I' M')):Seq (ρ:=ρ) P N ops Q ds i l I M:=seq_stp h
theorem sfz {α : Type} {E : TypeId} {sz : Nat} {cell : α → Nat → Value} {A Ms : Seg} {v : Value} {xs : List α} (dflt : α) (h : Own E sz cell v xs Ms) (hM : M.Perm (Ms ++ A)) (next : ∀ J, I.le J → IsSl sz cell dflt J v xs → Seq (ρ := ρ) P N ops Q ds i l J A)
    (hl:xs.length≤140737488355328:=by first | omega | (simp only [List.length_set,List.length_cons,List.length_nil,List.length_append,List.length_take,List.length_drop] <;> omega) | decide):Seq (ρ:=ρ) P N ops Q ds i l I M:=seq_freeze dflt h hl hM (List.Perm.refl _) next
theorem rpm {c:Code} {M':Seg} (p:M.Perm M') (next:Run (ρ:=ρ) P N c Q ds l I M'):Run (ρ:=ρ) P N c Q ds l I M:=run_mem (fun w h=>h.perm p) next
theorem rnm {c:Code} {M':Seg} (next:Run (ρ:=ρ) P N c Q ds l I M') (h:M=M':=by (try simp only [List.append_assoc,List.cons_append,List.nil_append,List.append_nil,List.set_cons_zero,List.set_cons_succ]);rfl):Run (ρ:=ρ) P N c Q ds l I M:=by subst h;exact next
theorem ppm {e:Exit} {M':Seg} (p:M.Perm M') (next:Pst N Q e ds l I M'):Pst N Q e ds l I M:=HQ (fun w h=>h.perm p) next
theorem pm {M':Seg} (p:M.Perm M') (next:Seq (ρ:=ρ) P N ops Q ds i l I M'):Seq (ρ:=ρ) P N ops Q ds i l I M:=AR (fun w h=>h.perm p) next
theorem nm {M':Seg} (next:Seq (ρ:=ρ) P N ops Q ds i l I M') (h:M=M':=by (try simp only [List.append_assoc,List.cons_append,List.nil_append,List.append_nil,List.set_cons_zero,List.set_cons_succ]);rfl):Seq (ρ:=ρ) P N ops Q ds i l I M:=by subst h;exact next
end
theorem fr {P : Program} {f : FuncId} {fn : Func} {args : List Value} {I : Imm} {pre : Seg} {post : Value → Imm → Seg → Prop} {N : Nat} (hf : P.funcs[f]? = some fn)
    (h:∀ F,Run (ρ:=none) P N (JG fn) (RetQ P fn I post F) [] (HT 0 args) I (pre++F)) (hb:fn.body.isSome=true:=by kernel_rfl) (hN:fn.ntmps=N:=by kernel_rfl) (hle:Nat.ble args.length N=true:=by rfl):Ct P f args.toArray I pre post:=
  fn_of_run hf hb hN (Nat.le_of_ble_eq_true hle) h
section
variable {ρ:Option Nat} {P:Program} {N:Nat} {ops:Array Oper} {Q:Exit→Act→World→Prop} {ds:List Deferred} {i:Nat} {l:Sl} {I:Imm} {R M:Seg}
def okAt (N:Nat) (ops:Array Oper) (l:Sl) (i:Nat):Option (Option Tmp × Op × TypeId):=
  match EQ ops N i with
  | some (dst,op,ty,gd)=>match EJ ops l gd with
    | some true=>some (dst,op,ty)
    | _=>none
  | none=>none
theorem FE {dst:Option Tmp} {op:Op} {ty:TypeId} (h:okAt N ops l i=some (dst,op,ty)):∃ gd,EQ ops N i=some (dst,op,ty,gd)∧EJ ops l gd=some true:=by
  unfold okAt at h
  split at h
  · split at h
    · rename_i h1 _ h2;cases h;exact ⟨_,h1,h2⟩
    · cases h
  · cases h
inductive Ar | add | sub | mul
def arAt (b:Ar) (N:Nat) (ops:Array Oper) (l:Sl) (i:Nat):Option (Nat × Int × Int):=
  match okAt N ops l i with
  | some (some d,.binOp o _ x y _,_)=>match BM l x,BM l y with
    | some (.int .i64 a),some (.int .i64 c)=>match b,o with
      | .add,.add=>some (d,a,c)
      | .sub,.sub=>some (d,a,c)
      | .mul,.mul=>some (d,a,c)
      | _,_=>none
    | _,_=>none
  | _=>none
theorem arAt_spec {b : Ar} {d : Nat} {a c : Int} (h : arAt b N ops l i = some (d, a, c)) : ∃ x y T T' ty gd, EQ ops N i = some (some d, .binOp (match b with | .add => .add | .sub => .sub | .mul => .mul) T x y T', ty, gd) ∧ EJ ops l gd = some true ∧
    BM l x=some (.int .i64 a)∧BM l y=some (.int .i64 c):=by
  unfold arAt at h
  split at h
  · rename_i d' o T x y T' ty ho
    obtain ⟨gd,h1,h2⟩:=FE ho
    split at h
    · rename_i a' c' hx hy
      split at h <;> cases h <;> exact ⟨x,y,T,T',ty,gd,h1,h2,hx,hy⟩
    · cases h
  · cases h
theorem da (d:Nat) (a c:Int) (hr:-9223372036854775808≤a+c∧a+c≤9223372036854775807:=by omega) (h:arAt .add N ops l i=some (d,a,c):=by kernel_rfl):Det P N ops i l I R d (.int .i64 (a+c)):=by
  obtain ⟨x,y,T,T',ty,gd,h1,h2,h3,h4⟩:=arAt_spec h;exact det_add h1 h2 h3 h4 hr
theorem dsb (d:Nat) (a c:Int) (hr:-9223372036854775808≤a-c∧a-c≤9223372036854775807:=by omega) (h:arAt .sub N ops l i=some (d,a,c):=by kernel_rfl):Det P N ops i l I R d (.int .i64 (a-c)):=by
  obtain ⟨x,y,T,T',ty,gd,h1,h2,h3,h4⟩:=arAt_spec h;exact det_sub h1 h2 h3 h4 hr
theorem dmu (d:Nat) (a c:Int) (hr:-9223372036854775808≤a*c∧a*c≤9223372036854775807:=by omega) (h:arAt .mul N ops l i=some (d,a,c):=by kernel_rfl):Det P N ops i l I R d (.int .i64 (a*c)):=by
  obtain ⟨x,y,T,T',ty,gd,h1,h2,h3,h4⟩:=arAt_spec h;exact det_mul h1 h2 h3 h4 hr
def cmAt (N:Nat) (ops:Array Oper) (l:Sl) (i:Nat):Option (Nat × BinOp × Int × Int):=
  match okAt N ops l i with
  | some (some d,.binOp o _ x y _,_)=>match BM l x,BM l y with
    | some (.int .i64 a),some (.int .i64 c)=>bif isCmp o then some (d,o,a,c) else none
    | _,_=>none
  | _=>none
theorem dcm (d:Nat) (o:BinOp) (a c:Int) (v:Bool) (hb:cmp o a c=v) (h:cmAt N ops l i=some (d,o,a,c):=by kernel_rfl):Det P N ops i l I R d (.bool v):=by
  unfold cmAt at h
  split at h
  · rename_i d' o' T x y T' ty ho
    obtain ⟨gd,h1,h2⟩:=FE ho
    split at h
    · rename_i a' c' hx hy
      cases hc:isCmp o' with
      | false=>rw [hc] at h;cases h
      | true=>rw [hc] at h;cases h;exact det_cmp' h1 h2 hx hy hc hb
    · cases h
  · cases h
def ixAt (P:Program) (N:Nat) (ops:Array Oper) (l:Sl) (i:Nat):Option (Nat × Nat × Option Addr × Nat × Int):=
  match okAt N ops l i with
  | some (some d,.indexAddr T x y,_)=>match GO P T with
    | some e=>match DJ P e,BM l x,BM l y with
      | some sz,some (.slice a n _),some (.int _ j)=>some (d,sz,a,n,j)
      | _,_,_=>none
    | none=>none
  | _=>none
theorem diI (d sz : Nat) (j : Int) {n b off : Nat} {a : Option Addr} (ha : 0 < n → a = some ⟨b, off, none⟩) (hj : 0 ≤ j ∧ j < n := by omega) (h : ixAt P N ops l i = some (d, sz, a, n, j) := by kernel_rfl) :
    Det P N ops i l I R d (.pointer (some ⟨b,off+j.toNat*sz,none⟩)):=by
  unfold ixAt at h
  split at h
  · rename_i d' T x y ty ho
    obtain ⟨gd,h1,h2⟩:=FE ho
    split at h
    · rename_i e he
      split at h
      · rename_i sz' a' n' c' k' j' hs hx hy
        cases h;exact det_indexAddr h1 h2 he hs hx hy ha hj.1 hj.2
      · cases h
    · cases h
  · cases h
theorem di (d sz : Nat) (j : Nat) {n b off : Nat} {a : Option Addr} (ha : 0 < n → a = some ⟨b, off, none⟩) (hj : j < n := by omega) (h : ixAt P N ops l i = some (d, sz, a, n, (j : Int)) := by kernel_rfl) :
    Det P N ops i l I R d (.pointer (some ⟨b,off+j*sz,none⟩)):=by
  have:=diI (I:=I) (R:=R) d sz (j:Int) ha (by omega) h
  rwa [Int.toNat_natCast] at this
def iaAt (P:Program) (N:Nat) (ops:Array Oper) (l:Sl) (i:Nat):Option (Nat × Nat × Nat × Nat × Nat × Int):=
  match okAt N ops l i with
  | some (some d,.indexAddr T x y,_)=>match tyArr P T with
    | some (n,e)=>match DJ P e,BM l x,BM l y with
      | some sz,some (.pointer (some ⟨b,off,none⟩)),some (.int _ j)=>some (d,sz,n,b,off,j)
      | _,_,_=>none
    | none=>none
  | _=>none
def ldAt (P:Program) (N:Nat) (ops:Array Oper) (l:Sl) (i:Nat):Option (Nat × Nat × Nat):=
  match okAt N ops l i with
  | some (some d,.load T x,_)=>match DP P T,BM l x with
    | some false,some (.pointer (some ⟨b,off,none⟩))=>some (d,b,off)
    | _,_=>none
  | _=>none
theorem dl (d:Nat) {b off:Nat} {v:Value} (hs:Sees I R ⟨b,off,none⟩ v) (h:ldAt P N ops l i=some (d,b,off):=by kernel_rfl):Det P N ops i l I R d v:=by
  unfold ldAt at h
  split at h
  · rename_i d' T x ty ho
    obtain ⟨gd,h1,h2⟩:=FE ho
    split at h
    · rename_i b' off' hT hx
      cases h;exact KK h1 h2 hT hx hs
    · cases h
  · cases h
def cellAt (R:Seg) (k off:Nat):Option (Nat × Value):=
  match R[k]? with
  | some (b,.cells cs _ _)=>match cs[off]? with
    | some v=>some (b,v)
    | none=>none
  | _=>none
theorem dlb (d k off b:Nat) (v:Value) (h:ldAt P N ops l i=some (d,b,off):=by kernel_rfl) (hc:cellAt R k off=some (b,v):=by kernel_rfl):Det P N ops i l I R d v:=by
  refine dl d ?_ h;unfold cellAt at hc
  split at hc
  · rename_i b' cs T fz hk
    split at hc
    · rename_i v' hv
      cases hc;exact sees_at k hk hv
    · cases hc
  · cases hc
def lnAt (P:Program) (N:Nat) (ops:Array Oper) (l:Sl) (i:Nat):Option (Nat × Nat × Nat × Nat):=
  match okAt N ops l i with
  | some (some d,.load T x,_)=>match DP P T,DJ P T,BM l x with
    | some true,some n,some (.pointer (some ⟨b,off,none⟩))=>some (d,n,b,off)
    | _,_,_=>none
  | _=>none
theorem dn (d:Nat) {b off:Nat} {vs:List Value} (hs:SeesN I R b off vs) (h:lnAt P N ops l i=some (d,vs.length,b,off):=by kernel_rfl):Det P N ops i l I R d (.agg vs.toArray):=by
  unfold lnAt at h
  split at h
  · rename_i d' T x ty ho
    obtain ⟨gd,h1,h2⟩:=FE ho
    split at h
    · rename_i n' b' off' hT hn hx
      cases h;exact det_loadN h1 h2 hT hn hx rfl hs
    · cases h
  · cases h
def rowAt (R:Seg) (k off n:Nat):Option (Nat × List Value):=
  match R[k]? with
  | some (b,.cells cs _ _)=>some (b,(cs.toList.drop off).take n)
  | _=>none
theorem dnb (d k off b:Nat) (vs:List Value) (h:lnAt P N ops l i=some (d,vs.length,b,off):=by kernel_rfl) (hc:rowAt R k off vs.length=some (b,vs):=by kernel_rfl):Det P N ops i l I R d (.agg vs.toArray):=by
  refine dn d ?_ h;unfold rowAt at hc
  split at hc
  · rename_i b' cs T fz hk
    have h1:b'=b:=congrArg (fun x=>(x.getD (0,[])).1) hc;have h2:(cs.toList.drop off).take vs.length=vs:=congrArg (fun x=>(x.getD (0,[])).2) hc;subst h1;exact seesN_at (n:=vs.length) k hk h2
  · cases hc
def clAt (P:Program) (N:Nat) (ops:Array Oper) (l:Sl) (i:Nat):Option (Option Tmp × FuncId × Array Value):=
  match okAt N ops l i with
  | some (d,.call { callee:=.value f,args:=args,argTypes:=_ },_)=>match BM l f,LJ l args.toList with
    | some (.func (.func fid) ⟨fs⟩ cv),some vals=>bif CB P fid&&fs.isEmpty then some (d,fid,(vals++cv.toList).toArray) else none
    | _,_=>none
  | _=>none
theorem clAt_spec {d : Option Tmp} {fid : FuncId} {argv : Array Value} (h : clAt P N ops l i = some (d, fid, argv)) : ∃ f args tys ty gd vals cv, EQ ops N i = some (d, .call { callee := .value f, args := args, argTypes := tys }, ty, gd) ∧ EJ ops l gd = some true ∧
    BM l f=some (.func (.func fid) #[] (cv:List Value).toArray)∧LJ l args.toList=some vals∧CB P fid=true∧(vals++cv).toArray=argv:=by
  unfold clAt at h
  split at h
  · rename_i d' f args tys ty ho
    obtain ⟨gd,h1,h2⟩:=FE ho
    split at h
    · rename_i fid' fs cv vals hf hv
      cases hc:CB P fid'&&fs.isEmpty with
      | false=>rw [hc] at h;cases h
      | true=>
        rw [hc] at h;cases h;rw [Bool.and_eq_true,List.isEmpty_iff] at hc;obtain ⟨hc,rfl⟩:=hc;exact ⟨f,args,tys,ty,gd,vals,cv.toList,h1,h2,by simpa using hf,hv,hc,rfl⟩
    · cases h
  · cases h
theorem dc (d:Nat) {fid:FuncId} {argv:Array Value} {v:Value} (ct:∀ I',I.le I'→CtV P fid argv I' v) (h:clAt P N ops l i=some (some d,fid,argv):=by kernel_rfl):Det P N ops i l I R d v:=by
  obtain ⟨f,args,tys,ty,gd,vals,cv,h1,h2,h3,h4,h5,h6⟩:=clAt_spec h;exact LW h1 h2 h3 h4 h5 h6 ct
theorem sc (d : Option Tmp) {K : Sl → Imm → Seg → Prop} {fid : FuncId} {argv : Array Value} {pre F : Seg} {post : Value → Imm → Seg → Prop} (ct : Ct P fid argv I pre post) (hM : M.Perm (pre ++ F))
    (hk:∀ v I' M',I.le I'→post v I' M'→K (ups d v l) I' (M'++F)) (h:clAt P N ops l i=some (d,fid,argv):=by kernel_rfl):Stp P N ops i l I M K:=by
  obtain ⟨f,args,tys,ty,gd,vals,cv,h1,h2,h3,h4,h5,h6⟩:=clAt_spec h;exact EN h1 h2 h3 h4 h5 h6 ct hM hk
def bxAt (N:Nat) (ops:Array Oper) (l:Sl) (i:Nat):Option (Nat × TypeId × Array Value):=
  match okAt N ops l i with
  | some (some d,.box T x,_)=>match BM l x with
    | some v=>some (d,T,v.cells)
    | none=>none
  | _=>none
theorem sb (d T:Nat) (cs:Array Value) {K:Sl→Imm→Seg→Prop} (hk:∀ b,K ((d,.pointer (some ⟨b,0,none⟩))::l) I ((b,.cells cs T (0,0))::M)) (h:bxAt N ops l i=some (d,T,cs):=by kernel_rfl):Stp P N ops i l I M K:=by
  unfold bxAt at h
  split at h
  · rename_i d' T' x ty ho
    obtain ⟨gd,h1,h2⟩:=FE ho
    split at h
    · rename_i v hx
      cases h;exact stp_box h1 h2 hx rfl hk
    · cases h
  · cases h
def alAt (P:Program) (N:Nat) (ops:Array Oper) (l:Sl) (i:Nat):Option (Nat × TypeId × Array Value):=
  match okAt N ops l i with
  | some (some d,.alloc T,_)=>match GQ P T with
    | some v=>some (d,T,v.cells)
    | none=>none
  | _=>none
theorem sal (d T:Nat) (cs:Array Value) {K:Sl→Imm→Seg→Prop} (hk:∀ b,K ((d,.pointer (some ⟨b,0,none⟩))::l) I ((b,.cells cs T (0,0))::M)) (h:alAt P N ops l i=some (d,T,cs):=by kernel_rfl):Stp P N ops i l I M K:=by
  unfold alAt at h
  split at h
  · rename_i d' T' ty ho
    obtain ⟨gd,h1,h2⟩:=FE ho
    split at h
    · rename_i v hx
      cases h;exact stp_alloc h1 h2 hx rfl hk
    · cases h
  · cases h
def stAt (P:Program) (N:Nat) (ops:Array Oper) (l:Sl) (i:Nat):Option (Nat × Nat × List Value):=
  match okAt N ops l i with
  | some (none,.store T x y,_)=>match BM l x,BM l y,DJ P T with
    | some (.pointer (some ⟨b,off,none⟩)),some v,some n=>bif Nat.beq v.cells.toList.length n&&v.cells.toList.all CD then some (b,off,v.cells.toList) else none
    | _,_,_=>none
  | _=>none
theorem ss (k off b : Nat) (vs cs' : List Value) (M' : Seg) {cs : List Value} {S : TypeId} {K : Sl → Imm → Seg → Prop} (hk : M[k]? = some (b, Obj.cells cs.toArray S (0, 0))) (hM : M.set k (b, Obj.cells cs'.toArray S (0, 0)) = M') (hK : K l I M')
    (h:stAt P N ops l i=some (b,off,vs):=by kernel_rfl) (hs:(GP cs.toArray off vs).toList=cs':=by kernel_rfl) (hle:Nat.ble (off+vs.length) cs.length=true:=by kernel_rfl):Stp P N ops i l I M K:=by
  unfold stAt at h
  split at h
  · rename_i T' x y ty ho
    obtain ⟨gd,h1,h2⟩:=FE ho
    split at h
    · rename_i b' off' v n hx hy hn
      cases hc:Nat.beq v.cells.toList.length n&&v.cells.toList.all CD with
      | false=>rw [hc] at h;cases h
      | true=>
        rw [hc] at h;cases h;rw [Bool.and_eq_true] at hc;exact stp_store k h1 h2 hx hy hn rfl (Nat.eq_of_beq_eq_true hc.1) hc.2 hk (Nat.le_of_ble_eq_true hle) hs hM hK
    · cases h
  · cases h
def bsAt (P:Program) (N:Nat) (ops:Array Oper) (l:Sl) (i:Nat):Option (Nat × TypeId × Nat × Array Value):=
  match okAt N ops l i with
  | some (some d,.buildSlice T n parts,_)=>match GO P T,LJ l (parts.toList.map (·.2)) with
    | some e,some _=>match DJ P e,GQ P e with
      | some sz, some z => bif Nat.ble (n * sz) 16777216 then
          match Instr.fill (fun i=>some (i*sz,sz)) ((Array.range (n*sz)).map (fun k=>(if n*sz=0 then #[] else z.cells)[k%(if n*sz=0 then (#[]:Array Value) else z.cells).size]!)) (parts.toList.map fun x=>(x.1,rho l x.2)) with
          | some cs=>some (d,e,n,cs)
          | none=>none
        else none
      | _,_=>none
    | _,_=>none
  | _=>none
theorem sbs (d e n:Nat) (cs:Array Value) {K:Sl→Imm→Seg→Prop} (hk:∀ b,K ((d,.slice (some ⟨b,0,none⟩) n n)::l) I ((b,.cells cs e (0,0))::M)) (h:bsAt P N ops l i=some (d,e,n,cs):=by kernel_rfl):Stp P N ops i l I M K:=by
  unfold bsAt at h
  split at h
  · rename_i d' T n' parts ty ho
    obtain ⟨gd,h1,h2⟩:=FE ho
    split at h
    · rename_i e' vs he hv
      split at h
      · rename_i sz z hs hz
        cases hc:Nat.ble (n'*sz) 16777216 with
        | false=>rw [hc] at h;cases h
        | true=>
          rw [hc] at h;simp only [cond_true] at h
          split at h
          · rename_i cs' hf
            cases h;exact stp_buildSlice h1 h2 he hs hz (parts_knownS (by rw [hv];rfl)) rfl (Nat.le_of_ble_eq_true hc) hf hk
          · cases h
      · cases h
    · cases h
  · cases h
end
abbrev sB (l:List UInt8):ByteArray:=⟨l.toArray⟩
abbrev sV (l:List UInt8):Value:=.string ⟨l.toArray⟩
theorem sB_size (a:List UInt8):(sB a).size=a.length:=by simp [sB,ByteArray.size]
section
variable {ρ:Option Nat} {P:Program} {N:Nat} {ops:Array Oper} {i:Nat} {l:Sl} {I:Imm} {R M:Seg} {d:Nat} {ty:TypeId} {gd:Option (Nat × Bool)}
end
theorem sB_get (l:List UInt8) (i:Nat):(sB l)[i]?=l[i]?:=by
  by_cases h:i<l.length
  · rw [getElem?_pos (sB l) i (by rw [sB_size];exact h),List.getElem?_eq_getElem h]
    rfl
  · rw [getElem?_neg (sB l) i (by rw [sB_size];exact h),List.getElem?_eq_none (by omega)]
section
variable {ρ:Option Nat} {P:Program} {N:Nat} {ops:Array Oper} {i:Nat} {l:Sl} {I:Imm} {R M:Seg} {d:Nat} {ty:TypeId} {gd:Option (Nat × Bool)}
def byteAt (s:List UInt8) (j:Nat):Int:=((s.getD j 0).toNat:Int)
theorem det_indexS {x y : Operand} {T : TypeId} {s : List UInt8} {k : IntKind} (j : Nat) (hop : EQ ops N i = some (some d, .index T x y, ty, gd)) (hg : EJ ops l gd = some true)
    (hT:P.underlying T=some .string) (hx:BM l x=some (sV s)) (hy:BM l y=some (.int k (j:Int))) (hj:j<s.length):Det P N ops i l I R d (.int .u8 (byteAt s j)):=
  FG hop hg (HN hx hy) fun I' M'=>by
    show wpL P (Instr.index T (rho l x) (rho l y) >>= fun x=>pure (Next.value x)) _ I' M';rw [AZ hx,AZ hy];refine CX ?_;unfold Instr.index;show wpL P (underlying T >>= _) _ I' M';rw [AE,AK hT];simp only [if_pos (Int.natCast_nonneg j),Int.toNat_natCast];have e:(({ data:=s.toArray }:ByteArray)[j]?)=some s[j]:=by rw [show ({ data:=s.toArray }:ByteArray)=sB s from rfl,sB_get,List.getElem?_eq_getElem hj]
    rw [e];have e2:byteAt s j=(s[j].toNat:Int):=by simp [byteAt,List.getD_eq_getElem?_getD,List.getElem?_eq_getElem hj]
    rw [e2];exact ⟨rfl,rfl⟩
end
section
variable {ρ:Option Nat} {P:Program} {N:Nat} {ops:Array Oper} {i:Nat} {l:Sl} {I:Imm} {R M:Seg} {d:Nat} {ty:TypeId} {gd:Option (Nat × Bool)}
end
section
variable {P:Program} {N:Nat} {fn:Func} {I I₀:Imm} {post:Value→Imm→Seg→Prop} {F M:Seg} {l:Sl}
end
section
variable {ρ:Option Nat} {P:Program} {N:Nat} {ops:Array Oper} {i:Nat} {l:Sl} {I:Imm} {R M:Seg} {d:Nat} {ty:TypeId} {gd:Option (Nat × Bool)} {K:Sl→Imm→Seg→Prop}
end
end Go.Sl
namespace Go.Sh
open Go Go.Sl
theorem goTrack_inv {n:Nat} {fin:List Int→Int}:∀ (t met:List Int),met.Nodup→goTrack n fin t met=0→(∀ c∈t,0≤c∧c<n)∧(met++t).Nodup∧fin (met++t)=0:=by
  intro t
  induction t with
  | nil=>intro met hn h;exact ⟨fun _ h=>by simp at h,by simpa using hn,by simpa [goTrack] using h⟩
  | cons c r ih=>
    intro met hn h;simp only [goTrack] at h
    split at h
    · rename_i h1
      split at h
      · cases h
      · rename_i h2
        have hn':(met++[c]).Nodup:=List.nodup_append.2 ⟨hn,by simp,fun a ha b hb=>by simp at hb;subst hb;intro e;subst e;exact h2 ha⟩;obtain ⟨g1,g2,g3⟩:=ih (met++[c]) hn' h;have:=EW h1;rw [List.append_assoc] at g2 g3;refine ⟨fun x hx=>?_,g2,g3⟩;rcases List.mem_cons.1 hx with e | hx
        · subst e;omega
        · exact g1 x hx
    · cases h
theorem goTracks_inv {cs : List Car} {fin : List Int → Int} : ∀ (ts : List (List Int)) (rm met : List Int), met.Nodup → MB cs fin ts rm met = 0 →
    OkAll cs ts∧(met++ts.flatten).Nodup∧fin (met++ts.flatten)=0∧∀ k,k<ts.length→lenOf cs (ts.getD k [])≤rm.getD k 0:=by
  intro ts
  induction ts with
  | nil=>intro rm met hn h;exact ⟨OkAll.nil,by simpa using hn,by simpa [MB] using h,fun k hk=>by simp at hk⟩
  | cons t r ih=>
    intro rm met hn h;simp only [MB] at h;obtain ⟨g1,g2,g3⟩:=goTrack_inv t met hn h
    split at g3
    · cases g3
    · rename_i hl
      obtain ⟨k1,k2,k3,k4⟩:=ih rm.tail (met++t) g2 g3;rw [List.append_assoc] at k2 k3;refine ⟨fun x hx=>?_,by simpa using k2,by simpa using k3,fun k hk=>?_⟩
      · rcases List.mem_cons.1 hx with e | hx
        · subst e;exact g1
        · exact k1 x hx
      · cases k with
        | zero=>
          simp only [List.getD_cons_zero];have:rm.headD 0=rm.getD 0 0:=by cases rm <;> rfl
          omega
        | succ k=>
          have:=k4 k (by simpa using hk);simp only [List.getD_cons_succ];have e:rm.tail.getD k 0=rm.getD (k+1) 0:=by cases rm <;> rfl
          omega
structure Fine (Y:Yard):Prop where
  cars:Y.cars.length≤5
  carOk:∀ c∈Y.cars,carErr c=0
  room1:0<Y.room.length
  room3:Y.room.length≤3
  roomOk:∀ n∈Y.room,inB n 0 20=true
  len:Y.tracks.length=Y.room.length
  ok:OkAll Y.cars Y.tracks
  nodup:Y.tracks.flatten.Nodup
  fits:∀ k,k<Y.tracks.length→lenOf Y.cars (Y.tracks.getD k [])≤Y.room.getD k 0
  all:Y.cars.length≤Y.tracks.flatten.length
  groups:groupsErr Y=0
theorem Valid.fine {Y:Yard} (h:Valid Y):Fine Y:=by
  unfold Valid checkErr at h
  split at h
  · cases h
  rename_i h1
  split at h
  · rename_i h2
    split at h
    · cases h
    rename_i h3
    split at h
    · cases h
    rename_i h4
    split at h
    · rename_i h5
      unfold tracksErr at h
      split at h
      · rename_i h6
        obtain ⟨g1,g2,g3,g4⟩:=goTracks_inv _ _ [] (by simp) h;simp only [List.nil_append] at g2 g3
        split at g3
        · cases g3
        · rename_i h7
          exact ⟨by omega,fun c hc=>of_decide_eq_true (List.all_eq_true.1 h2 c hc),by omega,by omega,fun n hn=>List.all_eq_true.1 h5 n hn,h6,g1,g2,g4,by omega,g3⟩
      · cases h
    · cases h
  · cases h
theorem range_bound {l:List Int} {n:Nat} (hn:l.Nodup) (h:∀ c∈l,0≤c∧c<n):l.length≤n:=by
  have hs:l ⊆ (List.range n).map (fun k:Nat=>(k:Int)):=fun c hc=>by
    have:=h c hc;exact List.mem_map.2 ⟨c.toNat,List.mem_range.2 (by omega),by omega⟩
  have:=hn.length_le_of_subset hs
  simpa using this
theorem flatten_ok {cs:List Car} {ts:List (List Int)} (h:OkAll cs ts):Ok cs ts.flatten:=fun c hc=>by
  obtain ⟨t,ht,hc⟩:=List.mem_flatten.1 hc;exact h t ht c hc
theorem Fine.sum {Y:Yard} (h:Fine Y):Y.tracks.flatten.length≤5:=Nat.le_trans (range_bound h.nodup (flatten_ok h.ok)) h.cars
structure MayOk (Y:Yard) (s:Shift):Prop where
  frm:0≤s.frm∧s.frm<Y.tracks.length
  to:0≤s.to∧s.to<Y.tracks.length
  ne:s.frm≠s.to
  many:1≤s.many∧s.many≤(Y.tracks.getD s.frm.toNat []).length
  free:MS Y.cars (trk Y s.frm) (cutAt Y s)=false
  fits:lenOf Y.cars ((trk Y s.frm).drop (cutAt Y s).toNat)+lenOf Y.cars (trk Y s.to)≤Y.room.getD s.to.toNat 0
theorem mayOk {Y:Yard} {s:Shift} (h:mayErr Y s=0):MayOk Y s:=by
  unfold mayErr at h
  split at h
  · rename_i h1
    split at h
    · rename_i h2
      split at h
      · cases h
      rename_i h3
      split at h
      · cases h
      rename_i h4
      split at h
      · cases h
      rename_i h5
      split at h
      · cases h
      rename_i h6
      have:=EW h1;have:=EW h2;simp only [Bool.or_eq_true,not_or,Bool.not_eq_true,decide_eq_true_eq,Int.not_lt] at h6;exact ⟨by omega,by omega,h3,⟨by omega,by have:=h5;unfold trk at this;omega⟩,h6.1,h6.2⟩
    · cases h
  · cases h
theorem okAll_set {cs:List Car} {ts:List (List Int)} (h:OkAll cs ts) (i:Nat) {x:List Int} (hx:Ok cs x):OkAll cs (ts.set i x):=fun t ht=>by
  rcases List.mem_or_eq_of_mem_set ht with ht | e
  · exact h t ht
  · subst e;exact hx
theorem OkAll.trk {Y:Yard} (h:OkAll Y.cars Y.tracks) {i:Int} (hi:0≤i∧i<Y.tracks.length):Ok Y.cars (trk Y i):=h.at i.toNat (by omega)
theorem GoodY.moved {Y:Yard} {s:Shift} (h:GoodY Y) (hm:mayErr Y s=0):GoodY (moved Y s):=by
  have m:=mayOk hm;refine ⟨?_,h.small,by simp only [Go.Sh.moved,List.length_set];exact h.len,?_⟩
  · exact okAll_set (okAll_set h.ok _ ((h.ok.trk m.to).append ((h.ok.trk m.frm).drop _))) _ ((h.ok.trk m.frm).take _)
  · rw [(MH m.frm m.to m.ne).length_eq];exact h.sum
end Go.Sh
namespace Go.Sl
open Go
inductive SK where
  | i (k:IntKind)
  | b
  | s
  deriving DecidableEq
def skV:Value→Option SK
  | .int k _=>some (.i k)
  | .bool _=>some .b
  | .string _=>some .s
  | _=>none
def scE:Value→Value→Bool
  | .int _ a,.int _ b=>a == b
  | .bool a,.bool b=>a == b
  | .string a,.string b=>a == b
  | _,_=>false
def EO (rec:TypeId→Option (Nat × List (Nat × SK))) (sz:Nat):List Field→Option (List (Nat × SK))
  | []=>some []
  | f::r=>if f.name="_" then none else match rec f.type,EO rec sz r with
    | some (sf,L),some M=>if f.offset+sf≤sz then some (L.map (fun x=>(f.offset+x.1,x.2))++M) else none
    | _,_=>none
def IX (P:Program):Nat→TypeId→Option (Nat × List (Nat × SK))
  | 0,_=>none
  | n+1,t=>
    match P.underlying t,DJ P t with
    | some (.int k),some 1=>some (1,[(0,.i k)])
    | some .bool,some 1=>some (1,[(0,.b)])
    | some .string,some 1=>some (1,[(0,.s)])
    | some (.array len e),some sz=>match IX P n e with
      | some (se,L)=>if len*se=sz then some (sz,(List.range len).flatMap fun i=>L.map fun x=>(i*se+x.1,x.2)) else none
      | none=>none
    | some (.struct fs),some sz=>if P.stoodInHeld t then none else match EO (IX P n) sz fs.toList with
      | some L=>some (sz,L)
      | none=>none
    | _,_=>none
def okC (xs:Array Value) (L:List (Nat × SK)):Bool:=L.all fun x=>match xs[x.1]? with
  | some v=>decide (skV v=some x.2)
  | none=>false
def eqC (xs ys:Array Value) (L:List (Nat × SK)):Bool:=L.all fun x=>match xs[x.1]?,ys[x.1]? with
  | some a,some b=>scE a b
  | _,_=>false
def CellsOf (P:Program) (t:TypeId) (v:Value) (xs:Array Value):Prop:=(DP P t=some true∧v=.agg xs)∨(DP P t=some false∧xs=#[v])
section
variable {P:Program} {I:Imm} {M:Seg}
theorem flat_size {n:Nat} {t:TypeId} {sz:Nat} {L:List (Nat × SK)} (h:IX P n t=some (sz,L)):DJ P t=some sz:=by
  cases n with
  | zero=>cases h
  | succ n=>
    unfold IX at h
    split at h
    · cases h;assumption
    · cases h;assumption
    · cases h;assumption
    · split at h
      · split at h
        · cases h;assumption
        · cases h
      · cases h
    · split at h
      · cases h
      · split at h
        · cases h;assumption
        · cases h
    · cases h
theorem flat_agg {n:Nat} {t:TypeId} {sz:Nat} {L:List (Nat × SK)} (h:IX P n t=some (sz,L)):DP P t=some true∨(DP P t=some false∧sz=1):=by
  cases n with
  | zero=>cases h
  | succ n=>
    unfold IX at h;unfold DP
    split at h <;> rename_i hu hs <;> first | (cases h;done) | (rw [hu];first | exact .inl rfl | (cases h;exact .inr ⟨rfl,rfl⟩))
theorem IU {n : Nat} {t : TypeId} {sz off : Nat} {L : List (Nat × SK)} {cs : Array Value} {Q : Value → Seg → Prop} (h : IX P n t = some (sz, L)) (hle : off + sz ≤ cs.size)
    (hq:∀ v,CellsOf P t v (cs.extract off (off+sz))→Q v M):wpL P (part t cs off) Q I M:=by
  unfold part;rcases flat_agg h with ha | ⟨ha,rfl⟩
  · rw [AE,KG ha]
    simp only [if_true];rw [AE,BO (flat_size h)];exact hq _ (.inl ⟨ha,rfl⟩)
  · rw [AE,KG ha]
    have hlt:off<cs.size:=by omega
    simp only [Bool.false_eq_true,if_false,Array.getElem?_eq_getElem hlt];refine hq _ (.inr ⟨ha,?_⟩)
    apply Array.ext
    · simp;omega
    · intro i h1 h2
      have:i=0:=by simp at h2;omega
      subst this;simp
theorem okC_map {xs : Array Value} {L : List (Nat × SK)} {off sz : Nat} (hle : off + sz ≤ xs.size) (hL : ∀ x ∈ L, x.1 < sz) :
    okC xs (L.map fun x=>(off+x.1,x.2))=okC (xs.extract off (off+sz)) L:=by
  induction L with
  | nil=>rfl
  | cons x L ih=>
    have hx:=hL x List.mem_cons_self;have ih':=ih (fun y hy=>hL y (List.mem_cons_of_mem _ hy));have e:(xs.extract off (off+sz))[x.1]?=xs[off+x.1]?:=by
      rw [Array.getElem?_extract];rw [if_pos (by omega)]
    simp only [okC,List.map_cons,List.all_cons,e] at ih' ⊢;rw [ih']
theorem eqC_map {xs ys : Array Value} {L : List (Nat × SK)} {off sz : Nat} (hx : off + sz ≤ xs.size) (hy : off + sz ≤ ys.size) (hL : ∀ x ∈ L, x.1 < sz) :
    eqC xs ys (L.map fun x=>(off+x.1,x.2))=eqC (xs.extract off (off+sz)) (ys.extract off (off+sz)) L:=by
  induction L with
  | nil=>rfl
  | cons x L ih=>
    have hx':=hL x List.mem_cons_self;have ih':=ih (fun y hy=>hL y (List.mem_cons_of_mem _ hy));have e:(xs.extract off (off+sz))[x.1]?=xs[off+x.1]?:=by
      rw [Array.getElem?_extract,if_pos (by omega)]
    have e':(ys.extract off (off+sz))[x.1]?=ys[off+x.1]?:=by
      rw [Array.getElem?_extract,if_pos (by omega)]
    simp only [eqC,List.map_cons,List.all_cons,e,e'] at ih' ⊢;rw [ih']
theorem okC_append {xs:Array Value} {A B:List (Nat × SK)}:okC xs (A++B)=(okC xs A&&okC xs B):=by simp [okC]
theorem eqC_append {xs ys:Array Value} {A B:List (Nat × SK)}:eqC xs ys (A++B)=(eqC xs ys A&&eqC xs ys B):=by simp [eqC]
theorem flat_lt:∀ (n:Nat) (t:TypeId) (sz:Nat) (L:List (Nat × SK)),IX P n t=some (sz,L)→∀ x∈L,x.1<sz:=by
  intro n
  induction n with
  | zero=>intro t sz L h;cases h
  | succ n ih=>
    intro t sz L h x hx;unfold IX at h
    split at h
    · cases h;simp at hx;subst hx;simp
    · cases h;simp at hx;subst hx;simp
    · cases h;simp at hx;subst hx;simp
    · rename_i len e sz' hu hs
      split at h
      · rename_i se Le he
        split at h
        · cases h
          obtain ⟨i,hi,hx⟩:=List.mem_flatMap.1 hx;obtain ⟨y,hy,rfl⟩:=List.mem_map.1 hx;have h1:=ih _ _ _ he y hy;have h2:=List.mem_range.1 hi;have:i*se+se≤len*se:=by rw [← Nat.succ_mul];exact Nat.mul_le_mul_right _ h2
          simp only;omega
        · cases h
      · cases h
    · split at h
      · cases h
      · split at h
        · rename_i fs sz' hu hs _ L' hf
          cases h;have key:∀ (fs:List Field) (L:List (Nat × SK)),EO (IX P n) sz fs=some L→∀ x∈L,x.1<sz:=by
            intro fs
            induction fs with
            | nil=>intro L hL x hx;simp only [EO,Option.some.injEq] at hL;subst hL;simp at hx
            | cons f fs ihf=>
              intro L hL x hx;simp only [EO] at hL
              split at hL
              · cases hL
              · split at hL
                · rename_i sf Lf Mf h1 h2
                  split at hL
                  · rename_i hle
                    cases hL;rcases List.mem_append.1 hx with hx | hx
                    · obtain ⟨y,hy,rfl⟩:=List.mem_map.1 hx
                      have:=ih _ _ _ h1 y hy;simp only;omega
                    · exact ihf _ h2 x hx
                  · cases hL
                · cases hL
          exact key _ _ hf x hx
        · cases h
    · cases h
theorem wpL_equalF : ∀ (n : Nat) (t : TypeId) (sz : Nat) (L : List (Nat × SK)), IX P n t = some (sz, L) → ∀ (d : Nat), n ≤ d → ∀ (v u : Value) (xs ys : Array Value), CellsOf P t v xs → CellsOf P t u ys → xs.size = sz → ys.size = sz →
    okC xs L=true→okC ys L=true→∀ (Q:Bool→Seg→Prop),Q (eqC xs ys L) M→wpL P (Op.equalIn d t v u) Q I M:=by
  intro n
  induction n with
  | zero=>intro t sz L h;cases h
  | succ n ih=>
    intro t sz L h d hd v u xs ys hv hu hxs hys okx oky Q hq;obtain ⟨d,rfl⟩:∃ d',d=d'+1:=⟨d-1,by omega⟩;have hfl:=h;unfold IX at h
    split at h
    · rename_i k hun hs
      cases h;have ha:DP P t=some false:=by unfold DP;rw [hun]
      rcases hv with ⟨hv,_⟩ | ⟨_,rfl⟩
      · rw [ha] at hv;cases hv
      rcases hu with ⟨hu,_⟩ | ⟨_,rfl⟩
      · rw [ha] at hu;cases hu
      have h1:skV v=some (.i k):=by simpa [okC] using okx
      have h2:skV u=some (.i k):=by simpa [okC] using oky
      cases v <;> simp [skV] at h1
      cases u <;> simp [skV] at h2
      subst h1;subst h2;unfold Op.equalIn;rw [AE,AK hun];simp only [if_true];simp [eqC,scE] at hq;exact hq
    · rename_i hun hs
      cases h;have ha:DP P t=some false:=by unfold DP;rw [hun]
      rcases hv with ⟨hv,_⟩ | ⟨_,rfl⟩
      · rw [ha] at hv;cases hv
      rcases hu with ⟨hu,_⟩ | ⟨_,rfl⟩
      · rw [ha] at hu;cases hu
      have h1:skV v=some .b:=by simpa [okC] using okx
      have h2:skV u=some .b:=by simpa [okC] using oky
      cases v <;> simp [skV] at h1
      cases u <;> simp [skV] at h2
      unfold Op.equalIn;rw [AE,AK hun];simp [eqC,scE] at hq;exact hq
    · rename_i hun hs
      cases h;have ha:DP P t=some false:=by unfold DP;rw [hun]
      rcases hv with ⟨hv,_⟩ | ⟨_,rfl⟩
      · rw [ha] at hv;cases hv
      rcases hu with ⟨hu,_⟩ | ⟨_,rfl⟩
      · rw [ha] at hu;cases hu
      have h1:skV v=some .s:=by simpa [okC] using okx
      have h2:skV u=some .s:=by simpa [okC] using oky
      cases v <;> simp [skV] at h1
      cases u <;> simp [skV] at h2
      unfold Op.equalIn;rw [AE,AK hun];simp [eqC,scE] at hq;exact hq
    · rename_i len e sz' hun hs
      split at h
      · rename_i se Le he
        split at h
        · rename_i hsz
          cases h;have ha:DP P t=some true:=by unfold DP;rw [hun]
          rcases hv with ⟨_,rfl⟩ | ⟨hv,_⟩
          case inr=>rw [ha] at hv;cases hv
          rcases hu with ⟨_,rfl⟩ | ⟨hu,_⟩
          case inr=>rw [ha] at hu;cases hu
          unfold Op.equalIn;rw [AE,AK hun];simp only;rw [AE,BO (flat_size he)]
          have key : ∀ (m j : Nat) (Q : Bool → Seg → Prop), j + m = len → okC xs ((List.range' j m).flatMap fun i => Le.map fun x => (i * se + x.1, x.2)) = true → okC ys ((List.range' j m).flatMap fun i => Le.map fun x => (i * se + x.1, x.2)) = true →
              Q (eqC xs ys ((List.range' j m).flatMap fun i=>Le.map fun x=>(i*se+x.1,x.2))) M→wpL P (do
                for i in List.range' j m do
                  if !(← Op.equalIn d e (← part e xs (i*se)) (← part e ys (i*se))) then return false
                pure true:Sem Bool) Q I M:=by
            intro m
            induction m with
            | zero=>intro j Q _ _ _ hq;simpa [eqC,CK] using hq
            | succ m ihm=>
              intro j Q hj ok1 ok2 hq;rw [List.range'_succ,List.flatMap_cons] at ok1 ok2 hq;rw [okC_append,Bool.and_eq_true] at ok1 ok2;rw [eqC_append] at hq;have hle:j*se+se≤len*se:=by rw [← Nat.succ_mul];exact Nat.mul_le_mul_right _ (by omega)
              have hlt:=flat_lt n e se Le he;rw [okC_map (sz:=se) (by omega) hlt] at ok1 ok2;rw [eqC_map (sz:=se) (by omega) (by omega) hlt] at hq;rw [List.range'_succ];have next:=fun hq=>ihm (j+1) Q (by omega) ok1.2 ok2.2 hq
              simp only [List.forIn_cons] at next ⊢;rw [AE,AE,AE];refine IU he (by omega) fun a ca=>?_
              rw [AE];refine IU he (by omega) fun b cb=>?_
              rw [AE];refine ih e se Le he d (by omega) a b _ _ ca cb (by simp;omega) (by simp;omega) ok1.1 ok2.1 _ ?_;cases hb:eqC (xs.extract (j*se) (j*se+se)) (ys.extract (j*se) (j*se+se)) Le with
              | false=>rw [hb] at hq;exact hq
              | true=>
                rw [hb,Bool.true_and] at hq;have:=next hq;rw [AE] at this;exact this
          rw [Std.Legacy.Range.forIn_eq_forIn_range'];have:=key len 0 Q (by omega) (by rwa [← List.range_eq_range']) (by rwa [← List.range_eq_range']) (by rwa [← List.range_eq_range'])
          simpa using this
        · cases h
      · cases h
    · rename_i fs sz' hun hs
      split at h
      · cases h
      · rename_i hst
        split at h
        · rename_i L' hf
          cases h;have ha:DP P t=some true:=by unfold DP;rw [hun]
          rcases hv with ⟨_,rfl⟩ | ⟨hv,_⟩
          case inr=>rw [ha] at hv;cases hv
          rcases hu with ⟨_,rfl⟩ | ⟨hu,_⟩
          case inr=>rw [ha] at hu;cases hu
          unfold Op.equalIn;rw [AE,AK hun];show wpL P (program >>= _) Q I M;rw [AE];show wpL P _ Q I M;simp only [hst,Bool.false_eq_true,if_false]
          have key : ∀ (fs : List Field) (L : List (Nat × SK)), EO (IX P n) sz fs = some L → okC xs L = true → okC ys L = true → Q (eqC xs ys L) M → wpL P (do
              for f in fs do
                if f.name≠"_" then
                  if !(← Op.equalIn d f.type (← part f.type xs f.offset) (← part f.type ys f.offset)) then return false
              pure true:Sem Bool) Q I M:=by
            intro fs
            induction fs with
            | nil=>intro L hL _ _ hq;simp only [EO,Option.some.injEq] at hL;subst hL;exact hq
            | cons f fs ihf=>
              intro L hL ok1 ok2 hq;simp only [EO] at hL
              split at hL
              · cases hL
              · rename_i hne
                split at hL
                · rename_i sf Lf Mf h1 h2
                  split at hL
                  · rename_i hle
                    cases hL;have hlt:=flat_lt n f.type sf Lf h1;rw [okC_append,okC_map (sz:=sf) (by omega) hlt,Bool.and_eq_true] at ok1 ok2;rw [eqC_append,eqC_map (sz:=sf) (by omega) (by omega) hlt] at hq;have next:=fun hq=>ihf Mf h2 ok1.2 ok2.2 hq
                    simp only [List.forIn_cons] at next ⊢;rw [AE,AE];simp only [ne_eq,hne,not_false_eq_true,if_true];rw [AE];refine IU h1 (by omega) fun a ca=>?_
                    rw [AE];refine IU h1 (by omega) fun b cb=>?_
                    rw [AE];refine ih f.type sf Lf h1 d (by omega) a b _ _ ca cb (by simp;omega) (by simp;omega) ok1.1 ok2.1 _ ?_;cases hb:eqC (xs.extract f.offset (f.offset+sf)) (ys.extract f.offset (f.offset+sf)) Lf with
                    | false=>rw [hb] at hq;exact hq
                    | true=>
                      rw [hb,Bool.true_and] at hq;have:=next hq;rw [AE] at this;exact this
                  · cases hL
                · cases hL
          have:=key fs.toList _ hf okx oky hq;simp only [Array.forIn_toList] at this;exact this
        · cases h
    · cases h
theorem wpL_checkF : ∀ (n : Nat) (t : TypeId) (sz : Nat) (L : List (Nat × SK)), IX P n t = some (sz, L) → ∀ (d : Nat), n ≤ d → ∀ (em : Bool) (v : Value) (xs : Array Value), CellsOf P t v xs → xs.size = sz →
    ∀ (Q:Unit→Seg→Prop),Q () M→wpL P (Instr.checkKey em d t v) Q I M:=by
  intro n
  induction n with
  | zero=>intro t sz L h;cases h
  | succ n ih=>
    intro t sz L h d hd em v xs hv hxs Q hq;obtain ⟨d,rfl⟩:∃ d',d=d'+1:=⟨d-1,by omega⟩;unfold IX at h
    split at h
    · rename_i k hun hs
      unfold Instr.checkKey;rw [AE,AK hun];exact hq
    · rename_i hun hs
      unfold Instr.checkKey;rw [AE,AK hun];exact hq
    · rename_i hun hs
      unfold Instr.checkKey;rw [AE,AK hun];exact hq
    · rename_i len e sz' hun hs
      split at h
      · rename_i se Le he
        split at h
        · rename_i hsz
          cases h;have ha:DP P t=some true:=by unfold DP;rw [hun]
          rcases hv with ⟨_,rfl⟩ | ⟨hv,_⟩
          case inr=>rw [ha] at hv;cases hv
          unfold Instr.checkKey;rw [AE,AK hun];simp only
          have key : ∀ (m j : Nat) (Q : Unit → Seg → Prop), j + m = len → Q () M → wpL P (do
                for i in List.range' j m do Instr.checkKey em d e (← part e xs (i*(← sizeOf e))):Sem Unit) Q I M:=by
            intro m
            induction m with
            | zero=>intro j Q _ hq;simpa [CK] using hq
            | succ m ihm=>
              intro j Q hj hq;have hle:j*se+se≤len*se:=by rw [← Nat.succ_mul];exact Nat.mul_le_mul_right _ (by omega)
              rw [List.range'_succ];have next:=ihm (j+1) Q (by omega) hq;simp only [List.forIn_cons] at next ⊢;rw [AE,AE,AE,BO (flat_size he),AE];refine IU he (by omega) fun a ca=>?_
              rw [AE];refine ih e se Le he d (by omega) em a _ ca (by simp;omega) _ ?_;rw [AE] at next;exact next
          rw [Std.Legacy.Range.forIn_eq_forIn_range'];have:=key len 0 Q (by omega) hq
          simpa using this
        · cases h
      · cases h
    · rename_i fs sz' hun hs
      split at h
      · cases h
      · split at h
        · rename_i L' hf
          cases h;have ha:DP P t=some true:=by unfold DP;rw [hun]
          rcases hv with ⟨_,rfl⟩ | ⟨hv,_⟩
          case inr=>rw [ha] at hv;cases hv
          unfold Instr.checkKey;rw [AE,AK hun];simp only
          have key : ∀ (fs : List Field) (L : List (Nat × SK)), EO (IX P n) sz fs = some L → Q () M → wpL P (do
              for f in fs do
                if f.name≠"_" then Instr.checkKey em d f.type (← part f.type xs f.offset):Sem Unit) Q I M:=by
            intro fs
            induction fs with
            | nil=>intro L hL hq;exact hq
            | cons f fs ihf=>
              intro L hL hq;simp only [EO] at hL
              split at hL
              · cases hL
              · rename_i hne
                split at hL
                · rename_i sf Lf Mf h1 h2
                  split at hL
                  · rename_i hle
                    have next:=ihf Mf h2 hq;simp only [List.forIn_cons] at next ⊢;simp only [ne_eq,hne,not_false_eq_true,if_true];rw [AE,AE,AE];refine IU h1 (by omega) fun a ca=>?_
                    rw [AE];refine ih f.type sf Lf h1 d (by omega) em a _ ca (by simp;omega) _ ?_;rw [AE] at next;exact next
                  · cases hL
                · cases hL
          have:=key fs.toList _ hf hq;simp only [Array.forIn_toList] at this;exact this
        · cases h
    · cases h
theorem keyOk_flat {κ : Type} [DecidableEq κ] {kt : TypeId} {n sz : Nat} {L : List (Nat × SK)} (hflat : IX P n kt = some (sz, L)) (hn : n ≤ 10000) (hagg : DP P kt = some true) (cells : κ → Array Value) (hsz : ∀ k, (cells k).size = sz)
    (hok:∀ k,okC (cells k) L=true) (heq:∀ a b,eqC (cells a) (cells b) L=decide (a=b)):KeyOk P kt (fun k=>.agg (cells k)) where
  inj:=fun a b e=>by
    simp only [Value.agg.injEq] at e;have h1:=heq a a;have h2:=heq a b;rw [← e,h1] at h2
    simpa using h2
  check:=fun em k Q I M hq=>wpL_checkF n kt sz L hflat 10000 hn em _ _ (.inl ⟨hagg,rfl⟩) (hsz k) Q hq
  find:=fun k es kvs Q I M hes hq=>by
    unfold Instr.findKey;obtain ⟨td,htd,hfn⟩:∃ td,P.underlying kt=some td∧∀ (x y:Value),Instr.sameNow td (.agg x.cells) y=none:=by
      unfold DP at hagg
      split at hagg
      · rename_i h;exact ⟨_,h,fun _ _=>rfl⟩
      · rename_i h;exact ⟨_,h,fun _ _=>rfl⟩
      · cases hagg
      · cases hagg
    rw [AE,AK htd]
    have ask : ∀ (es : List MapEntry) (kvs : List (κ × Value)) (i : Nat) (Q : Option (Nat × Value) → Seg → Prop), es.map (fun e => (e.key, e.val)) = kvs.map (KR fun k => .agg (cells k)) → Q (ED k kvs i) M →
        wpL P (Instr.findAsking kt (.agg (cells k)) es i) Q I M:=by
      intro es
      induction es with
      | nil=>
        intro kvs i Q h hq;cases kvs with
        | nil=>exact hq
        | cons x r=>simp at h
      | cons e es ih=>
        intro kvs i Q h hq;cases kvs with
        | nil=>simp at h
        | cons x r=>
          simp only [List.map_cons,List.cons.injEq,KR,Prod.mk.injEq] at h;obtain ⟨⟨h1,h2⟩,h3⟩:=h;unfold Instr.findAsking;rw [AE];unfold Op.equal;rw [h1];refine wpL_equalF n kt sz L hflat _ (by show n≤10000;exact hn) _ _ _ _ (.inl ⟨hagg,rfl⟩) (.inl ⟨hagg,rfl⟩) (hsz _) (hsz _) (hok _) (hok _) _ ?_;rw [heq];simp only [ED] at hq
          by_cases hx:x.1=k
          · rw [if_pos hx] at hq
            rw [if_pos (by simp [hx]),h2];exact hq
          · rw [if_neg hx] at hq
            rw [if_neg (by simpa using Ne.symm hx)];exact ih r (i+1) Q h3 hq
    cases es with
    | nil=>
      cases kvs with
      | nil=>exact hq
      | cons x r=>simp at hes
    | cons e es=>
      have h1:Instr.findNow td (.agg (cells k)) (e::es) 0=none:=by
        have:=hfn (.agg (cells k)) e.key;have h2:(Value.agg (cells k)).cells=cells k:=rfl;rw [h2] at this;simp only [Instr.findNow,this]
      simp only [h1];exact ask (e::es) kvs 0 Q hes hq
end
end Go.Sl
namespace Go.Sh
open Go Go.Sl
def mk3 (f t j:Nat):Shift:=⟨f,t,j⟩
def drawsFT (Y:Yard) (f t k:Nat):List Shift:=((List.range' k ((Y.tracks.getD f []).length-k)).map fun j=>mk3 f t (j+1)).filter fun s=>decide (mayErr Y s=0)
def drawsF (Y:Yard) (f t:Nat):List Shift:=(List.range' t (Y.tracks.length-t)).flatMap fun t=>drawsFT Y f t 0
def drawsY (Y:Yard) (f:Nat):List Shift:=(List.range' f (Y.tracks.length-f)).flatMap fun f=>drawsF Y f 0
def draws (Y:Yard):List Shift:=drawsY Y 0
theorem MG {Y:Yard} {s:Shift} (h:s∈draws Y):mayErr Y s=0:=by
  simp only [draws,drawsY,drawsF,drawsFT,List.mem_flatMap,List.mem_filter,decide_eq_true_eq] at h;obtain ⟨_,_,_,_,_,h⟩:=h;exact h
theorem flatMap_le {α β:Type} {f:α→List β} {c:Nat}:∀ (l:List α),(∀ x∈l,(f x).length≤c)→(l.flatMap f).length≤l.length*c:=by
  intro l
  induction l with
  | nil=>intro _;simp
  | cons x l ih=>
    intro h;rw [List.flatMap_cons,List.length_append,List.length_cons,Nat.succ_mul];have:=h x List.mem_cons_self;have:=ih fun y hy=>h y (List.mem_cons_of_mem _ hy)
    omega
theorem drawsFT_le {Y:Yard} (h:GoodY Y) (f t:Nat):(drawsFT Y f t 0).length≤5:=by
  unfold drawsFT;refine Nat.le_trans (List.length_filter_le _ _) ?_;rw [List.length_map,List.length_range',Nat.sub_zero]
  by_cases hf:f<Y.tracks.length
  · have:=KW (BC (d:=[]) hf);have:=h.sum;omega
  · simp [List.getD,List.getElem?_eq_none (Nat.le_of_not_lt hf)]
theorem draws_le {Y:Yard} (h:GoodY Y) (h3:Y.tracks.length≤3):(draws Y).length≤45:=by
  have h1:∀ f,(drawsF Y f 0).length≤15:=fun f=>by
    have:=flatMap_le (f:=fun t=>drawsFT Y f t 0) (c:=5) (List.range' 0 (Y.tracks.length-0)) fun t _=>drawsFT_le h f t
    rw [List.length_range'] at this;unfold drawsF;omega
  have:=flatMap_le (f:=fun f=>drawsF Y f 0) (c:=15) (List.range' 0 (Y.tracks.length-0)) fun f _=>h1 f
  rw [List.length_range'] at this;unfold draws drawsY;omega
theorem GoodY.draws {Y:Yard} (h:GoodY Y) (hv:Valid Y):(draws Y).length≤1000000:=by
  have:=draws_le h (by have:=hv.fine.room3;have:=hv.fine.len;omega);omega
def putP (p:List Int) (c i k:Nat):List Int:=(p.set (2*c) i).set (2*c+1) k
def goPT (i:Nat):Nat→List Int→List Int→List Int
  | _,[],p=>p
  | k,c::r,p=>goPT i (k+1) r (putP p c.toNat i k)
def goP:Nat→List (List Int)→List Int→List Int
  | _,[],p=>p
  | i,t::ts,p=>goP (i+1) ts (goPT i 0 t p)
def zero10:List Int:=[0,0,0,0,0,0,0,0,0,0]
abbrev IV:={ l:List Int // l.length=10 }
theorem putP_length (p:List Int) (c i k:Nat):(putP p c i k).length=p.length:=by simp [putP]
theorem goPT_length (i:Nat):∀ (t:List Int) (k:Nat) (p:List Int),(goPT i k t p).length=p.length:=by
  intro t
  induction t with
  | nil=>intro k p;rfl
  | cons c r ih=>intro k p;rw [goPT,ih,putP_length]
theorem goP_length:∀ (ts:List (List Int)) (i:Nat) (p:List Int),(goP i ts p).length=p.length:=by
  intro ts
  induction ts with
  | nil=>intro i p;rfl
  | cons t ts ih=>intro i p;rw [goP,ih,goPT_length]
def placeOf (Y:Yard):IV:=⟨goP 0 Y.tracks zero10,by rw [goP_length];rfl⟩
structure Kin (A Y:Yard):Prop where
  cars:Y.cars=A.cars
  room:Y.room=A.room
  len:Y.tracks.length=A.tracks.length
  perm:Y.tracks.flatten.Perm A.tracks.flatten
theorem Kin.refl (A:Yard):Kin A A:=⟨rfl,rfl,rfl,List.Perm.refl _⟩
theorem Kin.trans {A B C:Yard} (h:Kin A B) (k:Kin B C):Kin A C:=⟨k.cars.trans h.cars,k.room.trans h.room,k.len.trans h.len,k.perm.trans h.perm⟩
theorem kin_moved {Y:Yard} {s:Shift} (h:mayErr Y s=0):Kin Y (moved Y s):=by
  have m:=mayOk h;exact ⟨rfl,rfl,by simp [moved],MH m.frm m.to m.ne⟩
theorem Kin.moved {A Y:Yard} {s:Shift} (k:Kin A Y) (h:mayErr Y s=0):Kin A (moved Y s):=k.trans (kin_moved h)
def plain (goal:Yard→Bool):Nat→Yard→Option (List Shift)
  | 0,Y=>if goal Y then some [] else none
  | d+1,Y=>if goal Y then some [] else (draws Y).findSome? fun s=>(plain goal d (moved Y s)).map (s::·)
def GrpFrom (cs:List Car) (ts:List (List Int)) (met:List Int):Prop:=
  ∀ i k,i<ts.length→k<(ts.getD i []).length→0<grp cs ((ts.getD i []).getD k 0) →
    (grp cs ((ts.getD i []).getD k 0)∈met∨∃ c∈(ts.take i).flatten++(ts.getD i []).take k,grp cs c=grp cs ((ts.getD i []).getD k 0))→MS cs (ts.getD i []) ↑k=true
theorem GrpFrom.cons {cs : List Car} {t : List Int} {ts : List (List Int)} {met : List Int} :
    GrpFrom cs (t::ts) met↔(∀ k,k<t.length→0<grp cs (t.getD k 0)→(grp cs (t.getD k 0)∈met∨∃ c∈t.take k,grp cs c=grp cs (t.getD k 0))→MS cs t ↑k=true)∧GrpFrom cs ts (met++t.map (grp cs)):=by
  constructor
  · intro h
    refine ⟨fun k hk h0 hm=>h 0 k (by simp) hk h0 (by simpa using hm),fun i k hi hk h0 hm=>?_⟩;refine h (i+1) k (by simpa using hi) (by simpa using hk) (by simpa using h0) ?_;simp only [List.getD_cons_succ,List.take_succ_cons,List.flatten_cons];rcases hm with hm | ⟨c,hc,e⟩
    · rcases List.mem_append.1 hm with hm | hm
      · exact .inl hm
      · obtain ⟨c,hc,e⟩:=List.mem_map.1 hm
        exact .inr ⟨c,by simp [hc],e⟩
    · refine .inr ⟨c,?_,e⟩
      rw [List.append_assoc];exact List.mem_append_right _ hc
  · rintro ⟨h1,h2⟩ i k hi hk h0 hm
    cases i with
    | zero=>exact h1 k (by simpa using hk) (by simpa using h0) (by simpa using hm)
    | succ i=>
      simp only [List.getD_cons_succ,List.take_succ_cons,List.flatten_cons] at hk h0 hm ⊢;refine h2 i k (by simpa using hi) hk h0 ?_;rcases hm with hm | ⟨c,hc,e⟩
      · exact .inl (List.mem_append_left _ hm)
      · rw [List.append_assoc] at hc
        rcases List.mem_append.1 hc with hc | hc
        · exact .inl (List.mem_append_right _ (List.mem_map.2 ⟨c,hc,e⟩))
        · exact .inr ⟨c,hc,e⟩
def visit (s:List IV × List Yard) (z:Yard):List IV × List Yard:=if placeOf z∈s.1 then s else (s.1++[placeOf z],s.2++[z])
def nexts (x:Yard):List Yard:=(draws x).map (moved x)
def visitAll:List Yard→List IV × List Yard→List IV × List Yard
  | [],s=>s
  | z::r,s=>visitAll r (visit s z)
def roundM (now:List Yard) (met:List IV):List IV × List Yard:=visitAll (now.flatMap nexts) (met,[])
def reachM:Nat→List IV→List Yard→List IV
  | 0,met,_=>met
  | d+1,met,now=>reachM d (roundM now met).1 (roundM now met).2
def reach (Y:Yard) (d:Nat):Int:=((reachM d [placeOf Y] [Y]).length:Int)
theorem kin_tracks {A Y Z:Yard} (ky:Kin A Y) (kz:Kin A Z) (h:Y.tracks=Z.tracks):Y=Z:=by
  rcases Y with ⟨a,b,c⟩;rcases Z with ⟨a',b',c'⟩
  have h1:=ky.cars;have h2:=kz.cars;have h3:=ky.room;have h4:=kz.room;simp only at h1 h2 h3 h4 h;rw [h1,h2,h3,h4,h]
theorem nexts_kin {A x:Yard} (k:Kin A x):∀ y∈nexts x,Kin A y:=fun y hy=>by
  obtain ⟨s,hs,rfl⟩:=List.mem_map.1 hy;exact k.moved (MG hs)
theorem flat_kin {A:Yard} {now:List Yard} (h:∀ y∈now,Kin A y):∀ y∈now.flatMap nexts,Kin A y:=fun y hy=>by
  obtain ⟨x,hx,hy⟩:=List.mem_flatMap.1 hy;exact nexts_kin (h x hx) y hy
end Go.Sh
namespace Go
variable {P:Program} {F:Fence} {n:Nat} {Q:Exit→Act→World→Prop} {a:Act} {w:World}
theorem GG {b:Frame} {k:List Item} {cs:List Frame} {c:Code}:step P (lone (b.atR a (.code (.scope c)::k)) cs w)=.next (lone (b.atR a (.code c::.inScope c::k)) cs w):=
  step_lone_go (by simp [stepG,stepG.exec,Frame.atR])
theorem stepR_inScope {b:Frame} {k:List Item} {cs:List Frame} {c:Code}:step P (lone (b.atR a (.inScope c::k)) cs w)=.next (lone (b.atR a k) cs w):=
  step_lone_go (by simp [stepG,stepG.exec,Frame.atR])
theorem wpIn_scope {c:Code} (h:c.wpIn F n P (Exit.noGoto Q) a w):(Code.scope c).wpIn F n P Q a w:=by
  intro b k cs hro hb hr;have h0:(lone (b.atR a (.code (.scope c)::k)) cs w).fenced P F:=fenced_calm hb hr rfl;obtain ⟨e,a₁,w₁,hq,harr⟩:=h b (.inScope c::k) cs hro hb hr;cases e with
  | normal=>exact ⟨.normal,a₁,w₁,hq,.head h0 GG (StepsIn.trans harr (.one (fenced_calm hb hr rfl) stepR_inScope))⟩
  | exit id=>
    have hx:exitTo id (.inScope c::k)=exitTo id k:=by simp [exitTo]
    exact ⟨.exit id,a₁,w₁,hq,fun k' hk=>.head h0 GG (harr.1 k' (by rw [hx];exact hk)),fun hr' hk=>let ⟨k₁,h1,h2⟩:=harr.2 hr' (by rw [hx];exact hk);⟨k₁,h1,.head h0 GG h2⟩⟩
  | goto l=>exact hq.elim
  | ret=>exact ⟨_,a₁,w₁,hq,.of_steps (.one h0 GG) harr⟩
  | panic ch=>exact ⟨_,a₁,w₁,hq,.of_steps (.one h0 GG) harr⟩
  | outgrown=>exact ⟨_,a₁,w₁,hq,.of_steps (.one h0 GG) harr⟩
end Go
namespace Go.Sl
open Go
theorem run_scope {ρ:Option Nat} {P:Program} {N:Nat} {Q:Exit→Act→World→Prop} {ds:List Deferred} {l:Sl} {I:Imm} {M:Seg} {c x:Code} (hc:c=.scope x) (h:Run (ρ:=ρ) P N x (Exit.noGoto Q) ds l I M):Run (ρ:=ρ) P N c Q ds l I M:=by
  subst hc;exact fun a w hS hD hW=>wpIn_scope (h a w hS hD hW)
theorem pst_ret_scope {N:Nat} {Q:Exit→Act→World→Prop} {ds:List Deferred} {l:Sl} {I:Imm} {M:Seg} (h:Pst N Q .ret ds l I M):Pst N (Exit.noGoto Q) .ret ds l I M:=h
theorem DH {α : Type} {E : TypeId} {sz : Nat} {cell : α → Nat → Value} {ρ : Option Nat} {P : Program} {N : Nat} {c : Code} {Q : Exit → Act → World → Prop} {ds : List Deferred} {l : Sl} {I : Imm} {M A B Ms : Seg} {v : Value} {xs : List α} (dflt : α)
    (h:Own E sz cell v xs Ms) (hl:xs.length≤140737488355328) (hM:M.Perm (Ms++A)) (hA:A.Perm B)
    (next:∀ J,I.le J→IsSl sz cell dflt J v xs→Run (ρ:=ρ) P N c Q ds l J B):Run (ρ:=ρ) P N c Q ds l I M:=St.own_freeze dflt h hl hM hA next
theorem CW {ρ : Option Nat} {P : Program} {N : Nat} {Q : Exit → Act → World → Prop} {ds : List Deferred} {l : Sl} {I : Imm} {M M0 : Seg} {c : Code} {b : Nat} {o : Obj} (hM : M.Perm ((b, o) :: M0))
    (next:∀ J,I.le J→J.blk b=some o→Run (ρ:=ρ) P N c Q ds l J M0):Run (ρ:=ρ) P N c Q ds l I M:=fun a w hS hD hW=>
  have st:=hW.perm hM
  next (I.add b o) (Imm.le_add (st.disj b o List.mem_cons_self)) (Imm.add_same I b o) a w hS hD st.freeze
theorem OZ {ρ : Option Nat} {P : Program} {N : Nat} {ops : Array Oper} {i : Nat} {Q : Exit → Act → World → Prop} {ds : List Deferred} {l : Sl} {I : Imm} {M M0 : Seg} {b : Nat} {o : Obj} (hM : M.Perm ((b, o) :: M0))
    (next:∀ J,I.le J→J.blk b=some o→Seq (ρ:=ρ) P N ops Q ds i l J M0):Seq (ρ:=ρ) P N ops Q ds i l I M:=fun a w hS hD hW=>
  have st:=hW.perm hM
  next (I.add b o) (Imm.le_add (st.disj b o List.mem_cons_self)) (Imm.add_same I b o) a w hS hD st.freeze
theorem HG {I:Imm} {M:Seg} {b off n:Nat} {cs:Array Value} {T:TypeId} {fz:Nat × Nat} {vs:List Value} (h:I.blk b=some (Obj.cells cs T fz)) (hv:(cs.toList.drop off).take n=vs):SeesN I M b off vs:=fun k v hk=>by
  refine ⟨rfl,cs,T,fz,.inr h,?_⟩;rw [← hv,List.getElem?_take] at hk
  split at hk
  · rw [List.getElem?_drop] at hk;simpa using hk
  · cases hk
theorem AO {I:Imm} {M:Seg} {b off:Nat} {cs:Array Value} {T:TypeId} {fz:Nat × Nat} {v:Value} (h:I.blk b=some (Obj.cells cs T fz)) (hc:cs[off]?=some v):Sees I M ⟨b,off,none⟩ v:=⟨rfl,cs,T,fz,.inr h,hc⟩
section
variable {P:Program} {N:Nat} {ops:Array Oper} {i:Nat} {l:Sl} {I:Imm} {R M:Seg} {ty:TypeId} {gd:Option (Nat × Bool)} {K:Sl→Imm→Seg→Prop} {d:Nat}
end
abbrev RQ (I:Imm) (post:Value→Imm→Seg→Prop) (F:Seg):Ending→World→Prop:=fun e w'=>∃ v I' M',e=.returned v∧I.le I'∧post v I' M'∧St I' (M'++F) w'
def Yt (P:Program) (L:Nat) (args:Array Value) (I:Imm) (pre:Seg) (post:Value→Imm→Seg→Prop):Prop:=
  ∀ F w,St I (pre++F) w→∃ f tmps assign body,(Instr.yield L args).run P w=.ok (.round L f tmps assign body) w∧RoundIn (fen none) 0 P L f tmps assign body w (RQ I post F)
section
variable {ρ:Option Nat} {P:Program} {N:Nat} {ops:Array Oper} {i:Nat} {l:Sl} {I:Imm} {R M:Seg} {ty:TypeId} {gd:Option (Nat × Bool)} {K:Sl→Imm→Seg→Prop} {Q:Exit→Act→World→Prop} {ds:List Deferred}
theorem yield_run {f : Operand} {L : Nat} {args : Array Operand} {tys : Array TypeId} {vals : List Value} {ρ : Operand → Value} {w : World} (hf : ρ f = .func (.yield L) #[] #[]) (hvals : args.toList.map ρ = vals) :
    (JH ρ (.call { callee:=.value f,args,argTypes:=tys }) ty).run P w=(Instr.yield L vals.toArray).run P w:=by
  have e:args.map ρ=vals.toArray:=by apply Array.ext';simp [hvals]
  show (do let d ← resolve ρ { callee:=.value f,args,argTypes:=tys } ty;invoke d.target d.args:Sem Next).run P w=_;unfold resolve;simp only [e,hf,Deferred.ofValue];show (Instr.yield L (#[]++vals.toArray)).run P w=_;simp
theorem KD {d : Option Tmp} {f : Operand} {L : Nat} {args : Array Operand} {tys : Array TypeId} {vals : List Value} {pre F : Seg} {post : Value → Imm → Seg → Prop}
    (hop:EQ ops N i=some (d,.call { callee:=.value f,args,argTypes:=tys },ty,gd)) (hg:EJ ops l gd=some true) (hf:BM l f=some (.func (.yield L) #[] #[])) (hv:LJ l args.toList=some vals)
    (yt:Yt P L vals.toArray I pre post) (hM:M.Perm (pre++F))
    (h:∀ v I' M',I.le I'→post v I' M'→K (ups d v l) I' (M'++F)):Stp P N ops i l I M K:=by
  obtain ⟨o,ho,rfl,he,rfl,rfl,hN,hs⟩:=FU hop;obtain ⟨h1,h2⟩:=FL hv;refine ⟨o,ho,hN,hs,hg,?_,fun w st=>?_⟩
  · rw [he]
    intro x hx;simp only [Op.operands,Call.operands] at hx;rcases Array.mem_append.1 hx with hx | hx
    · simp at hx;subst hx;exact CR hf
    · exact h1 x (by simpa using hx)
  · rw [FQ,he,yield_run (AZ hf) h2]
    obtain ⟨f',tmps,assign,body,hy,hr⟩:=yt F w (st.perm hM);rw [hy];refine RoundIn.mono hr fun e w' ⟨v,I',M',hv',hle,hp,st'⟩=>?_
    exact ⟨v,hv',I',M'++F,hle,st',h v I' M' hle hp⟩
def mark (D:Nat):Deferred:={ target:=.collected D,args:=#[] }
def RoundQ (I:Imm) (post:Option Code→Imm→Seg→Prop) (F:Seg):Exit→Act→World→Prop
  | .normal,_,w=>∃ I' M',I.le I'∧post none I' M'∧St I' (M'++F) w
  | .ret,_,w=>∃ I' M',I.le I'∧post (some .ret) I' M'∧St I' (M'++F) w
  | .exit id,_,w=>∃ I' M',I.le I'∧post (some (.exit id)) I' M'∧St I' (M'++F) w
  | .goto t,_,w=>∃ I' M',I.le I'∧post (some (.goto t)) I' M'∧St I' (M'++F) w
  | _,_,_=>False
def putAll:List (Tmp × Value)→Sl→Sl
  | [],l=>l
  | (t,v)::r,l=>putAll r ((t,v)::l)
theorem NM {N : Nat} {dfs : List Deferred} : ∀ (xs : List (Tmp × Value)) (l : Sl) (tm : Array Value), Slots N l { tmps := tm, defers := dfs } → (∀ x ∈ xs, x.1 < N) →
    Slots N (putAll xs l) { tmps:=xs.foldl (fun t (x:Tmp × Value)=>t.setIfInBounds x.1 x.2) tm,defers:=dfs }:=by
  intro xs
  induction xs with
  | nil=>intro l tm h _;exact h
  | cons x xs ih=>
    intro l tm h hN;obtain ⟨t,v⟩:=x;exact ih _ _ (h.put (hN (t,v) List.mem_cons_self) v) (fun y hy=>hN y (List.mem_cons_of_mem _ hy))
theorem St.putObj {I:Imm} {M:Seg} {w:World} {r:Nat} {o o':Obj} (h:St I ((r,o)::M) w):St I ((r,o')::M) (w.putObj r o'):=by
  have hh:w.heap[r]?=some o:=h.mem r o List.mem_cons_self;have hl:r<w.heap.size:=(Array.getElem?_eq_some_iff.1 hh).1;exact h.put (i:=0) (o:=o') (o':=o) (w':=w.putObj r o') rfl rfl rfl rfl (World.putObj_heap_same hl) (fun b hb=>World.putObj_heap_other hb)
theorem perm3 {A B C:Seg} {x y:Nat × Obj}:((A++(x::y::B))++C).Perm (x::(A++(B++(y::C)))):=by
  rw [List.append_assoc];refine List.perm_middle.trans (.cons x (List.Perm.append_left A ?_));exact List.perm_middle.symm
theorem perm4 {A C:Seg} {x y:Nat × Obj}:(A++(x::y::C)).Perm (x::(A++(y::C))):=List.perm_middle
def Hk (K:Sl→Imm→Seg→Prop) (l:Sl) (I:Imm) (M:Seg):Prop:=∀ w,St I M w→∃ J M',I.le J∧St J M' w∧K l J M'
theorem JT {K:Sl→Imm→Seg→Prop} {l:Sl} {I:Imm} {M:Seg} (h:K l I M):Hk K l I M:=fun _ st=>⟨I,M,Imm.le.refl I,st,h⟩
theorem NU {K:Sl→Imm→Seg→Prop} {l:Sl} {I:Imm} {M M':Seg} (s:∀ w,St I M w→St I M' w) (next:Hk K l I M'):Hk K l I M:=fun w st=>next w (s w st)
theorem GL {α : Type} {E : TypeId} {sz : Nat} {cell : α → Nat → Value} {K : Sl → Imm → Seg → Prop} {l : Sl} {I : Imm} {M A B Ms : Seg} {v : Value} {xs : List α} (dflt : α)
    (h:Own E sz cell v xs Ms) (hl:xs.length≤140737488355328) (hM:M.Perm (Ms++A)) (hA:A.Perm B) (next:∀ J,I.le J→IsSl sz cell dflt J v xs→Hk K l J B):Hk K l I M:=fun w st=>by
  obtain ⟨J,h1,h2,h3⟩:=h.freeze dflt hl (st.perm hM);obtain ⟨J2,M',g1,g2,g3⟩:=next J h1 h2 w (h3.perm hA);exact ⟨J2,M',h1.trans g1,g2,g3⟩
theorem stp_hk {K:Sl→Imm→Seg→Prop} (h:Stp P N ops i l I M (Hk K)):Stp P N ops i l I M K:=by
  obtain ⟨o,h1,h2,h3,h4,h5,h6⟩:=h;refine ⟨o,h1,h2,h3,h4,h5,fun w st=>(h6 w st).mono fun v w' ⟨I',M',g1,g2,g3⟩=>?_⟩;obtain ⟨J,M2,k1,k2,k3⟩:=g3 w' g2;exact ⟨J,M2,g1.trans k1,k2,k3⟩
theorem JD {S : Seg} {Kfin : Sl → Imm → Seg → Prop} {rest : List (Nat × Bool)}
    (h:Stp P N ops i l I (R++S) (Hk fun l' I' M'=>∃ S',M'.Perm (R++S')∧OFP P N ops R Kfin rest l' I' S')):OFP P N ops R Kfin ((i,false)::rest) l I S:=stp_hk h
theorem EH {I₀:Imm} {post:Option Code→Imm→Seg→Prop} {F M':Seg} (hle:I₀.le I) (hp:post none I M') (hs:(M'++F).Sublist M):Pst N (RoundQ I₀ post F) .normal [] l I M:=fun _ _ _ _ hW=>⟨I,M',hle,hp,hW.sub hs⟩
theorem pst_round_ret {I₀:Imm} {post:Option Code→Imm→Seg→Prop} {F M':Seg} (hle:I₀.le I) (hp:post (some .ret) I M') (hs:(M'++F).Sublist M):Pst N (RoundQ I₀ post F) .ret [] l I M:=fun _ _ _ _ hW=>⟨I,M',hle,hp,hW.sub hs⟩
def RetQM (P:Program) (fn:Func) (I:Imm) (post:Value→Imm→Seg→Prop) (F:Seg):Exit→Act→World→Prop:=
  bodyPostM (fen none) 0 P fn (RQ I post F)
theorem HB {f : FuncId} {fn : Func} {args : List Value} {pre : Seg} {post : Value → Imm → Seg → Prop} (hf : P.funcs[f]? = some fn) (hb : fn.body.isSome = true)
    (hN:fn.ntmps=N) (hle:args.length≤N)
    (h:∀ F,Run (ρ:=none) P N (JG fn) (RetQM P fn I post F) [] (HT 0 args) I (pre++F)):Ct P f args.toArray I pre post:=by
  intro F w st;have hbody:fn.body=some (JG fn):=by
    cases hx:fn.body with
    | none=>rw [hx] at hb;cases hb
    | some c=>simp [JG,hx]
  refine callsIn_fen.1 (callsIn_of_wp_marks (F:=fen none) (n:=0) hf hbody trivial (h F _ w ⟨?_,fun t v hv=>?_⟩ rfl st))
  · simp;omega
  obtain ⟨_,h2⟩:=JC args 0 t v hv;rw [Nat.sub_zero] at h2;have hlt:t<args.length:=(List.getElem?_eq_some_iff.1 h2).1;rw [Array.getElem?_append_left (by simpa using hlt)]
  simpa using h2
def CtD (P:Program) (f:FuncId) (args:Array Value) (I:Imm) (pre:Seg) (post:Value→Imm→Seg→Prop):Prop:=
  ∀ F w u,St I (pre++F) w→CallsDIn (fen none) 0 P f args u w fun e u' w'=>u'=u∧RQ I post F e w'
theorem fnD_of_run {f : FuncId} {fn : Func} {args : List Value} {pre : Seg} {post : Value → Imm → Seg → Prop} (hf : P.funcs[f]? = some fn) (hb : fn.body.isSome = true)
    (hN:fn.ntmps=N) (hle:args.length≤N)
    (h:∀ F,Run (ρ:=none) P N (JG fn) (RetQ P fn I post F) [] (HT 0 args) I (pre++F)):CtD P f args.toArray I pre post:=by
  intro F w u st;have hbody:fn.body=some (JG fn):=by
    cases hx:fn.body with
    | none=>rw [hx] at hb;cases hb
    | some c=>simp [JG,hx]
  refine callsDIn_of_wp hf hbody trivial (h F _ w ⟨?_,fun t v hv=>?_⟩ rfl st)
  · simp;omega
  obtain ⟨_,h2⟩:=JC args 0 t v hv;rw [Nat.sub_zero] at h2;have hlt:t<args.length:=(List.getElem?_eq_some_iff.1 h2).1;rw [Array.getElem?_append_left (by simpa using hlt)]
  simpa using h2
section
variable {fn:Func} {I₀:Imm} {post:Value→Imm→Seg→Prop} {F:Seg}
def LU (Ds:List Nat):Seg:=Ds.map fun D=>(D,.deferred (some []))
theorem leaves_marks {R : Ending → World → Prop} {tm : Array Value} : ∀ (Ds : List Nat) (w : World) (M : Seg), St I (LU Ds ++ M) w → (∀ w', St I M w' → ∃ v, (results fn tm).run P w' = .ok v w' ∧ R (.returned v) w') →
    LeavesInM (fen none) 0 P fn tm R (Ds.map mark) .returning w:=by
  intro Ds
  induction Ds with
  | nil=>intro w M st h;exact h w st
  | cons D Ds ih=>
    intro w M st h;have hh:=st.mem D (.deferred (some [])) (by simp [LU]);exact ⟨by simp,.inl ⟨D,_,rfl,run_takeDeferred hh,ih _ M (St.putObj (M:=LU Ds++M) st).drop h⟩⟩
theorem FW (Ds:List Nat) {e:Exit} (he:e=.ret∨e=.normal) (hM:M.Perm (LU Ds++R)) (h:Pst N (RetQ P fn I₀ post F) e [] l I R):Pst N (RetQM P fn I₀ post F) e (Ds.map mark) l I M:=fun a w hS hD hW=>by
  have key:LeavesInM (fen none) 0 P fn a.tmps (RQ I₀ post F) a.defers .returning w:=by
    rw [hD];refine leaves_marks Ds w R (hW.perm hM) fun w' st=>?_
    have:=h { tmps:=a.tmps,defers:=[] } w' ⟨hS.size,hS.get⟩ rfl st;rcases he with rfl | rfl
    · exact this.2
    · exact this.2
  rcases he with rfl | rfl
  · exact key
  · exact key
theorem pst_deferred {fid : FuncId} {vals cv : List Value} {pre F1 : Seg} {post1 : Value → Imm → Seg → Prop} (hcall : CB P fid = true) (ct : CtD P fid (vals ++ cv).toArray I pre post1) (hM : M.Perm (pre ++ F1))
    (next:∀ v I' M',I.le I'→post1 v I' M'→Pst N (RetQM P fn I₀ post F) .ret ds l I' (M'++F1)):Pst N (RetQM P fn I₀ post F) .ret ({ target:=.fn (.func fid) cv.toArray,args:=vals.toArray }::ds) l I M:=fun a w hS hD hW=>by
  show LeavesInM (fen none) 0 P fn a.tmps (RQ I₀ post F) a.defers .returning w;rw [hD];refine ⟨by simp,.inr ⟨fun h=>by simp [fen,Fence.wide] at h,.func fid,cv.toArray,fid,(vals++cv).toArray,rfl,?_,fun _ _=>trivial,?_⟩⟩
  · show (callFunc fid (vals.toArray++cv.toArray)).run P w=_
    rw [FN hcall];simp
  · refine (ct F1 w .returning (hW.perm hM)).mono ?_
    rintro e u' w' ⟨rfl,v,I',M',rfl,hle,hp,st⟩
    exact next v I' M' hle hp { tmps:=a.tmps,defers:=ds } w' ⟨hS.size,hS.get⟩ rfl st
end
def deferAt (ops:Array Oper) (i:Nat):Option (Call × TypeId × Option (Nat × Bool)):=
  match ops[i]? with
  | some o=>match o.op,o.dst with
    | .defer c,none=>some (c,o.type,o.guard)
    | _,_=>none
  | none=>none
theorem seq_defer {f : Operand} {fid : FuncId} {args : Array Operand} {tys : Array TypeId} {vals cv : List Value} (hop : deferAt ops i = some ({ callee := .value f, args, argTypes := tys }, ty, none)) (hf : BM l f = some (.func (.func fid) #[] cv.toArray)) (hv : LJ l args.toList = some vals)
    (next:Seq (ρ:=none) P N ops Q ({ target:=.fn (.func fid) cv.toArray,args:=vals.toArray }::ds) (i+1) l I M):Seq (ρ:=none) P N ops Q ds i l I M:=by
  obtain ⟨h1,h2⟩:=FL hv;unfold deferAt at hop;cases ho:ops[i]? with
  | none=>rw [ho] at hop;cases hop
  | some o=>
    rw [ho] at hop;simp only at hop
    split at hop
    · rename_i c hc hdst
      simp only [Option.some.injEq,Prod.mk.injEq] at hop;obtain ⟨rfl,rfl,hgd⟩:=hop;intro a w hS hD hW;have hlt:i<ops.size:=(Array.getElem?_eq_some_iff.1 ho).1;rw [NG hlt];simp only [wpOpsIn,ho];have hw:Region.wanted o (yielded ops a.tmps)=true:=by simp [Region.wanted,hgd]
      rw [if_pos hw];refine ⟨fun _ _=>trivial,?_⟩;have hargs:args.map a.eval=vals.toArray:=by
        apply Array.ext'
        simp only [Array.toList_map];rw [← h2];refine List.map_congr_left fun x hx=>?_
        obtain ⟨v,hv'⟩:=h1 x hx;rw [MU hS hv',AZ hv']
      have hrun:(o.semAt (fen none).round a.eval).run P w=.ok (.defer { target:=.fn (.func fid) cv.toArray,args:=vals.toArray }) w:=by
        show (Oper.semAt none a.eval o).run P w=_;rw [Oper.semAt_none,FQ,hc];show (do pure (Next.defer (← resolve a.eval { callee:=.value f,args,argTypes:=tys } o.type)):Sem Next).run P w=_;unfold resolve;simp only [hargs,MU hS hf,Deferred.ofValue];simp [Sem.run_bind,Result.andThen]
      rw [hrun];show wpOpsIn (fen none) 0 P ops Q _ ({ a with defers:=_::a.defers }.put o.dst undef) w;rw [hdst];exact next _ w ⟨hS.size,hS.get⟩ (by rw [← hD];rfl) hW
    · cases hop
end
end Go.Sl
namespace Go.Sh
open Go Go.Sl
section
variable {P:Program} {N:Nat} {ops:Array Oper} {i:Nat} {l:Sl} {I:Imm} {R M:Seg} {ty:TypeId} {gd:Option (Nat × Bool)} {K:Sl→Imm→Seg→Prop} {d:Nat}
end
theorem Asc.nodup {l:List Int} (h:Asc l):l.Nodup:=h.imp fun hab=>by omega
def wide (Y:Yard) (i:Nat):Yard:=⟨Y.cars,Y.room.set i 20,Y.tracks⟩
end Go.Sh
namespace Go.Sl
open Go
section
variable {P:Program} {N:Nat} {ops:Array Oper} {i:Nat} {l:Sl} {I:Imm} {R M:Seg} {ty:TypeId} {gd:Option (Nat × Bool)} {K:Sl→Imm→Seg→Prop} {d:Nat}
variable {κ:Type} [DecidableEq κ] {enc:κ→Value}
theorem stp_builtin {b : Builtin} {args : Array Operand} {tys : Array TypeId} {vals : List Value} {dst : Option Tmp}
    (hop:EQ ops N i=some (dst,.call { callee:=.builtin b,args,argTypes:=tys },ty,gd)) (hg:EJ ops l gd=some true) (hk:∀ x∈args,JA l x) (hvals:args.toList.map (rho l)=vals)
    (h:∀ (cs:Array Bool),wpL P (builtin b tys ty cs vals.toArray) (fun n M'=>∃ v,(n=.value v∨(n=.skip∧v=undef))∧K (ups dst v l) I M') I M):Stp P N ops i l I M K:=
  CS hop hg (by simpa [Op.operands,Call.operands] using hk) (by
    have e:args.map (rho l)=vals.toArray:=by
      apply Array.ext'
      simp [hvals]
    show wpL P (do let d ← resolve (rho l) { callee:=.builtin b,args,argTypes:=tys } ty;invoke d.target d.args) _ I M
    unfold resolve
    simp only [e]
    exact h _)
theorem stp_appendN {x y : Operand} {T T' E bs n : Nat} {z : Value} (hop : EQ ops N i = some (some d, .call { callee := .builtin .append, args := #[x, y], argTypes := #[T, T'] }, ty, gd)) (hg : EJ ops l gd = some true)
    (hT:GO P T=some E) (hsz:DJ P E=some 1) (hz:GQ P E=some z) (hzc:z.cells.size=1) (hb:LM P E=some bs) (hbs:1≤bs∧bs≤256) (hT':tyI64 P T'=true)
    (hx:BM l x=some (.slice none 0 0)) (hy:BM l y=some (.int .i64 (n:Int))) (hn:0<n∧n≤1000000)
    (next:∀ b nc zs,n≤nc→zs.length=nc→K ((d,.slice (some ⟨b,0,none⟩) n nc)::l) I ((b,Obj.cells (List.toArray zs) E (0,0))::M)):Stp P N ops i l I M K:=by
  refine stp_builtin (vals:=[.slice none 0 0,.int .i64 n]) hop hg (HN hx hy) (by simp [AZ hx,AZ hy]) fun cs=>?_
  have hinfo:∃ inf,P.info? E=some inf∧inf.bytes=bs:=by
    unfold LM at hb;cases hi:P.info? E with
    | none=>rw [hi] at hb;cases hb
    | some inf=>rw [hi] at hb;exact ⟨inf,rfl,by simpa using hb⟩
  obtain ⟨inf,hinf,hbytes⟩:=hinfo;show wpL P (Builtin.append_ #[T,T'] ty #[.slice none 0 0,.int .i64 n] >>= fun x=>pure (Next.value x)) _ I M;refine CX ?_;unfold Builtin.append_;simp only [List.getElem?_toArray,List.getElem?_cons_zero,List.getElem?_cons_succ,AE,AK (BX hT),BO hsz,AK (FO hT'),CK];simp only [if_true,asInt];rw [AE];have hw:IntKind.i64.wrap (n:Int)=(n:Int):=MQ ⟨by omega,by omega⟩;show wpL P (pure (n:Int)) _ I M;rw [CK];simp only [hw];rw [if_neg (show ¬ (n:Int)<0 by omega)];rw [AE,DB hinf];have hbig:¬ ((n:Int)*(inf.bytes:Int)>2 ^ 48):=by
    have h1:n*inf.bytes≤1000000*256:=Nat.mul_le_mul hn.2 (by omega);have h2:((n*inf.bytes:Nat):Int)≤((1000000*256:Nat):Int):=Int.ofNat_le.2 h1;rw [Int.natCast_mul] at h2;omega
  rw [if_neg hbig];rw [AE,CK];simp only [Int.toNat_natCast,Nat.zero_add,Bool.not_true,Bool.false_eq_true,if_false];rw [if_neg (show ¬ n≤0 by omega)];simp only [true_or,and_true]
  rw [if_neg (show ¬ ((n : Int) > IntKind.i64.max) by have : IntKind.i64.max = 9223372036854775807 := rfl
                                                      omega)]
  rw [AE,DB hinf]
  rw [AE,DB hinf,if_neg (show ¬ (Builtin.nextslicecap n 0*inf.bytes>2 ^ 48) from fun h=>by
    have h1:Builtin.nextslicecap n 0≤2*n+1000:=JZ (by omega)
    have h2:Builtin.nextslicecap n 0*inf.bytes≤(2*n+1000)*256:=Nat.mul_le_mul h1 (by omega)
    omega)]
  rw [AE];show (if (Question.appendCap n 0 E).forced then _ else ∀ t,_);rw [if_neg (by simp [Question.forced])];intro t;show wpL P (typeInfo E >>= _) _ I _;rw [AE,DB hinf,AE];have hask:∀ (n:Nat) (Q:Unit→Seg→Prop),Q () M→wpL P (askRoom n) Q I M:=fun n Q hq=>by
    unfold askRoom
    split <;> exact hq
  refine hask _ _ ?_;rw [AE];show wpL P (_ >>= _) _ I M;rw [AE];rw [if_neg (show ¬ n*1=0 by omega)];rw [AE,CY hz,CK,AE,CY hz,AE];intro b;have hcap:n≤Question.cut (.appendCap n 0 E) t:=by simp [Question.cut]
  generalize Question.cut (.appendCap n 0 E) t=nc at hcap
  refine ⟨_,.inl rfl,?_⟩
  have:=next b nc ((#[]:Array Value)++Builtin.zeroCells z.cells n++Builtin.zeroCells z.cells (nc-n)).toList hcap (by
    simp only [Array.length_toList,Array.size_append,JJ,hzc,List.size_toArray,List.length_nil];omega)
  rw [Array.toArray_toList] at this;exact this
end
theorem Own.empty {E:TypeId} {b nc:Nat} {zs:List Value} (h:zs.length=nc):Own E 1 AX (.slice (some ⟨b,0,none⟩) 0 nc) ([]:List Int) [(b,Obj.cells zs.toArray E (0,0))]:=
  .inr ⟨b,nc,zs,rfl,Nat.zero_le _,rfl,by simpa [BN] using h⟩
end Go.Sl
namespace Go.Sh
open Go Go.Sl
section
variable {xs ys:List Int} {k:Nat}
end
theorem flat_take {xss:List (List Int)} {k:Nat} (h:k<xss.length):(xss.take (k+1)).flatten=(xss.take k).flatten++xss.getD k []:=by
  rw [DI (d:=[]) h];simp
theorem flat_succ {xss:List (List Int)} {k:Nat} (h:k<xss.length):(((xss.take (k+1)).flatten.length:Nat):Int)=↑(xss.take k).flatten.length+↑(xss.getD k []).length:=by
  rw [flat_take h,List.length_append];omega
theorem flat_le (xss:List (List Int)) (k:Nat) (h:k<xss.length):(xss.take k).flatten.length+(xss.getD k []).length≤xss.flatten.length:=by
  rw [← List.length_append,← flat_take h];have:xss.flatten=(xss.take (k+1)).flatten++(xss.drop (k+1)).flatten:=by rw [← List.flatten_append,List.take_append_drop]
  rw [this,List.length_append];omega
def stepB (cs:List Car) (t:List Int) (k:Nat) (acc:List (List Int)):List (List Int):=
  if MS cs t ↑k then acc.set (acc.length-1) (acc.getD (acc.length-1) []++[t.getD k 0]) else acc++[[t.getD k 0]]
def blocksTo (cs:List Car) (t:List Int):Nat→List (List Int)
  | 0=>[]
  | k+1=>stepB cs t k (blocksTo cs t k)
def LU (cs:List Car) (t:List Int):List (List Int):=blocksTo cs t t.length
section
variable {bl:List (List Int)} {rec:List Int→List Int→List (List Int)} {begun us:List Int} {k:Nat}
end
end Go.Sh
namespace Go.Sl
open Go
section
variable {ρ:Option Nat} {P:Program} {N:Nat} {ds:List Deferred} {l:Sl} {I:Imm} {M A B eM:Seg} {Q:Exit→Act→World→Prop} {E:TypeId} {vs:List Value} {xss:List (List Int)}
end
end Go.Sl
namespace Go.Sh
open Go Go.Sl
end Go.Sh
namespace Go.Sl
open Go
section
variable {P:Program} {N:Nat} {ops:Array Oper} {i:Nat} {l:Sl} {I:Imm} {M:Seg} {ty:TypeId} {gd:Option (Nat × Bool)} {K:Sl→Imm→Seg→Prop} {κ:Type} [DecidableEq κ] {enc:κ→Value}
theorem HH {x y u : Operand} {T kt et r cl : Nat} {es : Array MapEntry} {kvs : List (κ × Value)} {k : κ} {v : Value} (n : Nat) (hop : EQ ops N i = some (none, .insert T x y u, ty, gd)) (hg : EJ ops l gd = some true)
    (hT:ON P T=some (kt,et)) (hK:KeyOk P kt enc) (hx:BM l x=some (.map (some r))) (hy:BM l y=some (enc k)) (hu:BM l u=some v) (hn:M[n]?=some (r,Obj.map es cl)) (his:MapIs enc es kvs)
    (h:∀ es' cl',MapIs enc es' (upd k v kvs)→K l I (M.set n (r,Obj.map es' cl'))):Stp P N ops i l I M K:=
  CS hop hg (known3 hx hy hu) (by
    show wpL P (Instr.mapUpdate T (rho l x) (rho l y) (rho l u) >>= fun _=>pure Next.skip) _ I M
    rw [AZ hx,AZ hy,AZ hu,AE]
    unfold Instr.mapUpdate
    rw [AE,AK (IQ hT)]
    show wpL P (Sem.getObj r _) _ I M
    refine ⟨_,.inl (List.mem_of_getElem? hn),rfl,?_⟩
    show wpL P (Instr.checkKey _ _ _ _ >>= _) _ I _
    rw [AE]
    refine hK.check _ _ _ _ _ ?_
    rw [AE]
    refine hK.find k es.toList kvs _ _ _ his ?_
    have hf:=MV k v kvs 0
    cases hkv:ED k kvs 0 with
    | none=>
      rw [hkv] at hf
      simp only at hf
      show wpL P (Sem.setObj r _ _) _ I M
      refine FP n rfl hn rfl ?_
      refine ⟨undef,.inr ⟨rfl,rfl⟩,h _ _ ?_⟩
      rw [hf.1]
      exact NC his k v cl
    | some p=>
      obtain ⟨j,w⟩:=p
      rw [hkv] at hf
      simp only [Nat.sub_zero] at hf
      obtain ⟨_,h1,_,h2⟩:=hf
      have hold:((es[j]?).map (·.key)).getD (enc k)=enc k:=by
        have:=congrArg (fun l=>(l[j]?).map Prod.fst) his
        simp only [List.getElem?_map,Array.getElem?_toList,Option.map_map] at this
        cases he:es[j]? with
        | none=>rfl
        | some e=>
          rw [he] at this
          cases hq:kvs[j]? with
          | none=>rw [hq] at this;simp at this
          | some q=>
            rw [hq] at this h2
            simp [KR] at this h2
            simp [this,h2]
      have key:∀ key,key=enc k→wpL P (Sem.setObj r (.map (es.modify j fun e=>{ e with key,val:=v }) cl) (Sem.pure ())) (fun _ M'=>wpL P (pure Next.skip) (fun n M'=>∃ v,(n=.value v∨(n=.skip∧v=undef))∧K (ups none v l) I M') I M') I M:=fun key hkey=>by
        refine FP n rfl hn rfl ?_
        refine ⟨undef,.inr ⟨rfl,rfl⟩,h _ _ ?_⟩
        rw [h1]
        exact mapIs_set his j k v key hkey
      show wpL P (Instr.keyThatStays (((es[j]?).map (·.key)).getD (enc k)) (enc k) >>= _) _ I M
      rw [AE,hold]
      unfold Instr.keyThatStays
      split
      · exact key _ rfl
      · rw [AE]
        show (if (Question.extern "map.whichKeyStays" 2).forced then _ else ∀ t,_)
        split
        · refine key _ ?_;split <;> rfl
        · intro t;refine key _ ?_;split <;> rfl)
end
end Go.Sl
namespace Go.Sh
open Go Go.Sl
def YardH (T:TypeId) (I:Imm) (v:Value) (Y:Yard):Prop:=
  ∃ b v1 v2 v3,v=.pointer (some ⟨b,0,none⟩)∧I.blk b=some (Obj.cells #[v1,v2,v3] T (0,0))∧IsCars I v1 Y.cars∧DX I v2 Y.room∧IsRows I v3 Y.tracks
def YardsH (T:TypeId) (I:Imm) (vs:List Value) (zs:List Yard):Prop:=vs.length=zs.length∧∀ i,i<zs.length→YardH T I (vs.getD i undef) (zs.getD i noYard)
theorem YardsH.nil (T:TypeId) (I:Imm):YardsH T I [] []:=⟨rfl,fun i hi=>by simp at hi⟩
structure VisOk (A:Yard) (s:List IV × List Yard):Prop where
  met:∃ m:List Yard,s.1=m.map placeOf∧(∀ y∈m,Kin A y)∧(m.map Yard.tracks).Nodup
  kin:∀ y∈s.2,Kin A y
  le:s.2.length≤s.1.length
theorem VisOk.visit {A:Yard} {s:List IV × List Yard} {z:Yard} (h:VisOk A s) (f:Fine A) (hz:Kin A z):VisOk A (visit s z):=by
  obtain ⟨m,e,hk,hn⟩:=h.met;have hle:=h.le;unfold Go.Sh.visit
  split
  · exact h
  · rename_i hm
    refine ⟨⟨m++[z],by simp [e],fun y hy=>?_,?_⟩,fun y hy=>?_,by simp only [List.length_append,List.length_cons,List.length_nil];omega⟩
    · rcases List.mem_append.1 hy with hy | hy
      · exact hk y hy
      · simp at hy;subst hy;exact hz
    · rw [List.map_append]
      refine List.nodup_append.2 ⟨hn,by simp,fun a ha b hb=>?_⟩;simp at hb;subst hb;intro e2;obtain ⟨y,hy,rfl⟩:=List.mem_map.1 ha;have:=kin_tracks (hk y hy) hz e2;subst this;exact hm (e▸List.mem_map_of_mem hy)
    · rcases List.mem_append.1 hy with hy | hy
      · exact h.kin y hy
      · simp at hy;subst hy;exact hz
theorem VisOk.visitAll {A:Yard} (f:Fine A):∀ (zs:List Yard) (s:List IV × List Yard),VisOk A s→(∀ z∈zs,Kin A z)→VisOk A (visitAll zs s):=by
  intro zs
  induction zs with
  | nil=>intro s h _;exact h
  | cons z r ih=>intro s h hk;exact ih _ (h.visit f (hk z List.mem_cons_self)) (fun y hy=>hk y (List.mem_cons_of_mem _ hy))
theorem VisOk.fresh {A:Yard} {s:List IV × List Yard} (h:VisOk A s):VisOk A (s.1,[]):=⟨h.met,fun y hy=>by simp at hy,Nat.zero_le _⟩
theorem VisOk.start (A:Yard):VisOk A ([placeOf A],[A]):=⟨⟨[A],rfl,fun y hy=>by simp at hy;subst hy;exact Kin.refl _,by simp⟩,fun y hy=>by simp at hy;subst hy;exact Kin.refl _,by simp⟩
def visJ (met:List IV) (now:List Yard) (j:Nat):List IV × List Yard:=visitAll ((now.take j).flatMap nexts) (met,[])
def visX (s:List IV × List Yard) (x:Yard) (xs:List Shift):List IV × List Yard:=visitAll (xs.map (moved x)) s
theorem VisOk.j {A:Yard} (f:Fine A) {met:List IV} {now:List Yard} (h:VisOk A (met,now)) (j:Nat):VisOk A (visJ met now j):=
  VisOk.visitAll f _ _ h.fresh (flat_kin fun y hy=>h.kin y (List.mem_of_mem_take hy))
theorem VisOk.x {A:Yard} (f:Fine A) {s:List IV × List Yard} {x:Yard} (h:VisOk A s) (hx:Kin A x) {xs:List Shift} (hp:xs <+: draws x):VisOk A (visX s x xs):=
  VisOk.visitAll f _ _ h fun y hy=>by
    obtain ⟨d,hd,rfl⟩:=List.mem_map.1 hy;exact hx.moved (MG (hp.subset hd))
end Go.Sh
namespace Go.Sl
open Go
theorem IsRows.split {I:Imm} {v:Value} {xss:List (List Int)} (h:IsRows I v xss):∃ vs:List Value,IsVals I v vs∧RowsV I vs xss:=by
  obtain ⟨a,c,b,o,f,h1,h2,h3,h4,h5⟩:=h;have hl:((List.range xss.length).map f).length=xss.length:=by simp
  have hg:∀ i,i<xss.length→((List.range xss.length).map f).getD i undef=f i:=fun i hi=>by simp [List.getD,hi]
  refine ⟨(List.range xss.length).map f,⟨a,c,b,o,by rw [hl];exact h1,by rw [hl];exact h2,by rw [hl];exact h3,?_⟩,hl,fun i hi=>by rw [hg i hi];exact h5 i hi⟩;rw [hl];refine ⟨h4.addr,fun i hi g hg2=>?_⟩;have:=h4.get i hi g hg2;show ICell I _ (((List.range xss.length).map f).getD i undef);rw [hg i hi];exact this
theorem RowsV.take {I:Imm} {vs:List Value} {xss:List (List Int)} (h:RowsV I vs xss) (k:Nat):RowsV I (vs.take k) (xss.take k):=by
  refine ⟨by simp [h.1],fun i hi=>?_⟩;have hi2:i<k∧i<xss.length:=by rw [List.length_take] at hi;omega
  have:=h.2 i hi2.2;simp only [List.getD] at this ⊢;rw [List.getElem?_take_of_lt hi2.1,List.getElem?_take_of_lt hi2.1];exact this
theorem RowsV.drop {I:Imm} {vs:List Value} {xss:List (List Int)} (h:RowsV I vs xss) (k:Nat):RowsV I (vs.drop k) (xss.drop k):=by
  refine ⟨by simp [h.1],fun i hi=>?_⟩;have hi2:k+i<xss.length:=by simp at hi;omega
  have:=h.2 (k+i) hi2;simp only [List.getD] at this ⊢;rw [List.getElem?_drop,List.getElem?_drop];exact this
theorem RowsV.append {I:Imm} {vs ws:List Value} {xss yss:List (List Int)} (h:RowsV I vs xss) (k:RowsV I ws yss):RowsV I (vs++ws) (xss++yss):=by
  have h1:=h.1;refine ⟨by simp [h.1,k.1],fun i hi=>?_⟩;simp only [List.length_append] at hi
  by_cases e:i<xss.length
  · have:=h.2 i e
    simp only [List.getD] at this ⊢;rw [List.getElem?_append_left (by omega),List.getElem?_append_left e];exact this
  · have:=k.2 (i-xss.length) (by omega)
    simp only [List.getD] at this ⊢;rw [List.getElem?_append_right (by omega),List.getElem?_append_right (by omega),h1];exact this
end Go.Sl
namespace Go.Sh
open Go Go.Sl
section
variable {xs ys:List Int} {k:Nat}
end
section
variable {o l:List Int} {k:Nat}
end
section
variable {α β:Type}
variable {f:α→β→β} {d:α} {bl:List α} {rec:List α→List β} {k:Nat}
end
end Go.Sh
namespace Go.Sl
open Go
section
variable {P:Program} {N:Nat} {ops:Array Oper} {i:Nat} {l:Sl} {I:Imm} {R M:Seg} {ty:TypeId} {gd:Option (Nat × Bool)} {K:Sl→Imm→Seg→Prop} {d:Nat}
end
structure Lent (I J:Imm) (Ms:Seg):Prop where
  free:∀ b o,(b,o)∈Ms→I.blk b=none
  held:∀ b o,(b,o)∈Ms→J.blk b=some o
  nodup:(Ms.map Prod.fst).Nodup
theorem Lent.mono {I J K:Imm} {Ms:Seg} (h:Lent I J Ms) (le:J.le K):Lent I K Ms:=⟨h.free,fun b o hm=>le.blk _ _ (h.held b o hm),h.nodup⟩
theorem Own.lend {α : Type} {E : TypeId} {sz : Nat} {cell : α → Nat → Value} {v : Value} {xs : List α} {Ms M : Seg} {I : Imm} {w : World} (dflt : α) (h : Own E sz cell v xs Ms) (hl : xs.length ≤ 140737488355328) (st : St I (Ms ++ M) w) :
    ∃ J,I.le J∧IsSl sz cell dflt J v xs∧Lent I J Ms∧St J M w:=by
  rcases h with ⟨rfl,rfl,rfl⟩ | ⟨b,c,sp,rfl,h,rfl,hc⟩
  · exact ⟨I,Imm.le.refl I,⟨none,0,0,0,rfl,Nat.le_refl _,by simp,⟨fun h=>by simp at h,fun i hi=>by simp at hi⟩⟩,⟨fun _ _ h=>by simp at h,fun _ _ h=>by simp at h,by simp⟩,st⟩
  · have hb:I.blk b=none:=st.disj b (Obj.cells (BN sz cell xs++sp).toArray E (0,0)) (by simp)
    refine ⟨I.add b _,Imm.le_add hb,⟨_,c,b,0,rfl,h,hl,⟨fun _=>rfl,fun i hi f hf=>⟨rfl,_,E,(0,0),Imm.add_same I b _,?_⟩⟩⟩,⟨fun b' o hm=>?_,fun b' o hm=>?_,by simp⟩,St.freeze st⟩
    · have hlt : i * sz + f < (BN sz cell xs).length := by
        rw [BB];have:i*sz+sz≤xs.length*sz:=by rw [← Nat.succ_mul];exact Nat.mul_le_mul_right _ hi
        omega
      simp only [List.getElem?_toArray,Nat.zero_add];rw [List.getElem?_append_left hlt];exact OQ sz cell dflt xs i f hi hf
    · have:=List.mem_singleton.1 hm;cases this;exact hb
    · have:=List.mem_singleton.1 hm;cases this;exact Imm.add_same I b _
theorem St.thaw {I J:Imm} {M Ms:Seg} {w:World} (h:Lent I J Ms) (le:I.le J) (st:St J M w):∃ K,I.le K∧St K (Ms++M) w:=by
  have hk:∀ b,b∈Ms.map Prod.fst→∃ o,(b,o)∈Ms:=fun b hb=>by
    obtain ⟨⟨c,o⟩,hm,e⟩:=List.mem_map.1 hb;cases e;exact ⟨o,hm⟩
  refine ⟨{ J with blk:=fun b=>if b∈Ms.map Prod.fst then none else J.blk b },⟨le.os,le.tape,le.output,fun b o hb=>?_⟩,⟨st.os,st.tape,st.output,fun b o hb=>?_,fun b o hm=>?_,?_,fun b o hm=>?_⟩⟩
  · show (if b∈Ms.map Prod.fst then none else J.blk b)=some o
    rw [if_neg]
    · exact le.blk b o hb
    · intro hm
      obtain ⟨o2,h2⟩:=hk b hm;rw [h.free b o2 h2] at hb;cases hb
  · change (if b∈Ms.map Prod.fst then none else J.blk b)=some o at hb
    split at hb
    · cases hb
    · exact st.imm b o hb
  · rcases List.mem_append.1 hm with hm | hm
    · exact st.imm b o (h.held b o hm)
    · exact st.mem b o hm
  · rw [List.map_append]
    refine List.nodup_append.2 ⟨h.nodup,st.nodup,fun a ha b hb e=>?_⟩;subst e;obtain ⟨o,ho⟩:=hk a ha;obtain ⟨⟨c,o2⟩,hm,e⟩:=List.mem_map.1 hb;cases e;have:=st.disj _ _ hm;rw [h.held _ _ ho] at this;cases this
  · show (if b∈Ms.map Prod.fst then none else J.blk b)=none
    rcases List.mem_append.1 hm with hm | hm
    · rw [if_pos (List.mem_map_of_mem (f:=Prod.fst) hm)]
    · split
      · rfl
      · exact st.disj b o hm
section
variable {ρ:Option Nat} {P:Program} {N:Nat} {ds:List Deferred} {l:Sl} {I:Imm} {M A B Ms:Seg} {Q:Exit→Act→World→Prop} {c:Code}
end
theorem ct_own {α : Type} {E : TypeId} {sz : Nat} {cell : α → Nat → Value} {v : Value} {xs : List α} {Ms : Seg} {I : Imm} {P : Program} {f : FuncId} {args : Array Value} {u : Value} (dflt : α) (h : Own E sz cell v xs Ms) (hl : xs.length ≤ 140737488355328)
    (ct:∀ J,I.le J→IsSl sz cell dflt J v xs→CtV P f args J u):Ct P f args I Ms (fun r _ M'=>r=u∧M'=Ms):=by
  intro F w st;obtain ⟨J,h1,h2,h3,h4⟩:=h.lend dflt hl st;refine (ct J h1 h2 F w h4).mono fun e w' ⟨r,I',M',he,hle,⟨hr,hm⟩,st'⟩=>?_
  subst hm;obtain ⟨K,k1,k2⟩:=St.thaw (h3.mono hle) (h1.trans hle) (by simpa using st');exact ⟨r,K,Ms,he,k1,⟨hr,rfl⟩,k2⟩
theorem encL_split {α : Type} (sz : Nat) (cell : α → Nat → Value) (dflt : α) (xs : List α) (j : Nat) (h : j < xs.length) :
    BN sz cell xs=BN sz cell (xs.take j)++((List.range sz).map (cell (xs.getD j dflt))++BN sz cell (xs.drop (j+1))):=by
  have e:xs=xs.take j++xs.getD j dflt::xs.drop (j+1):=by
    have:xs.drop j=xs.getD j dflt::xs.drop (j+1):=by
      rw [List.drop_eq_getElem_cons h];simp [List.getD,h]
    rw [← this,List.take_append_drop]
  conv=>lhs;rw [e]
  simp only [BN,List.flatMap_append,List.flatMap_cons]
theorem encL_setAll {α : Type} (sz : Nat) (cell : α → Nat → Value) (z : α) (xs : List α) (j : Nat) (h : j < xs.length) :
    BN sz cell (xs.set j z)=BN sz cell (xs.take j)++((List.range sz).map (cell z)++BN sz cell (xs.drop (j+1))):=by
  rw [List.set_eq_take_append_cons_drop,if_pos h];simp only [BN,List.flatMap_append,List.flatMap_cons]
section
variable {ρ:Option Nat} {P:Program} {N:Nat} {ops:Array Oper} {i:Nat} {l:Sl} {I:Imm} {M:Seg} {ty:TypeId} {gd:Option (Nat × Bool)} {K:Sl→Imm→Seg→Prop}
theorem FZ {α : Type} {T : TypeId} {x y : Operand} {v : Value} {E sz : Nat} {cell : α → Nat → Value} {a : Option Addr} {n c b : Nat} {xs : List α} {Ms R : Seg} {rc : Nat → Nat → Value} (dflt : α) (j : Nat) (z : α)
    (hop:EQ ops N i=some (none,.store T x y,ty,gd)) (hg:EJ ops l gd=some true) (own:Own E sz cell (.slice a n c) xs Ms) (row:ORow sz Ms a b xs.length rc) (hj:j<xs.length)
    (hx:BM l x=some (.pointer (some ⟨b,0+j*sz,none⟩))) (hy:BM l y=some v) (hsz:DJ P T=some sz) (hv:v.cells.toList=(List.range sz).map (cell z)) (hone:∀ w∈(List.range sz).map (cell z),CD w=true)
    (hM:M.Perm (Ms++R)) (next:∀ Ms',Own E sz cell (.slice a n c) (xs.set j z) Ms'→K l I (Ms'++R)):Stp P N ops i l I M K:=by
  have ha:=row.addr (by omega);rcases own with ⟨hv',rfl,rfl⟩ | ⟨b',c',sp,hv',hcap,rfl,hlen⟩
  · simp at hj
  · simp only [Value.slice.injEq] at hv'
    obtain ⟨rfl,rfl,rfl⟩:=hv';simp only [Option.some.injEq,Addr.mk.injEq,and_true] at ha;subst ha;refine HS hop hg (HN hx hy) hM ?_;show wpL P (Instr.storeAt T (rho l x) (rho l y) >>= fun _=>pure Next.skip) _ I _;rw [AZ hx,AZ hy,AE];show wpL P (storeVar T ⟨b',0+j*sz,none⟩ v) _ I _;unfold storeVar;rw [AE,BO hsz];have hl:v.cells.size=sz:=by rw [← Array.length_toList,hv];simp
    rw [if_neg (by simp [hl])];show wpL P (storeCells ⟨b',0+j*sz,none⟩ v.cells.toList) _ I _;rw [hv];have hs:=encL_split sz cell dflt xs j hj;have hA:(BN sz cell (xs.take j)).length=j*sz:=by rw [BB,List.length_take,Nat.min_eq_left (by omega)]
    refine DW (T:=E) (k:=0) ((List.range sz).map (cell z)) 0 _ (BN sz cell xs++sp).toArray _ (by simp) ?_ hone ?_
    · rw [hs]
      simp only [List.size_toArray,List.length_append,List.length_map,List.length_range,hA];omega
    · refine ⟨undef,_,.inr ⟨rfl,rfl⟩,List.Sublist.refl _,?_⟩
      have e2:GP (BN sz cell xs++sp).toArray (0+j*sz+0) ((List.range sz).map (cell z))=(BN sz cell (xs.set j z)++sp).toArray:=by
        apply Array.ext'
        have:=FY ((List.range sz).map (cell z)) (BN sz cell (xs.take j)) ((List.range sz).map (cell (xs.getD j dflt))++BN sz cell (xs.drop (j+1))++sp) (by simp);rw [hA] at this;rw [hs,encL_setAll sz cell z xs j hj,show 0+j*sz+0=j*sz by omega,List.append_assoc,this];simp
      rw [e2];exact next _ (.inr ⟨b',c,sp,by simp,by simpa using hcap,rfl,by rw [← hlen,List.length_append,List.length_append,BB,BB,List.length_set]⟩)
end
abbrev EqS (R:Seg):Seg→Prop:=fun X=>X=R
inductive FpOk (ops:Array Oper) (i:Nat) (M:Seg):List (Nat × (Seg→Prop))→Prop
  | nil:FpOk ops i M []
  | wait {k:Nat} {pr:Seg→Prop} {fp:List (Nat × (Seg→Prop))}:wt ops i k=true→FpOk ops i M fp→FpOk ops i M ((k,pr)::fp)
  | none {k:Nat} {fp:List (Nat × (Seg→Prop))}:FpOk ops i M fp→FpOk ops i M ((k,EqS [])::fp)
  | part {k:Nat} {R Sx:Seg} {fp:List (Nat × (Seg→Prop))}:M.Perm (R++Sx)→FpOk ops i M fp→FpOk ops i M ((k,EqS R)::fp)
  | other {k:Nat} {pr:Seg→Prop} {R Sx:Seg} {fp:List (Nat × (Seg→Prop))}:pr R→M.Perm (R++Sx)→FpOk ops i M fp→FpOk ops i M ((k,pr)::fp)
theorem FpOk.all {ops:Array Oper} {i:Nat} {M:Seg} {fp:List (Nat × (Seg→Prop))} (h:FpOk ops i M fp):∀ p∈fp,wt ops i p.1=true∨∃ Rx Sx,p.2 Rx∧M.Perm (Rx++Sx):=by
  induction h with
  | nil=>intro p hp;simp at hp
  | wait h _ ih=>
    intro p hp;rcases List.mem_cons.1 hp with rfl | hp
    · exact .inl h
    · exact ih p hp
  | none _ ih=>
    intro p hp;rcases List.mem_cons.1 hp with rfl | hp
    · exact .inr ⟨[],M,rfl,List.Perm.refl _⟩
    · exact ih p hp
  | part h _ ih=>
    intro p hp;rcases List.mem_cons.1 hp with rfl | hp
    · exact .inr ⟨_,_,rfl,h⟩
    · exact ih p hp
  | other h h2 _ ih=>
    intro p hp;rcases List.mem_cons.1 hp with rfl | hp
    · exact .inr ⟨_,_,h,h2⟩
    · exact ih p hp
section
variable {P:Program} {N:Nat} {ops:Array Oper} {als:List Nat} {al:List (Nat × Nat × Fresh)} {L0:Sl} {F0:Seg} {Kf:Sl→Imm→Seg→Prop} {fp:List (Nat × (Seg→Prop))} {rest:List (Nat × Bool)} {i d:Nat} {v:Value} {l:Sl} {I:Imm} {M M':Seg}
def lkB (d:Nat) (v:Value) (L0:Sl):Prop:=match DC d L0 with | some u=>v=u | none=>True
theorem lkOk {L0:Sl} {d:Nat} {v:Value} (h:lkB d v L0):∀ u,DC d L0=some u→v=u:=fun u hu=>by
  unfold lkB at h;rw [hu] at h;exact h
theorem AH (h:Det P N ops i l I M d v) (next:OFPX P N ops als F0 Kf al L0 ((i,EqS M)::fp) rest ((d,v)::l) I M) (hL:lkB d v L0:=by first | exact trivial | exact rfl):OFPX P N ops als F0 Kf al L0 fp ((i,true)::rest) l I M:=⟨d,v,EqS M,M,[],fun _ e=>e▸h,rfl,by simp,lkOk hL,next⟩
theorem AY (h:Det P N ops i l I [] d v) (next:OFPX P N ops als F0 Kf al L0 ((i,EqS [])::fp) rest ((d,v)::l) I M) (hL:lkB d v L0:=by first | exact trivial | exact rfl):OFPX P N ops als F0 Kf al L0 fp ((i,true)::rest) l I M:=⟨d,v,EqS [],[],M,fun _ e=>e▸h,rfl,by simp,lkOk hL,next⟩
theorem HV {Rx Sx:Seg} (hp:M.Perm (Rx++Sx)) (h:Det P N ops i l I Rx d v) (next:OFPX P N ops als F0 Kf al L0 ((i,EqS Rx)::fp) rest ((d,v)::l) I M) (hL:lkB d v L0:=by first | exact trivial | exact rfl):OFPX P N ops als F0 Kf al L0 fp ((i,true)::rest) l I M:=⟨d,v,EqS Rx,Rx,Sx,fun _ e=>e▸h,rfl,hp,lkOk hL,next⟩
theorem GW (pr:Seg→Prop) {Rx Sx:Seg} (hq:pr Rx) (hp:M.Perm (Rx++Sx)) (h:∀ X,pr X→Det P N ops i l I X d v) (next:OFPX P N ops als F0 Kf al L0 ((i,pr)::fp) rest ((d,v)::l) I M) (hL:lkB d v L0:=by first | exact trivial | exact rfl):OFPX P N ops als F0 Kf al L0 fp ((i,true)::rest) l I M:=⟨d,v,pr,Rx,Sx,h,hq,hp,lkOk hL,next⟩
theorem ofx_ac {T:TypeId} {cs:Array Value} (ha:BT al i=some (d,.cl T cs)) (next:∀ b,OFPX P N ops als F0 Kf al L0 fp rest ((d,.pointer (some ⟨b,0,none⟩))::l) I ((b,Obj.cells cs T (0,0))::M)):OFPX P N ops als F0 Kf al L0 fp ((i,false)::rest) l I M:=by
  unfold OFPX;rw [ha];exact next
theorem ofx_bs {T:TypeId} {n:Nat} {cs:Array Value} (ha:BT al i=some (d,.bs T n cs)) (next:∀ b,OFPX P N ops als F0 Kf al L0 fp rest ((d,.slice (some ⟨b,0,none⟩) n n)::l) I ((b,Obj.cells cs T (0,0))::M)):OFPX P N ops als F0 Kf al L0 fp ((i,false)::rest) l I M:=by
  unfold OFPX;rw [ha];exact next
def dsB (ops:Array Oper) (i:Nat) (L0:Sl):Bool:=match DD ops i with | some d=>(DC d L0).isNone | none=>true
theorem dsB_nil (ops:Array Oper) (i:Nat):dsB ops i []=true:=by unfold dsB;split <;> rfl
theorem dsB_spec {L0:Sl} (h:dsB ops i L0=true):∀ d,DD ops i=some d→DC d L0=none:=fun d hd=>by
  unfold dsB at h;rw [hd] at h;simpa using h
def knB (ops:Array Oper) (als:List Nat) (al:List (Nat × Nat × Fresh)) (rest:List (Nat × Bool)):Bool:=als.all fun j=>(BT al j).isSome||rest.any fun x=>!x.2&&(wt ops j x.1&&!(isAl als x.1))
theorem knB_spec (h:knB ops als al rest=true):Known ops als al rest:=fun j hj=>by
  obtain ⟨k,hk,e⟩:=List.any_eq_true.1 (show (als.any fun k=>Nat.beq k j)=true from hj);obtain rfl:=Nat.eq_of_beq_eq_true e;have:=List.all_eq_true.1 h k hk;simp only [Bool.or_eq_true,List.any_eq_true,Bool.and_eq_true,Bool.not_eq_true'] at this;rcases this with h1 | ⟨⟨a,b⟩,h2,h3,h4,h5⟩
  · exact .inl (Option.isSome_iff_exists.1 h1)
  · simp only at h3 h4 h5
    subst h3;exact .inr ⟨a,h2,h4,h5⟩
theorem CC {Mx : Seg → Seg} (ha : BT al i = none) (hp : ∀ F, (Mx F).Perm (M ++ F))
    (h:∀ F,Stp P N ops i l I (Mx F) fun l' I' M'=>∃ M1 al' L0',M'.Perm (M1++F)∧FpOk ops i M1 fp∧Ext P N ops als al L0 al' L0' l'∧knB ops als al' rest=true∧OFPX P N ops als F0 Kf al' L0' fp rest l' I' M1) (hS:dsB ops i L0=true:=by first | exact dsB_nil _ _ | kernel_rfl):OFPX P N ops als F0 Kf al L0 fp ((i,false)::rest) l I M:=by
  unfold OFPX;rw [ha];refine ⟨dsB_spec hS,?_⟩;exact fun F _=>Stp.perm (hp F).symm (Stp.mono (h F) fun l' I' M' ⟨M1,al',L0',a,b,e,k,c⟩=>⟨M1,al',L0',a,b.all,e,knB_spec k,c⟩)
theorem DN {F M1:Seg} (hp:M'.Perm (M1++F)) (hf:FpOk ops i M1 fp) (next:OFPX P N ops als F0 Kf al L0 fp rest l I M1) (hk:knB ops als al rest=true:=by kernel_rfl):∃ M1 al' L0',M'.Perm (M1++F)∧FpOk ops i M1 fp∧Ext P N ops als al L0 al' L0' l∧knB ops als al' rest=true∧OFPX P N ops als F0 Kf al' L0' fp rest l I M1:=⟨M1,al,L0,hp,hf,.inl ⟨rfl,rfl⟩,hk,next⟩
def asB (als:List Nat) (al:List (Nat × Nat × Fresh)):Bool:=al.all fun x=>isAl als x.1
theorem alFind_in:∀ (al:List (Nat × Nat × Fresh)) {i d:Nat} {E:Fresh},BT al i=some (d,E)→(i,d,E)∈al:=by
  intro al
  induction al with
  | nil=>intro i d E h;cases h
  | cons x r ih=>
    intro i d E h;unfold BT at h;cases hb:Nat.beq x.1 i with
    | true=>
      rw [hb] at h;simp only [cond_true,Option.some.injEq] at h;have e:=Nat.eq_of_beq_eq_true hb;rcases x with ⟨x1,x2⟩
      simp only at h e;subst h e;exact List.mem_cons_self
    | false=>
      rw [hb] at h;exact List.mem_cons_of_mem _ (ih h)
theorem asB_spec (h:asB als al=true):∀ i d E,BT al i=some (d,E)→isAl als i=true:=fun i d E hi=>List.all_eq_true.1 h _ (alFind_in al hi)
theorem EM (h:Kf l I M):OFPX P N ops als F0 Kf al L0 fp [] l I M:=h
def noLooks (ops:Array Oper) (i:Nat):Bool:=match ops[i]? with | some o=>(o.looksAt ops).isEmpty | none=>false
theorem NZ (h2:noLooks ops i=true) (t:Nat):DF ops i t=false:=by
  unfold noLooks at h2;unfold DF;cases ho:ops[i]? with
  | none=>rfl
  | some o=>
    rw [ho] at h2;simp only [List.isEmpty_iff] at h2;simp [h2]
def supB (ops:Array Oper) (i:Nat) (L0:Sl):Bool:=match ops[i]? with
  | some o=>(o.looksAt ops).all fun t=>(DC t L0).isSome&&(List.range ops.size).all fun k=>!(dstB ops k t)||wt ops i k
  | none=>false
theorem supB_spec {L0:Sl} (h:supB ops i L0=true):∀ t,DF ops i t=true→∃ u,DC t L0=some u∧∀ k,DD ops k=some t→wt ops i k=true:=fun t ht=>by
  unfold supB at h;unfold DF at ht;cases ho:ops[i]? with
  | none=>rw [ho] at h;cases h
  | some o=>
    rw [ho] at h ht;simp only [List.all_eq_true,Bool.and_eq_true,List.any_eq_true,Bool.or_eq_true,Bool.not_eq_true'] at h ht;obtain ⟨u,hu,e⟩:=ht;obtain rfl:=Nat.eq_of_beq_eq_true e;obtain ⟨h1,h2⟩:=h u hu;obtain ⟨v,hv⟩:=Option.isSome_iff_exists.1 h1;refine ⟨v,hv,fun k hk=>?_⟩;rcases h2 k (List.mem_range.2 (NT hk)) with h3 | h3
    · rw [MT hk] at h3;cases h3
    · exact h3
theorem alOk_cl {T:TypeId} {cs:Array Value} (h1:DD ops i=some d) (h2:noLooks ops i=true) (h3:alAt P N ops [] i=some (d,T,cs)):AlOk P N ops [] i d (.cl T cs):=
  ⟨h1,rfl,(fun t ht=>by rw [NZ h2] at ht;cases ht),fun I M=>sal d T cs (fun b=>⟨b,rfl,rfl,rfl⟩) h3⟩
theorem KH {L0:Sl} {T:TypeId} {n:Nat} {cs:Array Value} (h1:DD ops i=some d) (h0:DC d L0=none) (h2:supB ops i L0=true) (h3:bsAt P N ops L0 i=some (d,T,n,cs)):AlOk P N ops L0 i d (.bs T n cs):=
  ⟨h1,h0,supB_spec h2,fun I M=>sbs d T n cs (fun b=>⟨b,rfl,rfl,rfl⟩) h3⟩
theorem FR:∀ i d E,BT [] i=some (d,E)→AlOk P N ops L0 i d E:=fun _ _ _ h=>by cases h
theorem IE {E:Fresh} (h:AlOk P N ops L0 i d E) (r:∀ i d E,BT al i=some (d,E)→AlOk P N ops L0 i d E):∀ i' d' E',BT ((i,d,E)::al) i'=some (d',E')→AlOk P N ops L0 i' d' E':=fun i' d' E' h'=>by
  unfold BT at h';cases hb:Nat.beq i i' with
  | true=>
    have e:=Nat.eq_of_beq_eq_true hb;rw [hb] at h';simp only [cond_true,Option.some.injEq,Prod.mk.injEq] at h';obtain ⟨rfl,rfl⟩:=h';exact e▸h
  | false=>
    rw [hb] at h';exact r i' d' E' h'
end
def alInjS (ops:Array Oper) (als:List Nat):Bool:=als.all fun i=>als.all fun j=>Nat.beq i j||!(match DD ops i,DD ops j with | some a,some b=>Nat.beq a b | _,_=>false)
theorem alInjS_spec {ops:Array Oper} {als:List Nat} (h:alInjS ops als=true):∀ i j d,isAl als i=true→isAl als j=true→DD ops i=some d→DD ops j=some d→i=j:=fun i j d hi hj h1 h2=>by
  obtain ⟨k,hk,e⟩:=List.any_eq_true.1 (show (als.any fun k=>Nat.beq k i)=true from hi);obtain rfl:=Nat.eq_of_beq_eq_true e;obtain ⟨k',hk',e'⟩:=List.any_eq_true.1 (show (als.any fun k=>Nat.beq k j)=true from hj);obtain rfl:=Nat.eq_of_beq_eq_true e';have:=List.all_eq_true.1 (List.all_eq_true.1 h _ hk) _ hk';rw [h1,h2] at this;simp only [Nat.beq_refl,Bool.not_true,Bool.or_false] at this;exact Nat.eq_of_beq_eq_true this
section
variable {ρ:Option Nat} {P:Program} {N:Nat} {Q:Exit→Act→World→Prop} {ds:List Deferred} {C:List Nat→Code} {p:List Nat} {l:Sl} {I:Imm} {M0 M F0:Seg}
theorem rdX (al : List (Nat × Nat × Fresh)) (n0 : Nat) (order : List (Nat × Bool)) (hM : M0.Perm (M ++ F0)) (hA : ∀ i d E, BT al i = some (d, E) → AlOk P N (ET (C p)) [] i d E) (h : OFPX P N (ET (C p)) (al.map Prod.fst) F0 (fun l I M => Seq (ρ := ρ) P N (ET (C p)) Q ds n0 l I (M ++ F0)) al [] [] order l I M) (hI : (alInjS (ET (C p)) (al.map Prod.fst) && (asB (al.map Prod.fst) al && knB (ET (C p)) (al.map Prod.fst) al order)) = true := by kernel_rfl)
    (hm:P.follows .mixedOrders=true:=by kernel_rfl) (hc:LF (C p)=true:=by kernel_rfl) (hok:okAllX (al.map Prod.fst) (ET (C p)) n0 order=true:=by kernel_rfl):Run (ρ:=ρ) P N (C p) Q ds l I M0:=by
  obtain ⟨id,hid⟩:=GM hc;simp only [Bool.and_eq_true] at hI;exact fun a w hS hD hW=>run_drawX _ al n0 order hm hid hok hA (asB_spec hI.2.1) (knB_spec hI.2.2) (alInjS_spec hI.1) (fun _ _ h=>by cases h) h a w hS hD (hW.perm hM)
def regB (ops:Array Oper) (L0:Sl):Bool:=L0.all fun x=>(List.range ops.size).any fun k=>dstB ops k x.1
theorem look_mem:∀ (L:Sl) {t:Nat} {u:Value},DC t L=some u→∃ x∈L,x.1=t:=by
  intro L
  induction L with
  | nil=>intro t u h;cases h
  | cons x r ih=>
    intro t u h;rcases x with ⟨k,v⟩
    unfold DC at h;cases hb:Nat.beq k t with
    | true=>exact ⟨_,List.mem_cons_self,Nat.eq_of_beq_eq_true hb⟩
    | false=>
      rw [hb] at h;obtain ⟨y,hy,e⟩:=ih h;exact ⟨y,List.mem_cons_of_mem _ hy,e⟩
theorem regB_spec {ops:Array Oper} {L0:Sl} (h:regB ops L0=true):∀ t u,DC t L0=some u→∃ k,DD ops k=some t:=fun t u ht=>by
  obtain ⟨x,hx,rfl⟩:=look_mem L0 ht;obtain ⟨k,_,hk⟩:=List.any_eq_true.1 (List.all_eq_true.1 h x hx);refine ⟨k,?_⟩;unfold dstB at hk;unfold DD;cases ho:ops[k]? with
  | none=>rw [ho] at hk;cases hk
  | some o=>
    rw [ho] at hk;simp only at hk;cases hd:o.dst with
    | none=>rw [hd] at hk;cases hk
    | some d=>
      rw [hd] at hk;simp only at hk;rw [Nat.eq_of_beq_eq_true hk] at hd
      simpa using hd
theorem rdY (L0 : Sl) (als : List Nat) (al : List (Nat × Nat × Fresh)) (n0 : Nat) (order : List (Nat × Bool)) (hM : M0.Perm (M ++ F0)) (hA : ∀ i d E, BT al i = some (d, E) → AlOk P N (ET (C p)) L0 i d E) (h : OFPX P N (ET (C p)) als F0 (fun l I M => Seq (ρ := ρ) P N (ET (C p)) Q ds n0 l I (M ++ F0)) al L0 [] order l I M) (hI : (alInjS (ET (C p)) als && (asB als al && knB (ET (C p)) als al order)) = true := by kernel_rfl)
    (hm:P.follows .mixedOrders=true:=by kernel_rfl) (hc:LF (C p)=true:=by kernel_rfl) (hok:okAllX als (ET (C p)) n0 order=true:=by kernel_rfl) (hr:regB (ET (C p)) L0=true:=by kernel_rfl):Run (ρ:=ρ) P N (C p) Q ds l I M0:=by
  obtain ⟨id,hid⟩:=GM hc;simp only [Bool.and_eq_true] at hI;exact fun a w hS hD hW=>run_drawX _ al n0 order hm hid hok hA (asB_spec hI.2.1) (knB_spec hI.2.2) (alInjS_spec hI.1) (fun t u ht=>.inl (regB_spec hr t u ht)) h a w hS hD (hW.perm hM)
end
end Go.Sl
namespace Go.Sh
open Go Go.Sl
def Rev {α:Type} (d:α) (xs zs:List α) (k:Nat):Prop:=zs.length=xs.length∧∀ p,p<xs.length→zs.getD p d=if p<k∨xs.length-k≤p then xs.getD (xs.length-1-p) d else xs.getD p d
theorem Rev.start {α:Type} (d:α) (xs:List α):Rev d xs xs 0:=⟨rfl,fun p hp=>by rw [if_neg (by omega)]⟩
end Go.Sh
namespace Go.Sl
open Go
end Go.Sl

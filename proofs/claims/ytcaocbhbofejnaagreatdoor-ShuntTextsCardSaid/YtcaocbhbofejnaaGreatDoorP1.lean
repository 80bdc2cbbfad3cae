/- A part of the proof of the laws of this seat. -/
import Derived.Test.YtcaocbhbofejnaaGreatDoorP0
import Derived.KernelRfl
import Derived.Test.YtcaocbhbofejnaaGreatDoorProg
set_option linter.unusedVariables false
set_option linter.unusedSimpArgs false
namespace Go.Sl
open Go
theorem IsSl.len {α:Type} {sz:Nat} {cell:α→Nat→Value} {dflt:α} {I:Imm} {v:Value} {xs:List α} (h:IsSl sz cell dflt I v xs):xs.length≤140737488355328:=by
  obtain ⟨_,_,_,_,_,_,h,_⟩:=h;exact h
theorem getD_cut {α:Type} (xs:List α) (d:α) (L m i:Nat) (h:i<m):((xs.drop L).take m).getD i d=xs.getD (L+i) d:=by
  simp [List.getD,List.getElem?_take,h,List.getElem?_drop]
theorem IsSl.cut {α : Type} {sz : Nat} {cell : α → Nat → Value} {dflt : α} {I : Imm} {a : Option Addr} {n c : Nat} {xs : List α} (h : IsSl sz cell dflt I (.slice a n c) xs) (L H : Nat) (hL : L ≤ H) (hH : H ≤ n) :
    IsSl sz cell dflt I (.slice (if c=L then a else a.map (·.add (L*sz))) (H-L) (c-L)) ((xs.drop L).take (H-L)):=by
  obtain ⟨a',c',b,o,h1,h2,h3,h4⟩:=h;simp only [Value.slice.injEq] at h1;obtain ⟨rfl,rfl,rfl⟩:=h1;have hlen:((xs.drop L).take (H-L)).length=H-L:=by simp;omega
  refine ⟨_,_,b,o+L*sz,by rw [hlen],by omega,by omega,⟨fun hpos=>?_,fun i hi f hf=>?_⟩⟩
  · rw [hlen] at hpos
    rw [if_neg (by omega),h4.addr (by omega)];simp [FS]
  · rw [hlen] at hi
    have:=h4.get (L+i) (by omega) f hf;rw [show o+(L+i)*sz+f=o+L*sz+i*sz+f by rw [Nat.add_mul];omega] at this;rw [getD_cut xs dflt L (H-L) i hi];exact this
theorem IsSl.cutLo {α : Type} {sz : Nat} {cell : α → Nat → Value} {dflt : α} {I : Imm} {a : Option Addr} {n c : Nat} {xs : List α} (h : IsSl sz cell dflt I (.slice a n c) xs) (L : Nat) (hL : L ≤ n) :
    IsSl sz cell dflt I (.slice (if c=L then a else a.map (·.add (L*sz))) (n-L) (c-L)) (xs.drop L):=by
  have hn:n=xs.length:=by obtain ⟨_,_,_,_,h1,_⟩:=h;simp only [Value.slice.injEq] at h1;exact h1.2.1
  have:=h.cut L n hL (Nat.le_refl _)
  rwa [List.take_of_length_le (by simp;omega)] at this
theorem IsSl.cutHi {α : Type} {sz : Nat} {cell : α → Nat → Value} {dflt : α} {I : Imm} {a : Option Addr} {n c : Nat} {xs : List α} (h : IsSl sz cell dflt I (.slice a n c) xs) (H : Nat) (hH : H ≤ n) :
    IsSl sz cell dflt I (.slice (if c=0 then a else a.map (·.add (0*sz))) (H-0) (c-0)) (xs.take H):=by
  have:=h.cut 0 H (Nat.zero_le _) hH
  rwa [List.drop_zero,Nat.sub_zero] at this
theorem IsSl.src {α:Type} {sz:Nat} {cell:α→Nat→Value} {dflt:α} {I:Imm} {M:Seg} {v:Value} {xs:List α} (h:IsSl sz cell dflt I v xs):Src I M v xs.length (FH sz cell xs):=by
  obtain ⟨a,c,b,o,rfl,h2,h3,h4⟩:=h;refine ⟨a,c,rfl,?_⟩
  by_cases h0:(FH sz cell xs)=[]
  · exact .inl h0
  · have hpos : 0 < xs.length := by
      cases xs with
      | nil=>exact absurd (by simp [FH]) h0
      | cons x xs=>simp
    refine .inr ⟨b,o,h4.addr hpos,fun k u hk=>?_⟩;have hk':=(List.getElem?_eq_some_iff.1 hk).1;rw [EC] at hk';have hsz:0<sz:=by
      rcases Nat.eq_zero_or_pos sz with e | e
      · subst e;simp at hk'
      · exact e
    have hi:k/sz<xs.length:=(Nat.div_lt_iff_lt_mul hsz).2 hk';have hf:k%sz<sz:=Nat.mod_lt _ hsz;have e:k/sz*sz+k%sz=k:=Nat.div_add_mod' k sz;have h5:=QH sz cell dflt xs (k/sz) (k%sz) hi hf;rw [e,hk] at h5;have h6:=h4.get (k/sz) hi (k%sz) hf;rw [Nat.add_assoc,e] at h6;rw [Option.some.inj h5];exact h6.sees
theorem one_enc {α:Type} {sz:Nat} {cell:α→Nat→Value} (h:∀ a f,f<sz→FC (cell a f)=true) (ys:List α):∀ c∈FH sz cell ys,FC c=true:=fun c hc=>by
  simp only [FH,List.mem_flatMap,List.mem_map,List.mem_range] at hc;obtain ⟨a,_,f,hf,rfl⟩:=hc;exact h a f hf
theorem CH (ys:List Int):∀ c∈FH 1 BA ys,FC c=true:=one_enc (fun _ _ _=>rfl) ys
theorem FD {ys:List Value} (h:ys.all FC=true):∀ c∈FH 1 AO ys,FC c=true:=fun c hc=>by
  simp only [FH,List.mem_flatMap,List.mem_map,List.mem_range,AO] at hc;obtain ⟨a,ha,f,hf,rfl⟩:=hc;exact List.all_eq_true.1 h _ ha
theorem IsSl.nil {α:Type} {sz:Nat} {cell:α→Nat→Value} {dflt:α} (I:Imm):IsSl sz cell dflt I (.slice none 0 0) ([]:List α):=
  ⟨none,0,0,0,rfl,Nat.le_refl _,by simp,⟨fun h=>by simp at h,fun i hi=>by simp at hi⟩⟩
theorem IsRows.nil (I:Imm):IsRows I (.slice none 0 0) []:=
  ⟨none,0,0,0,fun _=>undef,rfl,Nat.le_refl _,by simp,⟨fun h=>by simp at h,fun i hi=>by simp at hi⟩,fun i hi=>by simp at hi⟩
theorem parts_knownS {l:Sl} {T n:Nat} {parts:Array (Nat × Operand)} (h:(OU l (parts.toList.map (·.2))).isSome=true):∀ x∈(Op.buildSlice T n parts).operands,KH l x:=fun x hx=>by
  obtain ⟨vs,hvs⟩:=Option.isSome_iff_exists.1 h;exact (IU hvs).1 x (by simpa [Op.operands] using hx)
theorem MF {l:Sl} {y:Operand} {k:IntKind} {a:Int} {n:Nat} (h:CU l y=some (.int k a)) (e:a=(n:Int)):CU l y=some (.int k (n:Int)):=e▸h
theorem src_at {I : Imm} {M : Seg} {b n c : Nat} {cs : Array Value} {T : TypeId} {fz : Nat × Nat} {vs : List Value} (k : Nat) (h : M[k]? = some (b, Obj.cells cs T fz)) (hv : (cs.toList.drop 0).take vs.length = vs) :
    Src I M (.slice (some ⟨b,0,none⟩) n c) n vs:=⟨_,c,rfl,.inr ⟨b,0,rfl,OA k h hv⟩⟩
theorem Row.nil {α:Type} {sz:Nat} {I:Imm} {a:Option Addr} {b o:Nat} {xs:List α} {cell:Nat→Nat→Value} (h:Row sz I a b o xs.length cell) (ha:a.isNone=true):xs=[]:=by
  cases xs with
  | nil=>rfl
  | cons x r=>rw [h.addr (by simp)] at ha;cases ha
theorem CI {I : Imm} {Ms R : Seg} {b n c : Nat} {cs : Array Value} {T : TypeId} {fz : Nat × Nat} {vs : List Value} (k : Nat) (h : R[k]? = some (b, Obj.cells cs T fz)) (hv : (cs.toList.drop 0).take vs.length = vs) :
    Src I (Ms++R) (.slice (some ⟨b,0,none⟩) n c) n vs:=by
  have hm:(b,Obj.cells cs T fz)∈Ms++R:=List.mem_append_right _ (List.mem_of_getElem? h);obtain ⟨j,hj⟩:=List.mem_iff_getElem?.1 hm;exact src_at j hj hv
theorem Src.nil {I:Imm} {M:Seg}:Src I M (.slice none 0 0) 0 []:=⟨none,0,rfl,.inl rfl⟩
theorem Own.lit {α : Type} {E : TypeId} {sz : Nat} {cell : α → Nat → Value} {b n : Nat} {cs : Array Value} {xs : List α} (hc : cs = (FH sz cell xs).toArray) (hn : xs.length = n) :
    Own E sz cell (.slice (some ⟨b,0,none⟩) n n) xs [(b,Obj.cells cs E (0,0))]:=
  .inr ⟨b,n,[],by rw [hn],Nat.le_of_eq hn,by rw [List.append_nil,hc],by rw [List.append_nil,EC,hn]⟩
theorem Own.src {α:Type} {E:TypeId} {sz:Nat} {cell:α→Nat→Value} {v:Value} {xs:List α} {Ms M:Seg} {I:Imm} (h:Own E sz cell v xs Ms) (hM:∀ x∈Ms,x∈M):Src I M v xs.length (FH sz cell xs):=by
  rcases h with ⟨rfl,rfl,rfl⟩ | ⟨b,c,sp,rfl,h,rfl,hc⟩
  · exact ⟨none,0,rfl,.inl (by simp [FH])⟩
  · refine ⟨_,c,rfl,.inr ⟨b,0,rfl,fun k u hk=>⟨rfl,(FH sz cell xs++sp).toArray,E,(0,0),.inl (hM _ (by simp)),?_⟩⟩⟩
    simp only [Nat.zero_add,List.getElem?_toArray];rw [List.getElem?_append_left (List.getElem?_eq_some_iff.1 hk).1];exact hk
section
variable {ρ:Option Nat} {P:Program} {N:Nat} {fn:Func} {I I₀:Imm} {post:Value→Imm→Seg→Prop} {F M:Seg} {l:Sl} {w:World}
theorem run_load1 {a:Addr} {v:Value} (h:Sees I M a v) (st:St I M w):(load a).run P w=.ok v w:=by
  show (Sem.load Mode.plain a Sem.pure).run P w=_;simp only [Sem.run,h.cell st]
theorem OX {b off : Nat} (st : St I M w) : ∀ (vs : List Value) (i : Nat) (acc : Array Value), (∀ k v, vs[k]? = some v → Sees I M ⟨b, off + (i + k), none⟩ v) →
    (loadCellsFrom ⟨b,off,none⟩ i vs.length acc).run P w=.ok (acc++vs.toArray) w:=by
  intro vs
  induction vs with
  | nil=>intro i acc _;simp [loadCellsFrom,pure,Sem.run]
  | cons x vs ih=>
    intro i acc h;simp only [List.length_cons,loadCellsFrom];rw [Sem.run_bind,run_load1 (by rw [FS];exact h 0 x (by simp)) st];show (loadCellsFrom ⟨b,off,none⟩ (i+1) vs.length (acc.push x)).run P w=_
    rw [ih (i+1) (acc.push x) (fun k v hv=>by
      have:=h (k+1) v (by simpa using hv)
      rwa [show i+1+k=i+(k+1) by omega])]
    simp
theorem run_isAgg {t:TypeId} {b:Bool} (h:EI P t=some b):(isAgg t).run P w=.ok b w:=by
  unfold EI at h;unfold isAgg underlying;rw [Sem.run_bind,Sem.run_bind];show Result.andThen (Result.andThen (.ok P w) _) _=_;simp only [Result.andThen];cases hu:P.underlying t with
  | none=>rw [hu] at h;cases h
  | some d=>
    rw [hu] at h;cases d <;> simp only [Option.some.injEq] at h <;> subst h <;> rfl
theorem run_sizeOf {t:TypeId} {n:Nat} (h:DY P t=some n):(sizeOf t).run P w=.ok n w:=by
  unfold DY at h;unfold sizeOf typeInfo;rw [Sem.run_bind,Sem.run_bind];show Result.andThen (Result.andThen (.ok P w) _) _=_;simp only [Result.andThen];cases hu:P.info? t with
  | none=>rw [hu] at h;cases h
  | some i=>rw [hu] at h;cases h;rfl
theorem run_var {T : TypeId} {b off n : Nat} {vs : List Value} {v : Value} (st : St I M w) (hs : SeesN I M b off vs) (hn : vs.length = n) (hsz : DY P T = some n)
    (hv:(EI P T=some true∧v=.agg vs.toArray)∨(EI P T=some false∧vs=[v])):(loadVar T ⟨b,off,none⟩).run P w=.ok v w:=by
  unfold loadVar;rw [Sem.run_bind];rcases hv with ⟨ha,rfl⟩ | ⟨ha,rfl⟩
  · rw [run_isAgg ha]
    show (do pure (Value.agg (← loadCells ⟨b,off,none⟩ (← sizeOf T))):Sem Value).run P w=_;rw [Sem.run_bind,run_sizeOf hsz];show (loadCells ⟨b,off,none⟩ n >>= fun x=>pure (Value.agg x)).run P w=_;subst hn;rw [Sem.run_bind];unfold loadCells;rw [OX st vs 0 #[] (fun k v hv=>by rw [Nat.zero_add];exact hs k v hv)];simp [Result.andThen,pure,Sem.run]
  · rw [run_isAgg ha]
    show (load ⟨b,off,none⟩).run P w=_;exact run_load1 (hs 0 v (by simp)) st
theorem JZ {t : Nat} {T : TypeId} {b off n : Nat} {vs : List Value} {v : Value} (M' : Seg) (hr : fn.results = #[.cell t T]) (ht : EJ t l = some (.pointer (some ⟨b, off, none⟩))) (hsz : DY P T = some n) (hn : vs.length = n)
    (hs:SeesN I M b off vs) (hv:(EI P T=some true∧v=.agg vs.toArray)∨(EI P T=some false∧vs=[v])) (hsub:(M'++F).Sublist M) (hle:I₀.le I) (hp:post v I M') :
    Pst N (RetQ P fn I₀ post F) .ret [] l I M:=fun a w hS hD hW=>
  ⟨hD,v,by
    have:=run_var (P:=P) hW hs hn hsz hv
    simp [results,hr,hS.get t _ ht,asAddr,this,Sem.run_bind,Result.andThen,pure,Sem.run],v,I,M',rfl,hle,hp,hW.sub hsub⟩
theorem NW {t u : Nat} {T U : TypeId} {b off n b2 off2 n2 : Nat} {vs us : List Value} {v x : Value} (M' : Seg) (hr : fn.results = #[.cell t T, .cell u U]) (ht : EJ t l = some (.pointer (some ⟨b, off, none⟩))) (hsz : DY P T = some n) (hn : vs.length = n)
    (hs:SeesN I M b off vs) (hv:(EI P T=some true∧v=.agg vs.toArray)∨(EI P T=some false∧vs=[v]))
    (hu:EJ u l=some (.pointer (some ⟨b2,off2,none⟩))) (hsz2:DY P U=some n2) (hn2:us.length=n2)
    (hs2:SeesN I M b2 off2 us) (hv2:(EI P U=some true∧x=.agg us.toArray)∨(EI P U=some false∧us=[x]))
    (hsub:(M'++F).Sublist M) (hle:I₀.le I) (hp:post (.tuple #[v,x]) I M') :
    Pst N (RetQ P fn I₀ post F) .ret [] l I M:=fun a w hS hD hW=>
  ⟨hD,.tuple #[v,x],by
    have h1:=run_var (P:=P) hW hs hn hsz hv
    have h2:=run_var (P:=P) hW hs2 hn2 hsz2 hv2
    simp [results,hr,hS.get t _ ht,hS.get u _ hu,asAddr,h1,h2,Sem.run_bind,Result.andThen,pure,Sem.run],_,I,M',rfl,hle,hp,hW.sub hsub⟩
theorem GO {t u : Nat} {T : TypeId} {b off n : Nat} {vs : List Value} {v x : Value} (M' : Seg) (hr : fn.results = #[.cell t T, .tmp u]) (ht : EJ t l = some (.pointer (some ⟨b, off, none⟩))) (hsz : DY P T = some n) (hn : vs.length = n)
    (hs:SeesN I M b off vs) (hv:(EI P T=some true∧v=.agg vs.toArray)∨(EI P T=some false∧vs=[v])) (hu:EJ u l=some x)
    (hsub:(M'++F).Sublist M) (hle:I₀.le I) (hp:post (.tuple #[v,x]) I M') :
    Pst N (RetQ P fn I₀ post F) .ret [] l I M:=fun a w hS hD hW=>
  ⟨hD,.tuple #[v,x],by
    have h1:=run_var (P:=P) hW hs hn hsz hv
    simp [results,hr,hS.get t _ ht,hS.get u _ hu,asAddr,h1,Sem.run_bind,Result.andThen,pure,Sem.run],_,I,M',rfl,hle,hp,hW.sub hsub⟩
end
def RowsV (I:Imm) (vs:List Value) (xss:List (List Int)):Prop:=vs.length=xss.length∧∀ i,i<xss.length→BK I (vs.getD i undef) (xss.getD i [])
theorem RowsV.mono {I J:Imm} {vs:List Value} {xss:List (List Int)} (h:RowsV I vs xss) (le:I.le J):RowsV J vs xss:=⟨h.1,fun i hi=>(h.2 i hi).mono le⟩
theorem RowsV.nil (I:Imm):RowsV I [] []:=⟨rfl,fun i hi=>by simp at hi⟩
theorem RowsV.snoc {I:Imm} {vs:List Value} {xss:List (List Int)} {v:Value} {xs:List Int} (h:RowsV I vs xss) (hv:BK I v xs):RowsV I (vs++[v]) (xss++[xs]):=by
  refine ⟨by simp [h.1],fun i hi=>?_⟩
  by_cases e:i<xss.length
  · have:=h.2 i e
    simp only [List.getD,List.getElem?_append_left (h.1▸e),List.getElem?_append_left e] at this ⊢;exact this
  · have e1:i=xss.length:=by simp at hi;omega
    subst e1;have h1:=h.1;simp only [List.getD];rw [List.getElem?_append_right (by omega),List.getElem?_append_right (by omega),h1]
    simpa using hv
theorem RowsV.isRows {I:Imm} {vs:List Value} {xss:List (List Int)} {v:Value} (h:RowsV I vs xss) (hv:PG I v vs):IsRows I v xss:=by
  obtain ⟨a,c,b,o,h1,h2,h3,h4⟩:=hv;rw [h.1] at h1 h2 h3 h4;exact ⟨a,c,b,o,fun i=>vs.getD i undef,h1,h2,h3,⟨h4.addr,fun i hi f hf=>h4.get i hi f hf⟩,h.2⟩
theorem pull (A Ms R:Seg):(A++(Ms++R)).Perm (Ms++(A++R)):=List.perm_append_comm_assoc A Ms R
theorem St.own_freeze {α : Type} {E : TypeId} {sz : Nat} {cell : α → Nat → Value} {ρ : Option Nat} {P : Program} {N : Nat} {c : Code} {Q : Exit → Act → World → Prop} {ds : List Deferred} {l : Sl} {I : Imm} {M A B Ms : Seg} {v : Value} {xs : List α} (dflt : α)
    (h:Own E sz cell v xs Ms) (hl:xs.length≤140737488355328) (hM:M.Perm (Ms++A)) (hA:A.Perm B)
    (next:∀ J,I.le J→IsSl sz cell dflt J v xs→Run (ρ:=ρ) P N c Q ds l J B):Run (ρ:=ρ) P N c Q ds l I M:=fun a w hS hD hW=>by
  obtain ⟨J,h1,h2,h3⟩:=h.freeze dflt hl (hW.perm hM);exact next J h1 h2 a w hS hD (h3.perm hA)
theorem BG {I:Imm} {M:Seg} {b off n:Nat} {cs:Array Value} {T:TypeId} {fz:Nat × Nat} {vs:List Value} (h:(b,Obj.cells cs T fz)∈M) (hv:(cs.toList.drop off).take n=vs):SeesN I M b off vs:=by
  obtain ⟨j,hj⟩:=List.mem_iff_getElem?.1 h;exact OA j hj hv
theorem CK {P : Program} {N i : Nat} {ops : Array Oper} {R S : Seg} {Kfin : Sl → Imm → Seg → Prop} {rest : List (Nat × Bool)} {l : Sl} {I : Imm}
    (h:Stp P N ops i l I (R++S) (fun l' I' M'=>∃ S',M'.Perm (R++S')∧OFP P N ops R Kfin rest l' I' S')):OFP P N ops R Kfin ((i,false)::rest) l I S:=h
theorem AW {P : Program} {N : Nat} {ops : Array Oper} {R M S' : Seg} {Kfin : Sl → Imm → Seg → Prop} {rest : List (Nat × Bool)} {l : Sl} {I : Imm}
    (p:M.Perm (R++S')) (next:OFP P N ops R Kfin rest l I S'):∃ S',M.Perm (R++S')∧OFP P N ops R Kfin rest l I S':=⟨S',p,next⟩
theorem FB {ρ : Option Nat} {P : Program} {N n0 : Nat} {ops : Array Oper} {Q : Exit → Act → World → Prop} {ds : List Deferred} {R S : Seg} {l : Sl} {I : Imm} (h : Seq (ρ := ρ) P N ops Q ds n0 l I (R ++ S)) :
    OFP P N ops R (fun l I S=>Seq (ρ:=ρ) P N ops Q ds n0 l I (R++S)) [] l I S:=h
theorem pst_mem {N:Nat} {Q:Exit→Act→World→Prop} {e:Exit} {ds:List Deferred} {l:Sl} {I I':Imm} {M M':Seg} (s:∀ w,St I M w→St I' M' w) (next:Pst N Q e ds l I' M'):Pst N Q e ds l I M:=
  fun a w hS hD hW=>next a w hS hD (s w hW)
theorem seq_freeze {α : Type} {E : TypeId} {sz : Nat} {cell : α → Nat → Value} {ρ : Option Nat} {P : Program} {N : Nat} {ops : Array Oper} {i : Nat} {Q : Exit → Act → World → Prop} {ds : List Deferred} {l : Sl} {I : Imm} {M A B Ms : Seg} {v : Value} {xs : List α} (dflt : α)
    (h:Own E sz cell v xs Ms) (hl:xs.length≤140737488355328) (hM:M.Perm (Ms++A)) (hA:A.Perm B)
    (next:∀ J,I.le J→IsSl sz cell dflt J v xs→Seq (ρ:=ρ) P N ops Q ds i l J B):Seq (ρ:=ρ) P N ops Q ds i l I M:=fun a w hS hD hW=>by
  obtain ⟨J,h1,h2,h3⟩:=h.freeze dflt hl (hW.perm hM);exact next J h1 h2 a w hS hD (h3.perm hA)
end Go.Sl
namespace Go.Sh
open Go Go.Sl
structure Car where
  len:Int
  wt:Int
  brk:Int
  grp:Int
  pipe:Bool
  heat:Bool
  deriving DecidableEq
structure Shift where
  frm:Int
  to:Int
  many:Int
  deriving DecidableEq
structure Yard where
  cars:List Car
  room:List Int
  tracks:List (List Int)
  deriving DecidableEq
def AD:Car:=⟨0,0,0,0,false,false⟩
def BB:Shift:=⟨0,0,0⟩
def CV (c:Car):Nat→Value
  | 0=>.int .i64 c.len
  | 1=>.int .i64 c.wt
  | 2=>.int .i64 c.brk
  | 3=>.int .i64 c.grp
  | 4=>.bool c.pipe
  | _=>.bool c.heat
def DL (s:Shift):Nat→Value
  | 0=>.int .i64 s.frm
  | 1=>.int .i64 s.to
  | _=>.int .i64 s.many
abbrev EZ:=IsSl 6 CV AD
abbrev NF:=IsSl 3 DL BB
def IsYard (I:Imm) (v:Value) (Y:Yard):Prop:=∃ v1 v2 v3,v=.agg #[v1,v2,v3]∧EZ I v1 Y.cars∧BK I v2 Y.room∧IsRows I v3 Y.tracks
theorem IsYard.mono {I J:Imm} {v:Value} {Y:Yard} (h:IsYard I v Y) (le:I.le J):IsYard J v Y:=by
  obtain ⟨v1,v2,v3,h1,h2,h3,h4⟩:=h;exact ⟨v1,v2,v3,h1,h2.mono le,h3.mono le,h4.mono le⟩
theorem BS {I:Imm} {v1 v2 v3:Value} {cs:List Car} {r:List Int} {t:List (List Int)} (h1:EZ I v1 cs) (h2:BK I v2 r) (h3:IsRows I v3 t):IsYard I (.agg #[v1,v2,v3]) ⟨cs,r,t⟩:=
  ⟨v1,v2,v3,rfl,h1,h2,h3⟩
theorem GG {I : Imm} {a : Option Addr} {b o n : Nat} {cs : List Car} (h : Row 6 I a b o n (fun i f => CV (cs.getD i AD) f)) {M : Seg} (i : Nat) (hi : i < n) (f : Nat) (hf : f < 6) {v : Value} (hv : CV (cs.getD i AD) f = v) :
    Sees I M ⟨b,o+i*6+f,none⟩ v:=hv▸(h.get i hi f hf).sees
theorem shifts_get {I : Imm} {a : Option Addr} {b o n : Nat} {cs : List Shift} (h : Row 3 I a b o n (fun i f => DL (cs.getD i BB) f)) {M : Seg} (i : Nat) (hi : i < n) (f : Nat) (hf : f < 3) {v : Value} (hv : DL (cs.getD i BB) f = v) :
    Sees I M ⟨b,o+i*3+f,none⟩ v:=hv▸(h.get i hi f hf).sees
def carVals (c:Car):List Value:=[.int .i64 c.len,.int .i64 c.wt,.int .i64 c.brk,.int .i64 c.grp,.bool c.pipe,.bool c.heat]
def shiftVals (s:Shift):List Value:=[.int .i64 s.frm,.int .i64 s.to,.int .i64 s.many]
theorem JU {I:Imm} {a:Option Addr} {b o n:Nat} {cs:List Car} (h:Row 6 I a b o n (fun i f=>CV (cs.getD i AD) f)) {M:Seg} (i:Nat) (hi:i<n):SeesN I M b (o+i*6) (carVals (cs.getD i AD)):=fun k v hv=>by
  have hk:k<6:=(List.getElem?_eq_some_iff.1 hv).1;refine GG h i hi k hk ?_
  match k,hk with
  | 0,_=>exact Option.some.inj hv
  | 1,_=>exact Option.some.inj hv
  | 2,_=>exact Option.some.inj hv
  | 3,_=>exact Option.some.inj hv
  | 4,_=>exact Option.some.inj hv
  | 5,_=>exact Option.some.inj hv
theorem MZ {I:Imm} {a:Option Addr} {b o n:Nat} {cs:List Shift} (h:Row 3 I a b o n (fun i f=>DL (cs.getD i BB) f)) {M:Seg} (i:Nat) (hi:i<n):SeesN I M b (o+i*3) (shiftVals (cs.getD i BB)):=fun k v hv=>by
  have hk:k<3:=(List.getElem?_eq_some_iff.1 hv).1;refine shifts_get h i hi k hk ?_
  match k,hk with
  | 0,_=>exact Option.some.inj hv
  | 1,_=>exact Option.some.inj hv
  | 2,_=>exact Option.some.inj hv
theorem ED (ys:List Car):∀ c∈FH 6 CV ys,FC c=true:=one_enc (fun a f _=>by
  match f with
  | 0=>rfl
  | 1=>rfl
  | 2=>rfl
  | 3=>rfl
  | 4=>rfl
  | _+5=>rfl) ys
theorem one_shiftCell (ys:List Shift):∀ c∈FH 3 DL ys,FC c=true:=one_enc (fun a f _=>by
  match f with
  | 0=>rfl
  | 1=>rfl
  | _+2=>rfl) ys
end Go.Sh
namespace Go.Sl
open Go
inductive FK where
  | i (k:IntKind)
  | b
  deriving DecidableEq
def tyFK (P:Program) (t:TypeId):Option FK:=
  match P.underlying t with
  | some (.int k)=>some (.i k)
  | some .bool=>some .b
  | _=>none
def flatFs (P:Program):List Field→Option (List (Nat × FK))
  | []=>some []
  | f::r=>if f.name="_" then none else match tyFK P f.type,flatFs P r with
    | some k,some l=>some ((f.offset,k)::l)
    | _,_=>none
def tyFlat (P:Program) (t:TypeId):Option (List (Nat × FK)):=
  match P.underlying t with
  | some (.struct fs)=>if P.stoodInHeld t then none else if P.eqGuardType P.depth t then none else flatFs P fs.toList
  | _=>none
def vFK:Value→Option FK
  | .int k _=>some (.i k)
  | .bool _=>some .b
  | _=>none
def scEq:Value→Value→Bool
  | .int _ a,.int _ b=>a == b
  | .bool a,.bool b=>a == b
  | _,_=>false
def flatOk (xs ys:Array Value):List (Nat × FK)→Bool
  | []=>true
  | (o,k)::r=>(match xs[o]?,ys[o]? with
    | some a,some b=>decide (vFK a=some k)&&decide (vFK b=some k)
    | _,_=>false)&&flatOk xs ys r
def flatEq (xs ys:Array Value):List (Nat × FK)→Bool
  | []=>true
  | (o,_)::r=>(match xs[o]?,ys[o]? with
    | some a,some b=>scEq a b
    | _,_=>false)&&flatEq xs ys r
section
variable {ρ:Option Nat} {P:Program} {N:Nat} {ops:Array Oper} {i:Nat} {l:Sl} {I:Imm} {R M:Seg} {d:Nat} {ty:TypeId} {gd:Option (Nat × Bool)}
theorem tyFK_spec {t:TypeId} {k:FK} (h:tyFK P t=some k):(match k with | .i k=>P.underlying t=some (.int k) | .b=>P.underlying t=some .bool):=by
  unfold tyFK at h
  split at h
  · cases h;assumption
  · cases h;assumption
  · cases h
theorem wpL_part {t:TypeId} {k:FK} {cs:Array Value} {off:Nat} {v:Value} {Q:Value→Seg→Prop} (h:tyFK P t=some k) (hv:cs[off]?=some v) (hq:Q v M):wpL P (part t cs off) Q I M:=by
  unfold part;have ha:EI P t=some false:=by
    have:=tyFK_spec h;unfold EI;cases k <;> (simp only at this;rw [this])
  rw [AC,LW ha];simp only [Bool.false_eq_true,if_false,hv];exact hq
theorem wpL_scalar {t:TypeId} {k:FK} {x y:Value} {n:Nat} {Q:Bool→Seg→Prop} (h:tyFK P t=some k) (hx:vFK x=some k) (hy:vFK y=some k) (hq:Q (scEq x y) M):wpL P (Op.equalIn (n+1) t x y) Q I M:=by
  have hu:=tyFK_spec h;unfold Op.equalIn;cases k with
  | i k=>
    cases x <;> simp [vFK] at hx
    cases y <;> simp [vFK] at hy
    subst hx;subst hy;rw [AC,AF hu];simp only [if_true];exact hq
  | b=>
    cases x <;> simp [vFK] at hx
    cases y <;> simp [vFK] at hy
    rw [AC,AF hu];exact hq
theorem wpL_fields {n : Nat} {xs ys : Array Value} {Q : Bool → Seg → Prop} : ∀ (fs : List Field) (L : List (Nat × FK)), flatFs P fs = some L → flatOk xs ys L = true → Q (flatEq xs ys L) M →
    wpL P (do
      for f in fs do
        if f.name≠"_" then
          if !(← Op.equalIn (n+1) f.type (← part f.type xs f.offset) (← part f.type ys f.offset)) then return false
      pure true:Sem Bool) Q I M:=by
  intro fs
  induction fs with
  | nil=>intro L hL _ hq;simp only [flatFs,Option.some.injEq] at hL;subst hL;exact hq
  | cons f fs ih=>
    intro L hL hok hq;simp only [flatFs] at hL
    split at hL
    · cases hL
    · rename_i hne
      split at hL
      · rename_i k l2 hk hl2
        cases hL;simp only [flatOk,Bool.and_eq_true] at hok;obtain ⟨h1,h2⟩:=hok;cases hx:xs[f.offset]? with
        | none=>simp [hx] at h1
        | some a=>
          cases hy:ys[f.offset]? with
          | none=>simp [hx,hy] at h1
          | some b=>
            simp only [hx,hy,Bool.and_eq_true,decide_eq_true_eq] at h1;have key:=ih l2 hl2 h2;simp only [flatEq,hx,hy] at hq;simp only [List.forIn_cons] at key ⊢;rw [AC,AC];simp only [ne_eq,hne,not_false_eq_true,if_true];rw [AC];refine wpL_part hk hx ?_;rw [AC];refine wpL_part hk hy ?_;rw [AC];refine wpL_scalar hk h1.1 h1.2 ?_;cases hb:scEq a b with
            | false=>
              rw [hb] at hq;exact hq
            | true=>
              rw [hb,Bool.true_and] at hq;have:=key hq;rw [AC] at this;exact this
      · cases hL
theorem tyFlat_spec {t:TypeId} {L:List (Nat × FK)} (h:tyFlat P t=some L):∃ fs,P.underlying t=some (.struct fs)∧P.stoodInHeld t=false∧P.eqGuardType P.depth t=false∧flatFs P fs.toList=some L:=by
  unfold tyFlat at h
  split at h
  · rename_i fs hu
    split at h
    · cases h
    · rename_i h1
      split at h
      · cases h
      · rename_i h2
        exact ⟨fs,hu,by simpa using h1,by simpa using h2,h⟩
  · cases h
theorem wpL_struct {t : TypeId} {L : List (Nat × FK)} {xs ys : Array Value} {n : Nat} {Q : Bool → Seg → Prop} (h : tyFlat P t = some L) (hok : flatOk xs ys L = true) (hq : Q (flatEq xs ys L) M) :
    wpL P (Op.equalIn (n+2) t (.agg xs) (.agg ys)) Q I M:=by
  obtain ⟨fs,hu,hs,_,hf⟩:=tyFlat_spec h;unfold Op.equalIn;rw [AC,AF hu];show wpL P (program >>= _) Q I M;rw [AC];show wpL P _ Q I M;simp only [hs,Bool.false_eq_true,if_false];have:=wpL_fields (P:=P) (n:=n) (xs:=xs) (ys:=ys) (I:=I) (M:=M) fs.toList L hf hok hq;simp only [Array.forIn_toList] at this;exact this
theorem det_neqAgg {x y : Operand} {T T' : TypeId} {L : List (Nat × FK)} {xs ys : Array Value} {c : Bool} (hop : GL ops N i = some (some d, .binOp .neq T x y T', ty, gd)) (hg : FR ops l gd = some true) (hT : tyFlat P T = some L)
    (hx:CU l x=some (.agg xs)) (hy:CU l y=some (.agg ys)) (hok:flatOk xs ys L=true) (hc:flatEq xs ys L=c):Det P N ops i l I R d (.bool (!c)):=
  EM hop hg (GW hx hy) fun I' M'=>by
    show wpL P ((do eqGuard .neq T x y (rho l x) (rho l y);binOp .neq T (rho l x) (rho l y)) >>= fun x=>pure (Next.value x)) _ I' M';rw [BN hx,BN hy];refine DM ?_;rw [AC];obtain ⟨fs,hu,hs,hg',hf⟩:=tyFlat_spec hT;show wpL P (if (!P.eqGuardType P.depth T)=true then pure () else _:Sem Unit) _ I' M';simp only [hg',Bool.not_false,if_true];show wpL P (Op.equalIn 10000 T (.agg xs) (.agg ys) >>= fun b=>pure (Value.bool (!b))) _ I' M';rw [AC];exact wpL_struct hT hok ⟨by rw [hc],rfl⟩
end
structure ORow (sz:Nat) (Ms:Seg) (a:Option Addr) (b n:Nat) (cell:Nat→Nat→Value):Prop where
  addr:0<n→a=some ⟨b,0,none⟩
  get:∀ i,i<n→∀ f,f<sz→∀ (I:Imm) (M:Seg),(∀ x∈Ms,x∈M)→Sees I M ⟨b,0+i*sz+f,none⟩ (cell i f)
theorem Own.row {α : Type} {E sz : Nat} {cell : α → Nat → Value} {a : Option Addr} {n c : Nat} {xs : List α} {Ms : Seg} (dflt : α) (h : Own E sz cell (.slice a n c) xs Ms) :
    ∃ b,ORow sz Ms a b xs.length (fun i f=>cell (xs.getD i dflt) f):=by
  rcases h with ⟨hv,rfl,rfl⟩ | ⟨b,c',sp,hv,hc,rfl,hlen⟩
  · exact ⟨0,fun h=>by simp at h,fun i hi=>by simp at hi⟩
  · simp only [Value.slice.injEq] at hv
    obtain ⟨rfl,_,_⟩:=hv;refine ⟨b,fun _=>rfl,fun i hi f hf I M hM=>?_⟩;rw [Nat.zero_add];exact Own.sees (E:=E) (c:=c') (sp:=sp) dflt (hM (b,Obj.cells (FH sz cell xs++sp).toArray E (0,0)) (List.mem_singleton.2 rfl)) i f hi hf
theorem encL_set {α : Type} (sz : Nat) (cell : α → Nat → Value) (dflt : α) (y : α) (v : Value) (g : Nat) (hy : ∀ f, f < sz → f ≠ g → ∀ x, x = dflt → True) : ∀ (xs : List α) (i : Nat), i < xs.length → g < sz →
    (∀ f,f<sz→cell y f=if f=g then v else cell (xs.getD i dflt) f)→FH sz cell (xs.set i y)=(FH sz cell xs).set (i*sz+g) v:=by
  intro xs
  induction xs with
  | nil=>intro i h;simp at h
  | cons x xs ih=>
    intro i hi hg hc;have e:∀ (z:α) (zs:List α),FH sz cell (z::zs)=(List.range sz).map (cell z)++FH sz cell zs:=fun z zs=>by simp [FH]
    cases i with
    | zero=>
      rw [List.set_cons_zero,e,e,Nat.zero_mul,Nat.zero_add,List.set_append_left _ _ (by simpa using hg)]
      congr 1
      apply List.ext_getElem?
      intro k;rw [List.getElem?_set]
      by_cases hk:k<sz
      · have:=hc k hk
        simp only [List.getD_cons_zero] at this
        by_cases hkg:g=k
        · subst hkg;simp [hg,this]
        · rw [if_neg hkg];simp [hk,this,Ne.symm hkg]
      · have:g≠k:=by omega
        rw [if_neg this];simp [hk]
    | succ i=>
      rw [List.set_cons_succ,e,e,ih i (by simpa using hi) hg (fun f hf=>by simpa using hc f hf),List.set_append_right _ _ (by simp [Nat.succ_mul];omega)]
      congr 2
      simp [Nat.succ_mul];omega
theorem setRow_one (cs:Array Value) (off:Nat) (v:Value):IX cs off [v]=cs.setIfInBounds off v:=by simp [IX]
section
variable {ρ:Option Nat} {P:Program} {N:Nat} {ops:Array Oper} {i:Nat} {l:Sl} {I:Imm} {M:Seg} {ty:TypeId} {gd:Option (Nat × Bool)} {K:Sl→Imm→Seg→Prop}
theorem FA {α : Type} {T : TypeId} {x y : Operand} {v u : Value} {E sz : Nat} {cell : α → Nat → Value} {a : Option Addr} {n c b : Nat} {xs : List α} {Ms R : Seg} {rc : Nat → Nat → Value} (dflt : α) (j g : Nat) (z : α)
    (hop:GL ops N i=some (none,.store T x y,ty,gd)) (hg:FR ops l gd=some true) (own:Own E sz cell (.slice a n c) xs Ms) (row:ORow sz Ms a b xs.length rc) (hj:j<xs.length) (hgs:g<sz)
    (hx:CU l x=some (.pointer (some ⟨b,0+j*sz+g,none⟩))) (hy:CU l y=some v) (hsz:DY P T=some 1) (hv1:v.cells.toList=[u]) (hone:FC u=true)
    (hc:∀ f,f<sz→cell z f=if f=g then u else cell (xs.getD j dflt) f) (hM:M.Perm (Ms++R))
    (next:∀ Ms',Own E sz cell (.slice a n c) (xs.set j z) Ms'→K l I (Ms'++R)):Stp P N ops i l I M K:=by
  have ha:=row.addr (by omega);rcases own with ⟨hv,rfl,rfl⟩ | ⟨b',c',sp,hv,hcap,rfl,hlen⟩
  · simp at hj
  · simp only [Value.slice.injEq] at hv
    obtain ⟨rfl,rfl,rfl⟩:=hv;simp only [Option.some.injEq,Addr.mk.injEq,and_true] at ha;subst ha;refine stp_of_wpL' hop hg (GW hx hy) hM ?_;show wpL P (Instr.storeAt T (rho l x) (rho l y) >>= fun _=>pure Next.skip) _ I _;rw [BN hx,BN hy,AC];show wpL P (storeVar T ⟨b',0+j*sz+g,none⟩ v) _ I _;unfold storeVar;rw [AC,CX hsz];have hl:v.cells.size=1:=by rw [← Array.length_toList,hv1];rfl
    rw [if_neg (by simp [hl])];show wpL P (storeCells ⟨b',0+j*sz+g,none⟩ v.cells.toList) _ I _;rw [hv1];have hlt:0+j*sz+g<(FH sz cell xs).length:=by
      rw [EC];have:j*sz+sz≤xs.length*sz:=by rw [← Nat.succ_mul];exact Nat.mul_le_mul_right _ hj
      omega
    refine JS (T:=E) (k:=0) [u] 0 _ (FH sz cell xs++sp).toArray _ (by simp) ?_ (fun w hw=>by simp at hw;subst hw;exact hone) ?_
    · simp only [List.size_toArray,List.length_append,List.length_cons,List.length_nil];omega
    · refine ⟨undef,_,.inr ⟨rfl,rfl⟩,List.Sublist.refl _,?_⟩
      rw [Nat.add_zero,setRow_one];have e2:(FH sz cell xs++sp).toArray.setIfInBounds (0+j*sz+g) u=(FH sz cell (xs.set j z)++sp).toArray:=by
        rw [encL_set sz cell dflt z u g (fun _ _ _ _ _=>trivial) xs j hj hgs hc,List.setIfInBounds_toArray,List.set_append_left _ _ hlt];simp
      rw [e2];exact next _ (.inr ⟨b',c,sp,by simp,by simpa using hcap,rfl,by rw [← hlen,List.length_append,List.length_append,EC,EC,List.length_set]⟩)
end
theorem RowsV.set {I:Imm} {vs:List Value} {xss:List (List Int)} {v:Value} {xs:List Int} (h:RowsV I vs xss) (hv:BK I v xs) (j:Nat):RowsV I (vs.set j v) (xss.set j xs):=by
  refine ⟨by simp [h.1],fun i hi=>?_⟩;rw [List.length_set] at hi;have h0:=h.2 i hi;simp only [List.getD] at h0 ⊢;rw [List.getElem?_set,List.getElem?_set]
  by_cases e:j=i
  · subst e;simpa [hi,h.1] using hv
  · rw [if_neg e,if_neg e];exact h0
inductive OwnEach (E:TypeId):List Value→List (List Int)→Seg→Prop
  | nil:OwnEach E [] [] []
  | cons {v:Value} {xs:List Int} {vs:List Value} {xss:List (List Int)} {Ms R:Seg}:Own E 1 BA v xs Ms→OwnEach E vs xss R→OwnEach E (v::vs) (xs::xss) (Ms++R)
theorem OwnEach.length {E:TypeId} {vs:List Value} {xss:List (List Int)} {M:Seg} (h:OwnEach E vs xss M):vs.length=xss.length:=by
  induction h with
  | nil=>rfl
  | cons _ _ ih=>simp [ih]
theorem OwnEach.pull {E : TypeId} {vs : List Value} {xss : List (List Int)} {M : Seg} (h : OwnEach E vs xss M) : ∀ i, i < xss.length →
    ∃ Ms R,Own E 1 BA (vs.getD i undef) (xss.getD i []) Ms∧M.Perm (Ms++R)∧∀ v' xs' Ms',Own E 1 BA v' xs' Ms'→∃ M',OwnEach E (vs.set i v') (xss.set i xs') M'∧M'.Perm (Ms'++R):=by
  induction h with
  | nil=>intro i hi;simp at hi
  | @cons v xs vs xss Ms R h1 h2 ih=>
    intro i hi;cases i with
    | zero=>exact ⟨Ms,R,h1,List.Perm.refl _,fun v' xs' Ms' h'=>⟨Ms'++R,.cons h' h2,List.Perm.refl _⟩⟩
    | succ i=>
      obtain ⟨Ms2,R2,ho,hp,hk⟩:=ih i (by simpa using hi);refine ⟨Ms2,Ms++R2,by simpa using ho,(List.Perm.append_left Ms hp).trans (List.perm_append_comm_assoc _ _ _),fun v' xs' Ms' h'=>?_⟩;obtain ⟨M',hm,hp'⟩:=hk v' xs' Ms' h';exact ⟨Ms++M',.cons h1 hm,(List.Perm.append_left Ms hp').trans (List.perm_append_comm_assoc _ _ _)⟩
theorem OwnEach.snoc {E : TypeId} {vs : List Value} {xss : List (List Int)} {M : Seg} (h : OwnEach E vs xss M) {v : Value} {xs : List Int} {Ms : Seg} (ho : Own E 1 BA v xs Ms) :
    OwnEach E (vs++[v]) (xss++[xs]) (M++Ms):=by
  induction h with
  | nil=>
    have:=OwnEach.cons ho (OwnEach.nil (E:=E))
    simpa using this
  | cons h1 h2 ih=>rw [List.append_assoc];exact .cons h1 ih
theorem OwnEach.nils (E:TypeId) (n:Nat):OwnEach E (List.replicate n (.slice none 0 0)) (List.replicate n []) []:=by
  induction n with
  | zero=>exact .nil
  | succ n ih=>exact OwnEach.cons (Own.nil E 1 BA) ih
theorem OwnEach.freeze {E : TypeId} {vs : List Value} {xss : List (List Int)} {M : Seg} (h : OwnEach E vs xss M) : ∀ {I : Imm} {R : Seg} {w : World}, (∀ xs ∈ xss, xs.length ≤ 140737488355328) → St I (M ++ R) w →
    ∃ J,I.le J∧RowsV J vs xss∧St J R w:=by
  induction h with
  | nil=>intro I R w _ st;exact ⟨I,Imm.le.refl I,RowsV.nil I,st⟩
  | @cons v xs vs xss Ms M2 h1 h2 ih=>
    intro I R w hl st;rw [List.append_assoc] at st;obtain ⟨J,hle,hs,st1⟩:=h1.freeze 0 (hl xs (by simp)) st;obtain ⟨K,hle2,hr,st2⟩:=ih (fun y hy=>hl y (by simp [hy])) st1;refine ⟨K,hle.trans hle2,⟨by simp [hr.1],fun i hi=>?_⟩,st2⟩;cases i with
    | zero=>simpa using hs.mono hle2
    | succ i=>simpa using hr.2 i (by simpa using hi)
def entOf {κ:Type} (enc:κ→Value) (x:κ × Value):Value × Value:=(enc x.1,x.2)
def MapIs {κ:Type} (enc:κ→Value) (es:Array MapEntry) (kvs:List (κ × Value)):Prop:=es.toList.map (fun e=>(e.key,e.val))=kvs.map (entOf enc)
theorem MapIs.nil {κ:Type} (enc:κ→Value):MapIs enc #[] []:=rfl
theorem MapIs.size {κ:Type} {enc:κ→Value} {es:Array MapEntry} {kvs:List (κ × Value)} (h:MapIs enc es kvs):es.size=kvs.length:=by
  have:=congrArg List.length h
  simpa using this
def HZ {κ:Type} [DecidableEq κ] (k:κ):List (κ × Value)→Nat→Option (Nat × Value)
  | [],_=>none
  | x::r,i=>if x.1=k then some (i,x.2) else HZ k r (i+1)
def upd {κ:Type} [DecidableEq κ] (k:κ) (v:Value):List (κ × Value)→List (κ × Value)
  | []=>[(k,v)]
  | x::r=>if x.1=k then (k,v)::r else x::upd k v r
def del {κ:Type} [DecidableEq κ] (k:κ):List (κ × Value)→List (κ × Value)
  | []=>[]
  | x::r=>if x.1=k then r else x::del k r
def QB {κ:Type} [DecidableEq κ] (k:κ):List (κ × Value)→Option Value
  | []=>none
  | x::r=>if x.1=k then some x.2 else QB k r
theorem findKv_get {κ:Type} [DecidableEq κ] (k:κ):∀ (kvs:List (κ × Value)) (i:Nat),(HZ k kvs i).map Prod.snd=QB k kvs:=by
  intro kvs
  induction kvs with
  | nil=>intro i;rfl
  | cons x r ih=>intro i;simp only [HZ,QB];split <;> simp_all
theorem ON {κ : Type} [DecidableEq κ] (k : κ) (v : Value) : ∀ (kvs : List (κ × Value)) (i : Nat), (match HZ k kvs i with
    | some (j,_)=>i≤j∧upd k v kvs=kvs.set (j-i) (k,v)∧del k kvs=kvs.eraseIdx (j-i)∧(kvs[j-i]?).map Prod.fst=some k
    | none=>upd k v kvs=kvs++[(k,v)]∧del k kvs=kvs):=by
  intro kvs
  induction kvs with
  | nil=>intro i;exact ⟨rfl,rfl⟩
  | cons x r ih=>
    intro i;simp only [HZ,upd,del]
    by_cases h:x.1=k
    · rw [if_pos h,if_pos h,if_pos h]
      simp [h]
    · rw [if_neg h,if_neg h,if_neg h]
      have:=ih (i+1);cases hf:HZ k r (i+1) with
      | none=>rw [hf] at this;simp only at this ⊢;exact ⟨by rw [this.1];rfl,by rw [this.2]⟩
      | some y=>
        obtain ⟨j,u⟩:=y;rw [hf] at this;simp only at this ⊢;obtain ⟨h1,h2,h3,h4⟩:=this;have e:j-i=(j-(i+1))+1:=by omega
        refine ⟨by omega,?_,?_,?_⟩
        · rw [e,List.set_cons_succ,h2]
        · rw [e,List.eraseIdx_cons_succ,h3]
        · rw [e];simpa using h4
structure KeyOk (P:Program) (kt:TypeId) {κ:Type} [DecidableEq κ] (enc:κ→Value):Prop where
  inj:∀ a b,enc a=enc b→a=b
  check:∀ (b:Bool) (k:κ) (Q:Unit→Seg→Prop) (I:Imm) (M:Seg),Q () M→wpL P (Instr.checkKey b 10000 kt (enc k)) Q I M
  find:∀ (k:κ) (es:List MapEntry) (kvs:List (κ × Value)) (Q:Option (Nat × Value)→Seg→Prop) (I:Imm) (M:Seg),es.map (fun e=>(e.key,e.val))=kvs.map (entOf enc) →
    Q (HZ k kvs 0) M→wpL P (Instr.findKey kt (enc k) es) Q I M
def encI (x:Int):Value:=.int .i64 x
theorem findNow_int {k : Int} {kd : TypeDesc} (hk : kd = .int .i64) : ∀ (es : List MapEntry) (kvs : List (Int × Value)) (i : Nat), es.map (fun e => (e.key, e.val)) = kvs.map (entOf encI) →
    Instr.findNow kd (encI k) es i=some (HZ k kvs i):=by
  subst hk;intro es
  induction es with
  | nil=>intro kvs i h;cases kvs with
    | nil=>rfl
    | cons x r=>simp at h
  | cons e es ih=>
    intro kvs i h;cases kvs with
    | nil=>simp at h
    | cons x r=>
      simp only [List.map_cons,List.cons.injEq,entOf,Prod.mk.injEq] at h;obtain ⟨⟨h1,h2⟩,h3⟩:=h;simp only [Instr.findNow,h1,encI,Instr.sameNow,HZ]
      by_cases hx:x.1=k
      · rw [if_pos hx,← hx];simp [h2]
      · rw [if_neg hx]
        have:(k == x.1)=false:=by simpa using fun e=>hx e.symm
        simp only [if_true,this];exact ih r (i+1) h3
theorem IK {P:Program} {kt:TypeId} (h:P.underlying kt=some (.int .i64)):KeyOk P kt encI where
  inj:=fun a b e=>by simpa [encI] using e
  check:=fun b k Q I M hq=>by
    unfold Instr.checkKey;rw [AC,AF h];exact hq
  find:=fun k es kvs Q I M hes hq=>by
    unfold Instr.findKey;rw [AC,AF h,findNow_int rfl es kvs 0 hes];exact hq
def tyMap (P:Program) (t:TypeId):Option (TypeId × TypeId):=
  match P.underlying t with
  | some (.map k e)=>some (k,e)
  | _=>none
theorem KB {P:Program} {t k e:TypeId} (h:tyMap P t=some (k,e)):P.underlying t=some (.map k e):=by
  unfold tyMap at h
  split at h
  · cases h;assumption
  · cases h
def tyI64 (P:Program) (t:TypeId):Bool:=
  match P.underlying t with
  | some (.int .i64)=>true
  | _=>false
theorem GR {P:Program} {t:TypeId} (h:tyI64 P t=true):P.underlying t=some (.int .i64):=by
  unfold tyI64 at h
  split at h
  · assumption
  · cases h
section
variable {ρ:Option Nat} {P:Program} {N:Nat} {ops:Array Oper} {i:Nat} {l:Sl} {I:Imm} {R M:Seg} {d:Nat} {ty:TypeId} {gd:Option (Nat × Bool)} {K:Sl→Imm→Seg→Prop}
variable {κ:Type} [DecidableEq κ] {enc:κ→Value}
theorem Holds.mono {I J:Imm} {R N:Seg} {r:Nat} {o:Obj} (h:Holds I R r o) (le:I.le J):Holds J (R++N) r o:=h.elim (fun h=>.inl (List.mem_append_left _ h)) (fun h=>.inr (le.blk _ _ h))
theorem MA {x y : Operand} {T kt et r cl : Nat} {es : Array MapEntry} {kvs : List (κ × Value)} {k : κ} {z v : Value} (hop : GL ops N i = some (some d, .lookup T x y false, ty, gd)) (hg : FR ops l gd = some true)
    (hT:tyMap P T=some (kt,et)) (hK:KeyOk P kt enc) (hx:CU l x=some (.map (some r))) (hy:CU l y=some (enc k)) (hz:LR P et=some z) (hm:Holds I R r (.map es cl)) (his:MapIs enc es kvs)
    (hv:(QB k kvs).getD z=v):Det P N ops i l I R d v:=by
  subst hv;refine ID hop hg (GW hx hy) fun I' M' hle=>?_
  show wpL P (Instr.lookup T (rho l x) (rho l y) false >>= fun x=>pure (Next.value x)) _ I' _;rw [BN hx,BN hy];refine DM ?_;unfold Instr.lookup;rw [AC,AF (KB hT)];show wpL P (Sem.getObj r _) _ I' _;refine ⟨_,hm.mono hle,rfl,?_⟩;show wpL P (Instr.checkKey _ _ _ _ >>= _) _ I' _;rw [AC];refine hK.check _ _ _ _ _ ?_;rw [AC];refine hK.find k es.toList kvs _ _ _ his ?_;have hf:=findKv_get k kvs 0;cases hkv:HZ k kvs 0 with
  | none=>
    rw [hkv] at hf;simp only [Option.map_none] at hf;show wpL P (zeroValue et >>= _) _ I' _;rw [AC,EQ hz,← hf];exact ⟨rfl,rfl⟩
  | some p=>
    obtain ⟨j,u⟩:=p;rw [hkv] at hf;simp only [Option.map_some] at hf;rw [← hf];exact ⟨rfl,rfl⟩
theorem det_lookup2 {x y : Operand} {T kt et r cl : Nat} {es : Array MapEntry} {kvs : List (κ × Value)} {k : κ} {z v : Value} {b : Bool} (hop : GL ops N i = some (some d, .lookup T x y true, ty, gd)) (hg : FR ops l gd = some true)
    (hT:tyMap P T=some (kt,et)) (hK:KeyOk P kt enc) (hx:CU l x=some (.map (some r))) (hy:CU l y=some (enc k)) (hz:LR P et=some z) (hm:Holds I R r (.map es cl)) (his:MapIs enc es kvs)
    (hv:(QB k kvs).getD z=v) (hb:(QB k kvs).isSome=b):Det P N ops i l I R d (.tuple #[v,.bool b]):=by
  subst hv hb;refine ID hop hg (GW hx hy) fun I' M' hle=>?_
  show wpL P (Instr.lookup T (rho l x) (rho l y) true >>= fun x=>pure (Next.value x)) _ I' _;rw [BN hx,BN hy];refine DM ?_;unfold Instr.lookup;rw [AC,AF (KB hT)];show wpL P (Sem.getObj r _) _ I' _;refine ⟨_,hm.mono hle,rfl,?_⟩;show wpL P (Instr.checkKey _ _ _ _ >>= _) _ I' _;rw [AC];refine hK.check _ _ _ _ _ ?_;rw [AC];refine hK.find k es.toList kvs _ _ _ his ?_;have hf:=findKv_get k kvs 0;cases hkv:HZ k kvs 0 with
  | none=>
    rw [hkv] at hf;simp only [Option.map_none] at hf;show wpL P (zeroValue et >>= _) _ I' _;rw [AC,EQ hz,← hf];exact ⟨rfl,rfl⟩
  | some p=>
    obtain ⟨j,u⟩:=p;rw [hkv] at hf;simp only [Option.map_some] at hf;rw [← hf];exact ⟨rfl,rfl⟩
theorem IF {r:Nat} {o o':Obj} {α:Type} {k:Sem α} {Q:α→Seg→Prop} (n:Nat) (ho:MS o=false) (hn:M[n]?=some (r,o')) (ho':MS o'=false) (h:wpL P k Q I (M.set n (r,o))):wpL P (.setObj r o k) Q I M:=
  ⟨ho,n,o',hn,ho',h⟩
theorem mapIs_set {κ:Type} {enc:κ→Value} {es:Array MapEntry} {kvs:List (κ × Value)} (h:MapIs enc es kvs) (j:Nat) (k:κ) (v key:Value) (hk:key=enc k):MapIs enc (es.modify j fun e=>{ e with key,val:=v }) (kvs.set j (k,v)):=by
  unfold MapIs at h ⊢;subst hk
  apply List.ext_getElem?
  intro n;have hn:=congrArg (fun l=>l[n]?) h;simp only [List.getElem?_map] at hn ⊢;rw [List.getElem?_set];simp only [Array.getElem?_toList] at hn ⊢;rw [Array.getElem?_modify]
  by_cases e:j=n
  · subst e
    rw [if_pos rfl,if_pos rfl]
    by_cases hl:j<kvs.length
    · rw [if_pos hl]
      have:j<es.size:=by rw [MapIs.size h];exact hl
      simp [this,entOf]
    · rw [if_neg hl]
      have:¬ j<es.size:=by rw [MapIs.size h];exact hl
      simp [this]
  · rw [if_neg e,if_neg e];exact hn
theorem mapIs_push {κ:Type} {enc:κ→Value} {es:Array MapEntry} {kvs:List (κ × Value)} (h:MapIs enc es kvs) (k:κ) (v:Value) (c:Nat):MapIs enc (es.push { key:=enc k,val:=v,born:=c }) (kvs++[(k,v)]):=by
  unfold MapIs at h ⊢;simp only [Array.toList_push,List.map_append,h,List.map_cons,List.map_nil,entOf]
theorem mapIs_erase {κ:Type} {enc:κ→Value} {es:Array MapEntry} {kvs:List (κ × Value)} (h:MapIs enc es kvs) (j:Nat):MapIs enc (es.eraseIdxIfInBounds j) (kvs.eraseIdx j):=by
  unfold MapIs at h ⊢;have e1:(es.eraseIdxIfInBounds j).toList=es.toList.eraseIdx j:=by
    unfold Array.eraseIdxIfInBounds
    split
    · simp
    · rw [List.eraseIdx_of_length_le];simpa using by omega
  rw [e1];have map_erase:∀ {α β:Type} (f:α→β) (l:List α) (j:Nat),(l.eraseIdx j).map f=(l.map f).eraseIdx j:=fun f l=>by
    induction l with
    | nil=>intro j;simp
    | cons x l ih=>intro j;cases j with
      | zero=>simp
      | succ j=>simp [ih]
  rw [map_erase,h,map_erase]
theorem HF {x y u : Operand} {T kt et r cl : Nat} {es : Array MapEntry} {kvs : List (κ × Value)} {k : κ} {v : Value} (n : Nat) (hop : GL ops N i = some (none, .mapUpdate T x y u, ty, gd)) (hg : FR ops l gd = some true)
    (hT:tyMap P T=some (kt,et)) (hK:KeyOk P kt enc) (hx:CU l x=some (.map (some r))) (hy:CU l y=some (enc k)) (hu:CU l u=some v) (hn:M[n]?=some (r,Obj.map es cl)) (his:MapIs enc es kvs)
    (h:∀ es' cl',MapIs enc es' (upd k v kvs)→K l I (M.set n (r,Obj.map es' cl'))):Stp P N ops i l I M K:=
  FG hop hg (known3 hx hy hu) (by
    show wpL P (Instr.mapUpdate T (rho l x) (rho l y) (rho l u) >>= fun _=>pure Next.skip) _ I M
    rw [BN hx,BN hy,BN hu,AC]
    unfold Instr.mapUpdate
    rw [AC,AF (KB hT)]
    show wpL P (Sem.getObj r _) _ I M
    refine ⟨_,.inl (List.mem_of_getElem? hn),rfl,?_⟩
    show wpL P (Instr.checkKey _ _ _ _ >>= _) _ I _
    rw [AC]
    refine hK.check _ _ _ _ _ ?_
    rw [AC]
    refine hK.find k es.toList kvs _ _ _ his ?_
    have hf:=ON k v kvs 0
    cases hkv:HZ k kvs 0 with
    | none=>
      rw [hkv] at hf
      simp only at hf
      show wpL P (Sem.setObj r _ _) _ I M
      refine IF n rfl hn rfl ?_
      refine ⟨undef,.inr ⟨rfl,rfl⟩,h _ _ ?_⟩
      rw [hf.1]
      exact mapIs_push his k v cl
    | some p=>
      obtain ⟨j,w⟩:=p
      rw [hkv] at hf
      simp only [Nat.sub_zero] at hf
      obtain ⟨_,h1,_,h2⟩:=hf
      have hold:((es[j]?).map (·.key)).getD (enc k)=enc k:=by
        have:=congrArg (fun l=>(l[j]?).map Prod.fst) his
        simp only [List.getElem?_map,Array.getElem?_toList,Option.map_map] at this
        cases he:es[j]? with
        | none=>rfl
        | some e=>
          rw [he] at this
          cases hq:kvs[j]? with
          | none=>rw [hq] at this;simp at this
          | some q=>
            rw [hq] at this h2
            simp [entOf] at this h2
            simp [this,h2]
      have key:∀ key,key=enc k→wpL P (Sem.setObj r (.map (es.modify j fun e=>{ e with key,val:=v }) cl) (Sem.pure ())) (fun _ M'=>wpL P (pure Next.skip) (fun n M'=>∃ v,(n=.value v∨(n=.skip∧v=undef))∧K (ups none v l) I M') I M') I M:=fun key hkey=>by
        refine IF n rfl hn rfl ?_
        refine ⟨undef,.inr ⟨rfl,rfl⟩,h _ _ ?_⟩
        rw [h1]
        exact mapIs_set his j k v key hkey
      show wpL P (Instr.keyThatStays (((es[j]?).map (·.key)).getD (enc k)) (enc k) >>= _) _ I M
      rw [AC,hold]
      unfold Instr.keyThatStays
      split
      · exact key _ rfl
      · rw [AC]
        show (if (Question.extern "map.whichKeyStays" 2).forced then _ else ∀ t,_)
        split
        · refine key _ ?_;split <;> rfl
        · intro t;refine key _ ?_;split <;> rfl)
def GE (ks:List κ):List (κ × Value):=ks.map (fun k=>(k,Value.bool true))
theorem LQ {κ:Type} (ks:List κ):(GE ks).length=ks.length:=by simp [GE]
theorem KG (k:κ) (ks:List κ):(QB k (GE ks)).getD (.bool false)=.bool (decide (k∈ks)):=by
  induction ks with
  | nil=>rfl
  | cons x r ih=>
    simp only [GE,List.map_cons,QB]
    by_cases h:x=k
    · rw [if_pos h];simp [h]
    · rw [if_neg h]
      have:(k∈x::r)↔k∈r:=by simp [Ne.symm h]
      rw [decide_eq_decide.2 this];exact ih
theorem LU (k:κ) (ks:List κ):upd k (.bool true) (GE ks)=GE (if k∈ks then ks else ks++[k]):=by
  induction ks with
  | nil=>rfl
  | cons x r ih=>
    simp only [GE,List.map_cons,upd] at ih ⊢
    by_cases h:x=k
    · rw [if_pos h];simp [h]
    · rw [if_neg h,ih]
      have h2:(k∈x::r)↔k∈r:=by simp [Ne.symm h]
      by_cases h3:k∈r
      · rw [if_pos h3,if_pos (h2.2 h3)];rfl
      · rw [if_neg h3,if_neg (fun h4=>h3 (h2.1 h4))];rfl
theorem del_trues (k:κ) (ks:List κ):del k (GE ks)=GE (ks.erase k):=by
  induction ks with
  | nil=>rfl
  | cons x r ih=>
    simp only [GE,List.map_cons,del] at ih ⊢
    by_cases h:x=k
    · rw [if_pos h,List.erase_cons];simp [h]
    · rw [if_neg h,ih,List.erase_cons]
      have:(x == k)=false:=by simpa using h
      simp [this]
end
end Go.Sl
namespace Go.Sh
open Go Go.Sl
def inB (n lo hi:Int):Bool:=decide (lo≤n)&&decide (n≤hi)
theorem inB_t {n lo hi:Int} (h:inB n lo hi=true):lo≤n∧n≤hi:=by simpa [inB] using h
theorem LF {n lo hi:Int} (h:inB n lo hi=false):¬ (lo≤n∧n≤hi):=by
  intro hh;rw [show inB n lo hi=true by simpa [inB] using hh] at h;cases h
section
variable {α:Type} {xs ys:List α} {k:Nat} {d:α}
theorem LM (hl:xs.length=ys.length) (h:xs.take k=ys.take k) (hk:k<xs.length) (e:xs.getD k d=ys.getD k d):xs.take (k+1)=ys.take (k+1):=by
  rw [List.take_succ_eq_append_getElem hk,List.take_succ_eq_append_getElem (hl▸hk),h];have hk':k<ys.length:=hl▸hk;simp [List.getD,hk,hk'] at e;rw [e]
theorem OC (hl:xs.length=ys.length) (h:xs.take k=ys.take k) (hk:xs.length≤k):xs=ys:=by
  rw [List.take_of_length_le hk,List.take_of_length_le (hl▸hk)] at h;exact h
theorem CF (hk:k<xs.length):xs.take (k+1)=xs.take k++[xs.getD k d]:=by
  rw [List.take_succ_eq_append_getElem hk];simp [List.getD,hk]
theorem DT (hk:xs.length≤k):xs.take k=xs:=List.take_of_length_le hk
theorem AJ (hk:k<xs.length):xs.getD k d∈xs:=by
  simp [List.getD,hk]
theorem getD_ne (hl:xs.length=ys.length) (h:xs.getD k d≠ys.getD k d):xs≠ys:=fun e=>h (by rw [e])
end
def seat (xs:List Int) (n:Int):Int:=if n∈xs then ↑(xs.idxOf n) else -1
theorem NR {xs:List Int} {n:Int} {k:Nat} (h:n∉xs.take k) (hk:k<xs.length) (hne:xs.getD k 0≠n):n∉xs.take (k+1):=by
  rw [CF (d:=0) hk];intro hm;rcases List.mem_append.1 hm with hm | hm
  · exact h hm
  · simp only [List.mem_singleton] at hm;exact hne hm.symm
theorem seat_hit {xs:List Int} {n:Int} {k:Nat} (h:n∉xs.take k) (hk:k<xs.length) (e:xs.getD k 0=n):seat xs n=↑k:=by
  have hm:n∈xs:=e▸AJ hk;rw [seat,if_pos hm]
  congr 1
  have hx:xs[k]=n:=by simpa [List.getD,hk] using e
  have h1:xs=xs.take k++xs[k]::xs.drop (k+1):=by
    rw [← List.drop_eq_getElem_cons hk,List.take_append_drop]
  rw [h1,hx,List.idxOf_append,if_neg h];simp;omega
theorem seat_miss {xs:List Int} {n:Int} {k:Nat} (h:n∉xs.take k) (hk:xs.length≤k):seat xs n=-1:=by
  rw [DT hk] at h;rw [seat,if_neg h]
theorem seat_neg {xs:List Int} {n:Int}:cmp .geq (seat xs n) 0=decide (n∈xs):=by
  unfold seat
  by_cases h:n∈xs <;> simp [h,cmp]
def Ok (cs:List Car) (t:List Int):Prop:=∀ c∈t,0≤c∧c<cs.length
theorem Ok.at {cs:List Car} {t:List Int} (h:Ok cs t) (k:Nat) (hk:k<t.length):0≤t.getD k 0∧t.getD k 0<cs.length:=h _ (AJ hk)
def FJ (cs:List Car) (c:Int):Car:=cs.getD c.toNat AD
def lenOf (cs:List Car) (t:List Int):Int:=(t.map fun c=>(FJ cs c).len).sum
theorem lenOf_nil (cs:List Car):lenOf cs []=0:=rfl
theorem LH (cs:List Car) (s t:List Int):lenOf cs (s++t)=lenOf cs s+lenOf cs t:=by simp [lenOf]
theorem OR {cs:List Car} {t:List Int} {k:Nat} (hk:k<t.length):lenOf cs (t.take (k+1))=lenOf cs (t.take k)+(FJ cs (t.getD k 0)).len:=by
  rw [CF (d:=0) hk,LH];simp [lenOf]
def Small (cs:List Car):Prop:=∀ c∈cs,0≤c.len∧c.len≤4
theorem Small.at {cs:List Car} (h:Small cs) (c:Int):0≤(FJ cs c).len∧(FJ cs c).len≤4:=by
  unfold FJ
  by_cases hc:c.toNat<cs.length
  · exact h _ (AJ hc)
  · simp [List.getD,List.getElem?_eq_none (Nat.le_of_not_lt hc),AD]
theorem GI {cs:List Car} (h:Small cs) (t:List Int):0≤lenOf cs t∧lenOf cs t≤4*t.length:=by
  induction t with
  | nil=>simp [lenOf]
  | cons c t ih=>
    have:=h.at c;simp only [lenOf,List.map_cons,List.sum_cons,List.length_cons] at ih ⊢;omega
def CE (cs:List Car) (t:List Int) (at':Int):Bool:=
  inB at' 1 (↑t.length-1)&&decide (0<(FJ cs (t.getD at'.toNat 0)).grp)&&decide ((FJ cs (t.getD at'.toNat 0)).grp=(FJ cs (t.getD (at'-1).toNat 0)).grp)
def CW (c:Car):Int:=
  if inB c.len 1 4&&inB c.wt 1 60&&inB c.brk 0 c.wt&&inB c.grp 0 3 then 0 else 1
theorem eqShift (s t:Shift):((s.frm == t.frm)&&((s.to == t.to)&&((s.many == t.many)&&true)))=decide (s=t):=by
  rcases s with ⟨a,b,c⟩;rcases t with ⟨a',b',c'⟩
  by_cases h1:a=a' <;> by_cases h2:b=b' <;> by_cases h3:c=c' <;> simp [h1,h2,h3]
theorem eqCar (s t:Car):((s.len == t.len)&&((s.wt == t.wt)&&((s.brk == t.brk)&&((s.grp == t.grp)&&((s.pipe == t.pipe)&&((s.heat == t.heat)&&true))))))=decide (s=t):=by
  rcases s with ⟨a,b,c,d,e,f⟩;rcases t with ⟨a',b',c',d',e',f'⟩
  by_cases h1:a=a' <;> by_cases h2:b=b' <;> by_cases h3:c=c' <;> by_cases h4:d=d' <;> by_cases h5:e=e' <;> by_cases h6:f=f' <;> simp [h1,h2,h3,h4,h5,h6]
theorem u64_range (x:Int):0≤IntKind.u64.wrap x∧IntKind.u64.wrap x≤18446744073709551615:=by
  have h1:IntKind.u64.signed=false:=rfl;have h2:(2:Int) ^ IntKind.u64.bits=18446744073709551616:=rfl;simp only [IntKind.wrap,h1,h2,Bool.false_and,Bool.false_eq_true,if_false];omega
theorem u64_mod {x m:Int} (h:0≤x) (hm:0<m):0≤x%m∧x%m<m:=⟨Int.emod_nonneg _ (by omega),Int.emod_lt_of_pos _ hm⟩
theorem fdiv_nonneg {x y:Int} (h:0≤x) (hy:0≤y):0≤x.fdiv y:=Int.fdiv_nonneg h hy
theorem up_nat {x most:Int} (h:1≤most) (h2:most≤1000000) (hx:0≤x):∃ n:Nat,IntKind.i64.wrap (x%(most+1))=↑n∧(n:Int)≤most:=by
  have:=u64_mod hx (show 0<most+1 by omega);refine ⟨(x%(most+1)).toNat,?_,by omega⟩;rw [IntWalk.i64_in _ (by omega)];omega
theorem HQ {xs:List Int} {k:Nat} (h:k<xs.length):xs.getD k 0∈xs:=AJ h
def Asc (l:List Int):Prop:=l.Pairwise (·<·)
theorem Asc.nil:Asc []:=List.Pairwise.nil
theorem Asc.snoc {l:List Int} {k:Nat} (h:Asc l) (hlt:∀ x∈l,0≤x∧x<(k:Int)):Asc (l++[(k:Int)]):=by
  refine List.pairwise_append.2 ⟨h,by simp,fun a ha b hb=>?_⟩;simp at hb;subst hb;exact (hlt a ha).2
theorem BR {α:Type} {xs:List α} {k:Nat} {d:α} (h:k<xs.length):xs.drop k=xs.getD k d::xs.drop (k+1):=by
  rw [List.drop_eq_getElem_cons h];simp [List.getD,h]
theorem DA {α:Type} {xs:List α} {k:Nat} (h:xs.length≤k):xs.drop k=[]:=List.drop_of_length_le h
theorem headD_drop {α:Type} {xs:List α} {k:Nat} {d:α}:(xs.drop k).headD d=xs.getD k d:=by
  simp [List.headD_eq_head?_getD,List.getD]
def grp (cs:List Car) (c:Int):Int:=(FJ cs c).grp
def goG (cs:List Car) (t:List Int) (fin:List Int→Int):Nat→List Int→List Int→Int
  | _,[],met=>fin met
  | k,c::r,met=>if decide (0<grp cs c)&&(decide (grp cs c∈met)&&!(CE cs t ↑k)) then 12 else goG cs t fin (k+1) r (if grp cs c∈met then met else met++[grp cs c])
def goGs (cs:List Car):List (List Int)→List Int→Int
  | [],_=>0
  | t::ts,met=>goG cs t (goGs cs ts) 0 t met
def DH (Y:Yard):Int:=goGs Y.cars Y.tracks []
def DP (n:Nat) (fin:List Int→Int):List Int→List Int→Int
  | [],met=>fin met
  | c::r,met=>if inB c 0 (↑n-1) then (if c∈met then 4 else DP n fin r (met++[c])) else 3
def CO (cs:List Car) (fin:List Int→Int):List (List Int)→List Int→List Int→Int
  | [],_,met=>fin met
  | t::ts,rm,met=>DP cs.length (fun met'=>if lenOf cs t>rm.headD 0 then 9 else CO cs fin ts rm.tail met') t met
def EG (Y:Yard):Int:=
  if Y.tracks.length=Y.room.length then CO Y.cars (fun met=>if met.length<Y.cars.length then 7 else DH Y) Y.tracks Y.room [] else 2
def checkErr (Y:Yard):Int:=
  if 5<Y.cars.length then 6 else
  if Y.cars.all (fun c=>decide (CW c=0)) then
    (if Y.room.length=0 then 7 else if 3<Y.room.length then 6 else if Y.room.all (fun n=>inB n 0 20) then EG Y else 1)
  else 1
theorem nand4 (a b c d:Bool):(if (a&&b&&c&&d)=true then (0:Int) else 1)=if (!a||(!b||(!c||!d)))=true then 1 else 0:=by
  cases a <;> cases b <;> cases c <;> cases d <;> rfl
def OkAll (cs:List Car) (ts:List (List Int)):Prop:=∀ t∈ts,Ok cs t
theorem OkAll.at {cs:List Car} {ts:List (List Int)} (h:OkAll cs ts) (k:Nat) (hk:k<ts.length):Ok cs (ts.getD k []):=h _ (AJ hk)
theorem goG_step {cs : List Car} {t : List Int} {fin : List Int → Int} {k : Nat} {met : List Int} (hk : k < t.length) :
    goG cs t fin k (t.drop k) met=if decide (0<grp cs (t.getD k 0))&&(decide (grp cs (t.getD k 0)∈met)&&!(CE cs t ↑k)) then 12
      else goG cs t fin (k+1) (t.drop (k+1)) (if grp cs (t.getD k 0)∈met then met else met++[grp cs (t.getD k 0)]):=by
  rw [BR (d:=0) hk];rfl
theorem goG_hit {cs : List Car} {t : List Int} {fin : List Int → Int} {k : Nat} {met : List Int} (hk : k < t.length) (h : (decide (0 < grp cs (t.getD k 0)) && (decide (grp cs (t.getD k 0) ∈ met) && !(CE cs t ↑k))) = true) :
    goG cs t fin k (t.drop k) met=12:=by rw [goG_step hk,if_pos h]
theorem goG_miss {cs : List Car} {t : List Int} {fin : List Int → Int} {k : Nat} {met : List Int} (hk : k < t.length) (h : (decide (0 < grp cs (t.getD k 0)) && (decide (grp cs (t.getD k 0) ∈ met) && !(CE cs t ↑k))) = false) :
    goG cs t fin k (t.drop k) met=goG cs t fin (k+1) (t.drop (k+1)) (if grp cs (t.getD k 0)∈met then met else met++[grp cs (t.getD k 0)]):=by rw [goG_step hk,if_neg (by rw [h];simp)]
theorem goG_done {cs:List Car} {t:List Int} {fin:List Int→Int} {k:Nat} {met:List Int} (hk:t.length≤k):goG cs t fin k (t.drop k) met=fin met:=by rw [DA hk];rfl
theorem goGs_done {cs:List Car} {ts:List (List Int)} {k:Nat} {met:List Int} (hk:ts.length≤k):goGs cs (ts.drop k) met=0:=by rw [DA hk];rfl
theorem goGs_step {cs:List Car} {ts:List (List Int)} {k:Nat} {met:List Int} (hk:k<ts.length):goGs cs (ts.drop k) met=goG cs (ts.getD k []) (goGs cs (ts.drop (k+1))) 0 (ts.getD k []) met:=by
  rw [BR (d:=[]) hk];rfl
section
variable {cs:List Car} {t rm met:List Int} {ts:List (List Int)} {fin:List Int→Int} {n j k:Nat}
theorem goTrack_bad (hj:j<t.length) (h:inB (t.getD j 0) 0 (↑n-1)=false):DP n fin (t.drop j) met=3:=by
  rw [BR (d:=0) hj];simp only [DP];rw [if_neg (by rw [h];simp)]
theorem NL (hj:j<t.length) (h:inB (t.getD j 0) 0 (↑n-1)=true) (hm:t.getD j 0∈met):DP n fin (t.drop j) met=4:=by
  rw [BR (d:=0) hj];simp only [DP];rw [if_pos h,if_pos hm]
theorem PK (hj:j<t.length) (h:inB (t.getD j 0) 0 (↑n-1)=true) (hm:¬ t.getD j 0∈met):DP n fin (t.drop j) met=DP n fin (t.drop (j+1)) (met++[t.getD j 0]):=by
  rw [BR (d:=0) hj];simp only [DP];rw [if_pos h,if_neg hm]
theorem JI (hj:t.length≤j):DP n fin (t.drop j) met=fin met:=by rw [DA hj];rfl
theorem NM (hk : k < ts.length) : CO cs fin (ts.drop k) (rm.drop k) met =
    DP cs.length (fun met'=>if lenOf cs (ts.getD k [])>rm.getD k 0 then 9 else CO cs fin (ts.drop (k+1)) (rm.drop (k+1)) met') (ts.getD k []) met:=by
  rw [BR (d:=[]) hk];simp only [CO,headD_drop,List.tail_drop]
theorem GV (hk:ts.length≤k):CO cs fin (ts.drop k) rm met=fin met:=by rw [DA hk];rfl
theorem Ok.nil:Ok cs []:=fun _ h=>by simp at h
theorem Ok.snoc {c:Int} (h:Ok cs (t.take j)) (hj:j<t.length) (hc:0≤t.getD j 0∧t.getD j 0<cs.length):Ok cs (t.take (j+1)):=by
  rw [CF (d:=0) hj];intro x hx;rcases List.mem_append.1 hx with hx | hx
  · exact h x hx
  · simp only [List.mem_singleton] at hx;subst hx;exact hc
theorem Ok.all (h:Ok cs (t.take j)) (hj:t.length≤j):Ok cs t:=by rwa [DT hj] at h
theorem OkAll.nil:OkAll cs []:=fun _ h=>by simp at h
theorem OkAll.snoc (h:OkAll cs (ts.take k)) (hk:k<ts.length) (hc:Ok cs (ts.getD k [])):OkAll cs (ts.take (k+1)):=by
  rw [CF (d:=[]) hk];intro x hx;rcases List.mem_append.1 hx with hx | hx
  · exact h x hx
  · simp only [List.mem_singleton] at hx;subst hx;exact hc
theorem OkAll.all (h:OkAll cs (ts.take k)) (hk:ts.length≤k):OkAll cs ts:=by rwa [DT hk] at h
end
theorem NC {cs:List Car} (h:∀ c∈cs,CW c=0):Small cs:=fun c hc=>by
  have:=h c hc;rw [CW] at this
  split at this
  · rename_i hb
    simp only [Bool.and_eq_true] at hb;have:=inB_t hb.1.1.1;omega
  · cases this
theorem NH {α:Type} {xs:List α} {k:Nat} {d:α} {p:α→Prop} (h:∀ c∈xs.take k,p c) (hk:k<xs.length) (hp:p (xs.getD k d)):∀ c∈xs.take (k+1),p c:=by
  rw [CF (d:=d) hk];intro x hx;rcases List.mem_append.1 hx with hx | hx
  · exact h x hx
  · simp only [List.mem_singleton] at hx;subst hx;exact hp
theorem GU {α:Type} {xs:List α} {k:Nat} {p:α→Prop} (h:∀ c∈xs.take k,p c) (hk:xs.length≤k):∀ c∈xs,p c:=by rwa [DT hk] at h
section
variable {Y:Yard} {k:Nat}
theorem checkErr_many (h:5<Y.cars.length):checkErr Y=6:=by rw [checkErr,if_pos h]
theorem carErr_01 (c:Car):CW c=0∨CW c=1:=by rw [CW];split <;> simp
theorem checkErr_car (h:¬ 5<Y.cars.length) (hk:k<Y.cars.length) (hc:CW (Y.cars.getD k AD)≠0):CW (Y.cars.getD k AD)=checkErr Y:=by
  rw [checkErr,if_neg h,if_neg]
  · rcases carErr_01 (Y.cars.getD k AD) with e | e
    · exact absurd e hc
    · exact e
  · intro ha
    have:=List.all_eq_true.1 ha _ (AJ (d:=AD) hk);exact hc (of_decide_eq_true this)
theorem KZ (hc:∀ c∈Y.cars,CW c=0):(Y.cars.all fun c=>decide (CW c=0))=true:=List.all_eq_true.2 fun c h=>decide_eq_true (hc c h)
theorem checkErr_few (h:¬ 5<Y.cars.length) (hc:∀ c∈Y.cars,CW c=0) (h0:Y.room.length=0):checkErr Y=7:=by rw [checkErr,if_neg h,if_pos (KZ hc),if_pos h0]
theorem checkErr_many2 (h:¬ 5<Y.cars.length) (hc:∀ c∈Y.cars,CW c=0) (h0:3<Y.room.length):checkErr Y=6:=by rw [checkErr,if_neg h,if_pos (KZ hc),if_neg (by omega),if_pos h0]
theorem checkErr_room (h:¬ 5<Y.cars.length) (hc:∀ c∈Y.cars,CW c=0) (h0:¬ Y.room.length=0) (h1:¬ 3<Y.room.length) (hk:k<Y.room.length) (hb:inB (Y.room.getD k 0) 0 20=false):checkErr Y=1:=by
  rw [checkErr,if_neg h,if_pos (KZ hc),if_neg h0,if_neg h1,if_neg];intro ha;have:=List.all_eq_true.1 ha _ (AJ (d:=0) hk);rw [hb] at this;cases this
theorem checkErr_tracks (h:¬ 5<Y.cars.length) (hc:∀ c∈Y.cars,CW c=0) (h0:¬ Y.room.length=0) (h1:¬ 3<Y.room.length) (hm:∀ n∈Y.room,inB n 0 20=true):checkErr Y=EG Y:=by
  rw [checkErr,if_neg h,if_pos (KZ hc),if_neg h0,if_neg h1,if_pos (List.all_eq_true.2 hm)]
end
def trk (Y:Yard) (i:Int):List Int:=Y.tracks.getD i.toNat []
def GA (Y:Yard) (s:Shift):Int:=↑(trk Y s.frm).length-s.many
def CJ (Y:Yard) (s:Shift):Int:=
  if inB s.frm 0 (↑Y.tracks.length-1) then
    if inB s.to 0 (↑Y.tracks.length-1) then
      if s.frm=s.to then 4 else
      if s.many<1 then 7 else
      if ↑(trk Y s.frm).length<s.many then 6 else
      if CE Y.cars (trk Y s.frm) (GA Y s)||decide (Y.room.getD s.to.toNat 0<lenOf Y.cars ((trk Y s.frm).drop (GA Y s).toNat)+lenOf Y.cars (trk Y s.to)) then 9 else 0
    else 3
  else 3
def moved (Y:Yard) (s:Shift):Yard:=
  { Y with tracks:=(Y.tracks.set s.to.toNat (trk Y s.to++(trk Y s.frm).drop (GA Y s).toNat)).set s.frm.toNat ((trk Y s.frm).take (GA Y s).toNat) }
def CM (s:Shift):Shift:=⟨s.to,s.frm,s.many⟩
theorem Ok.drop {cs:List Car} {t:List Int} (h:Ok cs t) (n:Nat):Ok cs (t.drop n):=fun c hc=>h c (List.mem_of_mem_drop hc)
theorem Ok.take {cs:List Car} {t:List Int} (h:Ok cs t) (n:Nat):Ok cs (t.take n):=fun c hc=>h c (List.mem_of_mem_take hc)
theorem Ok.append {cs:List Car} {s t:List Int} (h:Ok cs s) (h2:Ok cs t):Ok cs (s++t):=fun c hc=>by
  rcases List.mem_append.1 hc with x | x
  · exact h c x
  · exact h2 c x
section
variable {Y:Yard} {s:Shift} {n:Nat}
theorem mayErr_1 (hn:n=Y.tracks.length) (h:inB s.frm 0 (↑n-1)=false):CJ Y s=3:=by
  subst hn;rw [CJ,if_neg (by rw [h];simp)]
theorem mayErr_2 (hn:n=Y.tracks.length) (h1:inB s.frm 0 (↑n-1)=true) (h:inB s.to 0 (↑n-1)=false):CJ Y s=3:=by
  subst hn;rw [CJ,if_pos h1,if_neg (by rw [h];simp)]
theorem mayErr_3 (hn:n=Y.tracks.length) (h1:inB s.frm 0 (↑n-1)=true) (h2:inB s.to 0 (↑n-1)=true) (h:s.frm=s.to):CJ Y s=4:=by
  subst hn;rw [CJ,if_pos h1,if_pos h2,if_pos h]
theorem mayErr_4 (hn:n=Y.tracks.length) (h1:inB s.frm 0 (↑n-1)=true) (h2:inB s.to 0 (↑n-1)=true) (h3:s.frm≠s.to) (h:s.many<1):CJ Y s=7:=by
  subst hn;rw [CJ,if_pos h1,if_pos h2,if_neg h3,if_pos h]
theorem mayErr_5 (hn:n=Y.tracks.length) (h1:inB s.frm 0 (↑n-1)=true) (h2:inB s.to 0 (↑n-1)=true) (h3:s.frm≠s.to) (h4:¬ s.many<1) (h:↑(trk Y s.frm).length<s.many):CJ Y s=6:=by
  subst hn;rw [CJ,if_pos h1,if_pos h2,if_neg h3,if_neg h4,if_pos h]
theorem mayErr_6 (hn : n = Y.tracks.length) (h1 : inB s.frm 0 (↑n - 1) = true) (h2 : inB s.to 0 (↑n - 1) = true) (h3 : s.frm ≠ s.to) (h4 : ¬ s.many < 1) (h5 : ¬ ↑(trk Y s.frm).length < s.many)
    (h:(CE Y.cars (trk Y s.frm) (GA Y s)||decide (Y.room.getD s.to.toNat 0<lenOf Y.cars ((trk Y s.frm).drop (GA Y s).toNat)+lenOf Y.cars (trk Y s.to)))=true):CJ Y s=9:=by
  subst hn;rw [CJ,if_pos h1,if_pos h2,if_neg h3,if_neg h4,if_neg h5,if_pos h]
theorem mayErr_7 (hn : n = Y.tracks.length) (h1 : inB s.frm 0 (↑n - 1) = true) (h2 : inB s.to 0 (↑n - 1) = true) (h3 : s.frm ≠ s.to) (h4 : ¬ s.many < 1) (h5 : ¬ ↑(trk Y s.frm).length < s.many)
    (h:(CE Y.cars (trk Y s.frm) (GA Y s)||decide (Y.room.getD s.to.toNat 0<lenOf Y.cars ((trk Y s.frm).drop (GA Y s).toNat)+lenOf Y.cars (trk Y s.to)))=false):CJ Y s=0:=by
  subst hn;rw [CJ,if_pos h1,if_pos h2,if_neg h3,if_neg h4,if_neg h5,if_neg (by rw [h];simp)]
end
def AP:Yard:=⟨[],[],[]⟩
def HA (Y:Yard):List Shift→Yard × Int
  | []=>(Y,0)
  | s::r=>if CJ Y s=0 then HA (moved Y s) r else (AP,CJ Y s)
def CD (Y:Yard) (l:List Shift):Yard × Int:=if checkErr Y=0 then HA Y l else (AP,checkErr Y)
def Valid (Y:Yard):Prop:=checkErr Y=0
structure GoodY (Y:Yard):Prop where
  ok:OkAll Y.cars Y.tracks
  small:Small Y.cars
  len:Y.room.length=Y.tracks.length
  sum:Y.tracks.flatten.length≤5
theorem DW {ts:List (List Int)} {t:List Int} (h:t∈ts):t.length≤ts.flatten.length:=by
  induction ts with
  | nil=>simp at h
  | cons x r ih=>
    simp only [List.flatten_cons,List.length_append];rcases List.mem_cons.1 h with e | h
    · subst e;omega
    · have:=ih h;omega
theorem GoodY.le {Y:Yard} (h:GoodY Y):∀ t∈Y.tracks,t.length≤1000000:=fun t ht=>by
  have:=DW ht;have:=h.sum;omega
theorem set_flatten (x:List Int):∀ (ts:List (List Int)) (i:Nat),i<ts.length→((ts.set i x).flatten++ts.getD i []).Perm (ts.flatten++x):=by
  intro ts
  induction ts with
  | nil=>intro i h;simp at h
  | cons y r ih=>
    intro i h;cases i with
    | zero=>
      simp only [List.set_cons_zero,List.flatten_cons,List.getD_cons_zero];rw [List.append_assoc,List.append_assoc];refine (List.perm_append_comm_assoc x r.flatten y).trans ?_;refine ((List.Perm.append_left r.flatten (List.perm_append_comm (l₁:=x) (l₂:=y))).trans ?_);exact List.perm_append_comm_assoc r.flatten y x
    | succ i=>
      simp only [List.set_cons_succ,List.flatten_cons,List.getD_cons_succ,List.append_assoc];exact List.Perm.append_left y (ih i (by simpa using h))
theorem NQ {Y:Yard} {s:Shift} (hf:0≤s.frm∧s.frm<Y.tracks.length) (ht:0≤s.to∧s.to<Y.tracks.length) (hne:s.frm≠s.to):(moved Y s).tracks.flatten.Perm Y.tracks.flatten:=by
  have hne':s.to.toNat≠s.frm.toNat:=by omega
  unfold moved;simp only
  generalize hA:trk Y s.frm=A
  generalize hB:trk Y s.to=B
  generalize (GA Y s).toNat=n
  have hA':Y.tracks.getD s.frm.toNat []=A:=hA;have hB':Y.tracks.getD s.to.toNat []=B:=hB;have h1:=set_flatten (B++A.drop n) Y.tracks s.to.toNat (by omega);have h2:=set_flatten (A.take n) (Y.tracks.set s.to.toNat (B++A.drop n)) s.frm.toNat (by rw [List.length_set];omega);have e2:(Y.tracks.set s.to.toNat (B++A.drop n)).getD s.frm.toNat []=A:=by
    simp only [List.getD] at hA' ⊢;rw [List.getElem?_set_ne hne'];exact hA'
  rw [e2] at h2;rw [hB'] at h1
  generalize ((Y.tracks.set s.to.toNat (B++A.drop n)).set s.frm.toNat (A.take n)).flatten=X at h2 ⊢
  generalize (Y.tracks.set s.to.toNat (B++A.drop n)).flatten=Z at h1 h2
  have h3:(Z).Perm (Y.tracks.flatten++A.drop n):=by
    refine (List.perm_append_right_iff B).1 (h1.trans ?_);rw [List.append_assoc];exact List.Perm.append_left _ List.perm_append_comm
  have h4:(X++A).Perm (Y.tracks.flatten++A):=by
    refine h2.trans ((List.Perm.append_right _ h3).trans ?_);rw [List.append_assoc];refine List.Perm.append_left _ (List.perm_append_comm.trans ?_);rw [List.take_append_drop]
  exact (List.perm_append_right_iff A).1 h4
end Go.Sh
namespace Go.Sl
open Go
def quiet (P:Program) {α:Type}:Sem α→Option α
  | .pure a=>some a
  | .program k=>quiet P (k P)
  | .mark _ k=>quiet P k
  | _=>none
theorem quiet_wpL {P:Program} {α:Type} (s:Sem α):∀ {x:α} {I:Imm} {M:Seg},quiet P s=some x→wpL P s (fun y M'=>y=x∧M'=M) I M:=by
  induction s with
  | pure a=>intro x I M h;cases h;exact ⟨rfl,rfl⟩
  | program k ih=>intro x I M h;exact ih P h
  | mark m k ih=>intro x I M h;exact ih h
  | _=>intro x I M h;cases h
def pvOp (P:Program) (l:Sl) (op:Op) (ty:TypeId):Option Value:=
  bif op.operands.all (fun x=>(CU l x).isSome) then
    match quiet P (MJ (rho l) op ty) with
    | some (.value v)=>some v
    | _=>none
  else none
def pvAt (P:Program) (N:Nat) (ops:Array Oper) (l:Sl) (i:Nat):Option (Nat × Value):=
  match GL ops N i with
  | some (some d,op,ty,gd)=>match FR ops l gd with
    | some true=>match pvOp P l op ty with
      | some v=>some (d,v)
      | none=>none
    | some false=>some (d,undef)
    | none=>none
  | _=>none
def pvs (P:Program) (N:Nat) (ops:Array Oper):List Nat→Sl→Option Sl
  | [],l=>some l
  | i::is,l=>match pvAt P N ops l i with
    | some x=>pvs P N ops is (x::l)
    | none=>none
section
variable {ρ:Option Nat} {P:Program} {N:Nat} {ops:Array Oper} {Q:Exit→Act→World→Prop} {ds:List Deferred} {i:Nat} {l:Sl} {I:Imm} {R M S:Seg} {d:Nat} {Kfin:Sl→Imm→Seg→Prop} {order:List (Nat × Bool)}
theorem FV {v:Value} (h:pvAt P N ops l i=some (d,v)):Det P N ops i l I R d v:=by
  unfold pvAt at h
  split at h
  · rename_i d' op ty gd ho
    split at h
    · rename_i hg
      split at h
      · rename_i v' hv
        cases h;unfold pvOp at hv;cases hk:op.operands.all (fun x=>(CU l x).isSome) with
        | false=>rw [hk] at hv;cases hv
        | true=>
          rw [hk] at hv;simp only [cond_true] at hv
          split at hv
          · rename_i v'' hq
            cases hv
            exact EM ho hg (fun x hx=>by
              have:=Array.all_eq_true'.1 hk x hx
              exact Option.isSome_iff_exists.1 this) fun I' M'=>quiet_wpL _ hq
          · cases hv
      · cases h
    · rename_i hg;cases h;exact det_skip ho hg
    · cases h
  · cases h
theorem seq_pvs:∀ (k i:Nat) (l l':Sl),pvs P N ops (List.range' i k) l=some l'→Seq (ρ:=ρ) P N ops Q ds (i+k) l' I M→Seq (ρ:=ρ) P N ops Q ds i l I M
  | 0,i,l,l',h,next=>by cases h;exact next
  | k+1,i,l,l',h,next=>by
    rw [List.range'_succ] at h;simp only [pvs] at h
    split at h
    · rename_i x hx
      exact seq_det (FV hx) (seq_pvs k (i+1) _ _ h (by rw [show i+1+k=i+(k+1) by omega];exact next))
    · cases h
def pickL (l:Sl):Sl→Bool→Option Sl
  | [],_=>some []
  | (t,_)::r,b=>match EJ t l,pickL l r b with
    | some v,some r'=>some ((t,v)::r')
    | _,_=>none
def told (t:Nat):Sl→Bool
  | []=>false
  | (k,_)::r=>bif Nat.beq k t then true else told t r
def PL (new l:Sl):Nat→Sl→Bool
  | 0,_=>true
  | k+1,(t,_)::r=>(told t new||!told t l)&&PL new l k r
  | _+1,[]=>true
def pxf (P:Program) (N:Nat) (ops:Array Oper) (i k:Nat) (new l:Sl):Option Sl:=
  match pvs P N ops (List.range' i k) l with
  | some l'=>bif PL new l k l' then pickL l' new true else none
  | none=>none
theorem JN {t:Nat} {v:Value}:∀ {l:Sl},EJ t l=some v→told t l=true:=by
  intro l
  induction l with
  | nil=>intro h;cases h
  | cons x l ih=>
    obtain ⟨k,u⟩:=x;intro h;simp only [EJ] at h;simp only [told];cases hb:Nat.beq k t with
    | true=>rfl
    | false=>rw [hb] at h;exact ih h
theorem KI {t:Nat} {a b:Sl}:EJ t (a++b)=(match EJ t a with | some v=>some v | none=>EJ t b):=by
  induction a with
  | nil=>rfl
  | cons x a ih=>
    obtain ⟨k,u⟩:=x;simp only [List.cons_append,EJ];cases hb:Nat.beq k t with
    | true=>rfl
    | false=>exact ih
theorem look_none {t:Nat}:∀ {l:Sl},EJ t l=none→told t l=false:=by
  intro l
  induction l with
  | nil=>intro _;rfl
  | cons x l ih=>
    obtain ⟨k,u⟩:=x;intro h;simp only [EJ] at h;simp only [told];cases hb:Nat.beq k t with
    | true=>rw [hb] at h;cases h
    | false=>rw [hb] at h;exact ih h
theorem pickL_look {l:Sl} {b:Bool} {t:Nat} {v:Value}:∀ {new out:Sl},pickL l new b=some out→EJ t out=some v→EJ t l=some v:=by
  intro new
  induction new with
  | nil=>intro out h hl;cases h;cases hl
  | cons x new ih=>
    obtain ⟨k,u⟩:=x;intro out h hl;simp only [pickL] at h
    split at h
    · rename_i v' r' h1 h2
      cases h;simp only [EJ] at hl;cases hb:Nat.beq k t with
      | true=>rw [hb] at hl;cases hl;rw [← Nat.eq_of_beq_eq_true hb];exact h1
      | false=>rw [hb] at hl;exact ih h2 hl
    · cases h
theorem pvs_split:∀ (is:List Nat) (l l':Sl),pvs P N ops is l=some l'→∃ ex:Sl,l'=ex++l∧ex.length=is.length:=by
  intro is
  induction is with
  | nil=>intro l l' h;cases h;exact ⟨[],rfl,rfl⟩
  | cons i is ih=>
    intro l l' h;simp only [pvs] at h
    split at h
    · rename_i x hx
      obtain ⟨ex,h1,h2⟩:=ih _ _ h;exact ⟨ex++[x],by rw [h1];simp,by simp [h2]⟩
    · cases h
theorem maskOk_spec {new l:Sl} {t:Nat}:∀ (ex r:Sl),PL new l ex.length (ex++r)=true→told t ex=true→told t new=true∨told t l=false:=by
  intro ex
  induction ex with
  | nil=>intro r _ h;cases h
  | cons x ex ih=>
    obtain ⟨k,u⟩:=x;intro r h ht;simp only [List.length_cons,List.cons_append,PL,Bool.and_eq_true,Bool.or_eq_true,Bool.not_eq_true'] at h;simp only [told] at ht;cases hb:Nat.beq k t with
    | true=>
      have e:=Nat.eq_of_beq_eq_true hb;subst e;exact h.1
    | false=>rw [hb] at ht;exact ih r h.2 ht
theorem pxf_sub {k:Nat} {new l':Sl} (h:pvs P N ops (List.range' i k) l=some l') (hp:pxf P N ops i k new l=some new):Sub (new++l) l':=by
  unfold pxf at hp;rw [h] at hp;simp only at hp;cases hm:PL new l k l' with
  | false=>rw [hm] at hp;cases hp
  | true=>
    rw [hm] at hp;simp only [cond_true] at hp;intro t v ht;rw [KI] at ht;cases hn:EJ t new with
    | some u=>rw [hn] at ht;cases ht;exact pickL_look hp hn
    | none=>
      rw [hn] at ht;simp only at ht;obtain ⟨ex,h1,h2⟩:=pvs_split _ _ _ h;rw [List.length_range'] at h2;subst h1;rw [KI];cases he:EJ t ex with
      | none=>exact ht
      | some u=>
        rw [← h2] at hm;rcases maskOk_spec ex l hm (JN he) with h3 | h3
        · rw [look_none hn] at h3;cases h3
        · rw [JN ht] at h3;cases h3
theorem sp (k:Nat) (new:Sl) (next:Seq (ρ:=ρ) P N ops Q ds (i+k) (new++l) I M) (h:pxf P N ops i k new l=some new:=by kernel_rfl):Seq (ρ:=ρ) P N ops Q ds i l I M:=by
  cases hv:pvs P N ops (List.range' i k) l with
  | none=>unfold pxf at h;rw [hv] at h;cases h
  | some l'=>
    exact seq_pvs k i l l' hv fun a w hS hD hW=>next a w (hS.sub (pxf_sub hv h)) hD hW
def pvo (P:Program) (N:Nat) (ops:Array Oper):Nat→List (Nat × Bool)→Sl→Option Sl
  | 0,_,l=>some l
  | k+1,(i,true)::r,l=>match pvAt P N ops l i with
    | some x=>pvo P N ops k r (x::l)
    | none=>none
  | _,_,_=>none
theorem op_aux:∀ (k:Nat) (order:List (Nat × Bool)) (l l':Sl),pvo P N ops k order l=some l'→OFP P N ops R Kfin (order.drop k) l' I S→OFP P N ops R Kfin order l I S
  | 0,order,l,l',h,next=>by cases h;exact next
  | k+1,(i,true)::r,l,l',h,next=>by
    simp only [pvo] at h
    split at h
    · rename_i x hx
      exact AB (FV hx) (op_aux k r _ _ h next)
    · cases h
  | k+1,(i,false)::r,l,l',h,next=>by cases h
  | k+1,[],l,l',h,next=>by cases h
end
section
variable {ρ:Option Nat} {P:Program} {N:Nat} {ops:Array Oper} {Q:Exit→Act→World→Prop} {ds:List Deferred} {i:Nat} {l l':Sl} {I:Imm} {R M S:Seg} {d:Nat} {Kfin:Sl→Imm→Seg→Prop} {order:List (Nat × Bool)}
theorem gval_mono (s:Sub l l') {g:Option (Nat × Bool)} {b:Bool} (h:FR ops l g=some b):FR ops l' g=some b:=by
  cases g with
  | none=>exact h
  | some g=>
    obtain ⟨j,want⟩:=g;simp only [FR] at h ⊢;cases hj:(ops[j]?).bind (·.dst) with
    | none=>rw [hj] at h;exact h
    | some t=>
      rw [hj] at h;simp only at h ⊢;cases ht:EJ t l with
      | none=>rw [ht] at h;cases h
      | some v=>rw [ht] at h;rw [s t v ht];exact h
theorem oval_mono (s:Sub l l') {x:Operand} {v:Value} (h:CU l x=some v):CU l' x=some v:=by
  cases x with
  | tmp t=>exact s t v h
  | const u=>exact h
  | global g=>exact h
  | func f=>exact h
theorem exec_mono (s:Sub l l') {o:Oper} (hs:PlainOp o) (hk:∀ x∈o.op.operands,KH l x):execOp (rho l') o=execOp (rho l) o:=
  execOp_congr o hs.1 fun x hx=>by
    obtain ⟨v,hv⟩:=hk x hx;rw [BN hv,BN (oval_mono s hv)]
theorem known_mono (s:Sub l l') {x:Operand} (h:KH l x):KH l' x:=let ⟨v,hv⟩:=h;⟨v,oval_mono s hv⟩
theorem Det.more {v:Value} (s:Sub l l') (h:Det P N ops i l I R d v):Det P N ops i l' I R d v:=by
  obtain ⟨o,h1,h2,h3,h4,h5⟩:=h;refine ⟨o,h1,h2,h3,h4,?_⟩;rcases h5 with ⟨h6,h7⟩ | ⟨h6,h7,h8⟩
  · exact .inl ⟨gval_mono s h6,h7⟩
  · exact .inr ⟨gval_mono s h6,fun x hx=>known_mono s (h7 x hx),by rw [exec_mono s h4 h7];exact h8⟩
theorem Sub.cons_cons (s:Sub l l') (t:Nat) (v:Value):Sub ((t,v)::l) ((t,v)::l'):=fun u w hu=>by
  by_cases e:t=u
  · subst e;rw [DV] at hu ⊢;exact hu
  · rw [CB e] at hu ⊢;exact s u w hu
theorem Sub.ups (s:Sub l l') (dst:Option Tmp) (v:Value):Sub (ups dst v l) (ups dst v l'):=by
  cases dst with
  | none=>exact s
  | some d=>exact s.cons_cons d v
theorem Stp.more {K:Sl→Imm→Seg→Prop} (hK:∀ l l' I M,Sub l l'→K l I M→K l' I M) (s:Sub l l') (h:Stp P N ops i l I M K):Stp P N ops i l' I M K:=by
  obtain ⟨o,h1,h2,h3,h4,h5,h6⟩:=h;refine ⟨o,h1,h2,h3,gval_mono s h4,fun x hx=>known_mono s (h5 x hx),fun w st=>?_⟩;rw [exec_mono s h3 h5];exact (h6 w st).mono fun v w' ⟨I',M',a,b,c⟩=>⟨I',M',a,b,hK _ _ _ _ (s.ups _ _) c⟩
structure KM (K:Sl→Imm→Seg→Prop):Prop where
  more:∀ l l' I S,Sub l l'→K l I S→K l' I S
theorem Seq.more {n:Nat} (s:Sub l l') (h:Seq (ρ:=ρ) P N ops Q ds n l I M):Seq (ρ:=ρ) P N ops Q ds n l' I M:=fun a w hS hD hW=>h a w (hS.sub s) hD hW
theorem km0 {n0:Nat}:KM (fun l I S=>S=[]∧Seq (ρ:=ρ) P N ops Q ds n0 l I M):=⟨fun _ _ _ _ s h=>⟨h.1,h.2.more s⟩⟩
theorem km1 {n0:Nat}:KM (fun l I S=>Seq (ρ:=ρ) P N ops Q ds n0 l I (R++S)):=⟨fun _ _ _ _ s h=>h.more s⟩
theorem OFP.more (km:KM Kfin):∀ (order:List (Nat × Bool)) (l l':Sl) (I:Imm) (S:Seg),Sub l l'→OFP P N ops R Kfin order l I S→OFP P N ops R Kfin order l' I S
  | [],l,l',I,S,s,h=>km.more _ _ _ _ s h
  | (i,true)::r,l,l',I,S,s,⟨d,v,h1,h2⟩=>⟨d,v,h1.more s,OFP.more km r _ _ _ _ (s.cons_cons d v) h2⟩
  | (i,false)::r,l,l',I,S,s,h=>Stp.more (fun _ _ _ _ s' ⟨S',p,h'⟩=>⟨S',p,OFP.more km r _ _ _ _ s' h'⟩) s h
def pof (P:Program) (N:Nat) (ops:Array Oper) (order:List (Nat × Bool)) (k:Nat) (new l:Sl):Option Sl:=
  match pvo P N ops k order l with
  | some l'=>bif PL new l k l' then pickL l' new true else none
  | none=>none
theorem pvo_split:∀ (k:Nat) (order:List (Nat × Bool)) (l l':Sl),pvo P N ops k order l=some l'→∃ ex:Sl,l'=ex++l∧ex.length=k
  | 0,_,l,l',h=>by cases h;exact ⟨[],rfl,rfl⟩
  | k+1,(i,true)::r,l,l',h=>by
    simp only [pvo] at h
    split at h
    · rename_i x hx
      obtain ⟨ex,h1,h2⟩:=pvo_split k r _ _ h;exact ⟨ex++[x],by rw [h1];simp,by simp [h2]⟩
    · cases h
  | k+1,(i,false)::r,l,l',h=>by cases h
  | k+1,[],l,l',h=>by cases h
theorem mask_sub {new:Sl} {ex:Sl} (hm:PL new l ex.length (ex++l)=true) (hp:pickL (ex++l) new true=some new):Sub (new++l) (ex++l):=by
  intro t v ht;rw [KI] at ht;cases hn:EJ t new with
  | some u=>rw [hn] at ht;cases ht;exact pickL_look hp hn
  | none=>
    rw [hn] at ht;simp only at ht;rw [KI];cases he:EJ t ex with
    | none=>exact ht
    | some u=>
      rcases maskOk_spec ex l hm (JN he) with h3 | h3
      · rw [look_none hn] at h3;cases h3
      · rw [JN ht] at h3;cases h3
theorem ox (k:Nat) (new:Sl) (next:OFP P N ops R Kfin (order.drop k) (new++l) I S) (h:pof P N ops order k new l=some new:=by kernel_rfl) (km:KM Kfin:=by first | exact km0 | exact km1):OFP P N ops R Kfin order l I S:=by
  unfold pof at h;cases hv:pvo P N ops k order l with
  | none=>rw [hv] at h;cases h
  | some l'=>
    rw [hv] at h;simp only at h;obtain ⟨ex,rfl,rfl⟩:=pvo_split _ _ _ _ hv;cases hm:PL new l ex.length (ex++l) with
    | false=>rw [hm] at h;cases h
    | true=>
      rw [hm] at h;exact op_aux ex.length order l _ hv (OFP.more km _ _ _ _ _ (mask_sub hm h) next)
end
section
variable {ρ:Option Nat} {P:Program} {N:Nat} {ops:Array Oper} {Q:Exit→Act→World→Prop} {ds:List Deferred} {i:Nat} {l:Sl} {I:Imm} {M:Seg} {C:List Nat→Code} {p:List Nat}
theorem rq (h:Run (ρ:=ρ) P N (C (p++[0])) (Exit.then (fun a w=>(C (p++[1])).wpIn (fen ρ) 0 P Q a w) Q) ds l I M) (hc:C p=.seq (C (p++[0])) (C (p++[1])):=by kernel_rfl):Run (ρ:=ρ) P N (C p) Q ds l I M:=run_seq hc h
def isPlain (c:Code):Bool:=match c with | .region _ _ false=>true | _=>false
theorem isPlain_spec {c:Code} (h:isPlain c=true):∃ id,c=.region id (HX c) false:=by
  unfold isPlain at h
  split at h
  · exact ⟨_,rfl⟩
  · cases h
theorem rr (h:Seq (ρ:=ρ) P N (HX (C p)) Q ds 0 l I M) (hc:isPlain (C p)=true:=by kernel_rfl):Run (ρ:=ρ) P N (C p) Q ds l I M:=by
  obtain ⟨id,hid⟩:=isPlain_spec hc;exact run_region hid h
theorem rqr (h:Seq (ρ:=ρ) P N (HX (C (p++[0]))) (Exit.then (fun a w=>(C (p++[1])).wpIn (fen ρ) 0 P Q a w) Q) ds 0 l I M) (hc:C p=.seq (C (p++[0])) (C (p++[1])):=by kernel_rfl) (hr:isPlain (C (p++[0]))=true:=by kernel_rfl):Run (ρ:=ρ) P N (C p) Q ds l I M:=rq (rr h hr) hc
theorem se {y:Code} {Q':Exit→Act→World→Prop} (h:Run (ρ:=ρ) P N y Q ds l I M) (he:ops.size=i:=by kernel_rfl):Seq (ρ:=ρ) P N ops (Exit.then (fun a w=>y.wpIn (fen ρ) 0 P Q a w) Q') ds i l I M:=seq_end he (pst_next h)
theorem sn {Q' : Exit → Act → World → Prop} (h : Seq (ρ := ρ) P N (HX (C (p ++ [0]))) (Exit.then (fun a w => (C (p ++ [1])).wpIn (fen ρ) 0 P Q a w) Q) ds 0 l I M) (he : ops.size = i := by kernel_rfl) (hc : C p = .seq (C (p ++ [0])) (C (p ++ [1])) := by kernel_rfl) (hr : isPlain (C (p ++ [0])) = true := by kernel_rfl) :
    Seq (ρ:=ρ) P N ops (Exit.then (fun a w=>(C p).wpIn (fen ρ) 0 P Q a w) Q') ds i l I M:=se (rqr h hc hr) he
theorem rc (t : Nat) {b : Bool} (ht : EJ t l = some (.bool b)) (h1 : b = true → Run (ρ := ρ) P N (C (p ++ [0])) Q ds l I M) (h2 : b = false → Run (ρ := ρ) P N (C (p ++ [1])) Q ds l I M)
    (hc:C p=.cond (.tmp t) (C (p++[0])) (C (p++[1])):=by kernel_rfl):Run (ρ:=ρ) P N (C p) Q ds l I M:=run_cond hc ht h1 h2
theorem rct (t:Nat) (ht:EJ t l=some (.bool true)) (h1:Run (ρ:=ρ) P N (C (p++[0])) Q ds l I M) (hc:C p=.cond (.tmp t) (C (p++[0])) (C (p++[1])):=by kernel_rfl):Run (ρ:=ρ) P N (C p) Q ds l I M:=run_cond_true hc ht h1
theorem rcf (t:Nat) (ht:EJ t l=some (.bool false)) (h1:Run (ρ:=ρ) P N (C (p++[1])) Q ds l I M) (hc:C p=.cond (.tmp t) (C (p++[0])) (C (p++[1])):=by kernel_rfl):Run (ρ:=ρ) P N (C p) Q ds l I M:=run_cond_false hc ht h1
theorem rb (id:Nat) (h:Run (ρ:=ρ) P N (C (p++[0])) (Exit.inBlock id Q) ds l I M) (hc:C p=.block id (C (p++[0])):=by kernel_rfl):Run (ρ:=ρ) P N (C p) Q ds l I M:=run_block hc h
theorem rl (J : Nat → Act → World → Prop) (h0 : ∀ a w, Slots N l a → a.defers = ds → St I M w → ∃ n0, J n0 a w) (round : ∀ n a w, J n a w → (C (p ++ [0])).wpIn (fen ρ) 0 P (Exit.then (fun a' w' => ∃ n', n' < n ∧ J n' a' w') Q) a w)
    (hc:C p=.loop (C (p++[0])):=by kernel_rfl):Run (ρ:=ρ) P N (C p) Q ds l I M:=run_loop hc J h0 round
theorem BO (h:Pst N Q .ret ds l I M) (hc:C p=.ret:=by kernel_rfl):Run (ρ:=ρ) P N (C p) Q ds l I M:=run_ret hc h
theorem AH (h:Pst N Q .normal ds l I M) (hc:C p=.skip:=by kernel_rfl):Run (ρ:=ρ) P N (C p) Q ds l I M:=run_skip hc h
theorem CC (id:Nat) (h:Pst N Q (.exit id) ds l I M) (hc:C p=.exit id:=by kernel_rfl):Run (ρ:=ρ) P N (C p) Q ds l I M:=run_exit hc h
theorem rlab (id:Nat) (h:Pst N Q .normal ds l I M) (hc:C p=.label id:=by kernel_rfl):Run (ρ:=ρ) P N (C p) Q ds l I M:=run_label hc h
def allT:Nat→Nat→List (Nat × Bool)
  | _,0=>[]
  | i,n+1=>(i,true)::allT (i+1) n
def isDrawn (c:Code):Bool:=match c with | .region _ _ true=>true | _=>false
theorem LG {c:Code} (h:isDrawn c=true):∃ id,c=.region id (HX c) true:=by
  unfold isDrawn at h
  split at h
  · exact ⟨_,rfl⟩
  · cases h
theorem rd0 (n0 : Nat) (h : OFP P N (HX (C p)) M (fun l I S => S = [] ∧ Seq (ρ := ρ) P N (HX (C p)) Q ds n0 l I M) (allT 0 n0) l I []) (hm : P.follows .mixedOrders = true := by kernel_rfl) (hc : isDrawn (C p) = true := by kernel_rfl)
    (hok:okAll (HX (C p)) n0 (allT 0 n0)=true:=by kernel_rfl):Run (ρ:=ρ) P N (C p) Q ds l I M:=by
  obtain ⟨id,hid⟩:=LG hc;exact run_draw0 n0 _ hm hid hok h
theorem rd (n0 : Nat) (order : List (Nat × Bool)) (R S : Seg) (h : OFP P N (HX (C p)) R (fun l I S => Seq (ρ := ρ) P N (HX (C p)) Q ds n0 l I (R ++ S)) order l I S) (hM : M.Perm (R ++ S) := by exact List.Perm.refl _) (hm : P.follows .mixedOrders = true := by kernel_rfl)
    (hc:isDrawn (C p)=true:=by kernel_rfl) (hok:okAll (HX (C p)) n0 order=true:=by kernel_rfl):Run (ρ:=ρ) P N (C p) Q ds l I M:=by
  obtain ⟨id,hid⟩:=LG hc;exact run_draw n0 _ hm hid hok hM h
theorem ee (next:Pst N Q .normal ds l I M) (h:ops.size=i:=by kernel_rfl):Seq (ρ:=ρ) P N ops Q ds i l I M:=seq_end h next
theorem sd {d:Nat} {v:Value} (h:Det P N ops i l I M d v) (next:Seq (ρ:=ρ) P N ops Q ds (i+1) ((d,v)::l) I M):Seq (ρ:=ρ) P N ops Q ds i l I M:=seq_det h next
theorem sS (h:Stp P N ops i l I M (fun l' I' M'=>Seq (ρ:=ρ) P N ops Q ds (i+1) l' I' M')):Seq (ρ:=ρ) P N ops Q ds i l I M:=seq_stp h
theorem sfz {α : Type} {E : TypeId} {sz : Nat} {cell : α → Nat → Value} {A Ms : Seg} {v : Value} {xs : List α} (dflt : α) (h : Own E sz cell v xs Ms) (hM : M.Perm (Ms ++ A)) (next : ∀ J, I.le J → IsSl sz cell dflt J v xs → Seq (ρ := ρ) P N ops Q ds i l J A)
    (hl:xs.length≤140737488355328:=by first | omega | (simp only [List.length_set,List.length_cons,List.length_nil,List.length_append,List.length_take,List.length_drop] <;> omega) | decide):Seq (ρ:=ρ) P N ops Q ds i l I M:=seq_freeze dflt h hl hM (List.Perm.refl _) next
theorem rpm {c:Code} {M':Seg} (p:M.Perm M') (next:Run (ρ:=ρ) P N c Q ds l I M'):Run (ρ:=ρ) P N c Q ds l I M:=HY (fun w h=>h.perm p) next
theorem rnm {c:Code} {M':Seg} (next:Run (ρ:=ρ) P N c Q ds l I M') (h:M=M':=by (try simp only [List.append_assoc,List.cons_append,List.nil_append,List.append_nil,List.set_cons_zero,List.set_cons_succ]);rfl):Run (ρ:=ρ) P N c Q ds l I M:=by subst h;exact next
theorem ppm {e:Exit} {M':Seg} (p:M.Perm M') (next:Pst N Q e ds l I M'):Pst N Q e ds l I M:=pst_mem (fun w h=>h.perm p) next
theorem pm {M':Seg} (p:M.Perm M') (next:Seq (ρ:=ρ) P N ops Q ds i l I M'):Seq (ρ:=ρ) P N ops Q ds i l I M:=AR (fun w h=>h.perm p) next
theorem nm {M':Seg} (next:Seq (ρ:=ρ) P N ops Q ds i l I M') (h:M=M':=by (try simp only [List.append_assoc,List.cons_append,List.nil_append,List.append_nil,List.set_cons_zero,List.set_cons_succ]);rfl):Seq (ρ:=ρ) P N ops Q ds i l I M:=by subst h;exact next
end
theorem fr {P : Program} {f : FuncId} {fn : Func} {args : List Value} {I : Imm} {pre : Seg} {post : Value → Imm → Seg → Prop} {N : Nat} (hf : P.funcs[f]? = some fn)
    (h:∀ F,Run (ρ:=none) P N (AU fn) (RetQ P fn I post F) [] (JC 0 args) I (pre++F)) (hb:fn.body.isSome=true:=by kernel_rfl) (hN:fn.ntmps=N:=by kernel_rfl) (hle:Nat.ble args.length N=true:=by rfl):Ct P f args.toArray I pre post:=
  fn_of_run hf hb hN (Nat.le_of_ble_eq_true hle) h
section
variable {ρ:Option Nat} {P:Program} {N:Nat} {ops:Array Oper} {Q:Exit→Act→World→Prop} {ds:List Deferred} {i:Nat} {l:Sl} {I:Imm} {R M:Seg}
def okAt (N:Nat) (ops:Array Oper) (l:Sl) (i:Nat):Option (Option Tmp × Op × TypeId):=
  match GL ops N i with
  | some (dst,op,ty,gd)=>match FR ops l gd with
    | some true=>some (dst,op,ty)
    | _=>none
  | none=>none
theorem GC {dst:Option Tmp} {op:Op} {ty:TypeId} (h:okAt N ops l i=some (dst,op,ty)):∃ gd,GL ops N i=some (dst,op,ty,gd)∧FR ops l gd=some true:=by
  unfold okAt at h
  split at h
  · split at h
    · rename_i h1 _ h2;cases h;exact ⟨_,h1,h2⟩
    · cases h
  · cases h
inductive Ar | add | sub | mul
def arAt (b:Ar) (N:Nat) (ops:Array Oper) (l:Sl) (i:Nat):Option (Nat × Int × Int):=
  match okAt N ops l i with
  | some (some d,.binOp o _ x y _,_)=>match CU l x,CU l y with
    | some (.int .i64 a),some (.int .i64 c)=>match b,o with
      | .add,.add=>some (d,a,c)
      | .sub,.sub=>some (d,a,c)
      | .mul,.mul=>some (d,a,c)
      | _,_=>none
    | _,_=>none
  | _=>none
theorem arAt_spec {b : Ar} {d : Nat} {a c : Int} (h : arAt b N ops l i = some (d, a, c)) : ∃ x y T T' ty gd, GL ops N i = some (some d, .binOp (match b with | .add => .add | .sub => .sub | .mul => .mul) T x y T', ty, gd) ∧ FR ops l gd = some true ∧
    CU l x=some (.int .i64 a)∧CU l y=some (.int .i64 c):=by
  unfold arAt at h
  split at h
  · rename_i d' o T x y T' ty ho
    obtain ⟨gd,h1,h2⟩:=GC ho
    split at h
    · rename_i a' c' hx hy
      split at h <;> cases h <;> exact ⟨x,y,T,T',ty,gd,h1,h2,hx,hy⟩
    · cases h
  · cases h
theorem da (d:Nat) (a c:Int) (hr:-9223372036854775808≤a+c∧a+c≤9223372036854775807:=by omega) (h:arAt .add N ops l i=some (d,a,c):=by kernel_rfl):Det P N ops i l I R d (.int .i64 (a+c)):=by
  obtain ⟨x,y,T,T',ty,gd,h1,h2,h3,h4⟩:=arAt_spec h;exact det_add h1 h2 h3 h4 hr
theorem dsb (d:Nat) (a c:Int) (hr:-9223372036854775808≤a-c∧a-c≤9223372036854775807:=by omega) (h:arAt .sub N ops l i=some (d,a,c):=by kernel_rfl):Det P N ops i l I R d (.int .i64 (a-c)):=by
  obtain ⟨x,y,T,T',ty,gd,h1,h2,h3,h4⟩:=arAt_spec h;exact det_sub h1 h2 h3 h4 hr
theorem dmu (d:Nat) (a c:Int) (hr:-9223372036854775808≤a*c∧a*c≤9223372036854775807:=by omega) (h:arAt .mul N ops l i=some (d,a,c):=by kernel_rfl):Det P N ops i l I R d (.int .i64 (a*c)):=by
  obtain ⟨x,y,T,T',ty,gd,h1,h2,h3,h4⟩:=arAt_spec h;exact det_mul h1 h2 h3 h4 hr
def cmAt (N:Nat) (ops:Array Oper) (l:Sl) (i:Nat):Option (Nat × BinOp × Int × Int):=
  match okAt N ops l i with
  | some (some d,.binOp o _ x y _,_)=>match CU l x,CU l y with
    | some (.int .i64 a),some (.int .i64 c)=>bif isCmp o then some (d,o,a,c) else none
    | _,_=>none
  | _=>none
theorem dcm (d:Nat) (o:BinOp) (a c:Int) (v:Bool) (hb:cmp o a c=v) (h:cmAt N ops l i=some (d,o,a,c):=by kernel_rfl):Det P N ops i l I R d (.bool v):=by
  unfold cmAt at h
  split at h
  · rename_i d' o' T x y T' ty ho
    obtain ⟨gd,h1,h2⟩:=GC ho
    split at h
    · rename_i a' c' hx hy
      cases hc:isCmp o' with
      | false=>rw [hc] at h;cases h
      | true=>rw [hc] at h;cases h;exact det_cmp' h1 h2 hx hy hc hb
    · cases h
  · cases h
def ixAt (P:Program) (N:Nat) (ops:Array Oper) (l:Sl) (i:Nat):Option (Nat × Nat × Option Addr × Nat × Int):=
  match okAt N ops l i with
  | some (some d,.indexAddr T x y,_)=>match KS P T with
    | some e=>match DY P e,CU l x,CU l y with
      | some sz,some (.slice a n _),some (.int _ j)=>some (d,sz,a,n,j)
      | _,_,_=>none
    | none=>none
  | _=>none
theorem diI (d sz : Nat) (j : Int) {n b off : Nat} {a : Option Addr} (ha : 0 < n → a = some ⟨b, off, none⟩) (hj : 0 ≤ j ∧ j < n := by omega) (h : ixAt P N ops l i = some (d, sz, a, n, j) := by kernel_rfl) :
    Det P N ops i l I R d (.pointer (some ⟨b,off+j.toNat*sz,none⟩)):=by
  unfold ixAt at h
  split at h
  · rename_i d' T x y ty ho
    obtain ⟨gd,h1,h2⟩:=GC ho
    split at h
    · rename_i e he
      split at h
      · rename_i sz' a' n' c' k' j' hs hx hy
        cases h;exact det_indexAddr h1 h2 he hs hx hy ha hj.1 hj.2
      · cases h
    · cases h
  · cases h
theorem di (d sz : Nat) (j : Nat) {n b off : Nat} {a : Option Addr} (ha : 0 < n → a = some ⟨b, off, none⟩) (hj : j < n := by omega) (h : ixAt P N ops l i = some (d, sz, a, n, (j : Int)) := by kernel_rfl) :
    Det P N ops i l I R d (.pointer (some ⟨b,off+j*sz,none⟩)):=by
  have:=diI (I:=I) (R:=R) d sz (j:Int) ha (by omega) h
  rwa [Int.toNat_natCast] at this
def ldAt (P:Program) (N:Nat) (ops:Array Oper) (l:Sl) (i:Nat):Option (Nat × Nat × Nat):=
  match okAt N ops l i with
  | some (some d,.load T x,_)=>match EI P T,CU l x with
    | some false,some (.pointer (some ⟨b,off,none⟩))=>some (d,b,off)
    | _,_=>none
  | _=>none
theorem dl (d:Nat) {b off:Nat} {v:Value} (hs:Sees I R ⟨b,off,none⟩ v) (h:ldAt P N ops l i=some (d,b,off):=by kernel_rfl):Det P N ops i l I R d v:=by
  unfold ldAt at h
  split at h
  · rename_i d' T x ty ho
    obtain ⟨gd,h1,h2⟩:=GC ho
    split at h
    · rename_i b' off' hT hx
      cases h;exact BM h1 h2 hT hx hs
    · cases h
  · cases h
def cellAt (R:Seg) (k off:Nat):Option (Nat × Value):=
  match R[k]? with
  | some (b,.cells cs _ _)=>match cs[off]? with
    | some v=>some (b,v)
    | none=>none
  | _=>none
theorem dlb (d k off b:Nat) (v:Value) (h:ldAt P N ops l i=some (d,b,off):=by kernel_rfl) (hc:cellAt R k off=some (b,v):=by kernel_rfl):Det P N ops i l I R d v:=by
  refine dl d ?_ h;unfold cellAt at hc
  split at hc
  · rename_i b' cs T fz hk
    split at hc
    · rename_i v' hv
      cases hc;exact sees_at k hk hv
    · cases hc
  · cases hc
def lnAt (P:Program) (N:Nat) (ops:Array Oper) (l:Sl) (i:Nat):Option (Nat × Nat × Nat × Nat):=
  match okAt N ops l i with
  | some (some d,.load T x,_)=>match EI P T,DY P T,CU l x with
    | some true,some n,some (.pointer (some ⟨b,off,none⟩))=>some (d,n,b,off)
    | _,_,_=>none
  | _=>none
theorem dn (d:Nat) {b off:Nat} {vs:List Value} (hs:SeesN I R b off vs) (h:lnAt P N ops l i=some (d,vs.length,b,off):=by kernel_rfl):Det P N ops i l I R d (.agg vs.toArray):=by
  unfold lnAt at h
  split at h
  · rename_i d' T x ty ho
    obtain ⟨gd,h1,h2⟩:=GC ho
    split at h
    · rename_i n' b' off' hT hn hx
      cases h;exact DS h1 h2 hT hn hx rfl hs
    · cases h
  · cases h
def rowAt (R:Seg) (k off n:Nat):Option (Nat × List Value):=
  match R[k]? with
  | some (b,.cells cs _ _)=>some (b,(cs.toList.drop off).take n)
  | _=>none
theorem dnb (d k off b:Nat) (vs:List Value) (h:lnAt P N ops l i=some (d,vs.length,b,off):=by kernel_rfl) (hc:rowAt R k off vs.length=some (b,vs):=by kernel_rfl):Det P N ops i l I R d (.agg vs.toArray):=by
  refine dn d ?_ h;unfold rowAt at hc
  split at hc
  · rename_i b' cs T fz hk
    have h1:b'=b:=congrArg (fun x=>(x.getD (0,[])).1) hc;have h2:(cs.toList.drop off).take vs.length=vs:=congrArg (fun x=>(x.getD (0,[])).2) hc;subst h1;exact OA (n:=vs.length) k hk h2
  · cases hc
def clAt (P:Program) (N:Nat) (ops:Array Oper) (l:Sl) (i:Nat):Option (Option Tmp × FuncId × Array Value):=
  match okAt N ops l i with
  | some (d,.call { callee:=.value f,args:=args,argTypes:=_ },_)=>match CU l f,OU l args.toList with
    | some (.func (.func fid) ⟨fs⟩ cv),some vals=>bif GF P fid&&fs.isEmpty then some (d,fid,(vals++cv.toList).toArray) else none
    | _,_=>none
  | _=>none
theorem clAt_spec {d : Option Tmp} {fid : FuncId} {argv : Array Value} (h : clAt P N ops l i = some (d, fid, argv)) : ∃ f args tys ty gd vals cv, GL ops N i = some (d, .call { callee := .value f, args := args, argTypes := tys }, ty, gd) ∧ FR ops l gd = some true ∧
    CU l f=some (.func (.func fid) #[] (cv:List Value).toArray)∧OU l args.toList=some vals∧GF P fid=true∧(vals++cv).toArray=argv:=by
  unfold clAt at h
  split at h
  · rename_i d' f args tys ty ho
    obtain ⟨gd,h1,h2⟩:=GC ho
    split at h
    · rename_i fid' fs cv vals hf hv
      cases hc:GF P fid'&&fs.isEmpty with
      | false=>rw [hc] at h;cases h
      | true=>
        rw [hc] at h;cases h;rw [Bool.and_eq_true,List.isEmpty_iff] at hc;obtain ⟨hc,rfl⟩:=hc;exact ⟨f,args,tys,ty,gd,vals,cv.toList,h1,h2,by simpa using hf,hv,hc,rfl⟩
    · cases h
  · cases h
theorem dc (d:Nat) {fid:FuncId} {argv:Array Value} {v:Value} (ct:∀ I',I.le I'→CtV P fid argv I' v) (h:clAt P N ops l i=some (some d,fid,argv):=by kernel_rfl):Det P N ops i l I R d v:=by
  obtain ⟨f,args,tys,ty,gd,vals,cv,h1,h2,h3,h4,h5,h6⟩:=clAt_spec h;exact det_call h1 h2 h3 h4 h5 h6 ct
theorem sc (d : Option Tmp) {K : Sl → Imm → Seg → Prop} {fid : FuncId} {argv : Array Value} {pre F : Seg} {post : Value → Imm → Seg → Prop} (ct : Ct P fid argv I pre post) (hM : M.Perm (pre ++ F))
    (hk:∀ v I' M',I.le I'→post v I' M'→K (ups d v l) I' (M'++F)) (h:clAt P N ops l i=some (d,fid,argv):=by kernel_rfl):Stp P N ops i l I M K:=by
  obtain ⟨f,args,tys,ty,gd,vals,cv,h1,h2,h3,h4,h5,h6⟩:=clAt_spec h;exact KL h1 h2 h3 h4 h5 h6 ct hM hk
def bxAt (N:Nat) (ops:Array Oper) (l:Sl) (i:Nat):Option (Nat × TypeId × Array Value):=
  match okAt N ops l i with
  | some (some d,.box T x,_)=>match CU l x with
    | some v=>some (d,T,v.cells)
    | none=>none
  | _=>none
theorem sb (d T:Nat) (cs:Array Value) {K:Sl→Imm→Seg→Prop} (hk:∀ b,K ((d,.pointer (some ⟨b,0,none⟩))::l) I ((b,.cells cs T (0,0))::M)) (h:bxAt N ops l i=some (d,T,cs):=by kernel_rfl):Stp P N ops i l I M K:=by
  unfold bxAt at h
  split at h
  · rename_i d' T' x ty ho
    obtain ⟨gd,h1,h2⟩:=GC ho
    split at h
    · rename_i v hx
      cases h;exact stp_box h1 h2 hx rfl hk
    · cases h
  · cases h
def alAt (P:Program) (N:Nat) (ops:Array Oper) (l:Sl) (i:Nat):Option (Nat × TypeId × Array Value):=
  match okAt N ops l i with
  | some (some d,.alloc T,_)=>match LR P T with
    | some v=>some (d,T,v.cells)
    | none=>none
  | _=>none
theorem sal (d T:Nat) (cs:Array Value) {K:Sl→Imm→Seg→Prop} (hk:∀ b,K ((d,.pointer (some ⟨b,0,none⟩))::l) I ((b,.cells cs T (0,0))::M)) (h:alAt P N ops l i=some (d,T,cs):=by kernel_rfl):Stp P N ops i l I M K:=by
  unfold alAt at h
  split at h
  · rename_i d' T' ty ho
    obtain ⟨gd,h1,h2⟩:=GC ho
    split at h
    · rename_i v hx
      cases h;exact stp_alloc h1 h2 hx rfl hk
    · cases h
  · cases h
def stAt (P:Program) (N:Nat) (ops:Array Oper) (l:Sl) (i:Nat):Option (Nat × Nat × List Value):=
  match okAt N ops l i with
  | some (none,.store T x y,_)=>match CU l x,CU l y,DY P T with
    | some (.pointer (some ⟨b,off,none⟩)),some v,some n=>bif Nat.beq v.cells.toList.length n&&v.cells.toList.all FC then some (b,off,v.cells.toList) else none
    | _,_,_=>none
  | _=>none
theorem ss (k off b : Nat) (vs cs' : List Value) (M' : Seg) {cs : List Value} {S : TypeId} {K : Sl → Imm → Seg → Prop} (hk : M[k]? = some (b, Obj.cells cs.toArray S (0, 0))) (hM : M.set k (b, Obj.cells cs'.toArray S (0, 0)) = M') (hK : K l I M')
    (h:stAt P N ops l i=some (b,off,vs):=by kernel_rfl) (hs:(IX cs.toArray off vs).toList=cs':=by kernel_rfl) (hle:Nat.ble (off+vs.length) cs.length=true:=by kernel_rfl):Stp P N ops i l I M K:=by
  unfold stAt at h
  split at h
  · rename_i T' x y ty ho
    obtain ⟨gd,h1,h2⟩:=GC ho
    split at h
    · rename_i b' off' v n hx hy hn
      cases hc:Nat.beq v.cells.toList.length n&&v.cells.toList.all FC with
      | false=>rw [hc] at h;cases h
      | true=>
        rw [hc] at h;cases h;rw [Bool.and_eq_true] at hc;exact stp_store k h1 h2 hx hy hn rfl (Nat.eq_of_beq_eq_true hc.1) hc.2 hk (Nat.le_of_ble_eq_true hle) hs hM hK
    · cases h
  · cases h
def bsAt (P:Program) (N:Nat) (ops:Array Oper) (l:Sl) (i:Nat):Option (Nat × TypeId × Nat × Array Value):=
  match okAt N ops l i with
  | some (some d,.buildSlice T n parts,_)=>match KS P T,OU l (parts.toList.map (·.2)) with
    | some e,some _=>match DY P e,LR P e with
      | some sz, some z => bif Nat.ble (n * sz) 16777216 then
          match Instr.fill (fun i=>some (i*sz,sz)) ((Array.range (n*sz)).map (fun k=>(if n*sz=0 then #[] else z.cells)[k%(if n*sz=0 then (#[]:Array Value) else z.cells).size]!)) (parts.toList.map fun x=>(x.1,rho l x.2)) with
          | some cs=>some (d,e,n,cs)
          | none=>none
        else none
      | _,_=>none
    | _,_=>none
  | _=>none
theorem sbs (d e n:Nat) (cs:Array Value) {K:Sl→Imm→Seg→Prop} (hk:∀ b,K ((d,.slice (some ⟨b,0,none⟩) n n)::l) I ((b,.cells cs e (0,0))::M)) (h:bsAt P N ops l i=some (d,e,n,cs):=by kernel_rfl):Stp P N ops i l I M K:=by
  unfold bsAt at h
  split at h
  · rename_i d' T n' parts ty ho
    obtain ⟨gd,h1,h2⟩:=GC ho
    split at h
    · rename_i e' vs he hv
      split at h
      · rename_i sz z hs hz
        cases hc:Nat.ble (n'*sz) 16777216 with
        | false=>rw [hc] at h;cases h
        | true=>
          rw [hc] at h;simp only [cond_true] at h
          split at h
          · rename_i cs' hf
            cases h;exact stp_buildSlice h1 h2 he hs hz (parts_knownS (by rw [hv];rfl)) rfl (Nat.le_of_ble_eq_true hc) hf hk
          · cases h
      · cases h
    · cases h
  · cases h
end
end Go.Sl
namespace Go.Proofs.YtcaocbhbofejnaaGreatDoor
open Go Go.Sl Go.Sh
set_option maxRecDepth 100000
noncomputable def cIn (p:List Nat):Code:=sub (AU Tryz.f83) p
theorem OQ (I:Imm) (n:Int) (lo:Int) (hi:Int):CtV Tryz.prog 83 #[vI n,vI lo,vI hi] I (.bool (inB n lo hi)):=by
 refine fr (args:=[_,_,_]) (N:=15) Tryz.func83 (fun F=>?_);show Run _ _ (cIn []) _ _ [(0,vI (n)),(1,vI (lo)),(2,vI (hi))] _ _;refine rnm (rqr ?_);refine sp 1 [(6,.bool (false))] (se (rq ?_));refine DQ (fun a w=>Slots 15 [(6,.bool ((cmp .leq (lo) (n))&&(cmp .leq (n) (hi))))] a∧a.defers=[]∧St I (F) w) ?_ ?_
 ·
  refine rr (sp 4 [(10,.bool (cmp .leq (lo) (n)))] ?_);refine AY 10 rfl (fun h1=>?_) (fun h1=>?_)
  ·
   have a0:=h1;have a0:=leq_t a0;refine sp 5 [(6,.bool (cmp .leq (n) (hi)))] (ee ?_);refine AL (fun a w hS hD hW=>⟨hS.sub (.consE 6 rfl (congrArg Value.bool (by simp only [h1,kA,kB,kC,kD,kE,kF,kG,kH,kI,kJ])) (.nil _)),hD,hW⟩)
  have a0:=h1;have a0:=leq_f a0;refine sp 5 [(6,.bool (false))] (ee ?_);refine AL (fun a w hS hD hW=>⟨hS.sub (.consE 6 rfl (congrArg Value.bool (by simp only [h1,kA,kB,kC,kD,kE,kF,kG,kH,kI,kJ])) (.nil _)),hD,hW⟩)
 rintro a w ⟨hS,hD,hW⟩
 refine AX hS hD hW ?_;clear hS hD hW a w;refine BO (AE (t:=6) [] (by kernel_rfl) rfl (TR _) (IR _) ?_);exact ⟨by simp [inB,cmp],rfl⟩
noncomputable def c_EqualInts_ct (p:List Nat):Code:=sub (AU Tryz.f30) p
theorem JA (I:Imm) (a:Value) (xs:List Int) (b:Value) (ys:List Int) (a_f:BK I a xs) (b_f:BK I b ys):CtV Tryz.prog 30 #[a,b] I (.bool (decide (xs=ys))):=by
 obtain ⟨a0,a1,b1,b4,a9,b2,b3,a7⟩:=id a_f;subst a9;obtain ⟨a2,a3,b5,b8,b0,b6,b7,a8⟩:=id b_f;subst b0;refine fr (args:=[_,_]) (N:=26) Tryz.func30 (fun F=>?_);show Run _ _ (c_EqualInts_ct []) _ _ [(0,vS a0 xs.length a1),(1,vS a2 ys.length a3)] _ _;refine rnm (rqr ?_);refine sp 1 [(4,.bool (false))] (se (rq (rqr (sp 5 [(10,.bool (!(cmp .eql (↑(xs.length)) (↑(ys.length)))))] (se (rc 10 rfl (fun h1=>?_) (fun h1=>?_)))))))
 ·
  have a4:=h1;have h1:=DE (CL h1);refine rqr (sp 1 [(4,.bool (false))] (se (BO ((RP (AE (t:=4) [] (by kernel_rfl) rfl (TR _) (IR _) ?_))))));exact ⟨by rw [decide_eq_false (fun e=>h1 (by rw [e]))],rfl⟩
 have a4:=h1;have h1:=DF (BW h1);refine AH (NX (rq (rqr (sp 1 [(5,vI (0))] (se (rb 0 ?_))))));refine rl (fun mz a w=>∃ k:Nat,(k≤xs.length)∧(xs.length=ys.length)∧(xs.take k=ys.take k)∧Slots 26 [(5,vI ↑k),(0,vS a0 xs.length a1),(1,vS a2 ys.length a3)] a∧a.defers=[]∧St I (F) w∧mz=xs.length-k) ?_ ?_
 ·intro a w hS hD hW;exact ⟨_,0,Nat.zero_le _,by omega,rfl,hS.sub (.cons 5 rfl (.cons 0 rfl (.cons 1 rfl (.nil _)))),hD,hW,rfl⟩
 rintro mz a w ⟨k,hk,hl,ht,hS,hD,hW,rfl⟩
 refine AX hS hD hW ?_;clear hS hD hW a w;refine rq (rqr (sp 4 [(14,.bool (cmp .lss (↑k) (↑(xs.length))))] (se (rc 14 rfl (fun h2=>?_) (fun h2=>?_)))))
 ·
  have a5:=h2;have h2:=BZ h2;refine AH (NX (rq (rb 1 (rq ?_))));refine rd0 8 (ox 2 [(18,vI (↑k)),(17,vS a0 xs.length a1)] ?_);refine AB (di 19 1 (k) a7.addr) ?_;refine AB (dl 20 (BH a7 (k) (by omega))) (ox 2 [(22,vI (↑k)),(21,vS a2 ys.length a3)] ?_);refine AB (di 23 1 (k) a8.addr) ?_;refine AB (dl 24 (BH a8 (k) (by omega))) ?_;refine BT (sp 1 [(25,.bool (!(cmp .eql (xs.getD (k) 0) (ys.getD (k) 0))))] (se (rc 25 rfl (fun h3=>?_) (fun h3=>?_))))
  ·
   have a6:=h3;have h3:=DE (CL h3);refine rqr (sp 1 [(4,.bool (false))] (se (BO ((RB (RP (RP (RB (RP (AE (t:=4) [] (by kernel_rfl) rfl (TR _) (IR _) ?_))))))))));exact ⟨by rw [decide_eq_false (getD_ne hl h3)],rfl⟩
  have a6:=h3;have h3:=DF (BW h3);refine AH (NB (NX (rr (sp 1 [(15,vI (↑k))] (sd (da 16 (↑k) (1)) (sp 1 [(5,vI (↑k+1))] (ee ?_)))))));refine AG (xs.length-(k+1)) (by omega) ?_;intro a w hS hD hW;exact ⟨k+1,by omega,hl,LM (d:=0) hl ht (by omega) h3,hS.sub (.consE 5 rfl rfl (.cons 0 rfl (.cons 1 rfl (.nil _)))),hD,hW,rfl⟩
 have a5:=h2;have h2:=BX h2;refine CC 0 ((EP (EP (EB (NX (rqr (sp 1 [(4,.bool (true))] (se (BO (AE (t:=4) [] (by kernel_rfl) rfl (TR _) (IR _) ?_))))))))));exact ⟨by rw [decide_eq_true (OC hl ht (by omega))],rfl⟩
noncomputable def PY (p:List Nat):Code:=sub (AU Tryz.f132) p
theorem slicesEqual_ct (I:Imm) (a:Value) (xs:List Int) (b:Value) (ys:List Int) (a_f:BK I a xs) (b_f:BK I b ys):CtV Tryz.prog 132 #[a,b] I (.bool (decide (xs=ys))):=by
 obtain ⟨a0,a1,b1,b4,a9,b2,b3,a7⟩:=id a_f;subst a9;obtain ⟨a2,a3,b5,b8,b0,b6,b7,a8⟩:=id b_f;subst b0;refine fr (args:=[_,_]) (N:=26) Tryz.func132 (fun F=>?_);show Run _ _ (PY []) _ _ [(0,vS a0 xs.length a1),(1,vS a2 ys.length a3)] _ _;refine rnm (rqr ?_);refine sp 1 [(4,.bool (false))] (se (rq (rqr (sp 5 [(10,.bool (!(cmp .eql (↑(xs.length)) (↑(ys.length)))))] (se (rc 10 rfl (fun h1=>?_) (fun h1=>?_)))))))
 ·
  have a4:=h1;have h1:=DE (CL h1);refine rqr (sp 1 [(4,.bool (false))] (se (BO ((RP (AE (t:=4) [] (by kernel_rfl) rfl (TR _) (IR _) ?_))))));exact ⟨by rw [decide_eq_false (fun e=>h1 (by rw [e]))],rfl⟩
 have a4:=h1;have h1:=DF (BW h1);refine AH (NX (rq (rqr (sp 3 [(13,vI (0)),(12,vI (↑(xs.length)))] (se (rb 0 ?_))))));refine rl (fun mz a w=>∃ k:Nat,(k≤xs.length)∧(xs.length=ys.length)∧(xs.take k=ys.take k)∧Slots 26 [(13,vI ↑k),(0,vS a0 xs.length a1),(1,vS a2 ys.length a3),(12,vI (↑(xs.length)))] a∧a.defers=[]∧St I (F) w∧mz=xs.length-k) ?_ ?_
 ·intro a w hS hD hW;exact ⟨_,0,Nat.zero_le _,by omega,rfl,hS.sub (.cons 13 rfl (.cons 0 rfl (.cons 1 rfl (.cons 12 rfl (.nil _))))),hD,hW,rfl⟩
 rintro mz a w ⟨k,hk,hl,ht,hS,hD,hW,rfl⟩
 refine AX hS hD hW ?_;clear hS hD hW a w;refine rqr (sp 1 [(14,.bool (cmp .lss (↑k) (↑(xs.length))))] (se (rq (rc 14 rfl (fun h2=>?_) (fun h2=>?_)))))
 ·
  have a5:=h2;have h2:=BZ h2;refine AH (NX (rq (rb 1 (rqr (sp 2 [(5,vI (↑k))] (se (rq ?_)))))));refine rd0 8 (ox 2 [(17,vI (↑k)),(16,vS a0 xs.length a1)] ?_);refine AB (di 18 1 (k) a7.addr) ?_;refine AB (dl 19 (BH a7 (k) (by omega))) (ox 2 [(21,vI (↑k)),(20,vS a2 ys.length a3)] ?_);refine AB (di 22 1 (k) a8.addr) ?_;refine AB (dl 23 (BH a8 (k) (by omega))) ?_;refine BT (sp 1 [(24,.bool (!(cmp .eql (xs.getD (k) 0) (ys.getD (k) 0))))] (se (rc 24 rfl (fun h3=>?_) (fun h3=>?_))))
  ·
   have a6:=h3;have h3:=DE (CL h3);refine rqr (sp 1 [(4,.bool (false))] (se (BO ((RB (RP (RP (RB (RP (AE (t:=4) [] (by kernel_rfl) rfl (TR _) (IR _) ?_))))))))));exact ⟨by rw [decide_eq_false (getD_ne hl h3)],rfl⟩
  have a6:=h3;have h3:=DF (BW h3);refine AH (NB (NX (rr (sd (da 25 (↑k) (1)) (sp 1 [(13,vI (↑k+1))] (ee ?_))))));refine AG (xs.length-(k+1)) (by omega) ?_;intro a w hS hD hW;exact ⟨k+1,by omega,hl,LM (d:=0) hl ht (by omega) h3,hS.sub (.consE 13 rfl rfl (.cons 0 rfl (.cons 1 rfl (.cons 12 rfl (.nil _))))),hD,hW,rfl⟩
 have a5:=h2;have h2:=BX h2;refine CC 0 ((EP (EP (EB (NX (rqr (sp 1 [(4,.bool (true))] (se (BO (AE (t:=4) [] (by kernel_rfl) rfl (TR _) (IR _) ?_))))))))));exact ⟨by rw [decide_eq_true (OC hl ht (by omega))],rfl⟩
noncomputable def PX (p:List Nat):Code:=sub (AU Tryz.f40) p
theorem EqualShifts_ct (I:Imm) (a:Value) (xs:List Shift) (b:Value) (ys:List Shift) (a_f:NF I a xs) (b_f:NF I b ys):CtV Tryz.prog 40 #[a,b] I (.bool (decide (xs=ys))):=by
 obtain ⟨a0,a1,b1,b4,a9,b2,b3,a7⟩:=id a_f;subst a9;obtain ⟨a2,a3,b5,b8,b0,b6,b7,a8⟩:=id b_f;subst b0;refine fr (args:=[_,_]) (N:=26) Tryz.func40 (fun F=>?_);show Run _ _ (PX []) _ _ [(0,vS a0 xs.length a1),(1,vS a2 ys.length a3)] _ _;refine rnm (rqr ?_);refine sp 1 [(4,.bool (false))] (se (rq (rqr (sp 5 [(10,.bool (!(cmp .eql (↑(xs.length)) (↑(ys.length)))))] (se (rc 10 rfl (fun h1=>?_) (fun h1=>?_)))))))
 ·
  have a4:=h1;have h1:=DE (CL h1);refine rqr (sp 1 [(4,.bool (false))] (se (BO ((RP (AE (t:=4) [] (by kernel_rfl) rfl (TR _) (IR _) ?_))))));exact ⟨by rw [decide_eq_false (fun e=>h1 (by rw [e]))],rfl⟩
 have a4:=h1;have h1:=DF (BW h1);refine AH (NX (rq (rqr (sp 1 [(5,vI (0))] (se (rb 0 ?_))))));refine rl (fun mz a w=>∃ k:Nat,(k≤xs.length)∧(xs.length=ys.length)∧(xs.take k=ys.take k)∧Slots 26 [(5,vI ↑k),(0,vS a0 xs.length a1),(1,vS a2 ys.length a3)] a∧a.defers=[]∧St I (F) w∧mz=xs.length-k) ?_ ?_
 ·intro a w hS hD hW;exact ⟨_,0,Nat.zero_le _,by omega,rfl,hS.sub (.cons 5 rfl (.cons 0 rfl (.cons 1 rfl (.nil _)))),hD,hW,rfl⟩
 rintro mz a w ⟨k,hk,hl,ht,hS,hD,hW,rfl⟩
 refine AX hS hD hW ?_;clear hS hD hW a w;refine rq (rqr (sp 4 [(14,.bool (cmp .lss (↑k) (↑(xs.length))))] (se (rc 14 rfl (fun h2=>?_) (fun h2=>?_)))))
 ·
  have a5:=h2;have h2:=BZ h2;refine AH (NX (rq (rb 1 (rq ?_))));refine rd0 8 (ox 2 [(18,vI (↑k)),(17,vS a0 xs.length a1)] ?_);refine AB (di 19 3 (k) a7.addr) ?_;refine AB (DS (x:=(.tmp 19)) (T:=52) (n:=3) (vs:=[vI ((xs.getD (k) BB).frm),vI ((xs.getD (k) BB).to),vI ((xs.getD (k) BB).many)]) (d:=20) (ty:=52) (gd:=none) (by kernel_rfl) rfl (by kernel_rfl) (by kernel_rfl) rfl rfl (MZ a7 (k) (by omega))) (ox 2 [(22,vI (↑k)),(21,vS a2 ys.length a3)] ?_);refine AB (di 23 3 (k) a8.addr) ?_;refine AB (DS (x:=(.tmp 23)) (T:=52) (n:=3) (vs:=[vI ((ys.getD (k) BB).frm),vI ((ys.getD (k) BB).to),vI ((ys.getD (k) BB).many)]) (d:=24) (ty:=52) (gd:=none) (by kernel_rfl) rfl (by kernel_rfl) (by kernel_rfl) rfl rfl (MZ a8 (k) (by omega))) ?_;refine BT (sd (det_neqAgg (L:=[(0,.i .i64),(1,.i .i64),(2,.i .i64)]) (x:=(.tmp 20)) (y:=(.tmp 24)) (T:=52) (T':=52) (d:=25) (ty:=4) (gd:=none) (by kernel_rfl) rfl (by kernel_rfl) rfl rfl rfl (eqShift (xs.getD (k) BB) (ys.getD (k) BB))) (se (rc 25 rfl (fun h3=>?_) (fun h3=>?_))))
  ·
   have a6:=h3;have h3:=GH (CL h3);refine rqr (sp 1 [(4,.bool (false))] (se (BO ((RB (RP (RP (RB (RP (AE (t:=4) [] (by kernel_rfl) rfl (TR _) (IR _) ?_))))))))));exact ⟨by rw [decide_eq_false (getD_ne hl h3)],rfl⟩
  have a6:=h3;have h3:=FT (BW h3);refine AH (NB (NX (rr (sp 1 [(15,vI (↑k))] (sd (da 16 (↑k) (1)) (sp 1 [(5,vI (↑k+1))] (ee ?_)))))));refine AG (xs.length-(k+1)) (by omega) ?_;intro a w hS hD hW;exact ⟨k+1,by omega,hl,LM (d:=BB) hl ht (by omega) h3,hS.sub (.consE 5 rfl rfl (.cons 0 rfl (.cons 1 rfl (.nil _)))),hD,hW,rfl⟩
 have a5:=h2;have h2:=BX h2;refine CC 0 ((EP (EP (EB (NX (rqr (sp 1 [(4,.bool (true))] (se (BO (AE (t:=4) [] (by kernel_rfl) rfl (TR _) (IR _) ?_))))))))));exact ⟨by rw [decide_eq_true (OC hl ht (by omega))],rfl⟩
noncomputable def c_EqualRows_ct (p:List Nat):Code:=sub (AU Tryz.f70) p
theorem PF (I:Imm) (a:Value) (xs:List (List Int)) (b:Value) (ys:List (List Int)) (a_f:IsRows I a xs) (b_f:IsRows I b ys):CtV Tryz.prog 70 #[a,b] I (.bool (decide (xs=ys))):=by
 obtain ⟨a4,a5,d3,d6,b4,b3,d4,d5,b1,b5⟩:=id a_f;subst b3;obtain ⟨a6,a7,d7,e0,b7,b6,d8,d9,b2,b8⟩:=id b_f;subst b6;refine fr (args:=[_,_]) (N:=27) Tryz.func70 (fun F=>?_);show Run _ _ (c_EqualRows_ct []) _ _ [(0,vS a4 xs.length a5),(1,vS a6 ys.length a7)] _ _;refine rnm (rqr ?_);refine sp 1 [(4,.bool (false))] (se (rq (rqr (sp 5 [(10,.bool (!(cmp .eql (↑(xs.length)) (↑(ys.length)))))] (se (rc 10 rfl (fun h1=>?_) (fun h1=>?_)))))))
 ·
  have a8:=h1;have h1:=DE (CL h1);refine rqr (sp 1 [(4,.bool (false))] (se (BO ((RP (AE (t:=4) [] (by kernel_rfl) rfl (TR _) (IR _) ?_))))));exact ⟨by rw [decide_eq_false (fun e=>h1 (by rw [e]))],rfl⟩
 have a8:=h1;have h1:=DF (BW h1);refine AH (NX (rq (rqr (sp 1 [(5,vI (0))] (se (rb 0 ?_))))));refine rl (fun mz a w=>∃ k:Nat,(k≤xs.length)∧(xs.length=ys.length)∧(xs.take k=ys.take k)∧Slots 27 [(5,vI ↑k),(0,vS a4 xs.length a5),(1,vS a6 ys.length a7)] a∧a.defers=[]∧St I (F) w∧mz=xs.length-k) ?_ ?_
 ·intro a w hS hD hW;exact ⟨_,0,Nat.zero_le _,by omega,rfl,hS.sub (.cons 5 rfl (.cons 0 rfl (.cons 1 rfl (.nil _)))),hD,hW,rfl⟩
 rintro mz a w ⟨k,hk,hl,ht,hS,hD,hW,rfl⟩
 refine AX hS hD hW ?_;clear hS hD hW a w;refine rq (rqr (sp 4 [(14,.bool (cmp .lss (↑k) (↑(xs.length))))] (se (rc 14 rfl (fun h2=>?_) (fun h2=>?_)))))
 ·
  have a9:=h2;have h2:=BZ h2;refine AH (NX (rq (rb 1 (rq ?_))));refine rd0 8 (ox 2 [(18,vI (↑k)),(17,vS a4 xs.length a5)] ?_);refine AB (di 19 1 (k) b1.addr) ?_;have a0:=b5 (k) (by omega);obtain ⟨b9,c1,c0,c4,a2,c2,c3,c5⟩:=id a0;rw [a2] at a0;refine AB (BL (dl 20 (CR b1 (k) (by omega))) a2) (ox 2 [(22,vI (↑k)),(21,vS a6 ys.length a7)] ?_);refine AB (di 23 1 (k) b2.addr) ?_;have a1:=b8 (k) (by omega);obtain ⟨c6,c8,c7,d1,a3,c9,d0,d2⟩:=id a1;rw [a3] at a1;refine AB (BL (dl 24 (CR b2 (k) (by omega))) a3) ?_;refine BT (sd (dc 25 (fun I' hI=>(JA I' _ _ _ _ (a0.mono hI) (a1.mono hI) :))) (sp 1 [(26,.bool (!(decide ((xs.getD (k) [])=(ys.getD (k) [])))))] (se (rc 26 rfl (fun h3=>?_) (fun h3=>?_)))))
  ·
   have b0:=h3;have h3:=GH (CL h3);refine rqr (sp 1 [(4,.bool (false))] (se (BO ((RB (RP (RP (RB (RP (AE (t:=4) [] (by kernel_rfl) rfl (TR _) (IR _) ?_))))))))));exact ⟨by rw [decide_eq_false (getD_ne hl h3)],rfl⟩
  have b0:=h3;have h3:=FT (BW h3);refine AH (NB (NX (rr (sp 1 [(15,vI (↑k))] (sd (da 16 (↑k) (1)) (sp 1 [(5,vI (↑k+1))] (ee ?_)))))));refine AG (xs.length-(k+1)) (by omega) ?_;intro a w hS hD hW;exact ⟨k+1,by omega,hl,LM (d:=[]) hl ht (by omega) h3,hS.sub (.consE 5 rfl rfl (.cons 0 rfl (.cons 1 rfl (.nil _)))),hD,hW,rfl⟩
 have a9:=h2;have h2:=BX h2;refine CC 0 ((EP (EP (EB (NX (rqr (sp 1 [(4,.bool (true))] (se (BO (AE (t:=4) [] (by kernel_rfl) rfl (TR _) (IR _) ?_))))))))));exact ⟨by rw [decide_eq_true (OC hl ht (by omega))],rfl⟩
noncomputable def c_Index_ct (p:List Nat):Code:=sub (AU Tryz.f145) p
theorem Index_ct (I:Imm) (a:Value) (xs:List Int) (n:Int) (a_f:BK I a xs):CtV Tryz.prog 145 #[a,vI n] I (vI (seat xs n)):=by
 obtain ⟨a0,a1,a6,a9,a5,a7,a8,a4⟩:=id a_f;subst a5;refine fr (args:=[_,_]) (N:=19) Tryz.func145 (fun F=>?_);show Run _ _ (c_Index_ct []) _ _ [(0,vS a0 xs.length a1),(1,vI (n))] _ _;refine rnm (rqr ?_);refine sp 1 [(4,vI (0))] (se (rq (rqr (sp 3 [(8,vI (0)),(7,vI (↑(xs.length)))] (se (rb 0 ?_))))));refine rl (fun mz a w=>∃ k:Nat,(k≤xs.length)∧(n∉xs.take k)∧Slots 19 [(8,vI ↑k),(0,vS a0 xs.length a1),(1,vI (n)),(7,vI (↑(xs.length)))] a∧a.defers=[]∧St I (F) w∧mz=xs.length-k) ?_ ?_
 ·intro a w hS hD hW;exact ⟨_,0,Nat.zero_le _,by simp,hS.sub (.cons 8 rfl (.cons 0 rfl (.cons 1 rfl (.cons 7 rfl (.nil _))))),hD,hW,rfl⟩
 rintro mz a w ⟨k,hk,hn,hS,hD,hW,rfl⟩
 refine AX hS hD hW ?_;clear hS hD hW a w;refine rqr (sp 1 [(9,.bool (cmp .lss (↑k) (↑(xs.length))))] (se (rq (rc 9 rfl (fun h1=>?_) (fun h1=>?_)))))
 ·
  have a2:=h1;have h1:=BZ h1;refine AH (NX (rq (rb 1 (rqr (sp 2 [(5,vI (↑k))] (sn (sp 3 [(13,vI (↑k)),(12,vS a0 xs.length a1),(11,vI (n))] (sd (di 14 1 (k) a4.addr) (sd (dl 15 (BH a4 (k) (by omega))) (sp 1 [(16,.bool (cmp .eql (n) (xs.getD (k) 0)))] (se (rc 16 rfl (fun h2=>?_) (fun h2=>?_)))))))))))))
  ·
   have a3:=h2;have h2:=DF h2;refine rqr (sp 2 [(4,vI (↑k))] (se (BO ((RB (RP (RP (RB (RP (AE (t:=4) [] (by kernel_rfl) rfl (TR _) (IR _) ?_))))))))));exact ⟨by rw [seat_hit hn (by omega) (h2.symm)],rfl⟩
  have a3:=h2;have h2:=DE h2;refine AH (NB (NX (rr (sd (da 18 (↑k) (1)) (sp 1 [(8,vI (↑k+1))] (ee ?_))))));refine AG (xs.length-(k+1)) (by omega) ?_;intro a w hS hD hW;exact ⟨k+1,by omega,NR hn (by omega) (fun e=>h2 e.symm),hS.sub (.consE 8 rfl rfl (.cons 0 rfl (.cons 1 rfl (.cons 7 rfl (.nil _))))),hD,hW,rfl⟩
 have a2:=h1;have h1:=BX h1;refine CC 0 ((EP (EP (EB (NX (rqr (sp 1 [(4,vI ((-1)))] (se (BO (AE (t:=4) [] (by kernel_rfl) rfl (TR _) (IR _) ?_))))))))));exact ⟨by rw [seat_miss hn (by omega)],rfl⟩
noncomputable def c_Contains (p:List Nat):Code:=sub (AU Tryz.f112) p
theorem Contains_ct (I:Imm) (a:Value) (xs:List Int) (n:Int) (a_f:BK I a xs):CtV Tryz.prog 112 #[a,vI n] I (.bool (decide (n∈xs))):=by
 obtain ⟨a0,a1,a3,a6,a2,a4,a5,a7⟩:=id a_f;subst a2;refine fr (args:=[_,_]) (N:=9) Tryz.func112 (fun F=>?_);show Run _ _ (c_Contains []) _ _ [(0,vS a0 xs.length a1),(1,vI (n))] _ _;refine rnm (rqr ?_);refine sp 1 [(4,.bool (false))] (sn (sp 2 [(6,vI (n)),(5,vS a0 xs.length a1)] (sd (dc 7 (fun I' hI=>(Index_ct I' _ _ (n) (a_f.mono hI) :))) (sp 2 [(4,.bool (cmp .geq ((seat xs n)) (0)))] (se (BO (AE (t:=4) [] (by kernel_rfl) rfl (TR _) (IR _) ?_)))))));exact ⟨by rw [seat_neg],rfl⟩
noncomputable def c_CloneInts_ct (p:List Nat):Code:=sub (AU Tryz.f129) p
theorem GM (I:Imm) (a:Value) (xs:List Int) (a_f:BK I a xs) (hl:xs.length≤1000000):Ct Tryz.prog 129 #[a] I ([]) (fun v I' M'=>∃ u:Value,∃ Ms:Seg,v=u∧M'=Ms∧Own 3 1 BA u (xs) Ms):=by
 obtain ⟨a0,a1,b2,b5,a5,b3,b4,a6⟩:=id a_f;subst a5;refine fr (args:=[_]) (N:=8) Tryz.func129 (fun F=>?_);show Run _ _ (c_CloneInts_ct []) _ _ [(0,vS a0 xs.length a1)] _ _;refine rnm (rqr ?_);refine sp 1 [(2,vN)] (se (rq (rqr (sp 1 [(3,vS a0 xs.length a1)] (sd (det_eqnil (e:=3) (x:=(.tmp 3)) (y:=(.const (vN))) (T:=23) (T':=23) (d:=4) (ty:=4) (gd:=none) (by kernel_rfl) rfl (by kernel_rfl) rfl rfl) (se (rc 4 rfl (fun h1=>?_) (fun h1=>?_))))))))
 ·
  have a2:=h1;refine rqr (sp 1 [(2,vN)] (se (BO ((RP ?_)))));obtain rfl:=a6.nil h1;refine AE (t:=2) ([]) (by kernel_rfl) rfl (TR _) (IR _) ?_;exact ⟨_,_,rfl,rfl,Own.nil _ _ _⟩
 have a2:=h1;refine AH (NX (rqr (sS (sbs 5 3 0 #[] (fun b1=>(sp 1 [(6,vS a0 xs.length a1)] ?_))))));have a7:Own 3 1 BA (vS (some ⟨b1,0,none⟩) 0 0) ([]:List Int) [(bX b1 #[] 3)]:=Own.lit rfl rfl;refine sS (AN (d:=7) (x:=(.tmp 5)) (y:=(.tmp 6)) (T:=23) (T':=23) (E:=3) (E':=3) (sz:=1) (bs:=8) (z:=vI (0)) (cell:=BA) (xs:=([]:List Int)) (ys:=xs) (Ms:=[(bX b1 #[] 3)]) (ty:=23) (gd:=none) (by kernel_rfl) rfl (by kernel_rfl) (by kernel_rfl) (by kernel_rfl) (by kernel_rfl) (by kernel_rfl) (by decide) (by kernel_rfl) rfl rfl (a7) (PR _) (CH _) a_f.src (by first | omega | (simp only [LC,LN,LA,LK,LD];omega)) (fun v4 a4 a3=>?_));rw [NA] at a3;refine nm ?_;obtain ⟨a8,a9,b0,b6⟩:=a3.shape;subst b0;refine sp 1 [(2,vS a8 xs.length a9)] (se (BO (AE (t:=2) (a4) (by kernel_rfl) rfl (TA (TR _) _) (IR _) ?_)));exact ⟨_,_,rfl,rfl,a3⟩
noncomputable def c_CloneCars_ct (p:List Nat):Code:=sub (AU Tryz.f128) p
theorem CloneCars_ct (I:Imm) (a:Value) (xs:List Car) (a_f:EZ I a xs) (hl:xs.length≤1000000):Ct Tryz.prog 128 #[a] I ([]) (fun v I' M'=>∃ u:Value,∃ Ms:Seg,v=u∧M'=Ms∧Own 56 6 CV u (xs) Ms):=by
 obtain ⟨a0,a1,b2,b5,a5,b3,b4,a6⟩:=id a_f;subst a5;refine fr (args:=[_]) (N:=8) Tryz.func128 (fun F=>?_);show Run _ _ (c_CloneCars_ct []) _ _ [(0,vS a0 xs.length a1)] _ _;refine rnm (rqr ?_);refine sp 1 [(2,vN)] (se (rq (rqr (sp 1 [(3,vS a0 xs.length a1)] (sd (det_eqnil (e:=56) (x:=(.tmp 3)) (y:=(.const (vN))) (T:=22) (T':=22) (d:=4) (ty:=4) (gd:=none) (by kernel_rfl) rfl (by kernel_rfl) rfl rfl) (se (rc 4 rfl (fun h1=>?_) (fun h1=>?_))))))))
 ·
  have a2:=h1;refine rqr (sp 1 [(2,vN)] (se (BO ((RP ?_)))));obtain rfl:=a6.nil h1;refine AE (t:=2) ([]) (by kernel_rfl) rfl (TR _) (IR _) ?_;exact ⟨_,_,rfl,rfl,Own.nil _ _ _⟩
 have a2:=h1;refine AH (NX (rqr (sS (sbs 5 56 0 #[] (fun b1=>(sp 1 [(6,vS a0 xs.length a1)] ?_))))));have a7:Own 56 6 CV (vS (some ⟨b1,0,none⟩) 0 0) ([]:List Car) [(bX b1 #[] 56)]:=Own.lit rfl rfl;refine sS (AN (d:=7) (x:=(.tmp 5)) (y:=(.tmp 6)) (T:=22) (T':=22) (E:=56) (E':=56) (sz:=6) (bs:=40) (z:=.agg #[vI (0),vI (0),vI (0),vI (0),.bool (false),.bool (false)]) (cell:=CV) (xs:=([]:List Car)) (ys:=xs) (Ms:=[(bX b1 #[] 56)]) (ty:=22) (gd:=none) (by kernel_rfl) rfl (by kernel_rfl) (by kernel_rfl) (by kernel_rfl) (by kernel_rfl) (by kernel_rfl) (by decide) (by kernel_rfl) rfl rfl (a7) (PR _) (ED _) a_f.src (by first | omega | (simp only [LC,LN,LA,LK,LD];omega)) (fun v4 a4 a3=>?_));rw [NA] at a3;refine nm ?_;obtain ⟨a8,a9,b0,b6⟩:=a3.shape;subst b0;refine sp 1 [(2,vS a8 xs.length a9)] (se (BO (AE (t:=2) (a4) (by kernel_rfl) rfl (TA (TR _) _) (IR _) ?_)));exact ⟨_,_,rfl,rfl,a3⟩
noncomputable def c_next (p:List Nat):Code:=sub (AU Tryz.f77) p
theorem next_ct (I:Imm) (p:Nat) (p_s:Int):Ct Tryz.prog 77 #[vP p 0] I ([(bX p #[.int .u64 (p_s)] 95)]) (fun v I' M'=>∃ p_t:Int,∃ r:Int,v=.int .u64 (r)∧M'=[(bX p #[.int .u64 (p_t)] 95)]∧(0≤r∧r≤18446744073709551615)):=by
 refine fr (args:=[_]) (N:=29) Tryz.func77 (fun F=>?_);show Run _ _ (c_next []) _ _ [(0,vP p 0)] _ _;refine rnm (rqr ?_);refine sp 1 [(2,.int .u64 (0))] (sn (sp 4 [(7,vP p 0),(4,vP p 0)] (sd (dlb 8 0 0 p (.int .u64 (p_s))) (sp 4 [(12,vP p 0),(10,.int .u64 (IntKind.u64.wrap (CG .add (IntKind.u64.wrap (CG .mul (p_s) (2862933555777941757))) (3037000493))))] (sS (ss 0 0 p [.int .u64 (IntKind.u64.wrap (CG .add (IntKind.u64.wrap (CG .mul (p_s) (2862933555777941757))) (3037000493)))] [.int .u64 (IntKind.u64.wrap (CG .add (IntKind.u64.wrap (CG .mul (p_s) (2862933555777941757))) (3037000493)))] (_::_) (cs:=[_]) rfl rfl (se (rq ?_))))))));refine rd0 9 (ox 3 [(15,vP p 0)] ?_);refine AB (dlb 16 0 0 p (.int .u64 (IntKind.u64.wrap (CG .add (IntKind.u64.wrap (CG .mul (p_s) (2862933555777941757))) (3037000493))))) (ox 3 [(19,vP p 0)] ?_);refine AB (dlb 20 0 0 p (.int .u64 (IntKind.u64.wrap (CG .add (IntKind.u64.wrap (CG .mul (p_s) (2862933555777941757))) (3037000493))))) ?_;refine AB (det_shr (x:=(.tmp 20)) (y:=(.const (.int .u64 31))) (T:=93) (T':=96) (d:=21) (ty:=93) (gd:=none) (by kernel_rfl) rfl rfl rfl (by omega)) ?_;refine BT (sp 2 [(3,.int .u64 (IntKind.u64.wrap (BitVec.ofInt IntKind.u64.bits (IntKind.u64.wrap (CG .add (IntKind.u64.wrap (CG .mul (p_s) (2862933555777941757))) (3037000493))) ^^^ BitVec.ofInt IntKind.u64.bits ((IntKind.u64.wrap (CG .add (IntKind.u64.wrap (CG .mul (p_s) (2862933555777941757))) (3037000493))).fdiv (2 ^ (min (31:Int).toNat IntKind.u64.bits)))).toNat))] (sn (sp 3 [(3,.int .u64 (IntKind.u64.wrap (CG .mul (IntKind.u64.wrap (BitVec.ofInt IntKind.u64.bits (IntKind.u64.wrap (CG .add (IntKind.u64.wrap (CG .mul (p_s) (2862933555777941757))) (3037000493))) ^^^ BitVec.ofInt IntKind.u64.bits ((IntKind.u64.wrap (CG .add (IntKind.u64.wrap (CG .mul (p_s) (2862933555777941757))) (3037000493))).fdiv (2 ^ (min (31:Int).toNat IntKind.u64.bits)))).toNat) (10723151780598845931))))] (sn (sp 2 [(26,.int .u64 (IntKind.u64.wrap (CG .mul (IntKind.u64.wrap (BitVec.ofInt IntKind.u64.bits (IntKind.u64.wrap (CG .add (IntKind.u64.wrap (CG .mul (p_s) (2862933555777941757))) (3037000493))) ^^^ BitVec.ofInt IntKind.u64.bits ((IntKind.u64.wrap (CG .add (IntKind.u64.wrap (CG .mul (p_s) (2862933555777941757))) (3037000493))).fdiv (2 ^ (min (31:Int).toNat IntKind.u64.bits)))).toNat) (10723151780598845931)))),(25,.int .u64 (IntKind.u64.wrap (CG .mul (IntKind.u64.wrap (BitVec.ofInt IntKind.u64.bits (IntKind.u64.wrap (CG .add (IntKind.u64.wrap (CG .mul (p_s) (2862933555777941757))) (3037000493))) ^^^ BitVec.ofInt IntKind.u64.bits ((IntKind.u64.wrap (CG .add (IntKind.u64.wrap (CG .mul (p_s) (2862933555777941757))) (3037000493))).fdiv (2 ^ (min (31:Int).toNat IntKind.u64.bits)))).toNat) (10723151780598845931))))] (sd (det_shr (x:=(.tmp 26)) (y:=(.const (.int .u64 30))) (T:=93) (T':=96) (d:=27) (ty:=93) (gd:=none) (by kernel_rfl) rfl rfl rfl (by omega)) (sp 2 [(2,.int .u64 (IntKind.u64.wrap (BitVec.ofInt IntKind.u64.bits (IntKind.u64.wrap (CG .mul (IntKind.u64.wrap (BitVec.ofInt IntKind.u64.bits (IntKind.u64.wrap (CG .add (IntKind.u64.wrap (CG .mul (p_s) (2862933555777941757))) (3037000493))) ^^^ BitVec.ofInt IntKind.u64.bits ((IntKind.u64.wrap (CG .add (IntKind.u64.wrap (CG .mul (p_s) (2862933555777941757))) (3037000493))).fdiv (2 ^ (min (31:Int).toNat IntKind.u64.bits)))).toNat) (10723151780598845931))) ^^^ BitVec.ofInt IntKind.u64.bits ((IntKind.u64.wrap (CG .mul (IntKind.u64.wrap (BitVec.ofInt IntKind.u64.bits (IntKind.u64.wrap (CG .add (IntKind.u64.wrap (CG .mul (p_s) (2862933555777941757))) (3037000493))) ^^^ BitVec.ofInt IntKind.u64.bits ((IntKind.u64.wrap (CG .add (IntKind.u64.wrap (CG .mul (p_s) (2862933555777941757))) (3037000493))).fdiv (2 ^ (min (31:Int).toNat IntKind.u64.bits)))).toNat) (10723151780598845931))).fdiv (2 ^ (min (30:Int).toNat IntKind.u64.bits)))).toNat))] (se (BO (AE (t:=2) ([(bX p #[.int .u64 (IntKind.u64.wrap (CG .add (IntKind.u64.wrap (CG .mul (p_s) (2862933555777941757))) (3037000493)))] 95)]) (by kernel_rfl) rfl (TK _ (TR _)) (IR _) ?_))))))))));exact ⟨_,_,rfl,rfl,u64_range _⟩
noncomputable def c_Up (p:List Nat):Code:=sub (AU Tryz.f23) p
theorem Up_ct (I:Imm) (p:Nat) (p_s:Int) (most:Int) (hm:most≤1000000):Ct Tryz.prog 23 #[vP p 0,vI most] I ([(bX p #[.int .u64 (p_s)] 95)]) (fun v I' M'=>∃ p_t:Int,∃ n:Nat,v=vI (↑n)∧M'=[(bX p #[.int .u64 (p_t)] 95)]∧(n=0∨(n:Int)≤most)):=by
 refine fr (args:=[_,_]) (N:=15) Tryz.func23 (fun F=>?_);show Run _ _ (c_Up []) _ _ [(0,vP p 0),(1,vI (most))] _ _;refine rnm (rqr ?_);refine sp 1 [(4,vI (0))] (se (rq (rqr (sp 2 [(6,.bool (cmp .lss (most) (1)))] (se (rc 6 rfl (fun h1=>?_) (fun h1=>?_)))))))
 ·
  have a0:=h1;have h1:=BZ h1;refine rqr (sp 1 [(4,vI (0))] (se (BO ((RP (AE (t:=4) ([(bX p #[.int .u64 (p_s)] 95)]) (by kernel_rfl) rfl (TK _ (TR _)) (IR _) ?_))))));exact ⟨_,0,rfl,rfl,.inl rfl⟩
 have a0:=h1;have h1:=BX h1;refine AH (NX (rqr (sp 1 [(7,vP p 0)] (sS (sc (some 8) (F:=(F)) (next_ct _ (p) (p_s) :) (.refl _) (fun a9 I1 a7 a1 a6=>?_))))));obtain ⟨a2,r7,a4,a3,a8⟩:=a6;rw [a4,a3];clear a4 a3;refine nm ?_;refine sd (det_shr (x:=(.tmp 8)) (y:=(.const (.int .u64 13))) (T:=93) (T':=96) (d:=9) (ty:=93) (gd:=none) (by kernel_rfl) rfl rfl rfl (by omega)) (sp 1 [(10,vI (most))] (sd (da 11 (most) (1)) (sp 1 [(12,.int .u64 (IntKind.u64.wrap (most+1)))] (DN 12 rfl (show (.int .u64 (IntKind.u64.wrap (most+1)):Value)=.int .u64 (most+1) from congrArg (Value.int .u64) (IntWalk.u64_in _ (by omega))) (sd (det_rem (x:=(.tmp 9)) (y:=(.tmp 12)) (T:=93) (T':=93) (d:=13) (ty:=93) (gd:=none) (by kernel_rfl) rfl rfl rfl (by exact fdiv_nonneg (by omega) (by decide)) (by omega)) (sp 1 [(14,vI (IntKind.i64.wrap ((((r7)).fdiv (2 ^ (min (13:Int).toNat IntKind.u64.bits)))%(most+1))))] ?_))))));obtain ⟨n,hn,a5⟩:=up_nat (x:=((r7)).fdiv (2 ^ (min (13:Int).toNat IntKind.u64.bits))) h1 hm (fdiv_nonneg (by omega) (by decide));refine DN 14 rfl (show (vI (IntKind.i64.wrap ((((r7)).fdiv (2 ^ (min (13:Int).toNat IntKind.u64.bits)))%(most+1))):Value)=vI (↑n) from congrArg (Value.int .i64) hn) (sp 1 [(4,vI (↑n))] (se (BO (AE (t:=4) ([(bX p #[.int .u64 (a2)] 95)]) (by kernel_rfl) rfl (TK _ (TR _)) a1 ?_))));exact ⟨_,_,rfl,rfl,.inr a5⟩
noncomputable def c_From (p:List Nat):Code:=sub (AU Tryz.f50) p
theorem From_ct (I:Imm) (p:Nat) (p_s:Int) (lo:Int) (hi:Int) (h1:0≤lo∧lo≤hi) (h2:hi≤1000000):Ct Tryz.prog 50 #[vP p 0,vI lo,vI hi] I ([(bX p #[.int .u64 (p_s)] 95)]) (fun v I' M'=>∃ p_t:Int,∃ r:Int,v=vI (r)∧M'=[(bX p #[.int .u64 (p_t)] 95)]∧(lo≤r∧r≤hi)):=by
 refine fr (args:=[_,_,_]) (N:=14) Tryz.func50 (fun F=>?_);show Run _ _ (c_From []) _ _ [(0,vP p 0),(1,vI (lo)),(2,vI (hi))] _ _;refine rnm (rqr ?_);refine sp 1 [(6,vI (0))] (sn (sp 4 [(10,vI (lo)),(9,vI (hi)),(8,vP p 0),(7,vI (lo))] (sd (dsb 11 (hi) (lo)) (sS (sc (some 12) (F:=(F)) (Up_ct _ (p) (p_s) (hi-lo) (by omega) :) (.refl _) (fun a7 I1 a5 a0 a4=>?_))))));obtain ⟨a1,n7,a3,a2,a6⟩:=a4;rw [a3,a2];clear a3 a2;refine nm ?_;refine sd (da 13 (lo) (↑n7)) (sp 1 [(6,vI (lo+↑n7))] (se (BO (AE (t:=6) ([(bX p #[.int .u64 (a1)] 95)]) (by kernel_rfl) rfl (TK _ (TR _)) a0 ?_))));exact ⟨_,_,rfl,rfl,by omega⟩
noncomputable def c_Chance (p:List Nat):Code:=sub (AU Tryz.f46) p
theorem Chance_ct (I:Imm) (p:Nat) (p_s:Int) (n:Int) (m:Int) (h1:0≤m∧m≤1000000):Ct Tryz.prog 46 #[vP p 0,vI n,vI m] I ([(bX p #[.int .u64 (p_s)] 95)]) (fun v I' M'=>∃ p_t:Int,∃ r:Bool,v=.bool (r)∧M'=[(bX p #[.int .u64 (p_t)] 95)]):=by
 refine fr (args:=[_,_,_]) (N:=13) Tryz.func46 (fun F=>?_);show Run _ _ (c_Chance []) _ _ [(0,vP p 0),(1,vI (n)),(2,vI (m))] _ _;refine rnm (rqr ?_);refine sp 1 [(6,.bool (false))] (sn (sp 2 [(8,vI (m)),(7,vP p 0)] (sd (dsb 9 (m) (1)) (sS (sc (some 10) (F:=(F)) (Up_ct _ (p) (p_s) (m-1) (by omega) :) (.refl _) (fun a7 I1 a5 a0 a4=>?_))))));obtain ⟨a1,n7,a3,a2,a6⟩:=a4;rw [a3,a2];clear a3 a2;refine nm ?_;refine sp 3 [(6,.bool (cmp .lss (↑n7) (n)))] (se (BO (AE (t:=6) ([(bX p #[.int .u64 (a1)] 95)]) (by kernel_rfl) rfl (TK _ (TR _)) a0 ?_)));exact ⟨_,_,rfl,rfl⟩
noncomputable def c_One (p:List Nat):Code:=sub (AU Tryz.f76) p
theorem One_ct (I:Imm) (p:Nat) (p_s:Int) (a:Value) (xs:List Int) (a_f:BK I a xs) (hx:0<xs.length∧xs.length≤1000000):Ct Tryz.prog 76 #[vP p 0,a] I ([(bX p #[.int .u64 (p_s)] 95)]) (fun v I' M'=>∃ p_t:Int,∃ r:Int,v=vI (r)∧M'=[(bX p #[.int .u64 (p_t)] 95)]∧(r∈xs)):=by
 obtain ⟨a4,a5,b1,b4,a8,b2,b3,a1⟩:=id a_f;subst a8;refine fr (args:=[_,_]) (N:=16) Tryz.func76 (fun F=>?_);show Run _ _ (c_One []) _ _ [(0,vP p 0),(1,vS a4 xs.length a5)] _ _;refine rnm (rqr ?_);refine sp 1 [(4,vI (0))] (se (rq (rqr (sp 3 [(7,.bool (cmp .eql (↑(xs.length)) (0)))] (se (rc 7 rfl (fun h1=>?_) (fun h1=>?_)))))))
 ·
  have a2:=h1;have h1:=DF h1;refine rqr (sp 1 [(4,vI (0))] (se (BO ((RP (AE (t:=4) [] (by kernel_rfl) rfl (TC _ (TR _)) (IR _) ?_))))))
  exfalso;omega
 have a2:=h1;have h1:=DE h1;refine AH (NX (rqr (sp 4 [(11,vI (↑(xs.length))),(9,vP p 0),(8,vS a4 xs.length a5)] (sd (dsb 12 (↑(xs.length)) (1)) (sS (sc (some 13) (F:=(F)) (Up_ct _ (p) (p_s) ((↑(xs.length))-1) (by omega) :) (.refl _) (fun b6 I1 b0 a0 a9=>?_)))))));obtain ⟨a3,n7,a7,a6,b5⟩:=a9;rw [a7,a6];clear a7 a6;replace a1:=a1.mono a0;refine nm ?_;refine sd (di 14 1 (n7) a1.addr) (sd (dl 15 (BH a1 (n7) (by omega))) (sp 1 [(4,vI (xs.getD (n7) 0))] (se (BO (AE (t:=4) ([(bX p #[.int .u64 (a3)] 95)]) (by kernel_rfl) rfl (TK _ (TR _)) a0 ?_)))));exact ⟨_,_,rfl,rfl,AJ (by omega)⟩
noncomputable def c_NewBag (p:List Nat):Code:=sub (AU Tryz.f20) p
theorem NewBag_ct (I:Imm) (a:Value) (xs:List Int) (a_f:BK I a xs):Ct Tryz.prog 20 #[a] I ([]) (fun v I' M'=>∃ u:Nat,∃ us:Int,v=vP u 0∧M'=[(bX u #[.int .u64 (us)] 95)]):=by
 obtain ⟨a0,a1,a5,a8,a4,a6,a7,a3⟩:=id a_f;subst a4;refine fr (args:=[_]) (N:=41) Tryz.func20 (fun F=>?_);show Run _ _ (c_NewBag []) _ _ [(0,vS a0 xs.length a1)] _ _;refine rnm (rqr ?_);refine sp 1 [(2,.pointer none)] (sn (sp 1 [(5,.agg #[.int .u64 (11400714819323198485)])] (sS (sb 6 95 #[.int .u64 (11400714819323198485)] (fun b1=>(sp 1 [(3,vP b1 0)] (se (rq (rqr (sp 1 [(4,vI (0))] (se (rb 0 ?_))))))))))));refine rl (fun mz a w=>∃ k:Nat,∃ s:Int,(k≤xs.length)∧Slots 41 [(4,vI ↑k),(0,vS a0 xs.length a1),(2,.pointer none),(3,vP b1 0)] a∧a.defers=[]∧St I ((bX b1 #[.int .u64 (s)] 95)::F) w∧mz=xs.length-k) ?_ ?_
 ·intro a w hS hD hW;exact ⟨_,0,11400714819323198485,Nat.zero_le _,hS.sub (.cons 4 rfl (.cons 0 rfl (.cons 2 rfl (.cons 3 rfl (.nil _))))),hD,hW,rfl⟩
 rintro mz a w ⟨k,s,hk,hS,hD,hW,rfl⟩
 refine AX hS hD hW ?_;clear hS hD hW a w;refine rq (rqr (sp 4 [(10,.bool (cmp .lss (↑k) (↑(xs.length))))] (se (rc 10 rfl (fun h1=>?_) (fun h1=>?_)))))
 ·
  have a2:=h1;have h1:=BZ h1;refine AH (NX (rq (rb 1 (rq ?_))));refine rd0 12 (ox 4 [(16,vP b1 0),(13,vP b1 0)] ?_);refine AB (dlb 17 0 0 b1 (.int .u64 (s))) (ox 2 [(19,vI (↑k)),(18,vS a0 xs.length a1)] ?_);refine AB (di 20 1 (k) a3.addr) ?_;refine AB (dl 21 (BH a3 (k) (by omega))) (ox 3 [(24,.int .u64 (IntKind.u64.wrap (CG .mul (IntKind.u64.wrap (CG .add (s) (IntKind.u64.wrap (xs.getD (k) 0)))) (13787848793156543929))))] ?_);refine BT (sp 2 [(26,vP b1 0)] (sS (ss 0 0 b1 [.int .u64 (IntKind.u64.wrap (CG .mul (IntKind.u64.wrap (CG .add (s) (IntKind.u64.wrap (xs.getD (k) 0)))) (13787848793156543929)))] [.int .u64 (IntKind.u64.wrap (CG .mul (IntKind.u64.wrap (CG .add (s) (IntKind.u64.wrap (xs.getD (k) 0)))) (13787848793156543929)))] (_::_) (cs:=[_]) rfl rfl (se ?_))));refine rd0 11 (ox 4 [(30,vP b1 0),(27,vP b1 0)] ?_);refine AB (dlb 31 0 0 b1 (.int .u64 (IntKind.u64.wrap (CG .mul (IntKind.u64.wrap (CG .add (s) (IntKind.u64.wrap (xs.getD (k) 0)))) (13787848793156543929))))) (ox 3 [(34,vP b1 0)] ?_);refine AB (dlb 35 0 0 b1 (.int .u64 (IntKind.u64.wrap (CG .mul (IntKind.u64.wrap (CG .add (s) (IntKind.u64.wrap (xs.getD (k) 0)))) (13787848793156543929))))) ?_;refine AB (det_shr (x:=(.tmp 35)) (y:=(.const (.int .u64 29))) (T:=93) (T':=96) (d:=36) (ty:=93) (gd:=none) (by kernel_rfl) rfl rfl rfl (by omega)) (ox 1 [(37,.int .u64 (IntKind.u64.wrap (BitVec.ofInt IntKind.u64.bits (IntKind.u64.wrap (CG .mul (IntKind.u64.wrap (CG .add (s) (IntKind.u64.wrap (xs.getD (k) 0)))) (13787848793156543929))) ^^^ BitVec.ofInt IntKind.u64.bits ((IntKind.u64.wrap (CG .mul (IntKind.u64.wrap (CG .add (s) (IntKind.u64.wrap (xs.getD (k) 0)))) (13787848793156543929))).fdiv (2 ^ (min (29:Int).toNat IntKind.u64.bits)))).toNat))] ?_);refine BT (sp 2 [(39,vP b1 0)] (sS (ss 0 0 b1 [.int .u64 (IntKind.u64.wrap (BitVec.ofInt IntKind.u64.bits (IntKind.u64.wrap (CG .mul (IntKind.u64.wrap (CG .add (s) (IntKind.u64.wrap (xs.getD (k) 0)))) (13787848793156543929))) ^^^ BitVec.ofInt IntKind.u64.bits ((IntKind.u64.wrap (CG .mul (IntKind.u64.wrap (CG .add (s) (IntKind.u64.wrap (xs.getD (k) 0)))) (13787848793156543929))).fdiv (2 ^ (min (29:Int).toNat IntKind.u64.bits)))).toNat)] [.int .u64 (IntKind.u64.wrap (BitVec.ofInt IntKind.u64.bits (IntKind.u64.wrap (CG .mul (IntKind.u64.wrap (CG .add (s) (IntKind.u64.wrap (xs.getD (k) 0)))) (13787848793156543929))) ^^^ BitVec.ofInt IntKind.u64.bits ((IntKind.u64.wrap (CG .mul (IntKind.u64.wrap (CG .add (s) (IntKind.u64.wrap (xs.getD (k) 0)))) (13787848793156543929))).fdiv (2 ^ (min (29:Int).toNat IntKind.u64.bits)))).toNat)] (_::_) (cs:=[_]) rfl rfl (ee (NB (NX (rr (sp 1 [(11,vI (↑k))] (sd (da 12 (↑k) (1)) (sp 1 [(4,vI (↑k+1))] (ee ?_)))))))))));refine AG (xs.length-(k+1)) (by omega) ?_;intro a w hS hD hW;exact ⟨k+1,IntKind.u64.wrap (BitVec.ofInt IntKind.u64.bits (IntKind.u64.wrap (CG .mul (IntKind.u64.wrap (CG .add (s) (IntKind.u64.wrap (xs.getD (k) 0)))) (13787848793156543929))) ^^^ BitVec.ofInt IntKind.u64.bits ((IntKind.u64.wrap (CG .mul (IntKind.u64.wrap (CG .add (s) (IntKind.u64.wrap (xs.getD (k) 0)))) (13787848793156543929))).fdiv (2 ^ (min (29:Int).toNat IntKind.u64.bits)))).toNat,by omega,hS.sub (.consE 4 rfl rfl (.cons 0 rfl (.cons 2 rfl (.cons 3 rfl (.nil _))))),hD,hW,rfl⟩
 have a2:=h1;have h1:=BX h1;refine CC 0 ((EP (EP (EB (NX (rqr (sp 2 [(2,vP b1 0)] (se (BO (AE (t:=2) ([(bX b1 #[.int .u64 (s)] 95)]) (by kernel_rfl) rfl (TK _ (TR _)) (IR _) ?_))))))))));exact ⟨_,_,rfl,rfl⟩
noncomputable def c_checkCoach (p:List Nat):Code:=sub (AU Tryz.f93) p
theorem checkCoach_ct (I:Imm) (c:Car):CtV Tryz.prog 93 #[.agg #[vI c.len,vI c.wt,vI c.brk,vI c.grp,.bool c.pipe,.bool c.heat]] I (vI (CW c)):=by
 refine fr (args:=[_]) (N:=27) Tryz.func93 (fun F=>?_);show Run _ _ (c_checkCoach []) _ _ [(0,.agg #[vI (c.len),vI (c.wt),vI (c.brk),vI (c.grp),.bool (c.pipe),.bool (c.heat)])] _ _;refine rnm (rqr ?_);refine sS (sb 1 56 #[vI (c.len),vI (c.wt),vI (c.brk),vI (c.grp),.bool (c.pipe),.bool (c.heat)] (fun b1=>(sp 1 [(2,vI (0))] (se (rq (rq ?_))))));refine DQ (fun a w=>Slots 27 [(2,vI (0)),(26,.bool ((!(inB c.len 1 4))||((!(inB c.wt 1 60))||((!(inB c.brk 0 c.wt))||(!(inB c.grp 0 3))))))] a∧a.defers=[]∧St I ((bX b1 #[vI (c.len),vI (c.wt),vI (c.brk),vI (c.grp),.bool (c.pipe),.bool (c.heat)] 56)::F) w) ?_ ?_
 ·
  refine rr (sp 1 [(3,vP b1 0)] (sd (dlb 4 0 0 b1 (vI (c.len))) (sd (dc 5 (fun I' hI=>(OQ I' (c.len) (1) (4) :))) (sp 2 [(7,.bool (!(inB c.len 1 4)))] ?_))));refine AY 7 rfl (fun h1=>?_) (fun h1=>?_)
  ·
   have a2:=h1;have a2:=CL a2;have a6:=LF a2;refine sp 19 [(26,.bool (true))] (ee ?_);refine AL (fun a w hS hD hW=>⟨hS.sub (.cons 2 rfl (.consE 26 rfl (congrArg Value.bool (by simp only [h1,kA,kB,kC,kD,kE,kF,kG,kH,kI,kJ])) (.nil _))),hD,hW⟩)
  have a2:=h1;have a2:=BW a2;have a6:=inB_t a2;refine sp 1 [(8,vP b1 1)] (sd (dlb 9 0 1 b1 (vI (c.wt))) (sd (dc 10 (fun I' hI=>(OQ I' (c.wt) (1) (60) :))) (sp 3 [(13,.bool (!(inB c.wt 1 60)))] ?_)));refine AY 13 rfl (fun h2=>?_) (fun h2=>?_)
  ·
   have a3:=h2;have a3:=CL a3;have a7:=LF a3;refine sp 13 [(26,.bool (true))] (ee ?_);refine AL (fun a w hS hD hW=>⟨hS.sub (.cons 2 rfl (.consE 26 rfl (congrArg Value.bool (by simp only [h1,h2,kA,kB,kC,kD,kE,kF,kG,kH,kI,kJ])) (.nil _))),hD,hW⟩)
  have a3:=h2;have a3:=BW a3;have a7:=inB_t a3;refine sp 1 [(14,vP b1 2)] (sd (dlb 15 0 2 b1 (vI (c.brk))) (sp 1 [(16,vP b1 1)] (sd (dlb 17 0 1 b1 (vI (c.wt))) (sd (dc 18 (fun I' hI=>(OQ I' (c.brk) (0) (c.wt) :))) (sp 3 [(21,.bool (!(inB c.brk 0 c.wt)))] ?_)))));refine AY 21 rfl (fun h3=>?_) (fun h3=>?_)
  ·
   have a4:=h3;have a4:=CL a4;have a8:=LF a4;refine sp 5 [(26,.bool (true))] (ee ?_);refine AL (fun a w hS hD hW=>⟨hS.sub (.cons 2 rfl (.consE 26 rfl (congrArg Value.bool (by simp only [h1,h2,h3,kA,kB,kC,kD,kE,kF,kG,kH,kI,kJ])) (.nil _))),hD,hW⟩)
  have a4:=h3;have a4:=BW a4;have a8:=inB_t a4;refine sp 1 [(22,vP b1 3)] (sd (dlb 23 0 3 b1 (vI (c.grp))) (sd (dc 24 (fun I' hI=>(OQ I' (c.grp) (0) (3) :))) (sp 2 [(26,.bool (!(inB c.grp 0 3)))] (ee ?_))));refine AL (fun a w hS hD hW=>⟨hS.sub (.cons 2 rfl (.consE 26 rfl (congrArg Value.bool (by simp only [h1,h2,h3,kA,kB,kC,kD,kE,kF,kG,kH,kI,kJ])) (.nil _))),hD,hW⟩)
 rintro a w ⟨hS,hD,hW⟩
 refine AX hS hD hW ?_;clear hS hD hW a w;refine rc 26 rfl (fun h4=>?_) (fun h4=>?_)
 ·
  have b7:=h4;refine rqr (sp 1 [(2,vI (1))] (se (BO ((RP (AE (t:=2) [] (by kernel_rfl) rfl (TC _ (TR _)) (IR _) ?_))))));exact ⟨by rw [CW,nand4,h4];rfl,rfl⟩
 have b7:=h4;obtain ⟨a9,b6⟩:=or_f h4;have a9:=BW a9;have b5:=inB_t a9;obtain ⟨a5,b0⟩:=or_f b6;have a5:=BW a5;have b4:=inB_t a5;obtain ⟨a0,a1⟩:=or_f b0;have a0:=BW a0;have b2:=inB_t a0;have a1:=BW a1;have b3:=inB_t a1;refine AH (NX (rqr (sp 1 [(2,vI (0))] (se (BO (AE (t:=2) [] (by kernel_rfl) rfl (TC _ (TR _)) (IR _) ?_))))));exact ⟨by rw [CW,nand4,h4];rfl,rfl⟩
noncomputable def c_long (p:List Nat):Code:=sub (AU Tryz.f113) p
theorem long_ct (I:Imm) (a:Value) (t:List Int) (b:Value) (cs:List Car) (a_f:BK I a t) (b_f:EZ I b cs) (ho:Ok cs t) (hs:Small cs):CtV Tryz.prog 113 #[a,b] I (vI (lenOf cs t)):=by
 obtain ⟨a0,a1,b1,b4,a7,b2,b3,a5⟩:=id a_f;subst a7;obtain ⟨a2,a3,a8,b0,a9,b5,b6,a6⟩:=id b_f;subst a9;refine fr (args:=[_,_]) (N:=23) Tryz.func113 (fun F=>?_);show Run _ _ (c_long []) _ _ [(0,vS a0 t.length a1),(1,vS a2 cs.length a3)] _ _;refine rnm (rqr ?_);refine sp 1 [(4,vI (0))] (sn (sp 1 [(5,vI (0))] (se (rq (rqr (sp 3 [(10,vI (0)),(9,vI (↑(t.length))),(8,vS a0 t.length a1)] (se (rb 0 ?_))))))));refine rl (fun mz a w=>∃ k:Nat,(k≤t.length)∧Slots 23 [(5,vI (lenOf cs (t.take k))),(10,vI ↑k),(1,vS a2 cs.length a3),(4,vI (0)),(8,vS a0 t.length a1),(9,vI (↑(t.length)))] a∧a.defers=[]∧St I (F) w∧mz=t.length-k) ?_ ?_
 ·intro a w hS hD hW;exact ⟨_,0,Nat.zero_le _,hS.sub (.cons 5 rfl (.cons 10 rfl (.cons 1 rfl (.cons 4 rfl (.cons 8 rfl (.cons 9 rfl (.nil _))))))),hD,hW,rfl⟩
 rintro mz a w ⟨k,hk,hS,hD,hW,rfl⟩
 refine AX hS hD hW ?_;clear hS hD hW a w;refine rqr (sp 1 [(11,.bool (cmp .lss (↑k) (↑(t.length))))] (se (rq (rc 11 rfl (fun h1=>?_) (fun h1=>?_)))))
 ·
  have a4:=h1;have h1:=BZ h1;refine AH (NX (rq (rb 1 (rqr (sd (di 12 1 (k) a5.addr) (sd (dl 13 (BH a5 (k) (by omega))) (sp 1 [(7,vI (t.getD (k) 0))] (se (rr (sp 3 [(16,vI (t.getD (k) 0)),(15,vS a2 cs.length a3),(14,vI (lenOf cs (t.take k)))] ?_))))))))));have hc:=ho.at k (by omega);refine sd (diI 17 6 (t.getD (k) 0) a6.addr) (sp 1 [(18,.pointer (some ⟨a8,b0+((t.getD (k) 0:Int).toNat)*6,none⟩))] (sd (dl 19 (GG a6 ((t.getD (k) 0:Int).toNat) (by omega) 0 (by decide) (v:=vI ((cs.getD ((t.getD (k) 0:Int).toNat) AD).len)) rfl)) (sd (da 20 (lenOf cs (t.take k)) ((cs.getD ((t.getD (k) 0:Int).toNat) AD).len) (hr:=by have h1:=GI hs (t.take k);have h2:=hs.at (t.getD k 0);simp only [FJ,LK] at h1 h2;omega)) (sp 1 [(5,vI ((lenOf cs (t.take k))+((cs.getD ((t.getD (k) 0:Int).toNat) AD).len)))] (ee (NB (NX (rr (sd (da 21 (↑k) (1)) (sp 1 [(10,vI (↑k+1))] (ee ?_)))))))))));refine AG (t.length-(k+1)) (by omega) ?_;intro a w hS hD hW;exact ⟨k+1,by omega,hS.sub (.consE 5 rfl (congrArg (Value.int .i64) (OR (by omega)).symm) (.consE 10 rfl rfl (.cons 1 rfl (.cons 4 rfl (.cons 8 rfl (.cons 9 rfl (.nil _))))))),hD,hW,rfl⟩
 have a4:=h1;have h1:=BX h1;refine CC 0 ((EP (EP (EB (NX (rqr (sp 2 [(4,vI (lenOf cs (t.take k)))] (se (BO (AE (t:=4) [] (by kernel_rfl) rfl (TR _) (IR _) ?_))))))))));exact ⟨by rw [DT (by omega)],rfl⟩
noncomputable def c_coupled (p:List Nat):Code:=sub (AU Tryz.f100) p
theorem LZ (I:Imm) (a:Value) (t:List Int) (b:Value) (cs:List Car) (j:Int) (a_f:BK I a t) (b_f:EZ I b cs) (ho:Ok cs t):CtV Tryz.prog 100 #[a,b,vI j] I (.bool (CE cs t j)):=by
 obtain ⟨a5,a6,b3,b6,b1,b4,b5,a3⟩:=id a_f;subst b1;obtain ⟨a7,a8,a9,b0,b2,b7,b8,a4⟩:=id b_f;subst b2;refine fr (args:=[_,_,_]) (N:=43) Tryz.func100 (fun F=>?_);show Run _ _ (c_coupled []) _ _ [(0,vS a5 t.length a6),(1,vS a7 cs.length a8),(2,vI (j))] _ _;refine rnm (rqr ?_);refine sp 1 [(6,.bool (false))] (se (rq ?_));refine DQ (fun a w=>Slots 43 [(6,.bool ((inB j 1 ((↑(t.length))-1))&&((cmp .gtr ((cs.getD ((t.getD ((j:Int).toNat) 0:Int).toNat) AD).grp) (0))&&(cmp .eql ((cs.getD ((t.getD ((j:Int).toNat) 0:Int).toNat) AD).grp) ((cs.getD ((t.getD ((j-1:Int).toNat) 0:Int).toNat) AD).grp)))))] a∧a.defers=[]∧St I (F) w) ?_ ?_
 ·
  refine rd0 34 (ox 3 [(9,vI (↑(t.length))),(7,vI (j))] ?_);refine AB (dsb 10 (↑(t.length)) (1)) ?_;refine AB (dc 11 (fun I' hI=>(OQ I' (j) (1) ((↑(t.length))-1) :))) (ox 1 [(12,.bool (inB j 1 ((↑(t.length))-1)))] ?_);refine JY 12 (fun h1=>?_) (fun h1=>?_)
  ·
   have a1:=h1;have a2:=inB_t a1;refine ox 3 [(15,vI (j)),(14,vS a5 t.length a6),(13,vS a7 cs.length a8)] ?_;refine AB (diI 16 1 (j) a3.addr) ?_;refine AB (dl 17 (BH a3 ((j:Int).toNat) (by omega))) ?_;have hc:=ho.at j.toNat (by omega);refine AB (diI 18 6 (t.getD ((j:Int).toNat) 0) a4.addr) (ox 1 [(19,.pointer (some ⟨a9,b0+((t.getD ((j:Int).toNat) 0:Int).toNat)*6+3,none⟩))] ?_);refine AB (dl 20 (GG a4 ((t.getD ((j:Int).toNat) 0:Int).toNat) (by omega) 3 (by decide) (v:=vI ((cs.getD ((t.getD ((j:Int).toNat) 0:Int).toNat) AD).grp)) rfl)) (ox 3 [(23,.bool (cmp .gtr ((cs.getD ((t.getD ((j:Int).toNat) 0:Int).toNat) AD).grp) (0)))] ?_);refine JY 23 (fun h2=>?_) (fun h2=>?_)
   ·
    have a0:=h2;have a0:=HU a0;refine ox 3 [(26,vI (j)),(25,vS a5 t.length a6),(24,vS a7 cs.length a8)] ?_;refine AB (diI 27 1 (j) a3.addr) ?_;refine AB (dl 28 (BH a3 ((j:Int).toNat) (by omega))) ?_;have hc:=ho.at j.toNat (by omega);refine AB (diI 29 6 (t.getD ((j:Int).toNat) 0) a4.addr) (ox 1 [(30,.pointer (some ⟨a9,b0+((t.getD ((j:Int).toNat) 0:Int).toNat)*6+3,none⟩))] ?_);refine AB (dl 31 (GG a4 ((t.getD ((j:Int).toNat) 0:Int).toNat) (by omega) 3 (by decide) (v:=vI ((cs.getD ((t.getD ((j:Int).toNat) 0:Int).toNat) AD).grp)) rfl)) (ox 3 [(34,vI (j)),(33,vS a5 t.length a6),(32,vS a7 cs.length a8)] ?_);refine AB (dsb 35 (j) (1)) ?_;refine AB (diI 36 1 (j-1) a3.addr) ?_;refine AB (dl 37 (BH a3 ((j-1:Int).toNat) (by omega))) ?_;have b9:=ho.at (j-1).toNat (by omega);refine AB (diI 38 6 (t.getD ((j-1:Int).toNat) 0) a4.addr) (ox 1 [(39,.pointer (some ⟨a9,b0+((t.getD ((j-1:Int).toNat) 0:Int).toNat)*6+3,none⟩))] ?_);refine AB (dl 40 (GG a4 ((t.getD ((j-1:Int).toNat) 0:Int).toNat) (by omega) 3 (by decide) (v:=vI ((cs.getD ((t.getD ((j-1:Int).toNat) 0:Int).toNat) AD).grp)) rfl)) ?_;refine BT (sp 3 [(6,.bool (cmp .eql ((cs.getD ((t.getD ((j:Int).toNat) 0:Int).toNat) AD).grp) ((cs.getD ((t.getD ((j-1:Int).toNat) 0:Int).toNat) AD).grp)))] (ee ?_));refine AL (fun a w hS hD hW=>⟨hS.sub (.consE 6 rfl (congrArg Value.bool (by simp only [h1,h2,kA,kB,kC,kD,kE,kF,kG,kH,kI,kJ])) (.nil _)),hD,hW⟩)
   have a0:=h2;have a0:=HG a0;refine ox 17 [(40,undef),(31,undef)] ?_;refine BT (sp 3 [(6,.bool (false))] (ee ?_));refine AL (fun a w hS hD hW=>⟨hS.sub (.consE 6 rfl (congrArg Value.bool (by simp only [h1,h2,kA,kB,kC,kD,kE,kF,kG,kH,kI,kJ])) (.nil _)),hD,hW⟩)
  have a1:=h1;have a2:=LF a1;refine ox 28 [(40,undef),(31,undef),(23,.bool (false))] ?_;refine BT (sp 3 [(6,.bool (false))] (ee ?_));refine AL (fun a w hS hD hW=>⟨hS.sub (.consE 6 rfl (congrArg Value.bool (by simp only [h1,kA,kB,kC,kD,kE,kF,kG,kH,kI,kJ])) (.nil _)),hD,hW⟩)
 rintro a w ⟨hS,hD,hW⟩
 refine AX hS hD hW ?_;clear hS hD hW a w;refine BO (AE (t:=6) [] (by kernel_rfl) rfl (TR _) (IR _) ?_);exact ⟨by simp only [CE,FJ,cmp_gtr,cmp_eql,Bool.and_assoc];rfl,rfl⟩
noncomputable def c_checkGroups (p:List Nat):Code:=sub (AU Tryz.f138) p
theorem checkGroups_ct (I:Imm) (y:Value) (Y:Yard) (y_f:IsYard I y Y) (ho:OkAll Y.cars Y.tracks):CtV Tryz.prog 138 #[y] I (vI (DH Y)):=by
 obtain ⟨y1,y2,y3,g1,c6,d9,e1⟩:=id y_f;subst g1;obtain ⟨a7,a8,d5,d7,d6,f0,f1,c7⟩:=id c6;subst d6;obtain ⟨b8,b9,f2,f5,d8,f3,f4,f6⟩:=id d9;subst d8;obtain ⟨a1,a2,f7,g0,e3,e0,f8,f9,c8,e2⟩:=id e1;subst e0;refine fr (args:=[_]) (N:=49) Tryz.func138 (fun F=>?_);show Run _ _ (c_checkGroups []) _ _ [(0,.agg #[vS a7 Y.cars.length a8,vS b8 Y.room.length b9,vS a1 Y.tracks.length a2])] _ _;refine rnm (rqr ?_);refine sS (sb 1 26 #[vS a7 Y.cars.length a8,vS b8 Y.room.length b9,vS a1 Y.tracks.length a2] (fun b1=>(sp 1 [(2,vI (0))] (sn (sS (IZ (d:=9) (T:=133) (ty:=133) (gd:=none) (by kernel_rfl) rfl (fun b3=>(sp 1 [(3,.map (some b3))] (se (rq (rqr (sp 1 [(10,vP b1 2)] (sd (dlb 11 1 2 b1 (vS a1 Y.tracks.length a2)) (sp 2 [(13,vI (0)),(12,vI (↑(Y.tracks.length)))] (se (rb 0 ?_))))))))))))))));refine rl (fun mz a w=>∃ k:Nat,∃ c9:List Int,∃ b0:Array MapEntry,∃ b2:Nat,(k≤Y.tracks.length)∧(DH Y=goGs Y.cars (Y.tracks.drop k) c9)∧(MapIs encI b0 (GE (c9)))∧Slots 49 [(13,vI ↑k),(1,vP b1 0),(3,.map (some b3)),(11,vS a1 Y.tracks.length a2),(12,vI (↑(Y.tracks.length)))] a∧a.defers=[]∧St I ((b3,Obj.map b0 b2)::(bX b1 #[vS a7 Y.cars.length a8,vS b8 Y.room.length b9,vS a1 Y.tracks.length a2] 26)::F) w∧mz=Y.tracks.length-k) ?_ ?_
 ·intro a w hS hD hW;exact ⟨_,0,[],#[],0,Nat.zero_le _,rfl,(MapIs.nil _),hS.sub (.cons 13 rfl (.cons 1 rfl (.cons 3 rfl (.cons 11 rfl (.cons 12 rfl (.nil _)))))),hD,hW,rfl⟩
 rintro mz a w ⟨k,c9,b0,b2,hk,hr,c0,hS,hD,hW,rfl⟩
 refine AX hS hD hW ?_;clear hS hD hW a w;refine rqr (sp 1 [(14,.bool (cmp .lss (↑k) (↑(Y.tracks.length))))] (se (rq (rc 14 rfl (fun h1=>?_) (fun h1=>?_)))))
 ·
  have d0:=h1;have h1:=BZ h1;refine AH (NX (rq (rb 1 (rqr (sd (di 15 1 (k) c8.addr) ?_)))));have c1:=e2 (k) (by omega);obtain ⟨a5,a6,e6,e9,c4,e7,e8,c5⟩:=id c1;rw [c4] at c1;refine sd (BL (dl 16 (CR c8 (k) (by omega))) c4) (sp 1 [(5,vS a5 (Y.tracks.getD (k) []).length a6)] (sn (sp 3 [(19,vI (0)),(18,vI (↑((Y.tracks.getD (k) []).length))),(17,vS a5 (Y.tracks.getD (k) []).length a6)] (se (rb 2 ?_)))));refine rl (fun mz a w=>∃ j:Nat,∃ a0:List Int,∃ a3:Array MapEntry,∃ a9:Nat,(j≤(Y.tracks.getD (k) []).length)∧(DH Y=goG Y.cars (Y.tracks.getD (k) []) (goGs Y.cars (Y.tracks.drop (k+1))) j ((Y.tracks.getD (k) []).drop j) a0)∧(MapIs encI a3 (GE (a0)))∧Slots 49 [(19,vI ↑j),(1,vP b1 0),(3,.map (some b3)),(5,vS a5 (Y.tracks.getD (k) []).length a6),(11,vS a1 Y.tracks.length a2),(12,vI (↑(Y.tracks.length))),(13,vI (↑k)),(17,vS a5 (Y.tracks.getD (k) []).length a6),(18,vI (↑((Y.tracks.getD (k) []).length)))] a∧a.defers=[]∧St I ((b3,Obj.map a3 a9)::(bX b1 #[vS a7 Y.cars.length a8,vS b8 Y.room.length b9,vS a1 Y.tracks.length a2] 26)::F) w∧mz=(Y.tracks.getD (k) []).length-j) ?_ ?_
  ·intro a w hS hD hW;exact ⟨_,0,c9,b0,b2,Nat.zero_le _,hr.trans (goGs_step (by omega)),c0,hS.sub (.cons 19 rfl (.cons 1 rfl (.cons 3 rfl (.cons 5 rfl (.cons 11 rfl (.cons 12 rfl (.cons 13 rfl (.cons 17 rfl (.cons 18 rfl (.nil _)))))))))),hD,hW,rfl⟩
  rintro mz a w ⟨j,a0,a3,a9,hj,d4,a4,hS,hD,hW,rfl⟩
  refine AX hS hD hW ?_;clear hS hD hW a w;refine rqr (sp 1 [(20,.bool (cmp .lss (↑j) (↑((Y.tracks.getD (k) []).length))))] (se (rq (rc 20 rfl (fun h2=>?_) (fun h2=>?_)))))
  ·
   have d1:=h2;have h2:=BZ h2;refine AH (NX (rq (rb 3 (rqr (sp 1 [(21,vI (↑j))] (sd (di 22 1 (j) c5.addr) (sd (dl 23 (BH c5 (j) (by omega))) (sp 2 [(7,vI ((Y.tracks.getD (k) []).getD (j) 0)),(6,vI (↑j))] (sn (sp 1 [(24,vP b1 0)] (sd (dlb 25 1 0 b1 (vS a7 Y.cars.length a8)) (sp 1 [(26,vI ((Y.tracks.getD (k) []).getD (j) 0))] ?_))))))))))));have hc:=(ho.at k (by omega)).at j (by omega);refine sd (diI 27 6 ((Y.tracks.getD (k) []).getD (j) 0) c7.addr) (sp 1 [(28,.pointer (some ⟨d5,d7+(((Y.tracks.getD (k) []).getD (j) 0:Int).toNat)*6+3,none⟩))] (sd (dl 29 (GG c7 (((Y.tracks.getD (k) []).getD (j) 0:Int).toNat) (by omega) 3 (by decide) (v:=vI ((Y.cars.getD (((Y.tracks.getD (k) []).getD (j) 0:Int).toNat) AD).grp)) rfl)) (sp 1 [(8,vI ((Y.cars.getD (((Y.tracks.getD (k) []).getD (j) 0:Int).toNat) AD).grp))] (se (rq (rq ?_))))));refine DQ (fun a w=>Slots 49 [(1,vP b1 0),(3,.map (some b3)),(5,vS a5 (Y.tracks.getD (k) []).length a6),(8,vI ((Y.cars.getD (((Y.tracks.getD (k) []).getD (j) 0:Int).toNat) AD).grp)),(11,vS a1 Y.tracks.length a2),(12,vI (↑(Y.tracks.length))),(13,vI (↑k)),(17,vS a5 (Y.tracks.getD (k) []).length a6),(18,vI (↑((Y.tracks.getD (k) []).length))),(19,vI (↑j)),(44,.bool ((cmp .gtr ((Y.cars.getD (((Y.tracks.getD (k) []).getD (j) 0:Int).toNat) AD).grp) (0))&&((decide (((Y.cars.getD (((Y.tracks.getD (k) []).getD (j) 0:Int).toNat) AD).grp:Int)∈a0))&&(!(CE Y.cars (Y.tracks.getD (k) []) ↑j)))))] a∧a.defers=[]∧St I ((b3,Obj.map a3 a9)::(bX b1 #[vS a7 Y.cars.length a8,vS b8 Y.room.length b9,vS a1 Y.tracks.length a2] 26)::F) w) ?_ ?_
   ·
    refine rr (sp 3 [(32,.bool (cmp .gtr ((Y.cars.getD (((Y.tracks.getD (k) []).getD (j) 0:Int).toNat) AD).grp) (0)))] ?_);refine AY 32 rfl (fun h3=>?_) (fun h3=>?_)
    ·
     have b4:=h3;have b4:=HU b4;refine sp 2 [(34,vI ((Y.cars.getD (((Y.tracks.getD (k) []).getD (j) 0:Int).toNat) AD).grp)),(33,.map (some b3))] (sd (MA (x:=(.tmp 33)) (y:=(.tmp 34)) (T:=133) (kt:=3) (et:=4) (k:=((Y.cars.getD (((Y.tracks.getD (k) []).getD (j) 0:Int).toNat) AD).grp:Int)) (kvs:=GE (a0)) (z:=.bool false) (d:=35) (ty:=4) (gd:=(some (2,true))) (by kernel_rfl) (by kernel_rfl) (by kernel_rfl) (IK (GR (by kernel_rfl))) rfl rfl (by kernel_rfl) (.inl (List.mem_of_getElem? (i:=0) rfl)) a4 (KG _ _)) (sp 2 [(37,.bool (decide (((Y.cars.getD (((Y.tracks.getD (k) []).getD (j) 0:Int).toNat) AD).grp:Int)∈a0)))] ?_));refine AY 37 rfl (fun h4=>?_) (fun h4=>?_)
     ·
      have b5:=h4;have b5:=FT b5;refine sp 2 [(39,vP b1 0),(38,vS a5 (Y.tracks.getD (k) []).length a6)] (sd (dlb 40 1 0 b1 (vS a7 Y.cars.length a8)) (sp 1 [(41,vI (↑j))] (sd (dc 42 (fun I' hI=>(LZ I' _ _ _ _ (↑j) (c1.mono hI) (c6.mono hI) (by exact ho.at k (by omega)) :))) (sp 2 [(44,.bool (!(CE Y.cars (Y.tracks.getD (k) []) ↑j)))] (ee ?_)))));refine AL (fun a w hS hD hW=>⟨hS.sub (.cons 1 rfl (.cons 3 rfl (.cons 5 rfl (.cons 8 rfl (.cons 11 rfl (.cons 12 rfl (.cons 13 rfl (.cons 17 rfl (.cons 18 rfl (.cons 19 rfl (.consE 44 rfl (congrArg Value.bool (by simp only [h3,h4,kA,kB,kC,kD,kE,kF,kG,kH,kI,kJ])) (.nil _)))))))))))),hD,hW⟩)
     have b5:=h4;have b5:=GH b5;refine sp 7 [(44,.bool (false))] (ee ?_);refine AL (fun a w hS hD hW=>⟨hS.sub (.cons 1 rfl (.cons 3 rfl (.cons 5 rfl (.cons 8 rfl (.cons 11 rfl (.cons 12 rfl (.cons 13 rfl (.cons 17 rfl (.cons 18 rfl (.cons 19 rfl (.consE 44 rfl (congrArg Value.bool (by simp only [h3,h4,kA,kB,kC,kD,kE,kF,kG,kH,kI,kJ])) (.nil _)))))))))))),hD,hW⟩)
    have b4:=h3;have b4:=HG b4;refine sp 12 [(44,.bool (false))] (ee ?_);refine AL (fun a w hS hD hW=>⟨hS.sub (.cons 1 rfl (.cons 3 rfl (.cons 5 rfl (.cons 8 rfl (.cons 11 rfl (.cons 12 rfl (.cons 13 rfl (.cons 17 rfl (.cons 18 rfl (.cons 19 rfl (.consE 44 rfl (congrArg Value.bool (by simp only [h3,kA,kB,kC,kD,kE,kF,kG,kH,kI,kJ])) (.nil _)))))))))))),hD,hW⟩)
   rintro a w ⟨hS,hD,hW⟩
   refine AX hS hD hW ?_;clear hS hD hW a w;refine rc 44 rfl (fun h5=>?_) (fun h5=>?_)
   ·
    have d3:=h5;obtain ⟨c2,d2⟩:=and_t h5;have c2:=HU c2;obtain ⟨b6,b7⟩:=and_t d2;have b6:=FT b6;have b7:=CL b7;refine rqr (sp 1 [(2,vI (12))] (se (BO ((RP (RB (RP (RP (RB (RB (RP (RP (RB (RP (AE (t:=2) [] (by kernel_rfl) rfl (TC _ (TC _ (TR _))) (IR _) ?_)))))))))))))));exact ⟨congrArg (Value.int .i64) (d4.trans (goG_hit (by omega) h5)).symm,rfl⟩
   have d3:=h5;refine AH (NX (rr (sp 2 [(46,vI ((Y.cars.getD (((Y.tracks.getD (k) []).getD (j) 0:Int).toNat) AD).grp)),(45,.map (some b3))] (sS (HF (x:=(.tmp 45)) (y:=(.tmp 46)) (u:=(.const (.bool true))) (T:=133) (kt:=3) (et:=4) (k:=((Y.cars.getD (((Y.tracks.getD (k) []).getD (j) 0:Int).toNat) AD).grp:Int)) (kvs:=GE (a0)) 0 (ty:=0) (gd:=none) (by kernel_rfl) rfl (by kernel_rfl) (IK (GR (by kernel_rfl))) rfl rfl rfl rfl a4 (fun e5 e4 c3=>?_))))));rw [LU] at c3;refine nm (ee (NB (NX (rr ?_))));refine sd (da 47 (↑j) (1)) (sp 1 [(19,vI (↑j+1))] (ee ?_));refine AG ((Y.tracks.getD (k) []).length-(j+1)) (by omega) ?_;intro a w hS hD hW;exact ⟨j+1,if ((Y.cars.getD (((Y.tracks.getD (k) []).getD (j) 0:Int).toNat) AD).grp:Int)∈a0 then a0 else a0++[((Y.cars.getD (((Y.tracks.getD (k) []).getD (j) 0:Int).toNat) AD).grp:Int)],e5,e4,by omega,d4.trans (goG_miss (by omega) h5),c3,hS.sub (.consE 19 rfl rfl (.cons 1 rfl (.cons 3 rfl (.cons 5 rfl (.cons 11 rfl (.cons 12 rfl (.cons 13 rfl (.cons 17 rfl (.cons 18 rfl (.nil _)))))))))),hD,hW,rfl⟩
  have d1:=h2;have h2:=BX h2;refine CC 2 ((EP (EP (EB (NB (NX (rr (sd (da 48 (↑k) (1)) (sp 1 [(13,vI (↑k+1))] (ee ?_))))))))));refine AG (Y.tracks.length-(k+1)) (by omega) ?_;intro a w hS hD hW;exact ⟨k+1,a0,a3,a9,by omega,d4.trans (goG_done (by omega)),a4,hS.sub (.consE 13 rfl rfl (.cons 1 rfl (.cons 3 rfl (.cons 11 rfl (.cons 12 rfl (.nil _)))))),hD,hW,rfl⟩
 have d0:=h1;have h1:=BX h1;refine CC 0 ((EP (EP (EB (NX (rqr (sp 1 [(2,vI (0))] (se (BO (AE (t:=2) [] (by kernel_rfl) rfl (TC _ (TC _ (TR _))) (IR _) ?_))))))))));exact ⟨congrArg (Value.int .i64) (hr.trans (goGs_done (by omega))).symm,rfl⟩
noncomputable def c_checkTracks (p:List Nat):Code:=sub (AU Tryz.f94) p
theorem checkTracks_ct (I:Imm) (y:Value) (Y:Yard) (y_f:IsYard I y Y) (hs:Small Y.cars):CtV Tryz.prog 94 #[y] I (vI (EG Y)):=by
 obtain ⟨y1,y2,y3,g2,c1,c5,c7⟩:=id y_f;subst g2;obtain ⟨a3,a4,e9,f2,d7,f0,f1,f3⟩:=id c1;subst d7;obtain ⟨a6,a7,f4,f7,d8,f5,f6,c6⟩:=id c5;subst d8;obtain ⟨a0,a1,f8,g1,e2,d9,f9,g0,c8,e0⟩:=id c7;subst d9;refine fr (args:=[_]) (N:=64) Tryz.func94 (fun F=>?_);show Run _ _ (c_checkTracks []) _ _ [(0,.agg #[vS a3 Y.cars.length a4,vS a6 Y.room.length a7,vS a0 Y.tracks.length a1])] _ _;refine rnm (rqr ?_);refine sS (sb 1 26 #[vS a3 Y.cars.length a4,vS a6 Y.room.length a7,vS a0 Y.tracks.length a1] (fun b1=>(sp 1 [(2,vI (0))] (se (rq (rqr (sp 1 [(8,vP b1 2)] (sd (dlb 9 0 2 b1 (vS a0 Y.tracks.length a1)) (sp 2 [(11,vP b1 1),(10,vI (↑(Y.tracks.length)))] (sd (dlb 12 0 1 b1 (vS a6 Y.room.length a7)) (sp 2 [(14,.bool (!(cmp .eql (↑(Y.tracks.length)) (↑(Y.room.length)))))] (se (rc 14 rfl (fun h1=>?_) (fun h1=>?_))))))))))))))
 ·
  have c9:=h1;have h1:=DE (CL h1);refine rqr (sp 1 [(2,vI (2))] (se (BO ((RP (AE (t:=2) [] (by kernel_rfl) rfl (TC _ (TR _)) (IR _) ?_))))));exact ⟨congrArg (Value.int .i64) (by rw [EG,if_neg (by omega)]),rfl⟩
 have c9:=h1;have h1:=DF (BW h1);refine AH (NX (rqr (sS (IZ (d:=15) (T:=133) (ty:=133) (gd:=none) (by kernel_rfl) rfl (fun b3=>(sp 1 [(3,.map (some b3))] (se (rq (rqr (sp 1 [(16,vP b1 2)] (sd (dlb 17 1 2 b1 (vS a0 Y.tracks.length a1)) (sp 2 [(19,vI (0)),(18,vI (↑(Y.tracks.length)))] (se (rb 0 ?_))))))))))))));refine rl (fun mz a w=>∃ k:Nat,∃ b0:List Int,∃ a8:Array MapEntry,∃ b2:Nat,(k≤Y.tracks.length)∧(CO Y.cars (fun b0=>if b0.length<Y.cars.length then 7 else DH Y) Y.tracks Y.room []=CO Y.cars (fun b0=>if b0.length<Y.cars.length then 7 else DH Y) (Y.tracks.drop k) (Y.room.drop k) b0)∧(OkAll Y.cars (Y.tracks.take k))∧(MapIs encI a8 (GE (b0)))∧Slots 64 [(19,vI ↑k),(1,vP b1 0),(3,.map (some b3)),(17,vS a0 Y.tracks.length a1),(18,vI (↑(Y.tracks.length)))] a∧a.defers=[]∧St I ((b3,Obj.map a8 b2)::(bX b1 #[vS a3 Y.cars.length a4,vS a6 Y.room.length a7,vS a0 Y.tracks.length a1] 26)::F) w∧mz=Y.tracks.length-k) ?_ ?_
 ·intro a w hS hD hW;exact ⟨_,0,[],#[],0,Nat.zero_le _,rfl,OkAll.nil,(MapIs.nil _),hS.sub (.cons 19 rfl (.cons 1 rfl (.cons 3 rfl (.cons 17 rfl (.cons 18 rfl (.nil _)))))),hD,hW,rfl⟩
 rintro mz a w ⟨k,b0,a8,b2,hk,hr,e1,b5,hS,hD,hW,rfl⟩
 refine AX hS hD hW ?_;clear hS hD hW a w;refine rqr (sp 1 [(20,.bool (cmp .lss (↑k) (↑(Y.tracks.length))))] (se (rq (rc 20 rfl (fun h2=>?_) (fun h2=>?_)))))
 ·
  have d0:=h2;have h2:=BZ h2;refine AH (NX (rq (rb 1 (rqr (sp 1 [(21,vI (↑k))] (sd (di 22 1 (k) c8.addr) ?_))))));have c0:=e0 (k) (by omega);obtain ⟨b6,b7,e5,e8,c3,e6,e7,c4⟩:=id c0;rw [c3] at c0;refine sd (BL (dl 23 (CR c8 (k) (by omega))) c3) (sp 2 [(5,vS b6 (Y.tracks.getD (k) []).length b7),(4,vI (↑k))] (se (rq (rqr (sp 3 [(26,vI (0)),(25,vI (↑((Y.tracks.getD (k) []).length))),(24,vS b6 (Y.tracks.getD (k) []).length b7)] (se (rb 2 ?_)))))));refine rl (fun mz a w=>∃ j:Nat,∃ a2:List Int,∃ a9:Array MapEntry,∃ b4:Nat,(j≤(Y.tracks.getD (k) []).length)∧(CO Y.cars (fun b0=>if b0.length<Y.cars.length then 7 else DH Y) Y.tracks Y.room []=DP Y.cars.length (fun met'=>if lenOf Y.cars (Y.tracks.getD (k) [])>Y.room.getD k 0 then 9 else CO Y.cars (fun b0=>if b0.length<Y.cars.length then 7 else DH Y) (Y.tracks.drop (k+1)) (Y.room.drop (k+1)) met') ((Y.tracks.getD (k) []).drop j) a2)∧(Ok Y.cars ((Y.tracks.getD (k) []).take j))∧(MapIs encI a9 (GE (a2)))∧Slots 64 [(26,vI ↑j),(1,vP b1 0),(3,.map (some b3)),(4,vI (↑k)),(5,vS b6 (Y.tracks.getD (k) []).length b7),(17,vS a0 Y.tracks.length a1),(18,vI (↑(Y.tracks.length))),(19,vI (↑k)),(24,vS b6 (Y.tracks.getD (k) []).length b7),(25,vI (↑((Y.tracks.getD (k) []).length)))] a∧a.defers=[]∧St I ((b3,Obj.map a9 b4)::(bX b1 #[vS a3 Y.cars.length a4,vS a6 Y.room.length a7,vS a0 Y.tracks.length a1] 26)::F) w∧mz=(Y.tracks.getD (k) []).length-j) ?_ ?_
  ·intro a w hS hD hW;exact ⟨_,0,b0,a8,b2,Nat.zero_le _,hr.trans (NM (by omega)),Ok.nil,b5,hS.sub (.cons 26 rfl (.cons 1 rfl (.cons 3 rfl (.cons 4 rfl (.cons 5 rfl (.cons 17 rfl (.cons 18 rfl (.cons 19 rfl (.cons 24 rfl (.cons 25 rfl (.nil _))))))))))),hD,hW,rfl⟩
  rintro mz a w ⟨j,a2,a9,b4,hj,c2,b9,a5,hS,hD,hW,rfl⟩
  refine AX hS hD hW ?_;clear hS hD hW a w;refine rqr (sp 1 [(27,.bool (cmp .lss (↑j) (↑((Y.tracks.getD (k) []).length))))] (se (rq (rc 27 rfl (fun h3=>?_) (fun h3=>?_)))))
  ·
   have d1:=h3;have h3:=BZ h3;refine AH (NX (rq (rb 3 (rqr (sd (di 28 1 (j) c4.addr) (sd (dl 29 (BH c4 (j) (by omega))) (sp 1 [(7,vI ((Y.tracks.getD (k) []).getD (j) 0))] (se (rq (rb 4 (rqr (sp 2 [(32,vP b1 0),(31,vI ((Y.tracks.getD (k) []).getD (j) 0))] (sd (dlb 33 1 0 b1 (vS a3 Y.cars.length a4)) (sp 1 [(34,vI (↑(Y.cars.length)))] (sd (dsb 35 (↑(Y.cars.length)) (1)) (sd (dc 36 (fun I' hI=>(OQ I' ((Y.tracks.getD (k) []).getD (j) 0) (0) ((↑(Y.cars.length))-1) :))) (sp 2 [(30,.bool (!(inB ((Y.tracks.getD (k) []).getD (j) 0) 0 ((↑(Y.cars.length))-1))))] (se (rc 30 rfl (fun h4=>?_) (fun h4=>?_))))))))))))))))))))
   ·
    have d3:=h4;have h4:=CL h4;have d2:=LF h4;refine rqr (sp 1 [(2,vI (3))] (se (BO ((RB (RP (RB (RP (RP (RB (RP (RB (RP (RP (RB (RP (AE (t:=2) [] (by kernel_rfl) rfl (TC _ (TC _ (TR _))) (IR _) ?_)))))))))))))))));exact ⟨congrArg (Value.int .i64) (by rw [EG,if_pos (by omega)];exact (c2.trans (goTrack_bad (by omega) h4)).symm),rfl⟩
   have d3:=h4;have h4:=BW h4;have d2:=inB_t h4;refine rqr (sp 2 [(40,vI ((Y.tracks.getD (k) []).getD (j) 0)),(39,.map (some b3))] (sd (MA (x:=(.tmp 39)) (y:=(.tmp 40)) (T:=133) (kt:=3) (et:=4) (k:=((Y.tracks.getD (k) []).getD (j) 0:Int)) (kvs:=GE (a2)) (z:=.bool false) (d:=41) (ty:=4) (gd:=none) (by kernel_rfl) rfl (by kernel_rfl) (IK (GR (by kernel_rfl))) rfl rfl (by kernel_rfl) (.inl (List.mem_of_getElem? (i:=0) rfl)) a5 (KG _ _)) (sp 1 [(38,.bool (decide (((Y.tracks.getD (k) []).getD (j) 0:Int)∈a2)))] (se (rc 38 rfl (fun h5=>?_) (fun h5=>?_))))))
   ·
    have d4:=h5;have h5:=FT h5;refine rqr (sp 1 [(2,vI (4))] (se (BO ((RB (RP (RB (RP (RP (RB (RP (RB (RP (RP (RB (RP (AE (t:=2) [] (by kernel_rfl) rfl (TC _ (TC _ (TR _))) (IR _) ?_)))))))))))))))));exact ⟨congrArg (Value.int .i64) (by rw [EG,if_pos (by omega)];exact (c2.trans (NL (by omega) h4 h5)).symm),rfl⟩
   have d4:=h5;have h5:=GH h5;refine AH (NB (NX (rr (sp 2 [(43,vI ((Y.tracks.getD (k) []).getD (j) 0)),(42,.map (some b3))] (sS (HF (x:=(.tmp 42)) (y:=(.tmp 43)) (u:=(.const (.bool true))) (T:=133) (kt:=3) (et:=4) (k:=((Y.tracks.getD (k) []).getD (j) 0:Int)) (kvs:=GE (a2)) 0 (ty:=0) (gd:=none) (by kernel_rfl) rfl (by kernel_rfl) (IK (GR (by kernel_rfl))) rfl rfl rfl rfl a5 (fun e4 e3 b8=>?_)))))));rw [LU] at b8;rw [if_neg h5] at b8;refine nm (ee (NB (NX (rr ?_))));refine sd (da 44 (↑j) (1)) (sp 1 [(26,vI (↑j+1))] (ee ?_));refine AG ((Y.tracks.getD (k) []).length-(j+1)) (by omega) ?_;intro a w hS hD hW;exact ⟨j+1,a2++[((Y.tracks.getD (k) []).getD (j) 0:Int)],e4,e3,by omega,c2.trans (PK (by omega) h4 h5),b9.snoc (c:=0) (by omega) (by omega),b8,hS.sub (.consE 26 rfl rfl (.cons 1 rfl (.cons 3 rfl (.cons 4 rfl (.cons 5 rfl (.cons 17 rfl (.cons 18 rfl (.cons 19 rfl (.cons 24 rfl (.cons 25 rfl (.nil _))))))))))),hD,hW,rfl⟩
  have d1:=h3;have h3:=BX h3;refine CC 2 ((EP (EP (EB (NX (rq ?_))))));refine rd0 9 (ox 2 [(46,vP b1 0),(45,vS b6 (Y.tracks.getD (k) []).length b7)] ?_);refine AB (dlb 47 1 0 b1 (vS a3 Y.cars.length a4)) ?_;refine AB (dc 48 (fun I' hI=>(long_ct I' _ _ _ _ (c0.mono hI) (c1.mono hI) (by exact b9.all (by omega)) (by assumption) :))) (ox 1 [(49,vP b1 1)] ?_);refine AB (dlb 50 1 1 b1 (vS a6 Y.room.length a7)) (ox 1 [(51,vI (↑k))] ?_);refine AB (di 52 1 (k) c6.addr) ?_;refine AB (dl 53 (BH c6 (k) (by omega))) ?_;refine BT (sp 1 [(54,.bool (cmp .gtr ((lenOf Y.cars (Y.tracks.getD (k) []))) (Y.room.getD (k) 0)))] (se (rc 54 rfl (fun h6=>?_) (fun h6=>?_))))
  ·
   have d5:=h6;have h6:=HU h6;refine rqr (sp 1 [(2,vI (9))] (se (BO ((RB (RP (RP (RB (RP (AE (t:=2) [] (by kernel_rfl) rfl (TC _ (TC _ (TR _))) (IR _) ?_))))))))));exact ⟨congrArg (Value.int .i64) (by rw [EG,if_pos (by omega)];exact (c2.trans ((JI (by omega)).trans (if_pos (by omega)))).symm),rfl⟩
  have d5:=h6;have h6:=HG h6;refine AH (NB (NX (rr (sd (da 55 (↑k) (1)) (sp 1 [(19,vI (↑k+1))] (ee ?_))))));refine AG (Y.tracks.length-(k+1)) (by omega) ?_;intro a w hS hD hW;exact ⟨k+1,a2,a9,b4,by omega,c2.trans ((JI (by omega)).trans (if_neg (by omega))),e1.snoc (by omega) (b9.all (by omega)),a5,hS.sub (.consE 19 rfl rfl (.cons 1 rfl (.cons 3 rfl (.cons 17 rfl (.cons 18 rfl (.nil _)))))),hD,hW,rfl⟩
 have d0:=h2;have h2:=BX h2;refine CC 0 ((EP (EP (EB (NX (rq (rqr (sp 1 [(56,.map (some b3))] (sd (BL (MO (x:=(.tmp 56)) (T:=133) (K:=3) (E:=4) (d:=57) (ty:=3) (gd:=none) (by kernel_rfl) rfl (by kernel_rfl) rfl (.inl (List.mem_of_getElem? (i:=0) rfl))) (congrArg (fun n:Nat=>Value.int .i64 ↑n) ((MapIs.size b5).trans (LQ _)))) (sp 1 [(58,vP b1 0)] (sd (dlb 59 1 0 b1 (vS a3 Y.cars.length a4)) (sp 2 [(61,.bool (cmp .lss (↑(b0.length)) (↑(Y.cars.length))))] (se (rc 61 rfl (fun h7=>?_) (fun h7=>?_)))))))))))))))
 ·
  have d6:=h7;have h7:=BZ h7;refine rqr (sp 1 [(2,vI (7))] (se (BO ((RP (AE (t:=2) [] (by kernel_rfl) rfl (TC _ (TC _ (TR _))) (IR _) ?_))))));exact ⟨congrArg (Value.int .i64) (by rw [EG,if_pos (by omega)];exact (hr.trans ((GV (by omega)).trans (if_pos (by omega)))).symm),rfl⟩
 have d6:=h7;have h7:=BX h7;refine AH (NX (rqr (sd (dnb 62 1 0 b1 [vS a3 Y.cars.length a4,vS a6 Y.room.length a7,vS a0 Y.tracks.length a1]) ?_)));have ho:=e1.all (by omega);refine sd (dc 63 (fun I' hI=>(checkGroups_ct I' _ (Y) ((BS c1 c5 c7).mono hI) (by assumption) :))) (sp 1 [(2,vI ((DH Y)))] (se (BO (AE (t:=2) [] (by kernel_rfl) rfl (TC _ (TC _ (TR _))) (IR _) ?_))));exact ⟨congrArg (Value.int .i64) (by rw [EG,if_pos (by omega)];exact (hr.trans ((GV (by omega)).trans (if_neg (by omega)))).symm),rfl⟩
noncomputable def c_Check (p:List Nat):Code:=sub (AU Tryz.f34) p
theorem LX (I:Imm) (y:Value) (Y:Yard) (y_f:IsYard I y Y):CtV Tryz.prog 34 #[y] I (vI (checkErr Y)):=by
 obtain ⟨y1,y2,y3,e0,a6,a8,b0⟩:=id y_f;subst e0;obtain ⟨a2,a3,c6,c9,c1,c7,c8,a7⟩:=id a6;subst c1;obtain ⟨a0,a1,d0,d3,c2,d1,d2,a9⟩:=id a8;subst c2;obtain ⟨a4,a5,d4,d7,c5,c3,d5,d6,d8,d9⟩:=id b0;subst c3;refine fr (args:=[_]) (N:=48) Tryz.func34 (fun F=>?_);show Run _ _ (c_Check []) _ _ [(0,.agg #[vS a2 Y.cars.length a3,vS a0 Y.room.length a1,vS a4 Y.tracks.length a5])] _ _;refine rnm (rqr ?_);refine sS (sb 1 26 #[vS a2 Y.cars.length a3,vS a0 Y.room.length a1,vS a4 Y.tracks.length a5] (fun b1=>(sp 1 [(2,vI (0))] (se (rq (rqr (sp 1 [(8,vP b1 0)] (sd (dlb 9 0 0 b1 (vS a2 Y.cars.length a3)) (sp 2 [(11,.bool (cmp .gtr (↑(Y.cars.length)) (5)))] (se (rc 11 rfl (fun h1=>?_) (fun h1=>?_))))))))))))
 ·
  have b2:=h1;have h1:=HU h1;refine rqr (sp 1 [(2,vI (6))] (se (BO ((RP (AE (t:=2) [] (by kernel_rfl) rfl (TC _ (TR _)) (IR _) ?_))))));exact ⟨congrArg (Value.int .i64) ((checkErr_many (by omega)).symm),rfl⟩
 have b2:=h1;have h1:=HG h1;refine AH (NX (rq (rqr (sp 1 [(12,vP b1 0)] (sd (dlb 13 0 0 b1 (vS a2 Y.cars.length a3)) (sp 2 [(15,vI (0)),(14,vI (↑(Y.cars.length)))] (se (rb 0 ?_))))))));refine rl (fun mz a w=>∃ k:Nat,(k≤Y.cars.length)∧(∀ c∈Y.cars.take k,CW c=0)∧Slots 48 [(15,vI ↑k),(1,vP b1 0),(13,vS a2 Y.cars.length a3),(14,vI (↑(Y.cars.length)))] a∧a.defers=[]∧St I ((bX b1 #[vS a2 Y.cars.length a3,vS a0 Y.room.length a1,vS a4 Y.tracks.length a5] 26)::F) w∧mz=Y.cars.length-k) ?_ ?_
 ·intro a w hS hD hW;exact ⟨_,0,Nat.zero_le _,(fun c h=>by simp at h),hS.sub (.cons 15 rfl (.cons 1 rfl (.cons 13 rfl (.cons 14 rfl (.nil _))))),hD,hW,rfl⟩
 rintro mz a w ⟨k,hk,hc,hS,hD,hW,rfl⟩
 refine AX hS hD hW ?_;clear hS hD hW a w;refine rqr (sp 1 [(16,.bool (cmp .lss (↑k) (↑(Y.cars.length))))] (se (rq (rc 16 rfl (fun h2=>?_) (fun h2=>?_)))))
 ·
  have b4:=h2;have h2:=BZ h2;refine AH (NX (rq (rb 1 (rqr (sd (di 17 6 (k) a7.addr) (sd (DS (x:=(.tmp 17)) (T:=56) (n:=6) (vs:=[vI ((Y.cars.getD (k) AD).len),vI ((Y.cars.getD (k) AD).wt),vI ((Y.cars.getD (k) AD).brk),vI ((Y.cars.getD (k) AD).grp),.bool ((Y.cars.getD (k) AD).pipe),.bool ((Y.cars.getD (k) AD).heat)]) (d:=18) (ty:=56) (gd:=none) (by kernel_rfl) rfl (by kernel_rfl) (by kernel_rfl) rfl rfl (JU a7 (k) (by omega))) (sS (sal 4 56 #[vI (0),vI (0),vI (0),vI (0),.bool (false),.bool (false)] (fun b3=>(sS (ss 0 0 b3 [vI ((Y.cars.getD (k) AD).len),vI ((Y.cars.getD (k) AD).wt),vI ((Y.cars.getD (k) AD).brk),vI ((Y.cars.getD (k) AD).grp),.bool ((Y.cars.getD (k) AD).pipe),.bool ((Y.cars.getD (k) AD).heat)] [vI ((Y.cars.getD (k) AD).len),vI ((Y.cars.getD (k) AD).wt),vI ((Y.cars.getD (k) AD).brk),vI ((Y.cars.getD (k) AD).grp),.bool ((Y.cars.getD (k) AD).pipe),.bool ((Y.cars.getD (k) AD).heat)] (_::_::_) (cs:=[_,_,_,_,_,_]) rfl rfl (sn (sd (dnb 19 0 0 b3 [vI ((Y.cars.getD (k) AD).len),vI ((Y.cars.getD (k) AD).wt),vI ((Y.cars.getD (k) AD).brk),vI ((Y.cars.getD (k) AD).grp),.bool ((Y.cars.getD (k) AD).pipe),.bool ((Y.cars.getD (k) AD).heat)]) (sd (dc 20 (fun I' hI=>(checkCoach_ct I' (Y.cars.getD (k) AD) :))) (sp 1 [(5,vI ((CW (Y.cars.getD (k) AD))))] (sn (sp 2 [(22,.bool (!(cmp .eql ((CW (Y.cars.getD (k) AD))) (0))))] (se (rc 22 rfl (fun h3=>?_) (fun h3=>?_))))))))))))))))))))
  ·
   have b5:=h3;have h3:=DE (CL h3);refine rqr (sp 2 [(2,vI ((CW (Y.cars.getD (k) AD))))] (se (BO ((RB (RP (RP (RB (RP (AE (t:=2) [] (by kernel_rfl) rfl (TC _ (TC _ (TR _))) (IR _) ?_))))))))));exact ⟨congrArg (Value.int .i64) ((checkErr_car (by omega) (by omega) h3)),rfl⟩
  have b5:=h3;have h3:=DF (BW h3);refine AH (NB (NX (rr (sd (da 24 (↑k) (1)) (sp 1 [(15,vI (↑k+1))] (ee ?_))))));refine AG (Y.cars.length-(k+1)) (by omega) ?_;intro a w hS hD hW;exact ⟨k+1,by omega,NH hc (by omega) h3,hS.sub (.consE 15 rfl rfl (.cons 1 rfl (.cons 13 rfl (.cons 14 rfl (.nil _))))),hD,(hW.perm (PR _)).sub (TC _ (TR _)),rfl⟩
 have b4:=h2;have h2:=BX h2;refine CC 0 ((EP (EP (EB (NX (rq (rb 2 (rqr (sp 1 [(26,vP b1 1)] (sd (dlb 27 0 1 b1 (vS a0 Y.room.length a1)) (sp 3 [(25,.bool (cmp .eql (↑(Y.room.length)) (0)))] (se (rc 25 rfl (fun h4=>?_) (fun h4=>?_))))))))))))))
 ·
  have b6:=h4;have h4:=DF h4;refine rqr (sp 1 [(2,vI (7))] (se (BO ((RB (RP (AE (t:=2) [] (by kernel_rfl) rfl (TC _ (TR _)) (IR _) ?_)))))));exact ⟨congrArg (Value.int .i64) ((checkErr_few (by omega) (GU hc (by omega)) (by omega)).symm),rfl⟩
 have b6:=h4;have h4:=DE h4;refine rqr (sp 1 [(31,vP b1 1)] (sd (dlb 32 0 1 b1 (vS a0 Y.room.length a1)) (sp 3 [(30,.bool (cmp .gtr (↑(Y.room.length)) (3)))] (se (rc 30 rfl (fun h5=>?_) (fun h5=>?_))))))
 ·
  have b7:=h5;have h5:=HU h5;refine rqr (sp 1 [(2,vI (6))] (se (BO ((RB (RP (AE (t:=2) [] (by kernel_rfl) rfl (TC _ (TR _)) (IR _) ?_)))))));exact ⟨congrArg (Value.int .i64) ((checkErr_many2 (by omega) (GU hc (by omega)) (by omega)).symm),rfl⟩
 have b7:=h5;have h5:=HG h5;refine AH (NB (NX (rq (rqr (sp 1 [(35,vP b1 1)] (sd (dlb 36 0 1 b1 (vS a0 Y.room.length a1)) (sp 2 [(38,vI (0)),(37,vI (↑(Y.room.length)))] (se (rb 3 ?_)))))))));refine rl (fun mz a w=>∃ m:Nat,(m≤Y.room.length)∧(∀ c∈Y.room.take m,inB c 0 20=true)∧Slots 48 [(38,vI ↑m),(1,vP b1 0),(36,vS a0 Y.room.length a1),(37,vI (↑(Y.room.length)))] a∧a.defers=[]∧St I ((bX b1 #[vS a2 Y.cars.length a3,vS a0 Y.room.length a1,vS a4 Y.tracks.length a5] 26)::F) w∧mz=Y.room.length-m) ?_ ?_
 ·intro a w hS hD hW;exact ⟨_,0,Nat.zero_le _,(fun c h=>by simp at h),hS.sub (.cons 38 rfl (.cons 1 rfl (.cons 36 rfl (.cons 37 rfl (.nil _))))),hD,hW,rfl⟩
 rintro mz a w ⟨m,hm,c4,hS,hD,hW,rfl⟩
 refine AX hS hD hW ?_;clear hS hD hW a w;refine rqr (sp 1 [(39,.bool (cmp .lss (↑m) (↑(Y.room.length))))] (se (rq (rc 39 rfl (fun h6=>?_) (fun h6=>?_)))))
 ·
  have b8:=h6;have h6:=BZ h6;refine AH (NX (rq (rb 4 (rqr (sd (di 40 1 (m) a9.addr) (sd (dl 41 (BH a9 (m) (by omega))) (sp 1 [(7,vI (Y.room.getD (m) 0))] (sn (sp 1 [(42,vI (Y.room.getD (m) 0))] (sd (dc 43 (fun I' hI=>(OQ I' (Y.room.getD (m) 0) (0) (20) :))) (sp 1 [(44,.bool (!(inB (Y.room.getD (m) 0) 0 20)))] (se (rc 44 rfl (fun h7=>?_) (fun h7=>?_))))))))))))))
  ·
   have c0:=h7;have h7:=CL h7;have b9:=LF h7;refine rqr (sp 1 [(2,vI (1))] (se (BO ((RB (RP (RP (RB (RP (AE (t:=2) [] (by kernel_rfl) rfl (TC _ (TR _)) (IR _) ?_))))))))));exact ⟨congrArg (Value.int .i64) ((checkErr_room (by omega) (GU hc (by omega)) (by omega) (by omega) (by omega) h7).symm),rfl⟩
  have c0:=h7;have h7:=BW h7;have b9:=inB_t h7;refine AH (NB (NX (rr (sd (da 45 (↑m) (1)) (sp 1 [(38,vI (↑m+1))] (ee ?_))))));refine AG (Y.room.length-(m+1)) (by omega) ?_;intro a w hS hD hW;exact ⟨m+1,by omega,NH (d:=0) c4 (by omega) h7,hS.sub (.consE 38 rfl rfl (.cons 1 rfl (.cons 36 rfl (.cons 37 rfl (.nil _))))),hD,hW,rfl⟩
 have b8:=h6;have h6:=BX h6;refine CC 3 ((EP (EP (EB (NX (rqr (sd (dnb 46 0 0 b1 [vS a2 Y.cars.length a3,vS a0 Y.room.length a1,vS a4 Y.tracks.length a5]) (sd (dc 47 (fun I' hI=>(checkTracks_ct I' _ (Y) ((BS a6 a8 b0).mono hI) (by exact NC (GU hc (by omega))) :))) (sp 1 [(2,vI ((EG Y)))] (se (BO (AE (t:=2) [] (by kernel_rfl) rfl (TC _ (TR _)) (IR _) ?_))))))))))));exact ⟨congrArg (Value.int .i64) ((checkErr_tracks (by omega) (GU hc (by omega)) (by omega) (by omega) (GU c4 (by omega))).symm),rfl⟩
end Go.Proofs.YtcaocbhbofejnaaGreatDoor

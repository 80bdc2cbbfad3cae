/- A part of the proof of the laws of this seat. -/
import Derived.Test.YtmhdidbgjpeadaaGreatDoorP0
import Derived.RangeFuncRecord
import Derived.RangeFuncLeaves
import Derived.Scope
set_option linter.unusedVariables false
set_option linter.unusedSimpArgs false
namespace Go.Sl
open Go
theorem IsSl.len {α:Type} {sz:Nat} {cell:α→Nat→Value} {dflt:α} {I:Imm} {v:Value} {xs:List α} (h:IsSl sz cell dflt I v xs):xs.length≤140737488355328:=by
  obtain ⟨_,_,_,_,_,_,h,_⟩:=h;exact h
theorem getD_cut {α:Type} (xs:List α) (d:α) (L m i:Nat) (h:i<m):((xs.drop L).take m).getD i d=xs.getD (L+i) d:=by
  simp [List.getD,Da,h,List.getElem?_drop]
theorem IsSl.cut {α : Type} {sz : Nat} {cell : α → Nat → Value} {dflt : α} {I : Imm} {a : Option Addr} {n c : Nat} {xs : List α} (h : IsSl sz cell dflt I (.slice a n c) xs) (L H : Nat) (hL : L ≤ H) (hH : H ≤ n) :
    IsSl sz cell dflt I (.slice (if c=L then a else a.map (·.add (L*sz))) (H-L) (c-L)) ((xs.drop L).take (H-L)):=by
  obtain ⟨a',c',b,o,h1,h2,h3,h4⟩:=h;simp only [Value.slice.injEq] at h1;obtain ⟨rfl,rfl,rfl⟩:=h1;have hlen:((xs.drop L).take (H-L)).length=H-L:=by simp;omega
  refine ⟨_,_,b,o+L*sz,by rw [hlen],by omega,by omega,⟨fun hpos=>?_,fun i hi f hf=>?_⟩⟩
  · rw [hlen] at hpos
    rw [if_neg (by omega),h4.addr (by omega)];simp [GV]
  · rw [hlen] at hi
    have:=h4.get (L+i) (by omega) f hf;rw [show o+(L+i)*sz+f=o+L*sz+i*sz+f by rw [Nat.add_mul];omega] at this;rw [getD_cut xs dflt L (H-L) i hi];exact this
theorem IsSl.cutLo {α : Type} {sz : Nat} {cell : α → Nat → Value} {dflt : α} {I : Imm} {a : Option Addr} {n c : Nat} {xs : List α} (h : IsSl sz cell dflt I (.slice a n c) xs) (L : Nat) (hL : L ≤ n) :
    IsSl sz cell dflt I (.slice (if c=L then a else a.map (·.add (L*sz))) (n-L) (c-L)) (xs.drop L):=by
  have hn:n=xs.length:=by obtain ⟨_,_,_,_,h1,_⟩:=h;simp only [Value.slice.injEq] at h1;exact h1.2.1
  have:=h.cut L n hL (Bj _)
  rwa [Bq (by simp;omega)] at this
theorem IsSl.cutHi {α : Type} {sz : Nat} {cell : α → Nat → Value} {dflt : α} {I : Imm} {a : Option Addr} {n c : Nat} {xs : List α} (h : IsSl sz cell dflt I (.slice a n c) xs) (H : Nat) (hH : H ≤ n) :
    IsSl sz cell dflt I (.slice (if c=0 then a else a.map (·.add (0*sz))) (H-0) (c-0)) (xs.take H):=by
  have:=h.cut 0 H (Ae _) hH
  rwa [List.drop_zero,Cu] at this
theorem IsSl.src {α:Type} {sz:Nat} {cell:α→Nat→Value} {dflt:α} {I:Imm} {M:Seg} {v:Value} {xs:List α} (h:IsSl sz cell dflt I v xs):Src I M v xs.length (DM sz cell xs):=by
  obtain ⟨a,c,b,o,rfl,h2,h3,h4⟩:=h;refine ⟨a,c,rfl,?_⟩
  by_cases h0:(DM sz cell xs)=[]
  · exact .inl h0
  · have hpos : 0 < xs.length := by
      cases xs with
      | nil=>exact absurd (by simp [DM]) h0
      | cons x xs=>simp
    refine .inr ⟨b,o,h4.addr hpos,fun k u hk=>?_⟩;have hk':=(Bc.1 hk).1;rw [BT] at hk';have hsz:0<sz:=by
      rcases Nat.eq_zero_or_pos sz with e | e
      · subst e;simp at hk'
      · exact e
    have hi:k/sz<xs.length:=(Nat.div_lt_iff_lt_mul hsz).2 hk';have hf:k%sz<sz:=Nat.mod_lt _ hsz;have e:k/sz*sz+k%sz=k:=Nat.div_add_mod' k sz;have h5:=encL_get sz cell dflt xs (k/sz) (k%sz) hi hf;rw [e,hk] at h5;have h6:=h4.get (k/sz) hi (k%sz) hf;rw [Nat.add_assoc,e] at h6;rw [Bm h5];exact h6.sees
theorem one_enc {α:Type} {sz:Nat} {cell:α→Nat→Value} (h:∀ a f,f<sz→DF (cell a f)=true) (ys:List α):∀ c∈DM sz cell ys,DF c=true:=fun c hc=>by
  simp only [DM,List.mem_flatMap,Ai,Bl] at hc;obtain ⟨a,_,f,hf,rfl⟩:=hc;exact h a f hf
theorem BB (ys:List Int):∀ c∈DM 1 AU ys,DF c=true:=one_enc (fun _ _ _=>rfl) ys
theorem one_valCell {ys:List Value} (h:ys.all DF=true):∀ c∈DM 1 BK ys,DF c=true:=fun c hc=>by
  simp only [DM,List.mem_flatMap,Ai,Bl,BK] at hc;obtain ⟨a,ha,f,hf,rfl⟩:=hc;exact Ax.1 h _ ha
theorem IsSl.nil {α:Type} {sz:Nat} {cell:α→Nat→Value} {dflt:α} (I:Imm):IsSl sz cell dflt I (.slice none 0 0) ([]:List α):=
  ⟨none,0,0,0,rfl,Bj _,by simp,⟨fun h=>by simp at h,fun i hi=>by simp at hi⟩⟩
theorem IsRows.nil (I:Imm):IsRows I (.slice none 0 0) []:=
  ⟨none,0,0,0,fun _=>undef,rfl,Bj _,by simp,⟨fun h=>by simp at h,fun i hi=>by simp at hi⟩,fun i hi=>by simp at hi⟩
theorem parts_knownS {l:Sl} {T n:Nat} {parts:Array (Nat × Operand)} (h:(NF l (parts.toList.map (·.2))).isSome=true):∀ x∈(Op.buildSlice T n parts).operands,KE l x:=fun x hx=>by
  obtain ⟨vs,hvs⟩:=Option.isSome_iff_exists.1 h;exact (HL hvs).1 x (by simpa [Op.operands] using hx)
theorem ME {l:Sl} {y:Operand} {k:IntKind} {a:Int} {n:Nat} (h:CB l y=some (.int k a)) (e:a=(n:Int)):CB l y=some (.int k (n:Int)):=e▸h
theorem OC {I : Imm} {M : Seg} {b n c : Nat} {cs : Array Value} {T : TypeId} {fz : Nat × Nat} {vs : List Value} (k : Nat) (h : M[k]? = some (b, Obj.cells cs T fz)) (hv : (cs.toList.drop 0).take vs.length = vs) :
    Src I M (.slice (some ⟨b,0,none⟩) n c) n vs:=⟨_,c,rfl,.inr ⟨b,0,rfl,seesN_at k h hv⟩⟩
theorem Row.nil {α:Type} {sz:Nat} {I:Imm} {a:Option Addr} {b o:Nat} {xs:List α} {cell:Nat→Nat→Value} (h:Row sz I a b o xs.length cell) (ha:a.isNone=true):xs=[]:=by
  cases xs with
  | nil=>rfl
  | cons x r=>rw [h.addr (by simp)] at ha;cases ha
theorem BP {I : Imm} {Ms R : Seg} {b n c : Nat} {cs : Array Value} {T : TypeId} {fz : Nat × Nat} {vs : List Value} (k : Nat) (h : R[k]? = some (b, Obj.cells cs T fz)) (hv : (cs.toList.drop 0).take vs.length = vs) :
    Src I (Ms++R) (.slice (some ⟨b,0,none⟩) n c) n vs:=by
  have hm:(b,Obj.cells cs T fz)∈Ms++R:=Bb _ (An h);obtain ⟨j,hj⟩:=List.mem_iff_getElem?.1 hm;exact OC j hj hv
theorem Src.nil {I:Imm} {M:Seg}:Src I M (.slice none 0 0) 0 []:=⟨none,0,rfl,.inl rfl⟩
theorem Own.lit {α : Type} {E : TypeId} {sz : Nat} {cell : α → Nat → Value} {b n : Nat} {cs : Array Value} {xs : List α} (hc : cs = (DM sz cell xs).toArray) (hn : xs.length = n) :
    Own E sz cell (.slice (some ⟨b,0,none⟩) n n) xs [(b,Obj.cells cs E (0,0))]:=
  .inr ⟨b,n,[],by rw [hn],Nat.le_of_eq hn,by rw [Aa,hc],by rw [Aa,BT,hn]⟩
theorem Own.src {α:Type} {E:TypeId} {sz:Nat} {cell:α→Nat→Value} {v:Value} {xs:List α} {Ms M:Seg} {I:Imm} (h:Own E sz cell v xs Ms) (hM:∀ x∈Ms,x∈M):Src I M v xs.length (DM sz cell xs):=by
  rcases h with ⟨rfl,rfl,rfl⟩ | ⟨b,c,sp,rfl,h,rfl,hc⟩
  · exact ⟨none,0,rfl,.inl (by simp [DM])⟩
  · refine ⟨_,c,rfl,.inr ⟨b,0,rfl,fun k u hk=>⟨rfl,(DM sz cell xs++sp).toArray,E,(0,0),.inl (hM _ (by simp)),?_⟩⟩⟩
    simp only [Nat.zero_add,List.getElem?_toArray];rw [Bt (Bc.1 hk).1];exact hk
section
variable {ρ:Option Nat} {P:Program} {N:Nat} {fn:Func} {I I₀:Imm} {post:Value→Imm→Seg→Prop} {F M:Seg} {l:Sl} {w:World}
theorem run_load1 {a:Addr} {v:Value} (h:Sees I M a v) (st:St I M w):(load a).run P w=.ok v w:=by
  show (Sem.load Mode.plain a Sem.pure).run P w=_;simp only [Sem.run,h.cell st]
theorem OY {b off : Nat} (st : St I M w) : ∀ (vs : List Value) (i : Nat) (acc : Array Value), (∀ k v, vs[k]? = some v → Sees I M ⟨b, off + (i + k), none⟩ v) →
    (loadCellsFrom ⟨b,off,none⟩ i vs.length acc).run P w=.ok (acc++vs.toArray) w:=by
  intro vs
  induction vs with
  | nil=>intro i acc _;simp [loadCellsFrom,pure,Sem.run]
  | cons x vs ih=>
    intro i acc h;simp only [Aq,loadCellsFrom];rw [Sem.run_bind,run_load1 (by rw [GV];exact h 0 x (by simp)) st];show (loadCellsFrom ⟨b,off,none⟩ (i+1) vs.length (acc.push x)).run P w=_
    rw [ih (i+1) (acc.push x) (fun k v hv=>by
      have:=h (k+1) v (by simpa using hv)
      rwa [show i+1+k=i+(k+1) by omega])]
    simp
theorem run_isAgg {t:TypeId} {b:Bool} (h:DR P t=some b):(isAgg t).run P w=.ok b w:=by
  unfold DR at h;unfold isAgg underlying;rw [Sem.run_bind,Sem.run_bind];show Result.andThen (Result.andThen (.ok P w) _) _=_;simp only [Result.andThen];cases hu:P.underlying t with
  | none=>rw [hu] at h;cases h
  | some d=>
    rw [hu] at h;cases d <;> simp only [Cj] at h <;> subst h <;> rfl
theorem run_sizeOf {t:TypeId} {n:Nat} (h:CW P t=some n):(sizeOf t).run P w=.ok n w:=by
  unfold CW at h;unfold sizeOf typeInfo;rw [Sem.run_bind,Sem.run_bind];show Result.andThen (Result.andThen (.ok P w) _) _=_;simp only [Result.andThen];cases hu:P.info? t with
  | none=>rw [hu] at h;cases h
  | some i=>rw [hu] at h;cases h;rfl
theorem OZ {T : TypeId} {b off n : Nat} {vs : List Value} {v : Value} (st : St I M w) (hs : SeesN I M b off vs) (hn : vs.length = n) (hsz : CW P T = some n)
    (hv:(DR P T=some true∧v=.agg vs.toArray)∨(DR P T=some false∧vs=[v])):(loadVar T ⟨b,off,none⟩).run P w=.ok v w:=by
  unfold loadVar;rw [Sem.run_bind];rcases hv with ⟨ha,rfl⟩ | ⟨ha,rfl⟩
  · rw [run_isAgg ha]
    show (do pure (Value.agg (← loadCells ⟨b,off,none⟩ (← sizeOf T))):Sem Value).run P w=_;rw [Sem.run_bind,run_sizeOf hsz];show (loadCells ⟨b,off,none⟩ n >>= fun x=>pure (Value.agg x)).run P w=_;subst hn;rw [Sem.run_bind];unfold loadCells;rw [OY st vs 0 #[] (fun k v hv=>by rw [Nat.zero_add];exact hs k v hv)];simp [Result.andThen,pure,Sem.run]
  · rw [run_isAgg ha]
    show (load ⟨b,off,none⟩).run P w=_;exact run_load1 (hs 0 v (by simp)) st
theorem DT {t : Nat} {T : TypeId} {b off n : Nat} {vs : List Value} {v : Value} (M' : Seg) (hr : fn.results = #[.cell t T]) (ht : DL t l = some (.pointer (some ⟨b, off, none⟩))) (hsz : CW P T = some n) (hn : vs.length = n)
    (hs:SeesN I M b off vs) (hv:(DR P T=some true∧v=.agg vs.toArray)∨(DR P T=some false∧vs=[v])) (hsub:(M'++F).Sublist M) (hle:I₀.le I) (hp:post v I M') :
    Pst N (RetQ P fn I₀ post F) .ret [] l I M:=fun a w hS hD hW=>
  ⟨hD,v,by
    have:=OZ (P:=P) hW hs hn hsz hv
    simp [results,hr,hS.get t _ ht,asAddr,this,Sem.run_bind,Result.andThen,pure,Sem.run],v,I,M',rfl,hle,hp,hW.sub hsub⟩
theorem NZ {t u : Nat} {T U : TypeId} {b off n b2 off2 n2 : Nat} {vs us : List Value} {v x : Value} (M' : Seg) (hr : fn.results = #[.cell t T, .cell u U]) (ht : DL t l = some (.pointer (some ⟨b, off, none⟩))) (hsz : CW P T = some n) (hn : vs.length = n)
    (hs:SeesN I M b off vs) (hv:(DR P T=some true∧v=.agg vs.toArray)∨(DR P T=some false∧vs=[v]))
    (hu:DL u l=some (.pointer (some ⟨b2,off2,none⟩))) (hsz2:CW P U=some n2) (hn2:us.length=n2)
    (hs2:SeesN I M b2 off2 us) (hv2:(DR P U=some true∧x=.agg us.toArray)∨(DR P U=some false∧us=[x]))
    (hsub:(M'++F).Sublist M) (hle:I₀.le I) (hp:post (.tuple #[v,x]) I M') :
    Pst N (RetQ P fn I₀ post F) .ret [] l I M:=fun a w hS hD hW=>
  ⟨hD,.tuple #[v,x],by
    have h1:=OZ (P:=P) hW hs hn hsz hv
    have h2:=OZ (P:=P) hW hs2 hn2 hsz2 hv2
    simp [results,hr,hS.get t _ ht,hS.get u _ hu,asAddr,h1,h2,Sem.run_bind,Result.andThen,pure,Sem.run],_,I,M',rfl,hle,hp,hW.sub hsub⟩
theorem DX {t u : Nat} {T : TypeId} {b off n : Nat} {vs : List Value} {v x : Value} (M' : Seg) (hr : fn.results = #[.cell t T, .tmp u]) (ht : DL t l = some (.pointer (some ⟨b, off, none⟩))) (hsz : CW P T = some n) (hn : vs.length = n)
    (hs:SeesN I M b off vs) (hv:(DR P T=some true∧v=.agg vs.toArray)∨(DR P T=some false∧vs=[v])) (hu:DL u l=some x)
    (hsub:(M'++F).Sublist M) (hle:I₀.le I) (hp:post (.tuple #[v,x]) I M') :
    Pst N (RetQ P fn I₀ post F) .ret [] l I M:=fun a w hS hD hW=>
  ⟨hD,.tuple #[v,x],by
    have h1:=OZ (P:=P) hW hs hn hsz hv
    simp [results,hr,hS.get t _ ht,hS.get u _ hu,asAddr,h1,Sem.run_bind,Result.andThen,pure,Sem.run],_,I,M',rfl,hle,hp,hW.sub hsub⟩
end
def RowsV (I:Imm) (vs:List Value) (xss:List (List Int)):Prop:=vs.length=xss.length∧∀ i,i<xss.length→AF I (vs.getD i undef) (xss.getD i [])
theorem RowsV.mono {I J:Imm} {vs:List Value} {xss:List (List Int)} (h:RowsV I vs xss) (le:I.le J):RowsV J vs xss:=⟨h.1,fun i hi=>(h.2 i hi).mono le⟩
theorem RowsV.nil (I:Imm):RowsV I [] []:=⟨rfl,fun i hi=>by simp at hi⟩
theorem RowsV.snoc {I:Imm} {vs:List Value} {xss:List (List Int)} {v:Value} {xs:List Int} (h:RowsV I vs xss) (hv:AF I v xs):RowsV I (vs++[v]) (xss++[xs]):=by
  refine ⟨by simp [h.1],fun i hi=>?_⟩
  by_cases e:i<xss.length
  · have:=h.2 i e
    simp only [List.getD,Bt (h.1▸e),Bt e] at this ⊢;exact this
  · have e1:i=xss.length:=by simp at hi;omega
    subst e1;have h1:=h.1;simp only [List.getD];rw [Cn (by omega),Cn (by omega),h1]
    simpa using hv
theorem RowsV.isRows {I:Imm} {vs:List Value} {xss:List (List Int)} {v:Value} (h:RowsV I vs xss) (hv:PH I v vs):IsRows I v xss:=by
  obtain ⟨a,c,b,o,h1,h2,h3,h4⟩:=hv;rw [h.1] at h1 h2 h3 h4;exact ⟨a,c,b,o,fun i=>vs.getD i undef,h1,h2,h3,⟨h4.addr,fun i hi f hf=>h4.get i hi f hf⟩,h.2⟩
theorem pull (A Ms R:Seg):(A++(Ms++R)).Perm (Ms++(A++R)):=List.perm_append_comm_assoc A Ms R
theorem St.own_freeze {α : Type} {E : TypeId} {sz : Nat} {cell : α → Nat → Value} {ρ : Option Nat} {P : Program} {N : Nat} {c : Code} {Q : Exit → Act → World → Prop} {ds : List Deferred} {l : Sl} {I : Imm} {M A B Ms : Seg} {v : Value} {xs : List α} (dflt : α)
    (h:Own E sz cell v xs Ms) (hl:xs.length≤140737488355328) (hM:M.Perm (Ms++A)) (hA:A.Perm B)
    (next:∀ J,I.le J→IsSl sz cell dflt J v xs→Run (ρ:=ρ) P N c Q ds l J B):Run (ρ:=ρ) P N c Q ds l I M:=fun a w hS hD hW=>by
  obtain ⟨J,h1,h2,h3⟩:=h.freeze dflt hl (hW.perm hM);exact next J h1 h2 a w hS hD (h3.perm hA)
theorem seesN_mem {I:Imm} {M:Seg} {b off n:Nat} {cs:Array Value} {T:TypeId} {fz:Nat × Nat} {vs:List Value} (h:(b,Obj.cells cs T fz)∈M) (hv:(cs.toList.drop off).take n=vs):SeesN I M b off vs:=by
  obtain ⟨j,hj⟩:=List.mem_iff_getElem?.1 h;exact seesN_at j hj hv
theorem CM {P : Program} {N i : Nat} {ops : Array Oper} {R S : Seg} {Kfin : Sl → Imm → Seg → Prop} {rest : List (Nat × Bool)} {l : Sl} {I : Imm}
    (h:Stp P N ops i l I (R++S) (fun l' I' M'=>∃ S',M'.Perm (R++S')∧OFP P N ops R Kfin rest l' I' S')):OFP P N ops R Kfin ((i,false)::rest) l I S:=h
theorem AR {P : Program} {N : Nat} {ops : Array Oper} {R M S' : Seg} {Kfin : Sl → Imm → Seg → Prop} {rest : List (Nat × Bool)} {l : Sl} {I : Imm}
    (p:M.Perm (R++S')) (next:OFP P N ops R Kfin rest l I S'):∃ S',M.Perm (R++S')∧OFP P N ops R Kfin rest l I S':=⟨S',p,next⟩
theorem CV {ρ : Option Nat} {P : Program} {N n0 : Nat} {ops : Array Oper} {Q : Exit → Act → World → Prop} {ds : List Deferred} {R S : Seg} {l : Sl} {I : Imm} (h : Seq (ρ := ρ) P N ops Q ds n0 l I (R ++ S)) :
    OFP P N ops R (fun l I S=>Seq (ρ:=ρ) P N ops Q ds n0 l I (R++S)) [] l I S:=h
theorem pst_mem {N:Nat} {Q:Exit→Act→World→Prop} {e:Exit} {ds:List Deferred} {l:Sl} {I I':Imm} {M M':Seg} (s:∀ w,St I M w→St I' M' w) (next:Pst N Q e ds l I' M'):Pst N Q e ds l I M:=
  fun a w hS hD hW=>next a w hS hD (s w hW)
theorem seq_freeze {α : Type} {E : TypeId} {sz : Nat} {cell : α → Nat → Value} {ρ : Option Nat} {P : Program} {N : Nat} {ops : Array Oper} {i : Nat} {Q : Exit → Act → World → Prop} {ds : List Deferred} {l : Sl} {I : Imm} {M A B Ms : Seg} {v : Value} {xs : List α} (dflt : α)
    (h:Own E sz cell v xs Ms) (hl:xs.length≤140737488355328) (hM:M.Perm (Ms++A)) (hA:A.Perm B)
    (next:∀ J,I.le J→IsSl sz cell dflt J v xs→Seq (ρ:=ρ) P N ops Q ds i l J B):Seq (ρ:=ρ) P N ops Q ds i l I M:=fun a w hS hD hW=>by
  obtain ⟨J,h1,h2,h3⟩:=h.freeze dflt hl (hW.perm hM);exact next J h1 h2 a w hS hD (h3.perm hA)
end Go.Sl
namespace Go.Sh
open Go Go.Sl
structure Car where
  len:Int
  wt:Int
  brk:Int
  grp:Int
  pipe:Bool
  heat:Bool
  deriving DecidableEq
structure Shift where
  frm:Int
  to:Int
  many:Int
  deriving DecidableEq
structure Yard where
  cars:List Car
  room:List Int
  tracks:List (List Int)
  deriving DecidableEq
def BZ:Car:=⟨0,0,0,0,false,false⟩
def noShift:Shift:=⟨0,0,0⟩
def FE (c:Car):Nat→Value
  | 0=>.int .i64 c.len
  | 1=>.int .i64 c.wt
  | 2=>.int .i64 c.brk
  | 3=>.int .i64 c.grp
  | 4=>.bool c.pipe
  | _=>.bool c.heat
def shiftCell (s:Shift):Nat→Value
  | 0=>.int .i64 s.frm
  | 1=>.int .i64 s.to
  | _=>.int .i64 s.many
abbrev GL:=IsSl 6 FE BZ
abbrev IsShifts:=IsSl 3 shiftCell noShift
def IsYard (I:Imm) (v:Value) (Y:Yard):Prop:=∃ v1 v2 v3,v=.agg #[v1,v2,v3]∧GL I v1 Y.cars∧AF I v2 Y.room∧IsRows I v3 Y.tracks
theorem IsYard.mono {I J:Imm} {v:Value} {Y:Yard} (h:IsYard I v Y) (le:I.le J):IsYard J v Y:=by
  obtain ⟨v1,v2,v3,h1,h2,h3,h4⟩:=h;exact ⟨v1,v2,v3,h1,h2.mono le,h3.mono le,h4.mono le⟩
theorem GH {I:Imm} {v1 v2 v3:Value} {cs:List Car} {r:List Int} {t:List (List Int)} (h1:GL I v1 cs) (h2:AF I v2 r) (h3:IsRows I v3 t):IsYard I (.agg #[v1,v2,v3]) ⟨cs,r,t⟩:=
  ⟨v1,v2,v3,rfl,h1,h2,h3⟩
theorem LX {I : Imm} {a : Option Addr} {b o n : Nat} {cs : List Car} (h : Row 6 I a b o n (fun i f => FE (cs.getD i BZ) f)) {M : Seg} (i : Nat) (hi : i < n) (f : Nat) (hf : f < 6) {v : Value} (hv : FE (cs.getD i BZ) f = v) :
    Sees I M ⟨b,o+i*6+f,none⟩ v:=hv▸(h.get i hi f hf).sees
theorem shifts_get {I : Imm} {a : Option Addr} {b o n : Nat} {cs : List Shift} (h : Row 3 I a b o n (fun i f => shiftCell (cs.getD i noShift) f)) {M : Seg} (i : Nat) (hi : i < n) (f : Nat) (hf : f < 3) {v : Value} (hv : shiftCell (cs.getD i noShift) f = v) :
    Sees I M ⟨b,o+i*3+f,none⟩ v:=hv▸(h.get i hi f hf).sees
def carVals (c:Car):List Value:=[.int .i64 c.len,.int .i64 c.wt,.int .i64 c.brk,.int .i64 c.grp,.bool c.pipe,.bool c.heat]
def shiftVals (s:Shift):List Value:=[.int .i64 s.frm,.int .i64 s.to,.int .i64 s.many]
theorem cars_getN {I:Imm} {a:Option Addr} {b o n:Nat} {cs:List Car} (h:Row 6 I a b o n (fun i f=>FE (cs.getD i BZ) f)) {M:Seg} (i:Nat) (hi:i<n):SeesN I M b (o+i*6) (carVals (cs.getD i BZ)):=fun k v hv=>by
  have hk:k<6:=(Bc.1 hv).1;refine LX h i hi k hk ?_
  match k,hk with
  | 0,_=>exact Bm hv
  | 1,_=>exact Bm hv
  | 2,_=>exact Bm hv
  | 3,_=>exact Bm hv
  | 4,_=>exact Bm hv
  | 5,_=>exact Bm hv
theorem shifts_getN {I:Imm} {a:Option Addr} {b o n:Nat} {cs:List Shift} (h:Row 3 I a b o n (fun i f=>shiftCell (cs.getD i noShift) f)) {M:Seg} (i:Nat) (hi:i<n):SeesN I M b (o+i*3) (shiftVals (cs.getD i noShift)):=fun k v hv=>by
  have hk:k<3:=(Bc.1 hv).1;refine shifts_get h i hi k hk ?_
  match k,hk with
  | 0,_=>exact Bm hv
  | 1,_=>exact Bm hv
  | 2,_=>exact Bm hv
theorem FG (ys:List Car):∀ c∈DM 6 FE ys,DF c=true:=one_enc (fun a f _=>by
  match f with
  | 0=>rfl
  | 1=>rfl
  | 2=>rfl
  | 3=>rfl
  | 4=>rfl
  | _+5=>rfl) ys
theorem NW (ys:List Shift):∀ c∈DM 3 shiftCell ys,DF c=true:=one_enc (fun a f _=>by
  match f with
  | 0=>rfl
  | 1=>rfl
  | _+2=>rfl) ys
end Go.Sh
namespace Go.Sl
open Go
inductive FK where
  | i (k:IntKind)
  | b
  deriving DecidableEq
def tyFK (P:Program) (t:TypeId):Option FK:=
  match P.underlying t with
  | some (.int k)=>some (.i k)
  | some .bool=>some .b
  | _=>none
def flatFs (P:Program):List Field→Option (List (Nat × FK))
  | []=>some []
  | f::r=>if f.name="_" then none else match tyFK P f.type,flatFs P r with
    | some k,some l=>some ((f.offset,k)::l)
    | _,_=>none
def tyFlat (P:Program) (t:TypeId):Option (List (Nat × FK)):=
  match P.underlying t with
  | some (.struct fs)=>if P.stoodInHeld t then none else if P.eqGuardType P.depth t then none else flatFs P fs.toList
  | _=>none
def vFK:Value→Option FK
  | .int k _=>some (.i k)
  | .bool _=>some .b
  | _=>none
def scEq:Value→Value→Bool
  | .int _ a,.int _ b=>a == b
  | .bool a,.bool b=>a == b
  | _,_=>false
def flatOk (xs ys:Array Value):List (Nat × FK)→Bool
  | []=>true
  | (o,k)::r=>(match xs[o]?,ys[o]? with
    | some a,some b=>decide (vFK a=some k)&&decide (vFK b=some k)
    | _,_=>false)&&flatOk xs ys r
def flatEq (xs ys:Array Value):List (Nat × FK)→Bool
  | []=>true
  | (o,_)::r=>(match xs[o]?,ys[o]? with
    | some a,some b=>scEq a b
    | _,_=>false)&&flatEq xs ys r
section
variable {ρ:Option Nat} {P:Program} {N:Nat} {ops:Array Oper} {i:Nat} {l:Sl} {I:Imm} {R M:Seg} {d:Nat} {ty:TypeId} {gd:Option (Nat × Bool)}
theorem tyFK_spec {t:TypeId} {k:FK} (h:tyFK P t=some k):(match k with | .i k=>P.underlying t=some (.int k) | .b=>P.underlying t=some .bool):=by
  unfold tyFK at h
  split at h
  · cases h;assumption
  · cases h;assumption
  · cases h
theorem wpL_part {t:TypeId} {k:FK} {cs:Array Value} {off:Nat} {v:Value} {Q:Value→Seg→Prop} (h:tyFK P t=some k) (hv:cs[off]?=some v) (hq:Q v M):wpL P (part t cs off) Q I M:=by
  unfold part;have ha:DR P t=some false:=by
    have:=tyFK_spec h;unfold DR;cases k <;> (simp only at this;rw [this])
  rw [AE,LV ha];simp only [Bz,if_false,hv];exact hq
theorem wpL_scalar {t:TypeId} {k:FK} {x y:Value} {n:Nat} {Q:Bool→Seg→Prop} (h:tyFK P t=some k) (hx:vFK x=some k) (hy:vFK y=some k) (hq:Q (scEq x y) M):wpL P (Op.equalIn (n+1) t x y) Q I M:=by
  have hu:=tyFK_spec h;unfold Op.equalIn;cases k with
  | i k=>
    cases x <;> simp [vFK] at hx
    cases y <;> simp [vFK] at hy
    subst hx;subst hy;rw [AE,AK hu];simp only [if_true];exact hq
  | b=>
    cases x <;> simp [vFK] at hx
    cases y <;> simp [vFK] at hy
    rw [AE,AK hu];exact hq
theorem wpL_fields {n : Nat} {xs ys : Array Value} {Q : Bool → Seg → Prop} : ∀ (fs : List Field) (L : List (Nat × FK)), flatFs P fs = some L → flatOk xs ys L = true → Q (flatEq xs ys L) M →
    wpL P (do
      for f in fs do
        if f.name≠"_" then
          if !(← Op.equalIn (n+1) f.type (← part f.type xs f.offset) (← part f.type ys f.offset)) then return false
      pure true:Sem Bool) Q I M:=by
  intro fs
  induction fs with
  | nil=>intro L hL _ hq;simp only [flatFs,Cj] at hL;subst hL;exact hq
  | cons f fs ih=>
    intro L hL hok hq;simp only [flatFs] at hL
    split at hL
    · cases hL
    · rename_i hne
      split at hL
      · rename_i k l2 hk hl2
        cases hL;simp only [flatOk,Ah] at hok;obtain ⟨h1,h2⟩:=hok;cases hx:xs[f.offset]? with
        | none=>simp [hx] at h1
        | some a=>
          cases hy:ys[f.offset]? with
          | none=>simp [hx,hy] at h1
          | some b=>
            simp only [hx,hy,Ah,Ay] at h1;have key:=ih l2 hl2 h2;simp only [flatEq,hx,hy] at hq;simp only [List.forIn_cons] at key ⊢;rw [AE,AE];simp only [ne_eq,hne,not_false_eq_true,if_true];rw [AE];refine wpL_part hk hx ?_;rw [AE];refine wpL_part hk hy ?_;rw [AE];refine wpL_scalar hk h1.1 h1.2 ?_;cases hb:scEq a b with
            | false=>
              rw [hb] at hq;exact hq
            | true=>
              rw [hb,Bool.true_and] at hq;have:=key hq;rw [AE] at this;exact this
      · cases hL
theorem tyFlat_spec {t:TypeId} {L:List (Nat × FK)} (h:tyFlat P t=some L):∃ fs,P.underlying t=some (.struct fs)∧P.stoodInHeld t=false∧P.eqGuardType P.depth t=false∧flatFs P fs.toList=some L:=by
  unfold tyFlat at h
  split at h
  · rename_i fs hu
    split at h
    · cases h
    · rename_i h1
      split at h
      · cases h
      · rename_i h2
        exact ⟨fs,hu,by simpa using h1,by simpa using h2,h⟩
  · cases h
theorem wpL_struct {t : TypeId} {L : List (Nat × FK)} {xs ys : Array Value} {n : Nat} {Q : Bool → Seg → Prop} (h : tyFlat P t = some L) (hok : flatOk xs ys L = true) (hq : Q (flatEq xs ys L) M) :
    wpL P (Op.equalIn (n+2) t (.agg xs) (.agg ys)) Q I M:=by
  obtain ⟨fs,hu,hs,_,hf⟩:=tyFlat_spec h;unfold Op.equalIn;rw [AE,AK hu];show wpL P (program >>= _) Q I M;rw [AE];show wpL P _ Q I M;simp only [hs,Bz,if_false];have:=wpL_fields (P:=P) (n:=n) (xs:=xs) (ys:=ys) (I:=I) (M:=M) fs.toList L hf hok hq;simp only [Array.forIn_toList] at this;exact this
theorem det_neqAgg {x y : Operand} {T T' : TypeId} {L : List (Nat × FK)} {xs ys : Array Value} {c : Bool} (hop : FH ops N i = some (some d, .binOp .neq T x y T', ty, gd)) (hg : FL ops l gd = some true) (hT : tyFlat P T = some L)
    (hx:CB l x=some (.agg xs)) (hy:CB l y=some (.agg ys)) (hok:flatOk xs ys L=true) (hc:flatEq xs ys L=c):Det P N ops i l I R d (.bool (!c)):=
  FF hop hg (HE hx hy) fun I' M'=>by
    show wpL P ((do eqGuard .neq T x y (rho l x) (rho l y);binOp .neq T (rho l x) (rho l y)) >>= fun x=>pure (Next.value x)) _ I' M';rw [BI hx,BI hy];refine DB ?_;rw [AE];obtain ⟨fs,hu,hs,hg',hf⟩:=tyFlat_spec hT;show wpL P (if (!P.eqGuardType P.depth T)=true then pure () else _:Sem Unit) _ I' M';simp only [hg',Bool.not_false,if_true];show wpL P (Op.equalIn 10000 T (.agg xs) (.agg ys) >>= fun b=>pure (Value.bool (!b))) _ I' M';rw [AE];exact wpL_struct hT hok ⟨by rw [hc],rfl⟩
end
structure ORow (sz:Nat) (Ms:Seg) (a:Option Addr) (b n:Nat) (cell:Nat→Nat→Value):Prop where
  addr:0<n→a=some ⟨b,0,none⟩
  get:∀ i,i<n→∀ f,f<sz→∀ (I:Imm) (M:Seg),(∀ x∈Ms,x∈M)→Sees I M ⟨b,0+i*sz+f,none⟩ (cell i f)
theorem Own.row {α : Type} {E sz : Nat} {cell : α → Nat → Value} {a : Option Addr} {n c : Nat} {xs : List α} {Ms : Seg} (dflt : α) (h : Own E sz cell (.slice a n c) xs Ms) :
    ∃ b,ORow sz Ms a b xs.length (fun i f=>cell (xs.getD i dflt) f):=by
  rcases h with ⟨hv,rfl,rfl⟩ | ⟨b,c',sp,hv,hc,rfl,hlen⟩
  · exact ⟨0,fun h=>by simp at h,fun i hi=>by simp at hi⟩
  · simp only [Value.slice.injEq] at hv
    obtain ⟨rfl,_,_⟩:=hv;refine ⟨b,fun _=>rfl,fun i hi f hf I M hM=>?_⟩;rw [Nat.zero_add];exact Own.sees (E:=E) (c:=c') (sp:=sp) dflt (hM (b,Obj.cells (DM sz cell xs++sp).toArray E (0,0)) (Af.2 rfl)) i f hi hf
theorem encL_set {α : Type} (sz : Nat) (cell : α → Nat → Value) (dflt : α) (y : α) (v : Value) (g : Nat) (hy : ∀ f, f < sz → f ≠ g → ∀ x, x = dflt → True) : ∀ (xs : List α) (i : Nat), i < xs.length → g < sz →
    (∀ f,f<sz→cell y f=if f=g then v else cell (xs.getD i dflt) f)→DM sz cell (xs.set i y)=(DM sz cell xs).set (i*sz+g) v:=by
  intro xs
  induction xs with
  | nil=>intro i h;simp at h
  | cons x xs ih=>
    intro i hi hg hc;have e:∀ (z:α) (zs:List α),DM sz cell (z::zs)=(List.range sz).map (cell z)++DM sz cell zs:=fun z zs=>by simp [DM]
    cases i with
    | zero=>
      rw [List.set_cons_zero,e,e,Nat.zero_mul,Nat.zero_add,List.set_append_left _ _ (by simpa using hg)]
      congr 1
      apply List.ext_getElem?
      intro k;rw [Db]
      by_cases hk:k<sz
      · have:=hc k hk
        simp only [Cf] at this
        by_cases hkg:g=k
        · subst hkg;simp [hg,this]
        · rw [if_neg hkg];simp [hk,this,Ne.symm hkg]
      · have:g≠k:=by omega
        rw [if_neg this];simp [hk]
    | succ i=>
      rw [List.set_cons_succ,e,e,ih i (by simpa using hi) hg (fun f hf=>by simpa using hc f hf),List.set_append_right _ _ (by simp [Nat.succ_mul];omega)]
      congr 2
      simp [Nat.succ_mul];omega
theorem setRow_one (cs:Array Value) (off:Nat) (v:Value):HW cs off [v]=cs.setIfInBounds off v:=by simp [HW]
section
variable {ρ:Option Nat} {P:Program} {N:Nat} {ops:Array Oper} {i:Nat} {l:Sl} {I:Imm} {M:Seg} {ty:TypeId} {gd:Option (Nat × Bool)} {K:Sl→Imm→Seg→Prop}
theorem CH {α : Type} {T : TypeId} {x y : Operand} {v u : Value} {E sz : Nat} {cell : α → Nat → Value} {a : Option Addr} {n c b : Nat} {xs : List α} {Ms R : Seg} {rc : Nat → Nat → Value} (dflt : α) (j g : Nat) (z : α)
    (hop:FH ops N i=some (none,.store T x y,ty,gd)) (hg:FL ops l gd=some true) (own:Own E sz cell (.slice a n c) xs Ms) (row:ORow sz Ms a b xs.length rc) (hj:j<xs.length) (hgs:g<sz)
    (hx:CB l x=some (.pointer (some ⟨b,0+j*sz+g,none⟩))) (hy:CB l y=some v) (hsz:CW P T=some 1) (hv1:v.cells.toList=[u]) (hone:DF u=true)
    (hc:∀ f,f<sz→cell z f=if f=g then u else cell (xs.getD j dflt) f) (hM:M.Perm (Ms++R))
    (next:∀ Ms',Own E sz cell (.slice a n c) (xs.set j z) Ms'→K l I (Ms'++R)):Stp P N ops i l I M K:=by
  have ha:=row.addr (by omega);rcases own with ⟨hv,rfl,rfl⟩ | ⟨b',c',sp,hv,hcap,rfl,hlen⟩
  · simp at hj
  · simp only [Value.slice.injEq] at hv
    obtain ⟨rfl,rfl,rfl⟩:=hv;simp only [Cj,Addr.mk.injEq,and_true] at ha;subst ha;refine JH hop hg (HE hx hy) hM ?_;show wpL P (Instr.storeAt T (rho l x) (rho l y) >>= fun _=>pure Next.skip) _ I _;rw [BI hx,BI hy,AE];show wpL P (storeVar T ⟨b',0+j*sz+g,none⟩ v) _ I _;unfold storeVar;rw [AE,CG hsz];have hl:v.cells.size=1:=by rw [← Array.length_toList,hv1];rfl
    rw [if_neg (by simp [hl])];show wpL P (storeCells ⟨b',0+j*sz+g,none⟩ v.cells.toList) _ I _;rw [hv1];have hlt:0+j*sz+g<(DM sz cell xs).length:=by
      rw [BT];have:j*sz+sz≤xs.length*sz:=by rw [← Nat.succ_mul];exact Nat.mul_le_mul_right _ hj
      omega
    refine GU (T:=E) (k:=0) [u] 0 _ (DM sz cell xs++sp).toArray _ (by simp) ?_ (fun w hw=>by simp at hw;subst hw;exact hone) ?_
    · simp only [List.size_toArray,Ad,Aq,Cg];omega
    · refine ⟨undef,_,.inr ⟨rfl,rfl⟩,List.Sublist.refl _,?_⟩
      rw [Nat.add_zero,setRow_one];have e2:(DM sz cell xs++sp).toArray.setIfInBounds (0+j*sz+g) u=(DM sz cell (xs.set j z)++sp).toArray:=by
        rw [encL_set sz cell dflt z u g (fun _ _ _ _ _=>trivial) xs j hj hgs hc,List.setIfInBounds_toArray,List.set_append_left _ _ hlt];simp
      rw [e2];exact next _ (.inr ⟨b',c,sp,by simp,by simpa using hcap,rfl,by rw [← hlen,Ad,Ad,BT,BT,Bv]⟩)
end
theorem RowsV.set {I:Imm} {vs:List Value} {xss:List (List Int)} {v:Value} {xs:List Int} (h:RowsV I vs xss) (hv:AF I v xs) (j:Nat):RowsV I (vs.set j v) (xss.set j xs):=by
  refine ⟨by simp [h.1],fun i hi=>?_⟩;rw [Bv] at hi;have h0:=h.2 i hi;simp only [List.getD] at h0 ⊢;rw [Db,Db]
  by_cases e:j=i
  · subst e;simpa [hi,h.1] using hv
  · rw [if_neg e,if_neg e];exact h0
inductive OwnEach (E:TypeId):List Value→List (List Int)→Seg→Prop
  | nil:OwnEach E [] [] []
  | cons {v:Value} {xs:List Int} {vs:List Value} {xss:List (List Int)} {Ms R:Seg}:Own E 1 AU v xs Ms→OwnEach E vs xss R→OwnEach E (v::vs) (xs::xss) (Ms++R)
theorem OwnEach.length {E:TypeId} {vs:List Value} {xss:List (List Int)} {M:Seg} (h:OwnEach E vs xss M):vs.length=xss.length:=by
  induction h with
  | nil=>rfl
  | cons _ _ ih=>simp [ih]
theorem OwnEach.pull {E : TypeId} {vs : List Value} {xss : List (List Int)} {M : Seg} (h : OwnEach E vs xss M) : ∀ i, i < xss.length →
    ∃ Ms R,Own E 1 AU (vs.getD i undef) (xss.getD i []) Ms∧M.Perm (Ms++R)∧∀ v' xs' Ms',Own E 1 AU v' xs' Ms'→∃ M',OwnEach E (vs.set i v') (xss.set i xs') M'∧M'.Perm (Ms'++R):=by
  induction h with
  | nil=>intro i hi;simp at hi
  | @cons v xs vs xss Ms R h1 h2 ih=>
    intro i hi;cases i with
    | zero=>exact ⟨Ms,R,h1,List.Perm.refl _,fun v' xs' Ms' h'=>⟨Ms'++R,.cons h' h2,List.Perm.refl _⟩⟩
    | succ i=>
      obtain ⟨Ms2,R2,ho,hp,hk⟩:=ih i (by simpa using hi);refine ⟨Ms2,Ms++R2,by simpa using ho,(Bo Ms hp).trans (List.perm_append_comm_assoc _ _ _),fun v' xs' Ms' h'=>?_⟩;obtain ⟨M',hm,hp'⟩:=hk v' xs' Ms' h';exact ⟨Ms++M',.cons h1 hm,(Bo Ms hp').trans (List.perm_append_comm_assoc _ _ _)⟩
theorem OwnEach.nils (E:TypeId) (n:Nat):OwnEach E (List.replicate n (.slice none 0 0)) (List.replicate n []) []:=by
  induction n with
  | zero=>exact .nil
  | succ n ih=>exact OwnEach.cons (Own.nil E 1 AU) ih
theorem OwnEach.freeze {E : TypeId} {vs : List Value} {xss : List (List Int)} {M : Seg} (h : OwnEach E vs xss M) : ∀ {I : Imm} {R : Seg} {w : World}, (∀ xs ∈ xss, xs.length ≤ 140737488355328) → St I (M ++ R) w →
    ∃ J,I.le J∧RowsV J vs xss∧St J R w:=by
  induction h with
  | nil=>intro I R w _ st;exact ⟨I,Imm.le.refl I,RowsV.nil I,st⟩
  | @cons v xs vs xss Ms M2 h1 h2 ih=>
    intro I R w hl st;rw [Am] at st;obtain ⟨J,hle,hs,st1⟩:=h1.freeze 0 (hl xs (by simp)) st;obtain ⟨K,hle2,hr,st2⟩:=ih (fun y hy=>hl y (by simp [hy])) st1;refine ⟨K,hle.trans hle2,⟨by simp [hr.1],fun i hi=>?_⟩,st2⟩;cases i with
    | zero=>simpa using hs.mono hle2
    | succ i=>simpa using hr.2 i (by simpa using hi)
def MM {κ:Type} (enc:κ→Value) (x:κ × Value):Value × Value:=(enc x.1,x.2)
def MapIs {κ:Type} (enc:κ→Value) (es:Array MapEntry) (kvs:List (κ × Value)):Prop:=es.toList.map (fun e=>(e.key,e.val))=kvs.map (MM enc)
theorem MapIs.nil {κ:Type} (enc:κ→Value):MapIs enc #[] []:=rfl
theorem MapIs.size {κ:Type} {enc:κ→Value} {es:Array MapEntry} {kvs:List (κ × Value)} (h:MapIs enc es kvs):es.size=kvs.length:=by
  have:=congrArg List.length h
  simpa using this
def HD {κ:Type} [DecidableEq κ] (k:κ):List (κ × Value)→Nat→Option (Nat × Value)
  | [],_=>none
  | x::r,i=>if x.1=k then some (i,x.2) else HD k r (i+1)
def upd {κ:Type} [DecidableEq κ] (k:κ) (v:Value):List (κ × Value)→List (κ × Value)
  | []=>[(k,v)]
  | x::r=>if x.1=k then (k,v)::r else x::upd k v r
def del {κ:Type} [DecidableEq κ] (k:κ):List (κ × Value)→List (κ × Value)
  | []=>[]
  | x::r=>if x.1=k then r else x::del k r
def QH {κ:Type} [DecidableEq κ] (k:κ):List (κ × Value)→Option Value
  | []=>none
  | x::r=>if x.1=k then some x.2 else QH k r
theorem findKv_get {κ:Type} [DecidableEq κ] (k:κ):∀ (kvs:List (κ × Value)) (i:Nat),(HD k kvs i).map Prod.snd=QH k kvs:=by
  intro kvs
  induction kvs with
  | nil=>intro i;rfl
  | cons x r ih=>intro i;simp only [HD,QH];split <;> simp_all
theorem MB {κ : Type} [DecidableEq κ] (k : κ) (v : Value) : ∀ (kvs : List (κ × Value)) (i : Nat), (match HD k kvs i with
    | some (j,_)=>i≤j∧upd k v kvs=kvs.set (j-i) (k,v)∧del k kvs=kvs.eraseIdx (j-i)∧(kvs[j-i]?).map Prod.fst=some k
    | none=>upd k v kvs=kvs++[(k,v)]∧del k kvs=kvs):=by
  intro kvs
  induction kvs with
  | nil=>intro i;exact ⟨rfl,rfl⟩
  | cons x r ih=>
    intro i;simp only [HD,upd,del]
    by_cases h:x.1=k
    · rw [if_pos h,if_pos h,if_pos h]
      simp [h]
    · rw [if_neg h,if_neg h,if_neg h]
      have:=ih (i+1);cases hf:HD k r (i+1) with
      | none=>rw [hf] at this;simp only at this ⊢;exact ⟨by rw [this.1];rfl,by rw [this.2]⟩
      | some y=>
        obtain ⟨j,u⟩:=y;rw [hf] at this;simp only at this ⊢;obtain ⟨h1,h2,h3,h4⟩:=this;have e:j-i=(j-(i+1))+1:=by omega
        refine ⟨by omega,?_,?_,?_⟩
        · rw [e,List.set_cons_succ,h2]
        · rw [e,List.eraseIdx_cons_succ,h3]
        · rw [e];simpa using h4
structure KeyOk (P:Program) (kt:TypeId) {κ:Type} [DecidableEq κ] (enc:κ→Value):Prop where
  inj:∀ a b,enc a=enc b→a=b
  check:∀ (b:Bool) (k:κ) (Q:Unit→Seg→Prop) (I:Imm) (M:Seg),Q () M→wpL P (Instr.checkKey b 10000 kt (enc k)) Q I M
  find:∀ (k:κ) (es:List MapEntry) (kvs:List (κ × Value)) (Q:Option (Nat × Value)→Seg→Prop) (I:Imm) (M:Seg),es.map (fun e=>(e.key,e.val))=kvs.map (MM enc) →
    Q (HD k kvs 0) M→wpL P (Instr.findKey kt (enc k) es) Q I M
def encI (x:Int):Value:=.int .i64 x
theorem findNow_int {k : Int} {kd : TypeDesc} (hk : kd = .int .i64) : ∀ (es : List MapEntry) (kvs : List (Int × Value)) (i : Nat), es.map (fun e => (e.key, e.val)) = kvs.map (MM encI) →
    Instr.findNow kd (encI k) es i=some (HD k kvs i):=by
  subst hk;intro es
  induction es with
  | nil=>intro kvs i h;cases kvs with
    | nil=>rfl
    | cons x r=>simp at h
  | cons e es ih=>
    intro kvs i h;cases kvs with
    | nil=>simp at h
    | cons x r=>
      simp only [Aw,List.cons.injEq,MM,Bs] at h;obtain ⟨⟨h1,h2⟩,h3⟩:=h;simp only [Instr.findNow,h1,encI,Instr.sameNow,HD]
      by_cases hx:x.1=k
      · rw [if_pos hx,← hx];simp [h2]
      · rw [if_neg hx]
        have:(k == x.1)=false:=by simpa using fun e=>hx e.symm
        simp only [if_true,this];exact ih r (i+1) h3
theorem NQ {P:Program} {kt:TypeId} (h:P.underlying kt=some (.int .i64)):KeyOk P kt encI where
  inj:=fun a b e=>by simpa [encI] using e
  check:=fun b k Q I M hq=>by
    unfold Instr.checkKey;rw [AE,AK h];exact hq
  find:=fun k es kvs Q I M hes hq=>by
    unfold Instr.findKey;rw [AE,AK h,findNow_int rfl es kvs 0 hes];exact hq
def tyMap (P:Program) (t:TypeId):Option (TypeId × TypeId):=
  match P.underlying t with
  | some (.map k e)=>some (k,e)
  | _=>none
theorem HO {P:Program} {t k e:TypeId} (h:tyMap P t=some (k,e)):P.underlying t=some (.map k e):=by
  unfold tyMap at h
  split at h
  · cases h;assumption
  · cases h
def tyI64 (P:Program) (t:TypeId):Bool:=
  match P.underlying t with
  | some (.int .i64)=>true
  | _=>false
theorem ML {P:Program} {t:TypeId} (h:tyI64 P t=true):P.underlying t=some (.int .i64):=by
  unfold tyI64 at h
  split at h
  · assumption
  · cases h
section
variable {ρ:Option Nat} {P:Program} {N:Nat} {ops:Array Oper} {i:Nat} {l:Sl} {I:Imm} {R M:Seg} {d:Nat} {ty:TypeId} {gd:Option (Nat × Bool)} {K:Sl→Imm→Seg→Prop}
variable {κ:Type} [DecidableEq κ] {enc:κ→Value}
theorem Holds.mono {I J:Imm} {R N:Seg} {r:Nat} {o:Obj} (h:Holds I R r o) (le:I.le J):Holds J (R++N) r o:=h.elim (fun h=>.inl (Bd _ h)) (fun h=>.inr (le.blk _ _ h))
theorem LZ {x y : Operand} {T kt et r cl : Nat} {es : Array MapEntry} {kvs : List (κ × Value)} {k : κ} {z v : Value} (hop : FH ops N i = some (some d, .lookup T x y false, ty, gd)) (hg : FL ops l gd = some true)
    (hT:tyMap P T=some (kt,et)) (hK:KeyOk P kt enc) (hx:CB l x=some (.map (some r))) (hy:CB l y=some (enc k)) (hz:JI P et=some z) (hm:Holds I R r (.map es cl)) (his:MapIs enc es kvs)
    (hv:(QH k kvs).getD z=v):Det P N ops i l I R d v:=by
  subst hv;refine IM hop hg (HE hx hy) fun I' M' hle=>?_
  show wpL P (Instr.lookup T (rho l x) (rho l y) false >>= fun x=>pure (Next.value x)) _ I' _;rw [BI hx,BI hy];refine DB ?_;unfold Instr.lookup;rw [AE,AK (HO hT)];show wpL P (Sem.getObj r _) _ I' _;refine ⟨_,hm.mono hle,rfl,?_⟩;show wpL P (Instr.checkKey _ _ _ _ >>= _) _ I' _;rw [AE];refine hK.check _ _ _ _ _ ?_;rw [AE];refine hK.find k es.toList kvs _ _ _ his ?_;have hf:=findKv_get k kvs 0;cases hkv:HD k kvs 0 with
  | none=>
    rw [hkv] at hf;simp only [Option.map_none] at hf;show wpL P (zeroValue et >>= _) _ I' _;rw [AE,FJ hz,← hf];exact ⟨rfl,rfl⟩
  | some p=>
    obtain ⟨j,u⟩:=p;rw [hkv] at hf;simp only [Cw] at hf;rw [← hf];exact ⟨rfl,rfl⟩
theorem det_lookup2 {x y : Operand} {T kt et r cl : Nat} {es : Array MapEntry} {kvs : List (κ × Value)} {k : κ} {z v : Value} {b : Bool} (hop : FH ops N i = some (some d, .lookup T x y true, ty, gd)) (hg : FL ops l gd = some true)
    (hT:tyMap P T=some (kt,et)) (hK:KeyOk P kt enc) (hx:CB l x=some (.map (some r))) (hy:CB l y=some (enc k)) (hz:JI P et=some z) (hm:Holds I R r (.map es cl)) (his:MapIs enc es kvs)
    (hv:(QH k kvs).getD z=v) (hb:(QH k kvs).isSome=b):Det P N ops i l I R d (.tuple #[v,.bool b]):=by
  subst hv hb;refine IM hop hg (HE hx hy) fun I' M' hle=>?_
  show wpL P (Instr.lookup T (rho l x) (rho l y) true >>= fun x=>pure (Next.value x)) _ I' _;rw [BI hx,BI hy];refine DB ?_;unfold Instr.lookup;rw [AE,AK (HO hT)];show wpL P (Sem.getObj r _) _ I' _;refine ⟨_,hm.mono hle,rfl,?_⟩;show wpL P (Instr.checkKey _ _ _ _ >>= _) _ I' _;rw [AE];refine hK.check _ _ _ _ _ ?_;rw [AE];refine hK.find k es.toList kvs _ _ _ his ?_;have hf:=findKv_get k kvs 0;cases hkv:HD k kvs 0 with
  | none=>
    rw [hkv] at hf;simp only [Option.map_none] at hf;show wpL P (zeroValue et >>= _) _ I' _;rw [AE,FJ hz,← hf];exact ⟨rfl,rfl⟩
  | some p=>
    obtain ⟨j,u⟩:=p;rw [hkv] at hf;simp only [Cw] at hf;rw [← hf];exact ⟨rfl,rfl⟩
theorem GG {r:Nat} {o o':Obj} {α:Type} {k:Sem α} {Q:α→Seg→Prop} (n:Nat) (ho:ND o=false) (hn:M[n]?=some (r,o')) (ho':ND o'=false) (h:wpL P k Q I (M.set n (r,o))):wpL P (.setObj r o k) Q I M:=
  ⟨ho,n,o',hn,ho',h⟩
theorem mapIs_set {κ:Type} {enc:κ→Value} {es:Array MapEntry} {kvs:List (κ × Value)} (h:MapIs enc es kvs) (j:Nat) (k:κ) (v key:Value) (hk:key=enc k):MapIs enc (es.modify j fun e=>{ e with key,val:=v }) (kvs.set j (k,v)):=by
  unfold MapIs at h ⊢;subst hk
  apply List.ext_getElem?
  intro n;have hn:=congrArg (fun l=>l[n]?) h;simp only [Cy] at hn ⊢;rw [Db];simp only [Array.getElem?_toList] at hn ⊢;rw [Array.getElem?_modify]
  by_cases e:j=n
  · subst e
    rw [if_pos rfl,if_pos rfl]
    by_cases hl:j<kvs.length
    · rw [if_pos hl]
      have:j<es.size:=by rw [MapIs.size h];exact hl
      simp [this,MM]
    · rw [if_neg hl]
      have:¬ j<es.size:=by rw [MapIs.size h];exact hl
      simp [this]
  · rw [if_neg e,if_neg e];exact hn
theorem OU {κ:Type} {enc:κ→Value} {es:Array MapEntry} {kvs:List (κ × Value)} (h:MapIs enc es kvs) (k:κ) (v:Value) (c:Nat):MapIs enc (es.push { key:=enc k,val:=v,born:=c }) (kvs++[(k,v)]):=by
  unfold MapIs at h ⊢;simp only [Array.toList_push,Ba,h,Aw,Cs,MM]
theorem mapIs_erase {κ:Type} {enc:κ→Value} {es:Array MapEntry} {kvs:List (κ × Value)} (h:MapIs enc es kvs) (j:Nat):MapIs enc (es.eraseIdxIfInBounds j) (kvs.eraseIdx j):=by
  unfold MapIs at h ⊢;have e1:(es.eraseIdxIfInBounds j).toList=es.toList.eraseIdx j:=by
    unfold Array.eraseIdxIfInBounds
    split
    · simp
    · rw [List.eraseIdx_of_length_le];simpa using by omega
  rw [e1];have map_erase:∀ {α β:Type} (f:α→β) (l:List α) (j:Nat),(l.eraseIdx j).map f=(l.map f).eraseIdx j:=fun f l=>by
    induction l with
    | nil=>intro j;simp
    | cons x l ih=>intro j;cases j with
      | zero=>simp
      | succ j=>simp [ih]
  rw [map_erase,h,map_erase]
theorem IK {x y u : Operand} {T kt et r cl : Nat} {es : Array MapEntry} {kvs : List (κ × Value)} {k : κ} {v : Value} (n : Nat) (hop : FH ops N i = some (none, .mapUpdate T x y u, ty, gd)) (hg : FL ops l gd = some true)
    (hT:tyMap P T=some (kt,et)) (hK:KeyOk P kt enc) (hx:CB l x=some (.map (some r))) (hy:CB l y=some (enc k)) (hu:CB l u=some v) (hn:M[n]?=some (r,Obj.map es cl)) (his:MapIs enc es kvs)
    (h:∀ es' cl',MapIs enc es' (upd k v kvs)→K l I (M.set n (r,Obj.map es' cl'))):Stp P N ops i l I M K:=
  DP hop hg (known3 hx hy hu) (by
    show wpL P (Instr.mapUpdate T (rho l x) (rho l y) (rho l u) >>= fun _=>pure Next.skip) _ I M
    rw [BI hx,BI hy,BI hu,AE]
    unfold Instr.mapUpdate
    rw [AE,AK (HO hT)]
    show wpL P (Sem.getObj r _) _ I M
    refine ⟨_,.inl (An hn),rfl,?_⟩
    show wpL P (Instr.checkKey _ _ _ _ >>= _) _ I _
    rw [AE]
    refine hK.check _ _ _ _ _ ?_
    rw [AE]
    refine hK.find k es.toList kvs _ _ _ his ?_
    have hf:=MB k v kvs 0
    cases hkv:HD k kvs 0 with
    | none=>
      rw [hkv] at hf
      simp only at hf
      show wpL P (Sem.setObj r _ _) _ I M
      refine GG n rfl hn rfl ?_
      refine ⟨undef,.inr ⟨rfl,rfl⟩,h _ _ ?_⟩
      rw [hf.1]
      exact OU his k v cl
    | some p=>
      obtain ⟨j,w⟩:=p
      rw [hkv] at hf
      simp only [Cu] at hf
      obtain ⟨_,h1,_,h2⟩:=hf
      have hold:((es[j]?).map (·.key)).getD (enc k)=enc k:=by
        have:=congrArg (fun l=>(l[j]?).map Prod.fst) his
        simp only [Cy,Array.getElem?_toList,Option.map_map] at this
        cases he:es[j]? with
        | none=>rfl
        | some e=>
          rw [he] at this
          cases hq:kvs[j]? with
          | none=>rw [hq] at this;simp at this
          | some q=>
            rw [hq] at this h2
            simp [MM] at this h2
            simp [this,h2]
      have key:∀ key,key=enc k→wpL P (Sem.setObj r (.map (es.modify j fun e=>{ e with key,val:=v }) cl) (Sem.pure ())) (fun _ M'=>wpL P (pure Next.skip) (fun n M'=>∃ v,(n=.value v∨(n=.skip∧v=undef))∧K (ups none v l) I M') I M') I M:=fun key hkey=>by
        refine GG n rfl hn rfl ?_
        refine ⟨undef,.inr ⟨rfl,rfl⟩,h _ _ ?_⟩
        rw [h1]
        exact mapIs_set his j k v key hkey
      show wpL P (Instr.keyThatStays (((es[j]?).map (·.key)).getD (enc k)) (enc k) >>= _) _ I M
      rw [AE,hold]
      unfold Instr.keyThatStays
      split
      · exact key _ rfl
      · rw [AE]
        show (if (Question.extern "map.whichKeyStays" 2).forced then _ else ∀ t,_)
        split
        · refine key _ ?_;split <;> rfl
        · intro t;refine key _ ?_;split <;> rfl)
def FA (ks:List κ):List (κ × Value):=ks.map (fun k=>(k,Value.bool true))
theorem trues_length {κ:Type} (ks:List κ):(FA ks).length=ks.length:=by simp [FA]
theorem KL (k:κ) (ks:List κ):(QH k (FA ks)).getD (.bool false)=.bool (decide (k∈ks)):=by
  induction ks with
  | nil=>rfl
  | cons x r ih=>
    simp only [FA,Aw,QH]
    by_cases h:x=k
    · rw [if_pos h];simp [h]
    · rw [if_neg h]
      have:(k∈x::r)↔k∈r:=by simp [Ne.symm h]
      rw [decide_eq_decide.2 this];exact ih
theorem LR (k:κ) (ks:List κ):upd k (.bool true) (FA ks)=FA (if k∈ks then ks else ks++[k]):=by
  induction ks with
  | nil=>rfl
  | cons x r ih=>
    simp only [FA,Aw,upd] at ih ⊢
    by_cases h:x=k
    · rw [if_pos h];simp [h]
    · rw [if_neg h,ih]
      have h2:(k∈x::r)↔k∈r:=by simp [Ne.symm h]
      by_cases h3:k∈r
      · rw [if_pos h3,if_pos (h2.2 h3)];rfl
      · rw [if_neg h3,if_neg (fun h4=>h3 (h2.1 h4))];rfl
theorem del_trues (k:κ) (ks:List κ):del k (FA ks)=FA (ks.erase k):=by
  induction ks with
  | nil=>rfl
  | cons x r ih=>
    simp only [FA,Aw,del] at ih ⊢
    by_cases h:x=k
    · rw [if_pos h,List.erase_cons];simp [h]
    · rw [if_neg h,ih,List.erase_cons]
      have:(x == k)=false:=by simpa using h
      simp [this]
end
end Go.Sl
namespace Go.Sh
open Go Go.Sl
def inB (n lo hi:Int):Bool:=decide (lo≤n)&&decide (n≤hi)
theorem JA {n lo hi:Int} (h:inB n lo hi=true):lo≤n∧n≤hi:=by simpa [inB] using h
theorem inB_f {n lo hi:Int} (h:inB n lo hi=false):¬ (lo≤n∧n≤hi):=by
  intro hh;rw [show inB n lo hi=true by simpa [inB] using hh] at h;cases h
section
variable {α:Type} {xs ys:List α} {k:Nat} {d:α}
theorem OI (hl:xs.length=ys.length) (h:xs.take k=ys.take k) (hk:k<xs.length) (e:xs.getD k d=ys.getD k d):xs.take (k+1)=ys.take (k+1):=by
  rw [List.take_succ_eq_append_getElem hk,List.take_succ_eq_append_getElem (hl▸hk),h];have hk':k<ys.length:=hl▸hk;simp [List.getD,hk,hk'] at e;rw [e]
theorem QU (hl:xs.length=ys.length) (h:xs.take k=ys.take k) (hk:xs.length≤k):xs=ys:=by
  rw [Bq hk,Bq (hl▸hk)] at h;exact h
theorem CF (hk:k<xs.length):xs.take (k+1)=xs.take k++[xs.getD k d]:=by
  rw [List.take_succ_eq_append_getElem hk];simp [List.getD,hk]
theorem HH (hk:xs.length≤k):xs.take k=xs:=Bq hk
theorem AO (hk:k<xs.length):xs.getD k d∈xs:=by
  simp [List.getD,hk]
theorem getD_ne (hl:xs.length=ys.length) (h:xs.getD k d≠ys.getD k d):xs≠ys:=fun e=>h (by rw [e])
end
def seat (xs:List Int) (n:Int):Int:=if n∈xs then ↑(xs.idxOf n) else -1
theorem NV {xs:List Int} {n:Int} {k:Nat} (h:n∉xs.take k) (hk:k<xs.length) (hne:xs.getD k 0≠n):n∉xs.take (k+1):=by
  rw [CF (d:=0) hk];intro hm;rcases Ab.1 hm with hm | hm
  · exact h hm
  · simp only [Af] at hm;exact hne hm.symm
theorem seat_hit {xs:List Int} {n:Int} {k:Nat} (h:n∉xs.take k) (hk:k<xs.length) (e:xs.getD k 0=n):seat xs n=↑k:=by
  have hm:n∈xs:=e▸AO hk;rw [seat,if_pos hm]
  congr 1
  have hx:xs[k]=n:=by simpa [List.getD,hk] using e
  have h1:xs=xs.take k++xs[k]::xs.drop (k+1):=by
    rw [← Ch hk,Ce]
  rw [h1,hx,List.idxOf_append,if_neg h];simp;omega
theorem seat_miss {xs:List Int} {n:Int} {k:Nat} (h:n∉xs.take k) (hk:xs.length≤k):seat xs n=-1:=by
  rw [HH hk] at h;rw [seat,if_neg h]
theorem seat_neg {xs:List Int} {n:Int}:cmp .geq (seat xs n) 0=decide (n∈xs):=by
  unfold seat
  by_cases h:n∈xs <;> simp [h,cmp]
def Ok (cs:List Car) (t:List Int):Prop:=∀ c∈t,0≤c∧c<cs.length
theorem Ok.at {cs:List Car} {t:List Int} (h:Ok cs t) (k:Nat) (hk:k<t.length):0≤t.getD k 0∧t.getD k 0<cs.length:=h _ (AO hk)
def IE (cs:List Car) (c:Int):Car:=cs.getD c.toNat BZ
def lenOf (cs:List Car) (t:List Int):Int:=(t.map fun c=>(IE cs c).len).sum
theorem lenOf_nil (cs:List Car):lenOf cs []=0:=rfl
theorem LL (cs:List Car) (s t:List Int):lenOf cs (s++t)=lenOf cs s+lenOf cs t:=by simp [lenOf]
theorem lenOf_succ {cs:List Car} {t:List Int} {k:Nat} (hk:k<t.length):lenOf cs (t.take (k+1))=lenOf cs (t.take k)+(IE cs (t.getD k 0)).len:=by
  rw [CF (d:=0) hk,LL];simp [lenOf]
def Small (cs:List Car):Prop:=∀ c∈cs,0≤c.len∧c.len≤4
theorem Small.at {cs:List Car} (h:Small cs) (c:Int):0≤(IE cs c).len∧(IE cs c).len≤4:=by
  unfold IE
  by_cases hc:c.toNat<cs.length
  · exact h _ (AO hc)
  · simp [List.getD,List.getElem?_eq_none (Nat.le_of_not_lt hc),BZ]
theorem KN {cs:List Car} (h:Small cs) (t:List Int):0≤lenOf cs t∧lenOf cs t≤4*t.length:=by
  induction t with
  | nil=>simp [lenOf]
  | cons c t ih=>
    have:=h.at c;simp only [lenOf,Aw,List.sum_cons,Aq] at ih ⊢;omega
def DA (cs:List Car) (t:List Int) (at':Int):Bool:=
  inB at' 1 (↑t.length-1)&&decide (0<(IE cs (t.getD at'.toNat 0)).grp)&&decide ((IE cs (t.getD at'.toNat 0)).grp=(IE cs (t.getD (at'-1).toNat 0)).grp)
def EX (c:Car):Int:=
  if inB c.len 1 4&&inB c.wt 1 60&&inB c.brk 0 c.wt&&inB c.grp 0 3 then 0 else 1
theorem eqCar (s t:Car):((s.len == t.len)&&((s.wt == t.wt)&&((s.brk == t.brk)&&((s.grp == t.grp)&&((s.pipe == t.pipe)&&((s.heat == t.heat)&&true))))))=decide (s=t):=by
  rcases s with ⟨a,b,c,d,e,f⟩;rcases t with ⟨a',b',c',d',e',f'⟩
  by_cases h1:a=a' <;> by_cases h2:b=b' <;> by_cases h3:c=c' <;> by_cases h4:d=d' <;> by_cases h5:e=e' <;> by_cases h6:f=f' <;> simp [h1,h2,h3,h4,h5,h6]
theorem u64_range (x:Int):0≤IntKind.u64.wrap x∧IntKind.u64.wrap x≤18446744073709551615:=by
  have h1:IntKind.u64.signed=false:=rfl;have h2:(2:Int) ^ IntKind.u64.bits=18446744073709551616:=rfl;simp only [IntKind.wrap,h1,h2,Bool.false_and,Bz,if_false];omega
theorem u64_mod {x m:Int} (h:0≤x) (hm:0<m):0≤x%m∧x%m<m:=⟨Int.emod_nonneg _ (by omega),Int.emod_lt_of_pos _ hm⟩
theorem fdiv_nonneg {x y:Int} (h:0≤x) (hy:0≤y):0≤x.fdiv y:=Int.fdiv_nonneg h hy
theorem up_nat {x most:Int} (h:1≤most) (h2:most≤1000000) (hx:0≤x):∃ n:Nat,IntKind.i64.wrap (x%(most+1))=↑n∧(n:Int)≤most:=by
  have:=u64_mod hx (show 0<most+1 by omega);refine ⟨(x%(most+1)).toNat,?_,by omega⟩;rw [IntWalk.i64_in _ (by omega)];omega
def Asc (l:List Int):Prop:=l.Pairwise (·<·)
theorem Asc.nil:Asc []:=List.Pairwise.nil
theorem Asc.snoc {l:List Int} {k:Nat} (h:Asc l) (hlt:∀ x∈l,0≤x∧x<(k:Int)):Asc (l++[(k:Int)]):=by
  refine List.pairwise_append.2 ⟨h,by simp,fun a ha b hb=>?_⟩;simp at hb;subst hb;exact (hlt a ha).2
theorem below_snoc {l:List Int} {k:Nat} (hlt:∀ x∈l,0≤x∧x<(k:Int)):∀ x∈l++[(k:Int)],0≤x∧x<((k+1:Nat):Int):=by
  intro x hx;rcases Ab.1 hx with h | h
  · have:=hlt x h;omega
  · simp at h;omega
theorem below_mono {l:List Int} {k:Nat} (hlt:∀ x∈l,0≤x∧x<(k:Int)):∀ x∈l,0≤x∧x<((k+1:Nat):Int):=fun x hx=>by
  have:=hlt x hx;omega
theorem BV {α:Type} {xs:List α} {k:Nat} {d:α} (h:k<xs.length):xs.drop k=xs.getD k d::xs.drop (k+1):=by
  rw [Ch h];simp [List.getD,h]
theorem DJ {α:Type} {xs:List α} {k:Nat} (h:xs.length≤k):xs.drop k=[]:=List.drop_of_length_le h
theorem headD_drop {α:Type} {xs:List α} {k:Nat} {d:α}:(xs.drop k).headD d=xs.getD k d:=by
  simp [List.headD_eq_head?_getD,List.getD]
def grp (cs:List Car) (c:Int):Int:=(IE cs c).grp
def goG (cs:List Car) (t:List Int) (fin:List Int→Int):Nat→List Int→List Int→Int
  | _,[],met=>fin met
  | k,c::r,met=>if decide (0<grp cs c)&&(decide (grp cs c∈met)&&!(DA cs t ↑k)) then 12 else goG cs t fin (k+1) r (if grp cs c∈met then met else met++[grp cs c])
def goGs (cs:List Car):List (List Int)→List Int→Int
  | [],_=>0
  | t::ts,met=>goG cs t (goGs cs ts) 0 t met
def EY (Y:Yard):Int:=goGs Y.cars Y.tracks []
def FQ (n:Nat) (fin:List Int→Int):List Int→List Int→Int
  | [],met=>fin met
  | c::r,met=>if inB c 0 (↑n-1) then (if c∈met then 4 else FQ n fin r (met++[c])) else 3
def EU (cs:List Car) (fin:List Int→Int):List (List Int)→List Int→List Int→Int
  | [],_,met=>fin met
  | t::ts,rm,met=>FQ cs.length (fun met'=>if lenOf cs t>rm.headD 0 then 9 else EU cs fin ts rm.tail met') t met
def FN (Y:Yard):Int:=
  if Y.tracks.length=Y.room.length then EU Y.cars (fun met=>if met.length<Y.cars.length then 7 else EY Y) Y.tracks Y.room [] else 2
def BF (Y:Yard):Int:=
  if 5<Y.cars.length then 6 else
  if Y.cars.all (fun c=>decide (EX c=0)) then
    (if Y.room.length=0 then 7 else if 3<Y.room.length then 6 else if Y.room.all (fun n=>inB n 0 20) then FN Y else 1)
  else 1
theorem nand4 (a b c d:Bool):(if (a&&b&&c&&d)=true then (0:Int) else 1)=if (!a||(!b||(!c||!d)))=true then 1 else 0:=by
  cases a <;> cases b <;> cases c <;> cases d <;> rfl
def OkAll (cs:List Car) (ts:List (List Int)):Prop:=∀ t∈ts,Ok cs t
theorem OkAll.at {cs:List Car} {ts:List (List Int)} (h:OkAll cs ts) (k:Nat) (hk:k<ts.length):Ok cs (ts.getD k []):=h _ (AO hk)
theorem goG_step {cs : List Car} {t : List Int} {fin : List Int → Int} {k : Nat} {met : List Int} (hk : k < t.length) :
    goG cs t fin k (t.drop k) met=if decide (0<grp cs (t.getD k 0))&&(decide (grp cs (t.getD k 0)∈met)&&!(DA cs t ↑k)) then 12
      else goG cs t fin (k+1) (t.drop (k+1)) (if grp cs (t.getD k 0)∈met then met else met++[grp cs (t.getD k 0)]):=by
  rw [BV (d:=0) hk];rfl
theorem goG_hit {cs : List Car} {t : List Int} {fin : List Int → Int} {k : Nat} {met : List Int} (hk : k < t.length) (h : (decide (0 < grp cs (t.getD k 0)) && (decide (grp cs (t.getD k 0) ∈ met) && !(DA cs t ↑k))) = true) :
    goG cs t fin k (t.drop k) met=12:=by rw [goG_step hk,if_pos h]
theorem goG_miss {cs : List Car} {t : List Int} {fin : List Int → Int} {k : Nat} {met : List Int} (hk : k < t.length) (h : (decide (0 < grp cs (t.getD k 0)) && (decide (grp cs (t.getD k 0) ∈ met) && !(DA cs t ↑k))) = false) :
    goG cs t fin k (t.drop k) met=goG cs t fin (k+1) (t.drop (k+1)) (if grp cs (t.getD k 0)∈met then met else met++[grp cs (t.getD k 0)]):=by rw [goG_step hk,if_neg (by rw [h];simp)]
theorem goG_done {cs:List Car} {t:List Int} {fin:List Int→Int} {k:Nat} {met:List Int} (hk:t.length≤k):goG cs t fin k (t.drop k) met=fin met:=by rw [DJ hk];rfl
theorem goGs_done {cs:List Car} {ts:List (List Int)} {k:Nat} {met:List Int} (hk:ts.length≤k):goGs cs (ts.drop k) met=0:=by rw [DJ hk];rfl
theorem goGs_step {cs:List Car} {ts:List (List Int)} {k:Nat} {met:List Int} (hk:k<ts.length):goGs cs (ts.drop k) met=goG cs (ts.getD k []) (goGs cs (ts.drop (k+1))) 0 (ts.getD k []) met:=by
  rw [BV (d:=[]) hk];rfl
section
variable {cs:List Car} {t rm met:List Int} {ts:List (List Int)} {fin:List Int→Int} {n j k:Nat}
theorem goTrack_bad (hj:j<t.length) (h:inB (t.getD j 0) 0 (↑n-1)=false):FQ n fin (t.drop j) met=3:=by
  rw [BV (d:=0) hj];simp only [FQ];rw [if_neg (by rw [h];simp)]
theorem goTrack_twice (hj:j<t.length) (h:inB (t.getD j 0) 0 (↑n-1)=true) (hm:t.getD j 0∈met):FQ n fin (t.drop j) met=4:=by
  rw [BV (d:=0) hj];simp only [FQ];rw [if_pos h,if_pos hm]
theorem goTrack_next (hj:j<t.length) (h:inB (t.getD j 0) 0 (↑n-1)=true) (hm:¬ t.getD j 0∈met):FQ n fin (t.drop j) met=FQ n fin (t.drop (j+1)) (met++[t.getD j 0]):=by
  rw [BV (d:=0) hj];simp only [FQ];rw [if_pos h,if_neg hm]
theorem PK (hj:t.length≤j):FQ n fin (t.drop j) met=fin met:=by rw [DJ hj];rfl
theorem goTracks_step (hk : k < ts.length) : EU cs fin (ts.drop k) (rm.drop k) met =
    FQ cs.length (fun met'=>if lenOf cs (ts.getD k [])>rm.getD k 0 then 9 else EU cs fin (ts.drop (k+1)) (rm.drop (k+1)) met') (ts.getD k []) met:=by
  rw [BV (d:=[]) hk];simp only [EU,headD_drop,List.tail_drop]
theorem NP (hk:ts.length≤k):EU cs fin (ts.drop k) rm met=fin met:=by rw [DJ hk];rfl
theorem Ok.nil:Ok cs []:=fun _ h=>by simp at h
theorem Ok.snoc {c:Int} (h:Ok cs (t.take j)) (hj:j<t.length) (hc:0≤t.getD j 0∧t.getD j 0<cs.length):Ok cs (t.take (j+1)):=by
  rw [CF (d:=0) hj];intro x hx;rcases Ab.1 hx with hx | hx
  · exact h x hx
  · simp only [Af] at hx;subst hx;exact hc
theorem Ok.all (h:Ok cs (t.take j)) (hj:t.length≤j):Ok cs t:=by rwa [HH hj] at h
theorem OkAll.nil:OkAll cs []:=fun _ h=>by simp at h
theorem OkAll.snoc (h:OkAll cs (ts.take k)) (hk:k<ts.length) (hc:Ok cs (ts.getD k [])):OkAll cs (ts.take (k+1)):=by
  rw [CF (d:=[]) hk];intro x hx;rcases Ab.1 hx with hx | hx
  · exact h x hx
  · simp only [Af] at hx;subst hx;exact hc
theorem OkAll.all (h:OkAll cs (ts.take k)) (hk:ts.length≤k):OkAll cs ts:=by rwa [HH hk] at h
end
theorem small_of_ok {cs:List Car} (h:∀ c∈cs,EX c=0):Small cs:=fun c hc=>by
  have:=h c hc;rw [EX] at this
  split at this
  · rename_i hb
    simp only [Ah] at hb;have:=JA hb.1.1.1;omega
  · cases this
theorem all_snoc {α:Type} {xs:List α} {k:Nat} {d:α} {p:α→Prop} (h:∀ c∈xs.take k,p c) (hk:k<xs.length) (hp:p (xs.getD k d)):∀ c∈xs.take (k+1),p c:=by
  rw [CF (d:=d) hk];intro x hx;rcases Ab.1 hx with hx | hx
  · exact h x hx
  · simp only [Af] at hx;subst hx;exact hp
theorem LW {α:Type} {xs:List α} {k:Nat} {p:α→Prop} (h:∀ c∈xs.take k,p c) (hk:xs.length≤k):∀ c∈xs,p c:=by rwa [HH hk] at h
section
variable {Y:Yard} {k:Nat}
theorem checkErr_many (h:5<Y.cars.length):BF Y=6:=by rw [BF,if_pos h]
theorem carErr_01 (c:Car):EX c=0∨EX c=1:=by rw [EX];split <;> simp
theorem checkErr_car (h:¬ 5<Y.cars.length) (hk:k<Y.cars.length) (hc:EX (Y.cars.getD k BZ)≠0):EX (Y.cars.getD k BZ)=BF Y:=by
  rw [BF,if_neg h,if_neg]
  · rcases carErr_01 (Y.cars.getD k BZ) with e | e
    · exact absurd e hc
    · exact e
  · intro ha
    have:=Ax.1 ha _ (AO (d:=BZ) hk);exact hc (Bu this)
theorem carsAll (hc:∀ c∈Y.cars,EX c=0):(Y.cars.all fun c=>decide (EX c=0))=true:=Ax.2 fun c h=>Bg (hc c h)
theorem checkErr_few (h:¬ 5<Y.cars.length) (hc:∀ c∈Y.cars,EX c=0) (h0:Y.room.length=0):BF Y=7:=by rw [BF,if_neg h,if_pos (carsAll hc),if_pos h0]
theorem checkErr_many2 (h:¬ 5<Y.cars.length) (hc:∀ c∈Y.cars,EX c=0) (h0:3<Y.room.length):BF Y=6:=by rw [BF,if_neg h,if_pos (carsAll hc),if_neg (by omega),if_pos h0]
theorem checkErr_room (h:¬ 5<Y.cars.length) (hc:∀ c∈Y.cars,EX c=0) (h0:¬ Y.room.length=0) (h1:¬ 3<Y.room.length) (hk:k<Y.room.length) (hb:inB (Y.room.getD k 0) 0 20=false):BF Y=1:=by
  rw [BF,if_neg h,if_pos (carsAll hc),if_neg h0,if_neg h1,if_neg];intro ha;have:=Ax.1 ha _ (AO (d:=0) hk);rw [hb] at this;cases this
theorem checkErr_tracks (h:¬ 5<Y.cars.length) (hc:∀ c∈Y.cars,EX c=0) (h0:¬ Y.room.length=0) (h1:¬ 3<Y.room.length) (hm:∀ n∈Y.room,inB n 0 20=true):BF Y=FN Y:=by
  rw [BF,if_neg h,if_pos (carsAll hc),if_neg h0,if_neg h1,if_pos (Ax.2 hm)]
end
def trk (Y:Yard) (i:Int):List Int:=Y.tracks.getD i.toNat []
def EI (Y:Yard) (s:Shift):Int:=↑(trk Y s.frm).length-s.many
def BX (Y:Yard) (s:Shift):Int:=
  if inB s.frm 0 (↑Y.tracks.length-1) then
    if inB s.to 0 (↑Y.tracks.length-1) then
      if s.frm=s.to then 4 else
      if s.many<1 then 7 else
      if ↑(trk Y s.frm).length<s.many then 6 else
      if DA Y.cars (trk Y s.frm) (EI Y s)||decide (Y.room.getD s.to.toNat 0<lenOf Y.cars ((trk Y s.frm).drop (EI Y s).toNat)+lenOf Y.cars (trk Y s.to)) then 9 else 0
    else 3
  else 3
def moved (Y:Yard) (s:Shift):Yard:=
  { Y with tracks:=(Y.tracks.set s.to.toNat (trk Y s.to++(trk Y s.frm).drop (EI Y s).toNat)).set s.frm.toNat ((trk Y s.frm).take (EI Y s).toNat) }
def BA (s:Shift):Shift:=⟨s.to,s.frm,s.many⟩
theorem Ok.drop {cs:List Car} {t:List Int} (h:Ok cs t) (n:Nat):Ok cs (t.drop n):=fun c hc=>h c (List.mem_of_mem_drop hc)
theorem Ok.take {cs:List Car} {t:List Int} (h:Ok cs t) (n:Nat):Ok cs (t.take n):=fun c hc=>h c (List.mem_of_mem_take hc)
theorem Ok.append {cs:List Car} {s t:List Int} (h:Ok cs s) (h2:Ok cs t):Ok cs (s++t):=fun c hc=>by
  rcases Ab.1 hc with x | x
  · exact h c x
  · exact h2 c x
section
variable {Y:Yard} {s:Shift} {n:Nat}
theorem mayErr_1 (hn:n=Y.tracks.length) (h:inB s.frm 0 (↑n-1)=false):BX Y s=3:=by
  subst hn;rw [BX,if_neg (by rw [h];simp)]
theorem mayErr_2 (hn:n=Y.tracks.length) (h1:inB s.frm 0 (↑n-1)=true) (h:inB s.to 0 (↑n-1)=false):BX Y s=3:=by
  subst hn;rw [BX,if_pos h1,if_neg (by rw [h];simp)]
theorem mayErr_3 (hn:n=Y.tracks.length) (h1:inB s.frm 0 (↑n-1)=true) (h2:inB s.to 0 (↑n-1)=true) (h:s.frm=s.to):BX Y s=4:=by
  subst hn;rw [BX,if_pos h1,if_pos h2,if_pos h]
theorem mayErr_4 (hn:n=Y.tracks.length) (h1:inB s.frm 0 (↑n-1)=true) (h2:inB s.to 0 (↑n-1)=true) (h3:s.frm≠s.to) (h:s.many<1):BX Y s=7:=by
  subst hn;rw [BX,if_pos h1,if_pos h2,if_neg h3,if_pos h]
theorem mayErr_5 (hn:n=Y.tracks.length) (h1:inB s.frm 0 (↑n-1)=true) (h2:inB s.to 0 (↑n-1)=true) (h3:s.frm≠s.to) (h4:¬ s.many<1) (h:↑(trk Y s.frm).length<s.many):BX Y s=6:=by
  subst hn;rw [BX,if_pos h1,if_pos h2,if_neg h3,if_neg h4,if_pos h]
theorem mayErr_6 (hn : n = Y.tracks.length) (h1 : inB s.frm 0 (↑n - 1) = true) (h2 : inB s.to 0 (↑n - 1) = true) (h3 : s.frm ≠ s.to) (h4 : ¬ s.many < 1) (h5 : ¬ ↑(trk Y s.frm).length < s.many)
    (h:(DA Y.cars (trk Y s.frm) (EI Y s)||decide (Y.room.getD s.to.toNat 0<lenOf Y.cars ((trk Y s.frm).drop (EI Y s).toNat)+lenOf Y.cars (trk Y s.to)))=true):BX Y s=9:=by
  subst hn;rw [BX,if_pos h1,if_pos h2,if_neg h3,if_neg h4,if_neg h5,if_pos h]
theorem mayErr_7 (hn : n = Y.tracks.length) (h1 : inB s.frm 0 (↑n - 1) = true) (h2 : inB s.to 0 (↑n - 1) = true) (h3 : s.frm ≠ s.to) (h4 : ¬ s.many < 1) (h5 : ¬ ↑(trk Y s.frm).length < s.many)
    (h:(DA Y.cars (trk Y s.frm) (EI Y s)||decide (Y.room.getD s.to.toNat 0<lenOf Y.cars ((trk Y s.frm).drop (EI Y s).toNat)+lenOf Y.cars (trk Y s.to)))=false):BX Y s=0:=by
  subst hn;rw [BX,if_pos h1,if_pos h2,if_neg h3,if_neg h4,if_neg h5,if_neg (by rw [h];simp)]
end
def LO:Yard:=⟨[],[],[]⟩
def BN (Y:Yard):List Shift→Yard × Int
  | []=>(Y,0)
  | s::r=>if BX Y s=0 then BN (moved Y s) r else (LO,BX Y s)
def FC (Y:Yard) (l:List Shift):Yard × Int:=if BF Y=0 then BN Y l else (LO,BF Y)
def Valid (Y:Yard):Prop:=BF Y=0
structure GoodY (Y:Yard):Prop where
  ok:OkAll Y.cars Y.tracks
  small:Small Y.cars
  len:Y.room.length=Y.tracks.length
  sum:Y.tracks.flatten.length≤5
theorem GO {ts:List (List Int)} {t:List Int} (h:t∈ts):t.length≤ts.flatten.length:=by
  induction ts with
  | nil=>simp at h
  | cons x r ih=>
    simp only [Co,Ad];rcases Ac.1 h with e | h
    · subst e;omega
    · have:=ih h;omega
theorem GoodY.le {Y:Yard} (h:GoodY Y):∀ t∈Y.tracks,t.length≤1000000:=fun t ht=>by
  have:=GO ht;have:=h.sum;omega
theorem set_flatten (x:List Int):∀ (ts:List (List Int)) (i:Nat),i<ts.length→((ts.set i x).flatten++ts.getD i []).Perm (ts.flatten++x):=by
  intro ts
  induction ts with
  | nil=>intro i h;simp at h
  | cons y r ih=>
    intro i h;cases i with
    | zero=>
      simp only [List.set_cons_zero,Co,Cf];rw [Am,Am];refine (List.perm_append_comm_assoc x r.flatten y).trans ?_;refine ((Bo r.flatten (List.perm_append_comm (l₁:=x) (l₂:=y))).trans ?_);exact List.perm_append_comm_assoc r.flatten y x
    | succ i=>
      simp only [List.set_cons_succ,Co,Ca,Am];exact Bo y (ih i (by simpa using h))
theorem NS {Y:Yard} {s:Shift} (hf:0≤s.frm∧s.frm<Y.tracks.length) (ht:0≤s.to∧s.to<Y.tracks.length) (hne:s.frm≠s.to):(moved Y s).tracks.flatten.Perm Y.tracks.flatten:=by
  have hne':s.to.toNat≠s.frm.toNat:=by omega
  unfold moved;simp only
  generalize hA:trk Y s.frm=A
  generalize hB:trk Y s.to=B
  generalize (EI Y s).toNat=n
  have hA':Y.tracks.getD s.frm.toNat []=A:=hA;have hB':Y.tracks.getD s.to.toNat []=B:=hB;have h1:=set_flatten (B++A.drop n) Y.tracks s.to.toNat (by omega);have h2:=set_flatten (A.take n) (Y.tracks.set s.to.toNat (B++A.drop n)) s.frm.toNat (by rw [Bv];omega);have e2:(Y.tracks.set s.to.toNat (B++A.drop n)).getD s.frm.toNat []=A:=by
    simp only [List.getD] at hA' ⊢;rw [Bk hne'];exact hA'
  rw [e2] at h2;rw [hB'] at h1
  generalize ((Y.tracks.set s.to.toNat (B++A.drop n)).set s.frm.toNat (A.take n)).flatten=X at h2 ⊢
  generalize (Y.tracks.set s.to.toNat (B++A.drop n)).flatten=Z at h1 h2
  have h3:(Z).Perm (Y.tracks.flatten++A.drop n):=by
    refine (List.perm_append_right_iff B).1 (h1.trans ?_);rw [Am];exact Bo _ List.perm_append_comm
  have h4:(X++A).Perm (Y.tracks.flatten++A):=by
    refine h2.trans ((List.Perm.append_right _ h3).trans ?_);rw [Am];refine Bo _ (List.perm_append_comm.trans ?_);rw [Ce]
  exact (List.perm_append_right_iff A).1 h4
end Go.Sh
namespace Go.Sl
open Go
def OP {α:Type} (vals:α→List Value) (a:α) (f:Nat):Value:=(vals a).getD f undef
section
variable {α:Type} {sz:Nat} {vals:α→List Value} {d:α} {I:Imm} {M Ms:Seg} {a:Option Addr} {b o n:Nat} {xs:List α}
theorem fcell_at {x:α} {k:Nat} {v:Value} (hv:(vals x)[k]?=some v):OP vals x k=v:=by simp [OP,List.getD,hv]
theorem rec_get (h:Row sz I a b o n (fun i f=>OP vals (xs.getD i d) f)) (i:Nat) (hi:i<n) (f:Nat) (hf:f<sz) {v:Value} (hv:OP vals (xs.getD i d) f=v):Sees I M ⟨b,o+i*sz+f,none⟩ v:=hv▸(h.get i hi f hf).sees
theorem EO (hl:∀ x,(vals x).length=sz) (h:Row sz I a b o n (fun i f=>OP vals (xs.getD i d) f)) (i:Nat) (hi:i<n):SeesN I M b (o+i*sz) (vals (xs.getD i d)):=fun k v hv=>
  rec_get h i hi k (by have:=(Bc.1 hv).1;rw [hl] at this;exact this) (fcell_at hv)
theorem orec_getN (hl:∀ x,(vals x).length=sz) (h:ORow sz Ms a b n (fun i f=>OP vals (xs.getD i d) f)) (hM:∀ x∈Ms,x∈M) (i:Nat) (hi:i<n):SeesN I M b (0+i*sz) (vals (xs.getD i d)):=fun k v hv=>by
  have:=h.get i hi k (by have:=(Bc.1 hv).1;rw [hl] at this;exact this) I M hM
  rwa [fcell_at hv] at this
theorem one_rec (hl:∀ x,(vals x).length=sz) (h:∀ x,(vals x).all DF=true) (ys:List α):∀ c∈DM sz (OP vals) ys,DF c=true:=one_enc (fun x f hf=>by
  have hf:f<(vals x).length:=by rw [hl];exact hf
  rw [fcell_at (Bf hf)];exact Ax.1 (h x) _ (List.getElem_mem hf)) ys
end
end Go.Sl
namespace Go.Sh
open Go Go.Sl
structure Keep where
  place:Int
  hour:Int
  who:Int
  deriving DecidableEq
structure Slip where
  num:Int
  hour:Int
  kind:Int
  place:Int
  to:Int
  sort:Int
  soil:Bool
  amt:Int
  deriving DecidableEq
structure Gap where
  num:Int
  amt:Int
  deriving DecidableEq
structure Lin where
  places:Int
  sorts:Int
  start:List (List Int)
  keeps:List Keep
  slips:List Slip
  deriving DecidableEq
def noKeep:Keep:=⟨0,0,0⟩
def noSlip:Slip:=⟨0,0,0,0,0,0,false,0⟩
structure Rail where
  a:Int
  b:Int
  km:Int
  gauge:Int
  room:Int
  brake:Int
  heat:Int
  load:Int
  ferry:Bool
  deriving DecidableEq
structure Net where
  stops:Int
  tracks:List Rail
  shops:List Int
structure Wag where
  gauges:List Int
  size:Int
  load:Int
  brakes:List Int
  heats:List Int
  hooks:Bool
def AB:Rail:=⟨0,0,0,0,0,0,0,0,false⟩
def HQ (t:Rail):List Value:=[.int .i64 t.a,.int .i64 t.b,.int .i64 t.km,.int .i64 t.gauge,.int .i64 t.room,.int .i64 t.brake,.int .i64 t.heat,.int .i64 t.load,.bool t.ferry]
abbrev tK (N:Net) (k:Nat):Rail:=N.tracks.getD k AB
abbrev rlL (t:Rail):List Value:=[.int .i64 t.a,.int .i64 t.b,.int .i64 t.km,.int .i64 t.gauge,.int .i64 t.room,.int .i64 t.brake,.int .i64 t.heat,.int .i64 t.load,.bool t.ferry]
abbrev rlA (t:Rail):Array Value:=#[.int .i64 t.a,.int .i64 t.b,.int .i64 t.km,.int .i64 t.gauge,.int .i64 t.room,.int .i64 t.brake,.int .i64 t.heat,.int .i64 t.load,.bool t.ferry]
abbrev FI:=OP HQ
abbrev IW:=IsSl 9 FI AB
theorem LQ (ys:List Rail):∀ c∈DM 9 FI ys,DF c=true:=one_rec (vals:=HQ) (fun _=>rfl) (fun _=>rfl) ys
def IsNet (I:Imm) (v:Value) (N:Net):Prop:=∃ v1 v2,v=.agg #[.int .i64 N.stops,v1,v2]∧IW I v1 N.tracks∧AF I v2 N.shops
theorem IsNet.mono {I J:Imm} {v:Value} {N:Net} (h:IsNet I v N) (le:I.le J):IsNet J v N:=by
  obtain ⟨v1,v2,h1,h2,h3⟩:=h;exact ⟨v1,v2,h1,h2.mono le,h3.mono le⟩
theorem IA {I:Imm} {v1 v2:Value} {n:Int} {ts:List Rail} {ss:List Int} (h1:IW I v1 ts) (h2:AF I v2 ss):IsNet I (.agg #[.int .i64 n,v1,v2]) ⟨n,ts,ss⟩:=⟨v1,v2,rfl,h1,h2⟩
def IsWag (I:Imm) (v:Value) (W:Wag):Prop:=∃ v1 v2 v3,v=.agg #[v1,.int .i64 W.size,.int .i64 W.load,v2,v3,.bool W.hooks]∧AF I v1 W.gauges∧AF I v2 W.brakes∧AF I v3 W.heats
theorem IsWag.mono {I J:Imm} {v:Value} {W:Wag} (h:IsWag I v W) (le:I.le J):IsWag J v W:=by
  obtain ⟨v1,v2,v3,h0,h1,h2,h3⟩:=h;exact ⟨v1,v2,v3,h0,h1.mono le,h2.mono le,h3.mono le⟩
theorem HA {I:Imm} {v1 v2 v3:Value} {s l:Int} {h:Bool} {gs bs hs:List Int} (h1:AF I v1 gs) (h2:AF I v2 bs) (h3:AF I v3 hs):IsWag I (.agg #[v1,.int .i64 s,.int .i64 l,v2,v3,.bool h]) ⟨gs,s,l,bs,hs,h⟩:=⟨v1,v2,v3,rfl,h1,h2,h3⟩
def NE (n lo hi:Int):Bool:=cmp .lss n lo||cmp .gtr n hi
theorem DG {n lo hi:Int} (h:lo≤n∧n≤hi):NE n lo hi=false:=by simp [NE,cmp];omega
structure Rises (l:List Int) (lo hi:Int):Prop where
  asc:Asc l
  inb:∀ x∈l,lo≤x∧x≤hi
structure GoodRail (N:Net) (t:Rail):Prop where
  a:0≤t.a∧t.a<N.stops
  b:0≤t.b∧t.b<N.stops
  ne:t.a≠t.b
  km:1≤t.km∧t.km≤99
  gauge:1≤t.gauge∧t.gauge≤3
  room:1≤t.room∧t.room≤9
  brake:0≤t.brake∧t.brake≤3
  heat:0≤t.heat∧t.heat≤3
  load:1≤t.load∧t.load≤20
structure GoodNet (N:Net):Prop where
  stops:1≤N.stops∧N.stops≤6
  few:N.tracks.length≤8
  rail:∀ t∈N.tracks,GoodRail N t
  shops:Rises N.shops 0 (N.stops-1)
structure GoodWag (W:Wag):Prop where
  some:1≤W.gauges.length
  gauges:Rises W.gauges 1 3
  size:1≤W.size∧W.size≤9
  load:1≤W.load∧W.load≤20
  brakes:Rises W.brakes 1 3
  heats:Rises W.heats 1 3
theorem GoodNet.at {N:Net} (h:GoodNet N) {k:Nat} (hk:k<N.tracks.length):GoodRail N (N.tracks.getD k AB):=h.rail _ (AO hk)
theorem asc_lt {l:List Int} (h:Asc l) {i j:Nat} (hij:i<j) (hj:j<l.length):l.getD i 0<l.getD j 0:=by
  have:=List.pairwise_iff_getElem.1 h i j (by omega) hj hij
  rwa [List.getD,List.getD,Bf (by omega),Bf hj,Option.getD_some,Option.getD_some]
def IsLCar (TC TN:TypeId) (I:Imm) (c cn:Nat) (v1 v2 v3 v4 v5 v6:Value) (W:Wag) (N:Net) (rb:List Int):Prop:=
  I.blk c=some (Obj.cells #[v1,.int .i64 W.size,.int .i64 W.load,v2,v3,.bool W.hooks,.pointer (some ⟨cn,0,none⟩),v4] TC (0,0))∧I.blk cn=some (Obj.cells #[.int .i64 N.stops,v5,v6] TN (0,0)) ∧
    AF I v1 W.gauges∧AF I v2 W.brakes∧AF I v3 W.heats∧AF I v4 rb∧IW I v5 N.tracks∧AF I v6 N.shops
theorem IsLCar.mono {TC TN:TypeId} {I J:Imm} {c cn:Nat} {v1 v2 v3 v4 v5 v6:Value} {W:Wag} {N:Net} {rb:List Int} (h:IsLCar TC TN I c cn v1 v2 v3 v4 v5 v6 W N rb) (le:I.le J):IsLCar TC TN J c cn v1 v2 v3 v4 v5 v6 W N rb:=
  ⟨le.blk _ _ h.1,le.blk _ _ h.2.1,h.2.2.1.mono le,h.2.2.2.1.mono le,h.2.2.2.2.1.mono le,h.2.2.2.2.2.1.mono le,h.2.2.2.2.2.2.1.mono le,h.2.2.2.2.2.2.2.mono le⟩
def MW (W:Wag) (t:Rail):Nat→Bool
  | 0=>!decide (t.gauge∈W.gauges)
  | 1=>cmp .gtr W.size t.room
  | 2=>cmp .gtr W.load t.load
  | 3=>!(cmp .eql t.brake 0)&&!decide (t.brake∈W.brakes)
  | 4=>!(cmp .eql t.heat 0)&&!decide (t.heat∈W.heats)
  | _=>t.ferry&&!W.hooks
def BU (W:Wag) (t:Rail) (k:Nat):List Int:=((List.range k).filter (MW W t)).map fun i:Nat=>(i:Int)+1
theorem IX {W:Wag} {t:Rail} {k:Nat} (h:MW W t k=true):BU W t (k+1)=BU W t k++[(k:Int)+1]:=by
  simp [BU,Dd,Cm,h]
theorem KI {W:Wag} {t:Rail} {k:Nat} (h:MW W t k=false):BU W t (k+1)=BU W t k:=by
  simp [BU,Dd,Cm,h]
structure Rule where
  bar:Int
  fn:Nat
def IC:Rule:=⟨0,0⟩
def ruleVals (r:Rule):List Value:=[.int .i64 r.bar,.func (.func r.fn) #[] #[]]
abbrev ruleCell:=OP ruleVals
abbrev IsRules:=IsSl 2 ruleCell IC
theorem GM {W:Wag} {t:Rail} {k:Nat}:(BU W t k).length≤k:=by
  unfold BU;rw [Bi];exact Cv (Cd ..) (by simp)
structure Plc where
  st:Int
  ga:Int
  deriving DecidableEq
def IG (t:Rail) (s:Int):Int:=if s=t.a then t.b else t.a
theorem OW {t:Rail} {s:Int} (h:s=t.a):IG t s=t.b:=if_pos h
theorem OX {t:Rail} {s:Int} (h:¬ s=t.a):IG t s=t.a:=if_neg h
def CT (W:Wag) (N:Net) (rbl:List Int) (p:Plc) (tr:Nat):Plc × Bool × Int:=
  let t:=N.tracks.getD tr AB
  if ¬ p.st=t.a∧¬ p.st=t.b then (⟨0,0⟩,false,7)
  else if (tr:Int)∈rbl then (⟨IG t p.st,p.ga⟩,false,0)
  else if ¬ (BU W t 6).length=0 then (⟨0,0⟩,false,(BU W t 6).getD 0 0)
  else if ¬ t.gauge=p.ga∧¬ p.st∈N.shops then (⟨0,0⟩,false,8)
  else (⟨IG t p.st,t.gauge⟩,!decide (t.gauge=p.ga),0)
section
variable {W:Wag} {N:Net} {rbl:List Int} {p:Plc} {tr:Nat}
theorem runM_7 (h1:¬ p.st=(N.tracks.getD tr AB).a) (h2:¬ p.st=(N.tracks.getD tr AB).b):CT W N rbl p tr=(⟨0,0⟩,false,7):=if_pos ⟨h1,h2⟩
theorem runM_r {s:Int} (h:p.st=(N.tracks.getD tr AB).a∨p.st=(N.tracks.getD tr AB).b) (hs:IG (N.tracks.getD tr AB) p.st=s) (hr:(tr:Int)∈rbl):CT W N rbl p tr=(⟨s,p.ga⟩,false,0):=by
  unfold CT;simp only;rw [if_neg (fun q=>h.elim q.1 q.2),if_pos hr,hs]
theorem runM_b (h:p.st=(N.tracks.getD tr AB).a∨p.st=(N.tracks.getD tr AB).b) (hr:¬ (tr:Int)∈rbl) (hb:¬ (BU W (N.tracks.getD tr AB) 6).length=0):CT W N rbl p tr=(⟨0,0⟩,false,(BU W (N.tracks.getD tr AB) 6).getD 0 0):=by
  unfold CT;simp only;rw [if_neg (fun q=>h.elim q.1 q.2),if_neg hr,if_pos hb]
theorem runM_8 (h:p.st=(N.tracks.getD tr AB).a∨p.st=(N.tracks.getD tr AB).b) (hr:¬ (tr:Int)∈rbl) (hb:(BU W (N.tracks.getD tr AB) 6).length=0) (hg:¬ (N.tracks.getD tr AB).gauge=p.ga) (hp:¬ p.st∈N.shops):CT W N rbl p tr=(⟨0,0⟩,false,8):=by
  unfold CT;simp only;rw [if_neg (fun q=>h.elim q.1 q.2),if_neg hr,if_neg (fun q=>q hb),if_pos ⟨hg,hp⟩]
theorem runM_k {s : Int} (h : p.st = (N.tracks.getD tr AB).a ∨ p.st = (N.tracks.getD tr AB).b) (hs : IG (N.tracks.getD tr AB) p.st = s) (hr : ¬ (tr : Int) ∈ rbl) (hb : (BU W (N.tracks.getD tr AB) 6).length = 0) (hg : (N.tracks.getD tr AB).gauge = p.ga ∨ p.st ∈ N.shops) :
    CT W N rbl p tr=(⟨s,(N.tracks.getD tr AB).gauge⟩,!decide ((N.tracks.getD tr AB).gauge=p.ga),0):=by
  unfold CT;simp only;rw [if_neg (fun q=>h.elim q.1 q.2),if_neg hr,if_neg (fun q=>q hb),if_neg (fun q=>hg.elim q.1 q.2),hs]
end
structure Lst where
  a:Option Addr
  c:Nat
  l:List Int
def noLst:Lst:=⟨none,0,[]⟩
def EW (W:Wag) (N:Net) (rbl:List Int):Plc→List Int→Int→Int→Int × Int × Int
  | _,[],c,_=>(c,-1,0)
  | p,t::r,c,i=>if (CT W N rbl p t.toNat).2.2=0 then EW W N rbl (CT W N rbl p t.toNat).1 r (if (CT W N rbl p t.toNat).2.1=true then c+1 else c) (i+1) else (c,i,(CT W N rbl p t.toNat).2.2)
section
variable {W:Wag} {N:Net} {rbl:List Int} {p:Plc} {L:List Int} {k:Nat} {c:Int}
theorem NN {L:List Int} {k:Nat} (hk:k<L.length):L.drop k=L.getD k 0::L.drop (k+1):=by
  rw [Ch hk,List.getD,Bf hk];rfl
theorem along_stop (hk:k<L.length) (h:¬ (CT W N rbl p (L.getD k 0).toNat).2.2=0):EW W N rbl p (L.drop k) c k=(c,(k:Int),(CT W N rbl p (L.getD k 0).toNat).2.2):=by
  rw [NN hk];exact if_neg h
theorem along_yes (hk:k<L.length) (h:(CT W N rbl p (L.getD k 0).toNat).2.2=0) (hc:(CT W N rbl p (L.getD k 0).toNat).2.1=true):EW W N rbl p (L.drop k) c k=EW W N rbl (CT W N rbl p (L.getD k 0).toNat).1 (L.drop (k+1)) (c+1) ((k+1:Nat):Int):=by
  rw [NN hk,EW,if_pos h,if_pos hc];rfl
theorem along_no (hk:k<L.length) (h:(CT W N rbl p (L.getD k 0).toNat).2.2=0) (hc:(CT W N rbl p (L.getD k 0).toNat).2.1=false):EW W N rbl p (L.drop k) c k=EW W N rbl (CT W N rbl p (L.getD k 0).toNat).1 (L.drop (k+1)) c ((k+1:Nat):Int):=by
  rw [NN hk,EW,if_pos h,if_neg (by rw [hc];decide)];rfl
theorem along_done (hk:L.length≤k):EW W N rbl p (L.drop k) c k=(c,-1,0):=by rw [List.drop_of_length_le hk];rfl
end
theorem goTrack_inv {n:Nat} {fin:List Int→Int}:∀ (t met:List Int),met.Nodup→FQ n fin t met=0→(∀ c∈t,0≤c∧c<n)∧(met++t).Nodup∧fin (met++t)=0:=by
  intro t
  induction t with
  | nil=>intro met hn h;exact ⟨fun _ h=>by simp at h,by simpa using hn,by simpa [FQ] using h⟩
  | cons c r ih=>
    intro met hn h;simp only [FQ] at h
    split at h
    · rename_i h1
      split at h
      · cases h
      · rename_i h2
        have hn':(met++[c]).Nodup:=Au.2 ⟨hn,by simp,fun a ha b hb=>by simp at hb;subst hb;intro e;subst e;exact h2 ha⟩;obtain ⟨g1,g2,g3⟩:=ih (met++[c]) hn' h;have:=JA h1;rw [Am] at g2 g3;refine ⟨fun x hx=>?_,g2,g3⟩;rcases Ac.1 hx with e | hx
        · subst e;omega
        · exact g1 x hx
    · cases h
theorem goTracks_inv {cs : List Car} {fin : List Int → Int} : ∀ (ts : List (List Int)) (rm met : List Int), met.Nodup → EU cs fin ts rm met = 0 →
    OkAll cs ts∧(met++ts.flatten).Nodup∧fin (met++ts.flatten)=0∧∀ k,k<ts.length→lenOf cs (ts.getD k [])≤rm.getD k 0:=by
  intro ts
  induction ts with
  | nil=>intro rm met hn h;exact ⟨OkAll.nil,by simpa using hn,by simpa [EU] using h,fun k hk=>by simp at hk⟩
  | cons t r ih=>
    intro rm met hn h;simp only [EU] at h;obtain ⟨g1,g2,g3⟩:=goTrack_inv t met hn h
    split at g3
    · cases g3
    · rename_i hl
      obtain ⟨k1,k2,k3,k4⟩:=ih rm.tail (met++t) g2 g3;rw [Am] at k2 k3;refine ⟨fun x hx=>?_,by simpa using k2,by simpa using k3,fun k hk=>?_⟩
      · rcases Ac.1 hx with e | hx
        · subst e;exact g1
        · exact k1 x hx
      · cases k with
        | zero=>
          simp only [Cf];have:rm.headD 0=rm.getD 0 0:=by cases rm <;> rfl
          omega
        | succ k=>
          have:=k4 k (by simpa using hk);simp only [Ca];have e:rm.tail.getD k 0=rm.getD (k+1) 0:=by cases rm <;> rfl
          omega
structure Fine (Y:Yard):Prop where
  cars:Y.cars.length≤5
  carOk:∀ c∈Y.cars,EX c=0
  room1:0<Y.room.length
  room3:Y.room.length≤3
  roomOk:∀ n∈Y.room,inB n 0 20=true
  len:Y.tracks.length=Y.room.length
  ok:OkAll Y.cars Y.tracks
  nodup:Y.tracks.flatten.Nodup
  fits:∀ k,k<Y.tracks.length→lenOf Y.cars (Y.tracks.getD k [])≤Y.room.getD k 0
  all:Y.cars.length≤Y.tracks.flatten.length
  groups:EY Y=0
theorem Valid.fine {Y:Yard} (h:Valid Y):Fine Y:=by
  unfold Valid BF at h
  split at h
  · cases h
  rename_i h1
  split at h
  · rename_i h2
    split at h
    · cases h
    rename_i h3
    split at h
    · cases h
    rename_i h4
    split at h
    · rename_i h5
      unfold FN at h
      split at h
      · rename_i h6
        obtain ⟨g1,g2,g3,g4⟩:=goTracks_inv _ _ [] (by simp) h;simp only [De] at g2 g3
        split at g3
        · cases g3
        · rename_i h7
          exact ⟨by omega,fun c hc=>Bu (Ax.1 h2 c hc),by omega,by omega,fun n hn=>Ax.1 h5 n hn,h6,g1,g2,g4,by omega,g3⟩
      · cases h
    · cases h
  · cases h
theorem JE {l:List Int} {n:Nat} (hn:l.Nodup) (h:∀ c∈l,0≤c∧c<n):l.length≤n:=by
  have hs:l ⊆ (List.range n).map (fun k:Nat=>(k:Int)):=fun c hc=>by
    have:=h c hc;exact Ai.2 ⟨c.toNat,Bl.2 (by omega),by omega⟩
  have:=hn.length_le_of_subset hs
  simpa using this
theorem MC {cs:List Car} {ts:List (List Int)} (h:OkAll cs ts):Ok cs ts.flatten:=fun c hc=>by
  obtain ⟨t,ht,hc⟩:=List.mem_flatten.1 hc;exact h t ht c hc
theorem Fine.sum {Y:Yard} (h:Fine Y):Y.tracks.flatten.length≤5:=Cv (JE h.nodup (MC h.ok)) h.cars
theorem Fine.good {Y:Yard} (h:Fine Y):GoodY Y:=⟨h.ok,small_of_ok h.carOk,h.len.symm,h.sum⟩
theorem Valid.good {Y:Yard} (h:Valid Y):GoodY Y:=h.fine.good
theorem Valid.lens {Y:Yard} (h:Valid Y):Y.cars.length≤1000000∧Y.room.length≤1000000∧Y.tracks.length≤1000000:=by
  have:=h.fine.cars;have:=h.fine.room3;have:=h.fine.len;omega
structure MayOk (Y:Yard) (s:Shift):Prop where
  frm:0≤s.frm∧s.frm<Y.tracks.length
  to:0≤s.to∧s.to<Y.tracks.length
  ne:s.frm≠s.to
  many:1≤s.many∧s.many≤(Y.tracks.getD s.frm.toNat []).length
  free:DA Y.cars (trk Y s.frm) (EI Y s)=false
  fits:lenOf Y.cars ((trk Y s.frm).drop (EI Y s).toNat)+lenOf Y.cars (trk Y s.to)≤Y.room.getD s.to.toNat 0
theorem mayOk {Y:Yard} {s:Shift} (h:BX Y s=0):MayOk Y s:=by
  unfold BX at h
  split at h
  · rename_i h1
    split at h
    · rename_i h2
      split at h
      · cases h
      rename_i h3
      split at h
      · cases h
      rename_i h4
      split at h
      · cases h
      rename_i h5
      split at h
      · cases h
      rename_i h6
      have:=JA h1;have:=JA h2;simp only [Bw,not_or,Bool.not_eq_true,Ay,Int.not_lt] at h6;exact ⟨by omega,by omega,h3,⟨by omega,by have:=h5;unfold trk at this;omega⟩,h6.1,h6.2⟩
    · cases h
  · cases h
theorem mayErr_ok {Y:Yard} {s:Shift} (h:BX Y s=0):(0≤s.frm∧s.frm<Y.tracks.length)∧(0≤s.to∧s.to<Y.tracks.length)∧(0≤s.many∧s.many≤(Y.tracks.getD s.frm.toNat []).length):=by
  have:=mayOk h;exact ⟨this.frm,this.to,by have:=this.many;omega⟩
theorem okAll_set {cs:List Car} {ts:List (List Int)} (h:OkAll cs ts) (i:Nat) {x:List Int} (hx:Ok cs x):OkAll cs (ts.set i x):=fun t ht=>by
  rcases Cp ht with ht | e
  · exact h t ht
  · subst e;exact hx
theorem OkAll.trk {Y:Yard} (h:OkAll Y.cars Y.tracks) {i:Int} (hi:0≤i∧i<Y.tracks.length):Ok Y.cars (trk Y i):=h.at i.toNat (by omega)
theorem GoodY.moved {Y:Yard} {s:Shift} (h:GoodY Y) (hm:BX Y s=0):GoodY (moved Y s):=by
  have m:=mayOk hm;refine ⟨?_,h.small,by simp only [Go.Sh.moved,Bv];exact h.len,?_⟩
  · exact okAll_set (okAll_set h.ok _ ((h.ok.trk m.to).append ((h.ok.trk m.frm).drop _))) _ ((h.ok.trk m.frm).take _)
  · rw [(NS m.frm m.to m.ne).length_eq];exact h.sum
theorem play_bad {Y:Yard} {l:List Shift} (h:BF Y≠0):FC Y l=(LO,BF Y):=if_neg h
theorem JC {Y:Yard} {l:List Shift} (h:Valid Y):FC Y l=BN Y l:=if_pos h
theorem playFrom_next {Y:Yard} {l:List Shift} {k:Nat} (hk:k<l.length) (h:BX Y (l.getD k noShift)=0):BN Y (l.drop k)=BN (moved Y (l.getD k noShift)) (l.drop (k+1)):=by
  rw [BV (d:=noShift) hk];simp only [BN];rw [if_pos h]
theorem PZ {Y:Yard} {l:List Shift} {k:Nat} (hk:k<l.length) (h:BX Y (l.getD k noShift)≠0):BN Y (l.drop k)=(LO,BX Y (l.getD k noShift)):=by
  rw [BV (d:=noShift) hk];simp only [BN];rw [if_neg h]
theorem NY {Y:Yard} {l:List Shift} {k:Nat} (hk:l.length≤k):BN Y (l.drop k)=(Y,0):=by rw [DJ hk];rfl
theorem carOk_range {c:Car} (h:EX c=0):(1≤c.len∧c.len≤4)∧(1≤c.wt∧c.wt≤60)∧(0≤c.brk∧c.brk≤c.wt)∧(0≤c.grp∧c.grp≤3):=by
  rw [EX] at h
  split at h
  · rename_i hb
    simp only [Ah] at hb;exact ⟨JA hb.1.1.1,JA hb.1.1.2,JA hb.1.2,JA hb.2⟩
  · cases h
end Go.Sh
namespace Go.Sl
open Go
inductive SK where
  | i (k:IntKind)
  | b
  | s
  deriving DecidableEq
def skV:Value→Option SK
  | .int k _=>some (.i k)
  | .bool _=>some .b
  | .string _=>some .s
  | _=>none
def scE:Value→Value→Bool
  | .int _ a,.int _ b=>a == b
  | .bool a,.bool b=>a == b
  | .string a,.string b=>a == b
  | _,_=>false
def FO (rec:TypeId→Option (Nat × List (Nat × SK))) (sz:Nat):List Field→Option (List (Nat × SK))
  | []=>some []
  | f::r=>if f.name="_" then none else match rec f.type,FO rec sz r with
    | some (sf,L),some M=>if f.offset+sf≤sz then some (L.map (fun x=>(f.offset+x.1,x.2))++M) else none
    | _,_=>none
def KK (P:Program):Nat→TypeId→Option (Nat × List (Nat × SK))
  | 0,_=>none
  | n+1,t=>
    match P.underlying t,CW P t with
    | some (.int k),some 1=>some (1,[(0,.i k)])
    | some .bool,some 1=>some (1,[(0,.b)])
    | some .string,some 1=>some (1,[(0,.s)])
    | some (.array len e),some sz=>match KK P n e with
      | some (se,L)=>if len*se=sz then some (sz,(List.range len).flatMap fun i=>L.map fun x=>(i*se+x.1,x.2)) else none
      | none=>none
    | some (.struct fs),some sz=>if P.stoodInHeld t then none else match FO (KK P n) sz fs.toList with
      | some L=>some (sz,L)
      | none=>none
    | _,_=>none
def okC (xs:Array Value) (L:List (Nat × SK)):Bool:=L.all fun x=>match xs[x.1]? with
  | some v=>decide (skV v=some x.2)
  | none=>false
def eqC (xs ys:Array Value) (L:List (Nat × SK)):Bool:=L.all fun x=>match xs[x.1]?,ys[x.1]? with
  | some a,some b=>scE a b
  | _,_=>false
def CellsOf (P:Program) (t:TypeId) (v:Value) (xs:Array Value):Prop:=(DR P t=some true∧v=.agg xs)∨(DR P t=some false∧xs=#[v])
section
variable {P:Program} {I:Imm} {M:Seg}
theorem flat_size {n:Nat} {t:TypeId} {sz:Nat} {L:List (Nat × SK)} (h:KK P n t=some (sz,L)):CW P t=some sz:=by
  cases n with
  | zero=>cases h
  | succ n=>
    unfold KK at h
    split at h
    · cases h;assumption
    · cases h;assumption
    · cases h;assumption
    · split at h
      · split at h
        · cases h;assumption
        · cases h
      · cases h
    · split at h
      · cases h
      · split at h
        · cases h;assumption
        · cases h
    · cases h
theorem flat_agg {n:Nat} {t:TypeId} {sz:Nat} {L:List (Nat × SK)} (h:KK P n t=some (sz,L)):DR P t=some true∨(DR P t=some false∧sz=1):=by
  cases n with
  | zero=>cases h
  | succ n=>
    unfold KK at h;unfold DR
    split at h <;> rename_i hu hs <;> first | (cases h;done) | (rw [hu];first | exact .inl rfl | (cases h;exact .inr ⟨rfl,rfl⟩))
theorem KH {n : Nat} {t : TypeId} {sz off : Nat} {L : List (Nat × SK)} {cs : Array Value} {Q : Value → Seg → Prop} (h : KK P n t = some (sz, L)) (hle : off + sz ≤ cs.size)
    (hq:∀ v,CellsOf P t v (cs.extract off (off+sz))→Q v M):wpL P (part t cs off) Q I M:=by
  unfold part;rcases flat_agg h with ha | ⟨ha,rfl⟩
  · rw [AE,LV ha]
    simp only [if_true];rw [AE,CG (flat_size h)];exact hq _ (.inl ⟨ha,rfl⟩)
  · rw [AE,LV ha]
    have hlt:off<cs.size:=by omega
    simp only [Bz,if_false,Array.getElem?_eq_getElem hlt];refine hq _ (.inr ⟨ha,?_⟩)
    apply Array.ext
    · simp;omega
    · intro i h1 h2
      have:i=0:=by simp at h2;omega
      subst this;simp
theorem okC_map {xs : Array Value} {L : List (Nat × SK)} {off sz : Nat} (hle : off + sz ≤ xs.size) (hL : ∀ x ∈ L, x.1 < sz) :
    okC xs (L.map fun x=>(off+x.1,x.2))=okC (xs.extract off (off+sz)) L:=by
  induction L with
  | nil=>rfl
  | cons x L ih=>
    have hx:=hL x Aj;have ih':=ih (fun y hy=>hL y (Ag _ hy));have e:(xs.extract off (off+sz))[x.1]?=xs[off+x.1]?:=by
      rw [Array.getElem?_extract];rw [if_pos (by omega)]
    simp only [okC,Aw,List.all_cons,e] at ih' ⊢;rw [ih']
theorem eqC_map {xs ys : Array Value} {L : List (Nat × SK)} {off sz : Nat} (hx : off + sz ≤ xs.size) (hy : off + sz ≤ ys.size) (hL : ∀ x ∈ L, x.1 < sz) :
    eqC xs ys (L.map fun x=>(off+x.1,x.2))=eqC (xs.extract off (off+sz)) (ys.extract off (off+sz)) L:=by
  induction L with
  | nil=>rfl
  | cons x L ih=>
    have hx':=hL x Aj;have ih':=ih (fun y hy=>hL y (Ag _ hy));have e:(xs.extract off (off+sz))[x.1]?=xs[off+x.1]?:=by
      rw [Array.getElem?_extract,if_pos (by omega)]
    have e':(ys.extract off (off+sz))[x.1]?=ys[off+x.1]?:=by
      rw [Array.getElem?_extract,if_pos (by omega)]
    simp only [eqC,Aw,List.all_cons,e,e'] at ih' ⊢;rw [ih']
theorem okC_append {xs:Array Value} {A B:List (Nat × SK)}:okC xs (A++B)=(okC xs A&&okC xs B):=by simp [okC]
theorem eqC_append {xs ys:Array Value} {A B:List (Nat × SK)}:eqC xs ys (A++B)=(eqC xs ys A&&eqC xs ys B):=by simp [eqC]
theorem flat_lt:∀ (n:Nat) (t:TypeId) (sz:Nat) (L:List (Nat × SK)),KK P n t=some (sz,L)→∀ x∈L,x.1<sz:=by
  intro n
  induction n with
  | zero=>intro t sz L h;cases h
  | succ n ih=>
    intro t sz L h x hx;unfold KK at h
    split at h
    · cases h;simp at hx;subst hx;simp
    · cases h;simp at hx;subst hx;simp
    · cases h;simp at hx;subst hx;simp
    · rename_i len e sz' hu hs
      split at h
      · rename_i se Le he
        split at h
        · cases h
          obtain ⟨i,hi,hx⟩:=List.mem_flatMap.1 hx;obtain ⟨y,hy,rfl⟩:=Ai.1 hx;have h1:=ih _ _ _ he y hy;have h2:=Bl.1 hi;have:i*se+se≤len*se:=by rw [← Nat.succ_mul];exact Nat.mul_le_mul_right _ h2
          simp only;omega
        · cases h
      · cases h
    · split at h
      · cases h
      · split at h
        · rename_i fs sz' hu hs _ L' hf
          cases h;have key:∀ (fs:List Field) (L:List (Nat × SK)),FO (KK P n) sz fs=some L→∀ x∈L,x.1<sz:=by
            intro fs
            induction fs with
            | nil=>intro L hL x hx;simp only [FO,Cj] at hL;subst hL;simp at hx
            | cons f fs ihf=>
              intro L hL x hx;simp only [FO] at hL
              split at hL
              · cases hL
              · split at hL
                · rename_i sf Lf Mf h1 h2
                  split at hL
                  · rename_i hle
                    cases hL;rcases Ab.1 hx with hx | hx
                    · obtain ⟨y,hy,rfl⟩:=Ai.1 hx
                      have:=ih _ _ _ h1 y hy;simp only;omega
                    · exact ihf _ h2 x hx
                  · cases hL
                · cases hL
          exact key _ _ hf x hx
        · cases h
    · cases h
theorem wpL_equalF : ∀ (n : Nat) (t : TypeId) (sz : Nat) (L : List (Nat × SK)), KK P n t = some (sz, L) → ∀ (d : Nat), n ≤ d → ∀ (v u : Value) (xs ys : Array Value), CellsOf P t v xs → CellsOf P t u ys → xs.size = sz → ys.size = sz →
    okC xs L=true→okC ys L=true→∀ (Q:Bool→Seg→Prop),Q (eqC xs ys L) M→wpL P (Op.equalIn d t v u) Q I M:=by
  intro n
  induction n with
  | zero=>intro t sz L h;cases h
  | succ n ih=>
    intro t sz L h d hd v u xs ys hv hu hxs hys okx oky Q hq;obtain ⟨d,rfl⟩:∃ d',d=d'+1:=⟨d-1,by omega⟩;have hfl:=h;unfold KK at h
    split at h
    · rename_i k hun hs
      cases h;have ha:DR P t=some false:=by unfold DR;rw [hun]
      rcases hv with ⟨hv,_⟩ | ⟨_,rfl⟩
      · rw [ha] at hv;cases hv
      rcases hu with ⟨hu,_⟩ | ⟨_,rfl⟩
      · rw [ha] at hu;cases hu
      have h1:skV v=some (.i k):=by simpa [okC] using okx
      have h2:skV u=some (.i k):=by simpa [okC] using oky
      cases v <;> simp [skV] at h1
      cases u <;> simp [skV] at h2
      subst h1;subst h2;unfold Op.equalIn;rw [AE,AK hun];simp only [if_true];simp [eqC,scE] at hq;exact hq
    · rename_i hun hs
      cases h;have ha:DR P t=some false:=by unfold DR;rw [hun]
      rcases hv with ⟨hv,_⟩ | ⟨_,rfl⟩
      · rw [ha] at hv;cases hv
      rcases hu with ⟨hu,_⟩ | ⟨_,rfl⟩
      · rw [ha] at hu;cases hu
      have h1:skV v=some .b:=by simpa [okC] using okx
      have h2:skV u=some .b:=by simpa [okC] using oky
      cases v <;> simp [skV] at h1
      cases u <;> simp [skV] at h2
      unfold Op.equalIn;rw [AE,AK hun];simp [eqC,scE] at hq;exact hq
    · rename_i hun hs
      cases h;have ha:DR P t=some false:=by unfold DR;rw [hun]
      rcases hv with ⟨hv,_⟩ | ⟨_,rfl⟩
      · rw [ha] at hv;cases hv
      rcases hu with ⟨hu,_⟩ | ⟨_,rfl⟩
      · rw [ha] at hu;cases hu
      have h1:skV v=some .s:=by simpa [okC] using okx
      have h2:skV u=some .s:=by simpa [okC] using oky
      cases v <;> simp [skV] at h1
      cases u <;> simp [skV] at h2
      unfold Op.equalIn;rw [AE,AK hun];simp [eqC,scE] at hq;exact hq
    · rename_i len e sz' hun hs
      split at h
      · rename_i se Le he
        split at h
        · rename_i hsz
          cases h;have ha:DR P t=some true:=by unfold DR;rw [hun]
          rcases hv with ⟨_,rfl⟩ | ⟨hv,_⟩
          case inr=>rw [ha] at hv;cases hv
          rcases hu with ⟨_,rfl⟩ | ⟨hu,_⟩
          case inr=>rw [ha] at hu;cases hu
          unfold Op.equalIn;rw [AE,AK hun];simp only;rw [AE,CG (flat_size he)]
          have key : ∀ (m j : Nat) (Q : Bool → Seg → Prop), j + m = len → okC xs ((List.range' j m).flatMap fun i => Le.map fun x => (i * se + x.1, x.2)) = true → okC ys ((List.range' j m).flatMap fun i => Le.map fun x => (i * se + x.1, x.2)) = true →
              Q (eqC xs ys ((List.range' j m).flatMap fun i=>Le.map fun x=>(i*se+x.1,x.2))) M→wpL P (do
                for i in List.range' j m do
                  if !(← Op.equalIn d e (← part e xs (i*se)) (← part e ys (i*se))) then return false
                pure true:Sem Bool) Q I M:=by
            intro m
            induction m with
            | zero=>intro j Q _ _ _ hq;simpa [eqC,EG] using hq
            | succ m ihm=>
              intro j Q hj ok1 ok2 hq;rw [List.range'_succ,Dc] at ok1 ok2 hq;rw [okC_append,Ah] at ok1 ok2;rw [eqC_append] at hq;have hle:j*se+se≤len*se:=by rw [← Nat.succ_mul];exact Nat.mul_le_mul_right _ (by omega)
              have hlt:=flat_lt n e se Le he;rw [okC_map (sz:=se) (by omega) hlt] at ok1 ok2;rw [eqC_map (sz:=se) (by omega) (by omega) hlt] at hq;rw [List.range'_succ];have next:=fun hq=>ihm (j+1) Q (by omega) ok1.2 ok2.2 hq
              simp only [List.forIn_cons] at next ⊢;rw [AE,AE,AE];refine KH he (by omega) fun a ca=>?_
              rw [AE];refine KH he (by omega) fun b cb=>?_
              rw [AE];refine ih e se Le he d (by omega) a b _ _ ca cb (by simp;omega) (by simp;omega) ok1.1 ok2.1 _ ?_;cases hb:eqC (xs.extract (j*se) (j*se+se)) (ys.extract (j*se) (j*se+se)) Le with
              | false=>rw [hb] at hq;exact hq
              | true=>
                rw [hb,Bool.true_and] at hq;have:=next hq;rw [AE] at this;exact this
          rw [Std.Legacy.Range.forIn_eq_forIn_range'];have:=key len 0 Q (by omega) (by rwa [← List.range_eq_range']) (by rwa [← List.range_eq_range']) (by rwa [← List.range_eq_range'])
          simpa using this
        · cases h
      · cases h
    · rename_i fs sz' hun hs
      split at h
      · cases h
      · rename_i hst
        split at h
        · rename_i L' hf
          cases h;have ha:DR P t=some true:=by unfold DR;rw [hun]
          rcases hv with ⟨_,rfl⟩ | ⟨hv,_⟩
          case inr=>rw [ha] at hv;cases hv
          rcases hu with ⟨_,rfl⟩ | ⟨hu,_⟩
          case inr=>rw [ha] at hu;cases hu
          unfold Op.equalIn;rw [AE,AK hun];show wpL P (program >>= _) Q I M;rw [AE];show wpL P _ Q I M;simp only [hst,Bz,if_false]
          have key : ∀ (fs : List Field) (L : List (Nat × SK)), FO (KK P n) sz fs = some L → okC xs L = true → okC ys L = true → Q (eqC xs ys L) M → wpL P (do
              for f in fs do
                if f.name≠"_" then
                  if !(← Op.equalIn d f.type (← part f.type xs f.offset) (← part f.type ys f.offset)) then return false
              pure true:Sem Bool) Q I M:=by
            intro fs
            induction fs with
            | nil=>intro L hL _ _ hq;simp only [FO,Cj] at hL;subst hL;exact hq
            | cons f fs ihf=>
              intro L hL ok1 ok2 hq;simp only [FO] at hL
              split at hL
              · cases hL
              · rename_i hne
                split at hL
                · rename_i sf Lf Mf h1 h2
                  split at hL
                  · rename_i hle
                    cases hL;have hlt:=flat_lt n f.type sf Lf h1;rw [okC_append,okC_map (sz:=sf) (by omega) hlt,Ah] at ok1 ok2;rw [eqC_append,eqC_map (sz:=sf) (by omega) (by omega) hlt] at hq;have next:=fun hq=>ihf Mf h2 ok1.2 ok2.2 hq
                    simp only [List.forIn_cons] at next ⊢;rw [AE,AE];simp only [ne_eq,hne,not_false_eq_true,if_true];rw [AE];refine KH h1 (by omega) fun a ca=>?_
                    rw [AE];refine KH h1 (by omega) fun b cb=>?_
                    rw [AE];refine ih f.type sf Lf h1 d (by omega) a b _ _ ca cb (by simp;omega) (by simp;omega) ok1.1 ok2.1 _ ?_;cases hb:eqC (xs.extract f.offset (f.offset+sf)) (ys.extract f.offset (f.offset+sf)) Lf with
                    | false=>rw [hb] at hq;exact hq
                    | true=>
                      rw [hb,Bool.true_and] at hq;have:=next hq;rw [AE] at this;exact this
                  · cases hL
                · cases hL
          have:=key fs.toList _ hf okx oky hq;simp only [Array.forIn_toList] at this;exact this
        · cases h
    · cases h
theorem wpL_checkF : ∀ (n : Nat) (t : TypeId) (sz : Nat) (L : List (Nat × SK)), KK P n t = some (sz, L) → ∀ (d : Nat), n ≤ d → ∀ (em : Bool) (v : Value) (xs : Array Value), CellsOf P t v xs → xs.size = sz →
    ∀ (Q:Unit→Seg→Prop),Q () M→wpL P (Instr.checkKey em d t v) Q I M:=by
  intro n
  induction n with
  | zero=>intro t sz L h;cases h
  | succ n ih=>
    intro t sz L h d hd em v xs hv hxs Q hq;obtain ⟨d,rfl⟩:∃ d',d=d'+1:=⟨d-1,by omega⟩;unfold KK at h
    split at h
    · rename_i k hun hs
      unfold Instr.checkKey;rw [AE,AK hun];exact hq
    · rename_i hun hs
      unfold Instr.checkKey;rw [AE,AK hun];exact hq
    · rename_i hun hs
      unfold Instr.checkKey;rw [AE,AK hun];exact hq
    · rename_i len e sz' hun hs
      split at h
      · rename_i se Le he
        split at h
        · rename_i hsz
          cases h;have ha:DR P t=some true:=by unfold DR;rw [hun]
          rcases hv with ⟨_,rfl⟩ | ⟨hv,_⟩
          case inr=>rw [ha] at hv;cases hv
          unfold Instr.checkKey;rw [AE,AK hun];simp only
          have key : ∀ (m j : Nat) (Q : Unit → Seg → Prop), j + m = len → Q () M → wpL P (do
                for i in List.range' j m do Instr.checkKey em d e (← part e xs (i*(← sizeOf e))):Sem Unit) Q I M:=by
            intro m
            induction m with
            | zero=>intro j Q _ hq;simpa [EG] using hq
            | succ m ihm=>
              intro j Q hj hq;have hle:j*se+se≤len*se:=by rw [← Nat.succ_mul];exact Nat.mul_le_mul_right _ (by omega)
              rw [List.range'_succ];have next:=ihm (j+1) Q (by omega) hq;simp only [List.forIn_cons] at next ⊢;rw [AE,AE,AE,CG (flat_size he),AE];refine KH he (by omega) fun a ca=>?_
              rw [AE];refine ih e se Le he d (by omega) em a _ ca (by simp;omega) _ ?_;rw [AE] at next;exact next
          rw [Std.Legacy.Range.forIn_eq_forIn_range'];have:=key len 0 Q (by omega) hq
          simpa using this
        · cases h
      · cases h
    · rename_i fs sz' hun hs
      split at h
      · cases h
      · split at h
        · rename_i L' hf
          cases h;have ha:DR P t=some true:=by unfold DR;rw [hun]
          rcases hv with ⟨_,rfl⟩ | ⟨hv,_⟩
          case inr=>rw [ha] at hv;cases hv
          unfold Instr.checkKey;rw [AE,AK hun];simp only
          have key : ∀ (fs : List Field) (L : List (Nat × SK)), FO (KK P n) sz fs = some L → Q () M → wpL P (do
              for f in fs do
                if f.name≠"_" then Instr.checkKey em d f.type (← part f.type xs f.offset):Sem Unit) Q I M:=by
            intro fs
            induction fs with
            | nil=>intro L hL hq;exact hq
            | cons f fs ihf=>
              intro L hL hq;simp only [FO] at hL
              split at hL
              · cases hL
              · rename_i hne
                split at hL
                · rename_i sf Lf Mf h1 h2
                  split at hL
                  · rename_i hle
                    have next:=ihf Mf h2 hq;simp only [List.forIn_cons] at next ⊢;simp only [ne_eq,hne,not_false_eq_true,if_true];rw [AE,AE,AE];refine KH h1 (by omega) fun a ca=>?_
                    rw [AE];refine ih f.type sf Lf h1 d (by omega) em a _ ca (by simp;omega) _ ?_;rw [AE] at next;exact next
                  · cases hL
                · cases hL
          have:=key fs.toList _ hf hq;simp only [Array.forIn_toList] at this;exact this
        · cases h
    · cases h
theorem keyOk_flat {κ : Type} [DecidableEq κ] {kt : TypeId} {n sz : Nat} {L : List (Nat × SK)} (hflat : KK P n kt = some (sz, L)) (hn : n ≤ 10000) (hagg : DR P kt = some true) (cells : κ → Array Value) (hsz : ∀ k, (cells k).size = sz)
    (hok:∀ k,okC (cells k) L=true) (heq:∀ a b,eqC (cells a) (cells b) L=decide (a=b)):KeyOk P kt (fun k=>.agg (cells k)) where
  inj:=fun a b e=>by
    simp only [Value.agg.injEq] at e;have h1:=heq a a;have h2:=heq a b;rw [← e,h1] at h2
    simpa using h2
  check:=fun em k Q I M hq=>wpL_checkF n kt sz L hflat 10000 hn em _ _ (.inl ⟨hagg,rfl⟩) (hsz k) Q hq
  find:=fun k es kvs Q I M hes hq=>by
    unfold Instr.findKey;obtain ⟨td,htd,hfn⟩:∃ td,P.underlying kt=some td∧∀ (x y:Value),Instr.sameNow td (.agg x.cells) y=none:=by
      unfold DR at hagg
      split at hagg
      · rename_i h;exact ⟨_,h,fun _ _=>rfl⟩
      · rename_i h;exact ⟨_,h,fun _ _=>rfl⟩
      · cases hagg
      · cases hagg
    rw [AE,AK htd]
    have ask : ∀ (es : List MapEntry) (kvs : List (κ × Value)) (i : Nat) (Q : Option (Nat × Value) → Seg → Prop), es.map (fun e => (e.key, e.val)) = kvs.map (MM fun k => .agg (cells k)) → Q (HD k kvs i) M →
        wpL P (Instr.findAsking kt (.agg (cells k)) es i) Q I M:=by
      intro es
      induction es with
      | nil=>
        intro kvs i Q h hq;cases kvs with
        | nil=>exact hq
        | cons x r=>simp at h
      | cons e es ih=>
        intro kvs i Q h hq;cases kvs with
        | nil=>simp at h
        | cons x r=>
          simp only [Aw,List.cons.injEq,MM,Bs] at h;obtain ⟨⟨h1,h2⟩,h3⟩:=h;unfold Instr.findAsking;rw [AE];unfold Op.equal;rw [h1];refine wpL_equalF n kt sz L hflat _ (by show n≤10000;exact hn) _ _ _ _ (.inl ⟨hagg,rfl⟩) (.inl ⟨hagg,rfl⟩) (hsz _) (hsz _) (hok _) (hok _) _ ?_;rw [heq];simp only [HD] at hq
          by_cases hx:x.1=k
          · rw [if_pos hx] at hq
            rw [if_pos (by simp [hx]),h2];exact hq
          · rw [if_neg hx] at hq
            rw [if_neg (by simpa using Ne.symm hx)];exact ih r (i+1) Q h3 hq
    cases es with
    | nil=>
      cases kvs with
      | nil=>exact hq
      | cons x r=>simp at hes
    | cons e es=>
      have h1:Instr.findNow td (.agg (cells k)) (e::es) 0=none:=by
        have:=hfn (.agg (cells k)) e.key;have h2:(Value.agg (cells k)).cells=cells k:=rfl;rw [h2] at this;simp only [Instr.findNow,this]
      simp only [h1];exact ask (e::es) kvs 0 Q hes hq
end
end Go.Sl
namespace Go.Sh
open Go Go.Sl
def mk3 (f t j:Nat):Shift:=⟨f,t,j⟩
def GK (Y:Yard) (f t k:Nat):List Shift:=((List.range' k ((Y.tracks.getD f []).length-k)).map fun j=>mk3 f t (j+1)).filter fun s=>decide (BX Y s=0)
def JL (Y:Yard) (f t:Nat):List Shift:=(List.range' t (Y.tracks.length-t)).flatMap fun t=>GK Y f t 0
def KU (Y:Yard) (f:Nat):List Shift:=(List.range' f (Y.tracks.length-f)).flatMap fun f=>JL Y f 0
def draws (Y:Yard):List Shift:=KU Y 0
theorem MJ {k n:Nat} (h:k<n):List.range' k (n-k)=k::List.range' (k+1) (n-(k+1)):=by
  have:n-k=(n-(k+1))+1:=by omega
  rw [this,List.range'_succ]
theorem drawsFT_yes {Y:Yard} {f t k:Nat} (h:k<(Y.tracks.getD f []).length) (hm:BX Y (mk3 f t (k+1))=0):GK Y f t k=mk3 f t (k+1)::GK Y f t (k+1):=by
  unfold GK;rw [MJ h];simp [hm]
theorem drawsFT_no {Y:Yard} {f t k:Nat} (h:k<(Y.tracks.getD f []).length) (hm:BX Y (mk3 f t (k+1))≠0):GK Y f t k=GK Y f t (k+1):=by
  unfold GK;rw [MJ h];simp [hm]
theorem drawsFT_done {Y:Yard} {f t k:Nat} (h:(Y.tracks.getD f []).length≤k):GK Y f t k=[]:=by
  unfold GK;rw [show (Y.tracks.getD f []).length-k=0 by omega];rfl
theorem drawsF_step {Y:Yard} {f t:Nat} (h:t<Y.tracks.length):JL Y f t=GK Y f t 0++JL Y f (t+1):=by
  unfold JL;rw [MJ h];simp
theorem drawsF_done {Y:Yard} {f t:Nat} (h:Y.tracks.length≤t):JL Y f t=[]:=by
  unfold JL;rw [show Y.tracks.length-t=0 by omega];rfl
theorem drawsY_step {Y:Yard} {f:Nat} (h:f<Y.tracks.length):KU Y f=JL Y f 0++KU Y (f+1):=by
  unfold KU;rw [MJ h];simp
theorem drawsY_done {Y:Yard} {f:Nat} (h:Y.tracks.length≤f):KU Y f=[]:=by
  unfold KU;rw [show Y.tracks.length-f=0 by omega];rfl
theorem GA {Y:Yard} {s:Shift} (h:s∈draws Y):BX Y s=0:=by
  simp only [draws,KU,JL,GK,List.mem_flatMap,Bh,Ay] at h;obtain ⟨_,_,_,_,_,h⟩:=h;exact h
theorem mem_draws {Y:Yard} {s:Shift}:s∈draws Y↔BX Y s=0:=by
  refine ⟨GA,fun h=>?_⟩;have m:=mayOk h;simp only [draws,KU,JL,GK,List.mem_flatMap,Bh,Ay,Ai,List.mem_range'_1];refine ⟨s.frm.toNat,by have:=m.frm;omega,s.to.toNat,by have:=m.to;omega,⟨(s.many-1).toNat,by have:=m.many;omega,?_⟩,h⟩;rcases s with ⟨a,b,c⟩
  have h1:=m.frm;have h2:=m.to;have h3:=m.many;simp only at h1 h2 h3;simp only [mk3,Shift.mk.injEq];omega
theorem flatMap_le {α β:Type} {f:α→List β} {c:Nat}:∀ (l:List α),(∀ x∈l,(f x).length≤c)→(l.flatMap f).length≤l.length*c:=by
  intro l
  induction l with
  | nil=>intro _;simp
  | cons x l ih=>
    intro h;rw [Dc,Ad,Aq,Nat.succ_mul];have:=h x Aj;have:=ih fun y hy=>h y (Ag _ hy)
    omega
theorem drawsFT_le {Y:Yard} (h:GoodY Y) (f t:Nat):(GK Y f t 0).length≤5:=by
  unfold GK;refine Cv (Cd _ _) ?_;rw [Bi,List.length_range',Cu]
  by_cases hf:f<Y.tracks.length
  · have:=GO (AO (d:=[]) hf);have:=h.sum;omega
  · simp [List.getD,List.getElem?_eq_none (Nat.le_of_not_lt hf)]
theorem draws_le {Y:Yard} (h:GoodY Y) (h3:Y.tracks.length≤3):(draws Y).length≤45:=by
  have h1:∀ f,(JL Y f 0).length≤15:=fun f=>by
    have:=flatMap_le (f:=fun t=>GK Y f t 0) (c:=5) (List.range' 0 (Y.tracks.length-0)) fun t _=>drawsFT_le h f t
    rw [List.length_range'] at this;unfold JL;omega
  have:=flatMap_le (f:=fun f=>JL Y f 0) (c:=15) (List.range' 0 (Y.tracks.length-0)) fun f _=>h1 f
  rw [List.length_range'] at this;unfold draws KU;omega
theorem GoodY.draws {Y:Yard} (h:GoodY Y) (hv:Valid Y):(draws Y).length≤1000000:=by
  have:=draws_le h (by have:=hv.fine.room3;have:=hv.fine.len;omega);omega
def putP (p:List Int) (c i k:Nat):List Int:=(p.set (2*c) i).set (2*c+1) k
def goPT (i:Nat):Nat→List Int→List Int→List Int
  | _,[],p=>p
  | k,c::r,p=>goPT i (k+1) r (putP p c.toNat i k)
def goP:Nat→List (List Int)→List Int→List Int
  | _,[],p=>p
  | i,t::ts,p=>goP (i+1) ts (goPT i 0 t p)
def zero10:List Int:=[0,0,0,0,0,0,0,0,0,0]
abbrev GI:={ l:List Int // l.length=10 }
theorem HM (p:List Int) (c i k:Nat):(putP p c i k).length=p.length:=by simp [putP]
theorem goPT_length (i:Nat):∀ (t:List Int) (k:Nat) (p:List Int),(goPT i k t p).length=p.length:=by
  intro t
  induction t with
  | nil=>intro k p;rfl
  | cons c r ih=>intro k p;rw [goPT,ih,HM]
theorem goP_length:∀ (ts:List (List Int)) (i:Nat) (p:List Int),(goP i ts p).length=p.length:=by
  intro ts
  induction ts with
  | nil=>intro i p;rfl
  | cons t ts ih=>intro i p;rw [goP,ih,goPT_length]
def BL (Y:Yard):GI:=⟨goP 0 Y.tracks zero10,by rw [goP_length];rfl⟩
theorem goPT_step {i j:Nat} {t p:List Int} (h:j<t.length):goPT i j (t.drop j) p=goPT i (j+1) (t.drop (j+1)) (putP p (t.getD j 0).toNat i j):=by
  rw [BV (d:=0) h];rfl
theorem goPT_done {i j:Nat} {t p:List Int} (h:t.length≤j):goPT i j (t.drop j) p=p:=by rw [DJ h];rfl
theorem goP_step {k:Nat} {ts:List (List Int)} {p:List Int} (h:k<ts.length):goP k (ts.drop k) p=goP (k+1) (ts.drop (k+1)) (goPT k 0 (ts.getD k []) p):=by
  rw [BV (d:=[]) h];rfl
theorem goP_done {k:Nat} {ts:List (List Int)} {p:List Int} (h:ts.length≤k):goP k (ts.drop k) p=p:=by rw [DJ h];rfl
def at2 (p:List Int) (c:Nat):Int × Int:=(p.getD (2*c) 0,p.getD (2*c+1) 0)
theorem at2_put_same {p:List Int} {c i k:Nat} (h:2*c+1<p.length):at2 (putP p c i k) c=(↑i,↑k):=by
  simp only [at2,putP,List.getD,Bs]
  constructor
  · rw [Bk (by omega),Bp (by omega)];rfl
  · rw [Bp (by rw [Bv];omega)];rfl
theorem at2_put_other {p:List Int} {c c' i k:Nat} (h:c≠c'):at2 (putP p c i k) c'=at2 p c':=by
  simp only [at2,putP,List.getD,Bs]
  constructor
  · rw [Bk (by omega),Bk (by omega)]
  · rw [Bk (by omega),Bk (by omega)]
theorem goPT_other (i:Nat):∀ (t:List Int) (k:Nat) (p:List Int) (c:Nat),(∀ x∈t,0≤x)→(c:Int)∉t→at2 (goPT i k t p) c=at2 p c:=by
  intro t
  induction t with
  | nil=>intro k p c _ _;rfl
  | cons x r ih=>
    intro k p c hx hc;rw [goPT,ih _ _ _ (fun y hy=>hx y (Ag _ hy)) (fun h=>hc (Ag _ h))];refine at2_put_other fun e=>hc ?_
    have:=hx x Aj;rw [← e,Int.toNat_of_nonneg this];exact Aj
theorem goPT_hit (i:Nat):∀ (t:List Int) (k:Nat) (p:List Int) (j:Nat),(∀ x∈t,0≤x∧2*x+1<p.length)→t.Nodup→j<t.length→at2 (goPT i k t p) (t.getD j 0).toNat=(↑i,((k+j:Nat):Int)):=by
  intro t
  induction t with
  | nil=>intro k p j _ _ h;simp at h
  | cons x r ih=>
    intro k p j hx hn hj;have hn':=Cb.1 hn;cases j with
    | zero=>
      rw [goPT,Cf];have hx0:=hx x Aj;rw [goPT_other i r _ _ _ (fun y hy=>(hx y (Ag _ hy)).1) (by rw [Int.toNat_of_nonneg hx0.1];exact hn'.1)];exact at2_put_same (by omega)
    | succ j=>
      rw [goPT,Ca,ih _ _ _ (fun y hy=>by rw [HM];exact hx y (Ag _ hy)) hn'.2 (by simpa using hj)];simp only [Bs,true_and];omega
theorem goP_other:∀ (ts:List (List Int)) (i:Nat) (p:List Int) (c:Nat),(∀ x∈ts.flatten,0≤x)→(c:Int)∉ts.flatten→at2 (goP i ts p) c=at2 p c:=by
  intro ts
  induction ts with
  | nil=>intro i p c _ _;rfl
  | cons t ts ih=>
    intro i p c hx hc;simp only [Co,Ab] at hx hc;rw [goP,ih _ _ _ (fun x h=>hx x (.inr h)) (fun h=>hc (.inr h)),goPT_other _ _ _ _ _ (fun x h=>hx x (.inl h)) (fun h=>hc (.inl h))]
theorem goP_hit : ∀ (ts : List (List Int)) (i : Nat) (p : List Int) (k j : Nat), (∀ x ∈ ts.flatten, 0 ≤ x ∧ 2 * x + 1 < p.length) → ts.flatten.Nodup → k < ts.length → j < (ts.getD k []).length →
    at2 (goP i ts p) ((ts.getD k []).getD j 0).toNat=(((i+k:Nat):Int),↑j):=by
  intro ts
  induction ts with
  | nil=>intro i p k j _ _ h;simp at h
  | cons t ts ih=>
    intro i p k j hx hn hk hj;simp only [Co,Ab] at hx hn;have hn':=Au.1 hn;cases k with
    | zero=>
      simp only [Cf] at hj ⊢;have hmem:t.getD j 0∈t:=AO hj;have h0:=hx _ (.inl hmem);rw [goP,goP_other _ _ _ _ (fun x h=>(hx x (.inr h)).1) (by rw [Int.toNat_of_nonneg h0.1];exact fun h=>hn'.2.2 _ hmem _ h rfl),goPT_hit _ _ _ _ _ (fun x h=>hx x (.inl h)) hn'.1 hj];simp
    | succ k=>
      simp only [Ca] at hj ⊢;rw [goP,ih _ _ _ _ (fun x h=>by rw [goPT_length];exact hx x (.inr h)) hn'.2.1 (by simpa using hk) hj];simp only [Bs,and_true];omega
structure Kin (A Y:Yard):Prop where
  cars:Y.cars=A.cars
  room:Y.room=A.room
  len:Y.tracks.length=A.tracks.length
  perm:Y.tracks.flatten.Perm A.tracks.flatten
theorem Kin.refl (A:Yard):Kin A A:=⟨rfl,rfl,rfl,List.Perm.refl _⟩
theorem Kin.trans {A B C:Yard} (h:Kin A B) (k:Kin B C):Kin A C:=⟨k.cars.trans h.cars,k.room.trans h.room,k.len.trans h.len,k.perm.trans h.perm⟩
theorem LI {Y:Yard} {s:Shift} (h:BX Y s=0):Kin Y (moved Y s):=by
  have m:=mayOk h;exact ⟨rfl,rfl,by simp [moved],NS m.frm m.to m.ne⟩
theorem Kin.moved {A Y:Yard} {s:Shift} (k:Kin A Y) (h:BX Y s=0):Kin A (moved Y s):=k.trans (LI h)
theorem flat_ok {A Y:Yard} (f:Fine A) (k:Kin A Y):∀ x∈Y.tracks.flatten,0≤x∧2*x+1<(zero10.length:Int):=fun x hx=>by
  have:=MC f.ok x (k.perm.mem_iff.1 hx);have h5:=f.cars;simp only [zero10,Aq,Cg];omega
theorem track_eq {A Y Z : Yard} (f : Fine A) (ky : Kin A Y) (kz : Kin A Z) (h : BL Y = BL Z) {k j : Nat} (hk : k < Y.tracks.length) (hj : j < (Y.tracks.getD k []).length) :
    j<(Z.tracks.getD k []).length∧(Z.tracks.getD k []).getD j 0=(Y.tracks.getD k []).getD j 0:=by
  have hny:Y.tracks.flatten.Nodup:=ky.perm.nodup_iff.2 f.nodup;have hnz:Z.tracks.flatten.Nodup:=kz.perm.nodup_iff.2 f.nodup;have h1:=goP_hit Y.tracks 0 zero10 k j (fun x hx=>flat_ok f ky x hx) hny hk hj
  generalize hc:(Y.tracks.getD k []).getD j 0=c at h1 ⊢
  have hcm:c∈Y.tracks.flatten:=List.mem_flatten.2 ⟨_,AO (d:=[]) hk,hc▸AO hj⟩;have hcz:c∈Z.tracks.flatten:=kz.perm.mem_iff.2 (ky.perm.mem_iff.1 hcm);obtain ⟨t,ht,hct⟩:=List.mem_flatten.1 hcz;obtain ⟨k',hk',e1⟩:=Cc.1 ht;obtain ⟨j',hj',e2⟩:=Cc.1 hct;have e1':Z.tracks.getD k' []=t:=by simp [List.getD,hk',e1]
  have e2':t.getD j' 0=c:=by simp [List.getD,hj',e2]
  have h2:=goP_hit Z.tracks 0 zero10 k' j' (fun x hx=>flat_ok f kz x hx) hnz hk' (by rw [e1'];exact hj');rw [e1',e2'] at h2;have hp:goP 0 Y.tracks zero10=goP 0 Z.tracks zero10:=congrArg Subtype.val h;rw [hp,h2] at h1;simp only [Bs] at h1;have ek:k'=k:=by omega
  have ej:j'=j:=by omega
  subst ek;subst ej;rw [e1'];exact ⟨hj',e2'⟩
theorem list_eq {α:Type} {d:α} {a b:List α} (hl:a.length=b.length) (h:∀ j,j<a.length→a.getD j d=b.getD j d):a=b:=by
  apply List.ext_getElem hl
  intro i h1 h2;have:=h i h1
  simpa [List.getD,h1,h2] using this
theorem Kin.inj {A Y Z:Yard} (f:Fine A) (ky:Kin A Y) (kz:Kin A Z) (h:BL Y=BL Z):Y=Z:=by
  have hl:Y.tracks.length=Z.tracks.length:=ky.len.trans kz.len.symm;have ht:Y.tracks=Z.tracks:=by
    refine list_eq (d:=[]) hl fun k hk=>?_
    have h1:(Y.tracks.getD k []).length=(Z.tracks.getD k []).length:=by
      rcases Nat.lt_trichotomy (Y.tracks.getD k []).length (Z.tracks.getD k []).length with e | e | e
      · have:=(track_eq f kz ky h.symm (by omega) e).1;omega
      · exact e
      · have:=(track_eq f ky kz h hk e).1;omega
    exact list_eq (d:=0) h1 fun j hj=>((track_eq f ky kz h hk hj).2).symm
  rcases Y with ⟨a,b,c⟩;rcases Z with ⟨a',b',c'⟩
  have h1:=ky.cars;have h2:=kz.cars;have h3:=ky.room;have h4:=kz.room;simp only at h1 h2 h3 h4 ht;rw [h1,h2,h3,h4,ht]
abbrev Met:=List (GI × Nat)
def KX (p:GI):Met→Option Nat
  | []=>none
  | x::r=>if x.1=p then some x.2 else KX p r
def updM (p:GI) (n:Nat):Met→Met
  | []=>[(p,n)]
  | x::r=>if x.1=p then (p,n)::r else x::updM p n r
theorem getM_upd (p q:GI) (n:Nat) (m:Met):KX q (updM p n m)=if p=q then some n else KX q m:=by
  induction m with
  | nil=>by_cases h:p=q <;> simp [updM,KX,h]
  | cons x r ih=>
    simp only [updM]
    by_cases h:x.1=p
    · rw [if_pos h]
      simp only [KX]
      by_cases h2:p=q
      · rw [if_pos h2,if_pos h2]
      · rw [if_neg h2,if_neg h2,if_neg (by rw [h];exact h2)]
    · rw [if_neg h]
      simp only [KX]
      by_cases h3:x.1=q
      · rw [if_pos h3,if_neg (by rw [← h3];exact fun e=>h e.symm),if_pos h3]
      · rw [if_neg h3,ih,if_neg h3]
def metV (m:Met):List (GI × Value):=m.map fun x=>(x.1,.int .i64 (x.2:Int))
theorem metV_get (p:GI) (m:Met):QH p (metV m)=(KX p m).map fun n=>Value.int .i64 (n:Int):=by
  induction m with
  | nil=>rfl
  | cons x r ih=>
    simp only [metV,Aw,QH,KX] at ih ⊢
    split
    · rfl
    · exact ih
theorem metV_upd (p:GI) (n:Nat) (m:Met):upd p (.int .i64 (n:Int)) (metV m)=metV (updM p n m):=by
  induction m with
  | nil=>rfl
  | cons x r ih=>
    simp only [metV,Aw,upd,updM] at ih ⊢
    split
    · rfl
    · rw [ih];rfl
def GY (f:Shift→Met→Option (List Shift) × Met):List Shift→Met→Option (List Shift) × Met
  | [],met=>(none,met)
  | s::r,met=>match f s met with
    | (some l,met')=>(some (s::l),met')
    | (none,met')=>GY f r met'
def stopped (o:Option Nat) (d:Nat):Bool:=match o with | some n=>decide (d≤n) | none=>false
def AZ (goal:Yard→Bool):Nat→Yard→Met→Option (List Shift) × Met
  | 0,Y,met=>if goal Y then (some [],met) else (none,met)
  | d+1,Y,met=>if goal Y then (some [],met) else if stopped (KX (BL Y) met) (d+1) then (none,met) else GY (fun s met=>AZ goal d (moved Y s) met) (draws Y) (updM (BL Y) (d+1) met)
def plain (goal:Yard→Bool):Nat→Yard→Option (List Shift)
  | 0,Y=>if goal Y then some [] else none
  | d+1,Y=>if goal Y then some [] else (draws Y).findSome? fun s=>(plain goal d (moved Y s)).map (s::·)
theorem MG {goal:Yard→Bool} {Y:Yard} (h:goal Y=true) (d:Nat):plain goal d Y=some []:=by
  cases d <;> simp [plain,h]
theorem plain_down {goal:Yard→Bool} {d:Nat} {Y:Yard} (h:plain goal (d+1) Y=none) {s:Shift} (hs:s∈draws Y):plain goal d (moved Y s)=none:=by
  simp only [plain] at h
  split at h
  · cases h
  · have:=List.findSome?_eq_none_iff.1 h s hs
    simpa using this
def MetInv (A:Yard) (goal:Yard→Bool) (met:Met) (d:Nat):Prop:=
  ∀ Y,Kin A Y→∀ n,KX (BL Y) met=some n→(∀ m,m<n→plain goal m Y=none)∧(n≤d→plain goal n Y=none)
theorem tryAll_ok {A : Yard} {goal : Yard → Bool} {d : Nat} {Y : Yard} (f : Fine A) (kY : Kin A Y)
    (ih:∀ Y met,Kin A Y→MetInv A goal met d→(∀ m,m<d→plain goal m Y=none)→(AZ goal d Y met).1=plain goal d Y∧((AZ goal d Y met).1=none→MetInv A goal (AZ goal d Y met).2 d∧∀ p n,KX p (AZ goal d Y met).2=some n→KX p met=some n∨n≤d)) :
    ∀ (ss:List Shift) (met:Met),(∀ s∈ss,s∈draws Y)→MetInv A goal met d→(∀ m,m<d+1→plain goal m Y=none) →
      (GY (fun s met=>AZ goal d (moved Y s) met) ss met).1=(ss.findSome? fun s=>(plain goal d (moved Y s)).map (s::·)) ∧
      ((GY (fun s met=>AZ goal d (moved Y s) met) ss met).1=none→MetInv A goal (GY (fun s met=>AZ goal d (moved Y s) met) ss met).2 d ∧
        ∀ p n,KX p (GY (fun s met=>AZ goal d (moved Y s) met) ss met).2=some n→KX p met=some n∨n≤d):=by
  intro ss
  induction ss with
  | nil=>intro met _ hi _;exact ⟨rfl,fun _=>⟨hi,fun p n h=>.inl h⟩⟩
  | cons s r ihr=>
    intro met hs hi hp;have hsd:=hs s Aj;obtain ⟨h1,h2⟩:=ih (moved Y s) met (kY.moved (GA hsd)) hi (fun m hm=>plain_down (hp (m+1) (by omega)) hsd);simp only [GY,List.findSome?_cons];rw [← h1];cases hr:AZ goal d (moved Y s) met with
    | mk o met'=>
      rw [hr] at h2;cases o with
      | some l=>exact ⟨rfl,fun h=>by cases h⟩
      | none=>
        obtain ⟨h3,h4⟩:=h2 rfl;obtain ⟨h5,h6⟩:=ihr met' (fun x hx=>hs x (Ag _ hx)) h3 hp;refine ⟨h5,fun h=>?_⟩;obtain ⟨h7,h8⟩:=h6 h;refine ⟨h7,fun p n hn=>?_⟩;rcases h8 p n hn with h | h
        · exact h4 p n h
        · exact .inr h
theorem searchM_ok {A : Yard} {goal : Yard → Bool} (f : Fine A) : ∀ (d : Nat) (Y : Yard) (met : Met), Kin A Y → MetInv A goal met d → (∀ m, m < d → plain goal m Y = none) →
    (AZ goal d Y met).1=plain goal d Y∧((AZ goal d Y met).1=none→MetInv A goal (AZ goal d Y met).2 d∧∀ p n,KX p (AZ goal d Y met).2=some n→KX p met=some n∨n≤d):=by
  intro d
  induction d with
  | zero=>
    intro Y met kY hi hp;simp only [AZ,plain]
    split
    · exact ⟨rfl,fun h=>by cases h⟩
    · exact ⟨rfl,fun _=>⟨hi,fun p n h=>.inl h⟩⟩
  | succ d ih=>
    intro Y met kY hi hp;simp only [AZ]
    split
    · rename_i hg
      rw [MG hg];exact ⟨rfl,fun h=>by cases h⟩
    rename_i hg
    split
    · rename_i hst
      cases hgm:KX (BL Y) met with
      | none=>rw [hgm] at hst;cases hst
      | some n=>
        rw [hgm] at hst;have hn:d+1≤n:=Bu hst;obtain ⟨h1,h2⟩:=hi Y kY n hgm;have:plain goal (d+1) Y=none:=by
          rcases Nat.lt_or_ge (d+1) n with h | h
          · exact h1 _ h
          · have e:n=d+1:=by omega
            subst e;exact h2 (Bj _)
        exact ⟨this.symm,fun _=>⟨hi,fun p n h=>.inl h⟩⟩
    · have hi2 : MetInv A goal (updM (BL Y) (d + 1) met) d := fun Z kZ n hn => by
        rw [getM_upd] at hn
        split at hn
        · rename_i he
          cases hn;have e:=Kin.inj f kY kZ he;subst e;exact ⟨hp,fun h=>by omega⟩
        · obtain ⟨h1,h2⟩:=hi Z kZ n hn
          exact ⟨h1,fun h=>h2 (by omega)⟩
      obtain ⟨h1,h2⟩:=tryAll_ok f kY ih (draws Y) (updM (BL Y) (d+1) met) (fun s h=>h) hi2 hp;have e1:plain goal (d+1) Y=(draws Y).findSome? fun s=>(plain goal d (moved Y s)).map (s::·):=by simp only [plain,if_neg hg]
      rw [h1,← e1];refine ⟨rfl,fun hnone=>?_⟩;obtain ⟨h3,h4⟩:=h2 (by rw [h1,← e1];exact hnone);refine ⟨fun Z kZ n hn=>?_,fun p n hn=>?_⟩
      · obtain ⟨g1,g2⟩:=h3 Z kZ n hn
        refine ⟨g1,fun hle=>?_⟩;rcases h4 _ n hn with h | h
        · rw [getM_upd] at h
          split at h
          · rename_i he
            cases h;have e:=Kin.inj f kY kZ he;subst e;exact hnone
          · exact (hi Z kZ n h).2 hle
        · exact g2 h
      · rcases h4 p n hn with h | h
        · rw [getM_upd] at h
          split at h
          · cases h;exact .inr (Bj _)
          · exact .inl h
        · exact .inr (by omega)
def CP (goal:Yard→Bool) (Y:Yard):Option (List Shift):=(List.range 5).findSome? fun d=>plain goal d Y
def GrpFrom (cs:List Car) (ts:List (List Int)) (met:List Int):Prop:=
  ∀ i k,i<ts.length→k<(ts.getD i []).length→0<grp cs ((ts.getD i []).getD k 0) →
    (grp cs ((ts.getD i []).getD k 0)∈met∨∃ c∈(ts.take i).flatten++(ts.getD i []).take k,grp cs c=grp cs ((ts.getD i []).getD k 0))→DA cs (ts.getD i []) ↑k=true
theorem GrpFrom.congr {cs:List Car} {ts:List (List Int)} {m m':List Int} (h:∀ g,g∈m↔g∈m') (hg:GrpFrom cs ts m):GrpFrom cs ts m':=fun i k hi hk h0 hm=>
  hg i k hi hk h0 (hm.elim (fun x=>.inl ((h _).2 x)) .inr)
theorem GrpFrom.cons {cs : List Car} {t : List Int} {ts : List (List Int)} {met : List Int} :
    GrpFrom cs (t::ts) met↔(∀ k,k<t.length→0<grp cs (t.getD k 0)→(grp cs (t.getD k 0)∈met∨∃ c∈t.take k,grp cs c=grp cs (t.getD k 0))→DA cs t ↑k=true)∧GrpFrom cs ts (met++t.map (grp cs)):=by
  constructor
  · intro h
    refine ⟨fun k hk h0 hm=>h 0 k (by simp) hk h0 (by simpa using hm),fun i k hi hk h0 hm=>?_⟩;refine h (i+1) k (by simpa using hi) (by simpa using hk) (by simpa using h0) ?_;simp only [Ca,List.take_succ_cons,Co];rcases hm with hm | ⟨c,hc,e⟩
    · rcases Ab.1 hm with hm | hm
      · exact .inl hm
      · obtain ⟨c,hc,e⟩:=Ai.1 hm
        exact .inr ⟨c,by simp [hc],e⟩
    · refine .inr ⟨c,?_,e⟩
      rw [Am];exact Bb _ hc
  · rintro ⟨h1,h2⟩ i k hi hk h0 hm
    cases i with
    | zero=>exact h1 k (by simpa using hk) (by simpa using h0) (by simpa using hm)
    | succ i=>
      simp only [Ca,List.take_succ_cons,Co] at hk h0 hm ⊢;refine h2 i k (by simpa using hi) hk h0 ?_;rcases hm with hm | ⟨c,hc,e⟩
      · exact .inl (Bd _ hm)
      · rw [Am] at hc
        rcases Ab.1 hc with hc | hc
        · exact .inl (Bb _ (Ai.2 ⟨c,hc,e⟩))
        · exact .inr ⟨c,hc,e⟩
theorem goG_iff {cs : List Car} {ts : List (List Int)} {t : List Int} (ih : ∀ met, goGs cs ts met = 0 ↔ GrpFrom cs ts met) : ∀ (m k : Nat) (met : List Int), k + m = t.length →
    (goG cs t (goGs cs ts) k (t.drop k) met=0 ↔
      (∀ j,k≤j→j<t.length→0<grp cs (t.getD j 0)→(grp cs (t.getD j 0)∈met∨∃ i,k≤i∧i<j∧grp cs (t.getD i 0)=grp cs (t.getD j 0))→DA cs t ↑j=true)∧GrpFrom cs ts (met++(t.drop k).map (grp cs))):=by
  intro m
  induction m with
  | zero=>
    intro k met hk;rw [goG_done (by omega),DJ (by omega),ih];simp only [Cs,Aa];exact ⟨fun h=>⟨fun j h1 h2=>by omega,h⟩,fun h=>h.2⟩
  | succ m ihm=>
    intro k met hk;have hlt:k<t.length:=by omega
    by_cases hb:(decide (0<grp cs (t.getD k 0))&&(decide (grp cs (t.getD k 0)∈met)&&!(DA cs t ↑k)))=true
    · rw [goG_hit hlt hb]
      simp only [Ah,Ay,Ck] at hb
      constructor
      · intro h;cases h
      · rintro ⟨h,_⟩
        have:=h k (Bj _) hlt hb.1 (.inl hb.2.1);rw [this] at hb;cases hb.2.2
    · have hb':=Bool.eq_false_iff.2 hb
      rw [goG_miss hlt hb',ihm (k+1) _ (by omega)];have hmem:∀ g,g∈(if grp cs (t.getD k 0)∈met then met else met++[grp cs (t.getD k 0)])↔(g∈met∨g=grp cs (t.getD k 0)):=fun g=>by
        split
        · rename_i h
          exact ⟨.inl,fun h2=>h2.elim id (fun e=>e▸h)⟩
        · simp
      constructor
      · rintro ⟨h1,h2⟩
        refine ⟨fun j hj1 hj2 h0 hm=>?_,h2.congr fun g=>?_⟩
        · rcases Nat.lt_or_ge k j with hkj | hkj
          · refine h1 j hkj hj2 h0 ?_
            rcases hm with hm | ⟨i,hi1,hi2,e⟩
            · exact .inl ((hmem _).2 (.inl hm))
            · rcases Nat.lt_or_ge k i with hki | hki
              · exact .inr ⟨i,hki,hi2,e⟩
              · have:i=k:=by omega
                subst this;exact .inl ((hmem _).2 (.inr e.symm))
          · have:j=k:=by omega
            subst this;rcases hm with hm | ⟨i,hi1,hi2,_⟩
            · simp only [Ah,Ay,Ck,not_and,Bool.not_eq_false] at hb
              exact hb h0 hm
            · omega
        · rw [BV (d:=0) hlt,Aw,Ab,Ab,hmem,Ac]
          constructor
          · rintro ((h | h) | h)
            · exact .inl h
            · exact .inr (.inl h)
            · exact .inr (.inr h)
          · rintro (h | h | h)
            · exact .inl (.inl h)
            · exact .inl (.inr h)
            · exact .inr h
      · rintro ⟨h1,h2⟩
        refine ⟨fun j hj1 hj2 h0 hm=>?_,h2.congr fun g=>?_⟩
        · refine h1 j (by omega) hj2 h0 ?_
          rcases hm with hm | ⟨i,hi1,hi2,e⟩
          · rcases (hmem _).1 hm with hm | hm
            · exact .inl hm
            · exact .inr ⟨k,Bj _,by omega,hm.symm⟩
          · exact .inr ⟨i,by omega,hi2,e⟩
        · rw [BV (d:=0) hlt,Aw,Ab,Ab,hmem,Ac]
          constructor
          · rintro (h | h | h)
            · exact .inl (.inl h)
            · exact .inl (.inr h)
            · exact .inr h
          · rintro ((h | h) | h)
            · exact .inl h
            · exact .inr (.inl h)
            · exact .inr (.inr h)
theorem goGs_iff {cs:List Car}:∀ (ts:List (List Int)) (met:List Int),goGs cs ts met=0↔GrpFrom cs ts met:=by
  intro ts
  induction ts with
  | nil=>intro met;exact ⟨fun _ i k hi=>by simp at hi,fun _=>rfl⟩
  | cons t ts ih=>
    intro met;have h:=goG_iff (cs:=cs) (ts:=ts) (t:=t) ih t.length 0 met (by omega);rw [List.drop_zero] at h;show goG cs t (goGs cs ts) 0 t met=0↔_;rw [h,GrpFrom.cons];refine and_congr (forall_congr' fun k=>?_) Iff.rfl;refine ⟨fun h hk h0 hm=>h (Ae _) hk h0 ?_,fun h _ hk h0 hm=>h hk h0 ?_⟩
    · rcases hm with hm | ⟨c,hc,e⟩
      · exact .inl hm
      · obtain ⟨i,hi,he⟩:=Cc.1 hc
        have hi':i<k:=by rw [Be] at hi;omega
        refine .inr ⟨i,Ae _,hi',?_⟩;rw [← e,← he];simp only [List.getElem_take,List.getD];rw [Bf (by omega)];rfl
    · rcases hm with hm | ⟨i,_,hi,e⟩
      · exact .inl hm
      · refine .inr ⟨t.getD i 0,?_,e⟩
        have:(t.take k).getD i 0=t.getD i 0:=by simp [List.getD,Da,hi]
        rw [← this];exact AO (by rw [Be];omega)
theorem goTrack_of {n:Nat} {fin:List Int→Int}:∀ (t met:List Int),(∀ c∈t,0≤c∧c<n)→(met++t).Nodup→FQ n fin t met=fin (met++t):=by
  intro t
  induction t with
  | nil=>intro met _ _;simp [FQ]
  | cons c r ih=>
    intro met h hn;have hc:=h c Aj;have hnm:c∉met:=fun hm=>by
      have:=(Au.1 hn).2.2 c hm c Aj;exact this rfl
    simp only [FQ];rw [if_pos (by simp [inB];omega),if_neg hnm,ih _ (fun x hx=>h x (Ag _ hx)) (by simpa using hn)];simp
theorem goTracks_of {cs : List Car} {fin : List Int → Int} : ∀ (ts : List (List Int)) (rm met : List Int), OkAll cs ts → (met ++ ts.flatten).Nodup → (∀ k, k < ts.length → lenOf cs (ts.getD k []) ≤ rm.getD k 0) →
    EU cs fin ts rm met=fin (met++ts.flatten):=by
  intro ts
  induction ts with
  | nil=>intro rm met _ _ _;simp [EU]
  | cons t r ih=>
    intro rm met h hn hl;simp only [EU];rw [Co,← Am] at hn;rw [goTrack_of t met (h t Aj) (Au.1 hn).1];have h0:=hl 0 (by simp);have e0:rm.headD 0=rm.getD 0 0:=by cases rm <;> rfl
    rw [Cf] at h0;rw [if_neg (by omega),ih rm.tail (met++t) (fun x hx=>h x (Ag _ hx)) hn fun k hk=>?_]
    · simp
    · have:=hl (k+1) (by simpa using hk)
      simp only [Ca] at this;have e:rm.tail.getD k 0=rm.getD (k+1) 0:=by cases rm <;> rfl
      omega
theorem Fine.valid {Y:Yard} (f:Fine Y):Valid Y:=by
  unfold Valid BF;rw [if_neg (by have:=f.cars;omega),if_pos (Ax.2 fun c hc=>Bg (f.carOk c hc)),if_neg (by have:=f.room1;omega),if_neg (by have:=f.room3;omega),if_pos (Ax.2 f.roomOk)];unfold FN;rw [if_pos f.len,goTracks_of Y.tracks Y.room [] f.ok (by simpa using f.nodup) f.fits];rw [if_neg (by have:=f.all;simp only [De];omega)];exact f.groups
theorem groups_iff {Y:Yard}:EY Y=0↔GrpFrom Y.cars Y.tracks []:=goGs_iff _ _
def visit (s:List GI × List Yard) (z:Yard):List GI × List Yard:=if BL z∈s.1 then s else (s.1++[BL z],s.2++[z])
def nexts (x:Yard):List Yard:=(draws x).map (moved x)
def visitAll:List Yard→List GI × List Yard→List GI × List Yard
  | [],s=>s
  | z::r,s=>visitAll r (visit s z)
def roundM (now:List Yard) (met:List GI):List GI × List Yard:=visitAll (now.flatMap nexts) (met,[])
def reachM:Nat→List GI→List Yard→List GI
  | 0,met,_=>met
  | d+1,met,now=>reachM d (roundM now met).1 (roundM now met).2
def reach (Y:Yard) (d:Nat):Int:=((reachM d [BL Y] [Y]).length:Int)
theorem kin_tracks {A Y Z:Yard} (ky:Kin A Y) (kz:Kin A Z) (h:Y.tracks=Z.tracks):Y=Z:=by
  rcases Y with ⟨a,b,c⟩;rcases Z with ⟨a',b',c'⟩
  have h1:=ky.cars;have h2:=kz.cars;have h3:=ky.room;have h4:=kz.room;simp only at h1 h2 h3 h4 h;rw [h1,h2,h3,h4,h]
theorem nexts_kin {A x:Yard} (k:Kin A x):∀ y∈nexts x,Kin A y:=fun y hy=>by
  obtain ⟨s,hs,rfl⟩:=Ai.1 hy;exact k.moved (GA hs)
theorem flat_kin {A:Yard} {now:List Yard} (h:∀ y∈now,Kin A y):∀ y∈now.flatMap nexts,Kin A y:=fun y hy=>by
  obtain ⟨x,hx,hy⟩:=List.mem_flatMap.1 hy;exact nexts_kin (h x hx) y hy
end Go.Sh
namespace Go
variable {P:Program} {F:Fence} {n:Nat} {Q:Exit→Act→World→Prop} {a:Act} {w:World}
theorem HN {b:Frame} {k:List Item} {cs:List Frame} {c:Code}:step P (lone (b.atR a (.code (.scope c)::k)) cs w)=.next (lone (b.atR a (.code c::.inScope c::k)) cs w):=
  step_lone_go (by simp [stepG,stepG.exec,Frame.atR])
theorem stepR_inScope {b:Frame} {k:List Item} {cs:List Frame} {c:Code}:step P (lone (b.atR a (.inScope c::k)) cs w)=.next (lone (b.atR a k) cs w):=
  step_lone_go (by simp [stepG,stepG.exec,Frame.atR])
theorem wpIn_scope {c:Code} (h:c.wpIn F n P (Exit.noGoto Q) a w):(Code.scope c).wpIn F n P Q a w:=by
  intro b k cs hro hb hr;have h0:(lone (b.atR a (.code (.scope c)::k)) cs w).fenced P F:=fenced_calm hb hr rfl;obtain ⟨e,a₁,w₁,hq,harr⟩:=h b (.inScope c::k) cs hro hb hr;cases e with
  | normal=>exact ⟨.normal,a₁,w₁,hq,.head h0 HN (StepsIn.trans harr (.one (fenced_calm hb hr rfl) stepR_inScope))⟩
  | exit id=>
    have hx:exitTo id (.inScope c::k)=exitTo id k:=by simp [exitTo]
    exact ⟨.exit id,a₁,w₁,hq,fun k' hk=>.head h0 HN (harr.1 k' (by rw [hx];exact hk)),fun hr' hk=>let ⟨k₁,h1,h2⟩:=harr.2 hr' (by rw [hx];exact hk);⟨k₁,h1,.head h0 HN h2⟩⟩
  | goto l=>exact hq.elim
  | ret=>exact ⟨_,a₁,w₁,hq,.of_steps (.one h0 HN) harr⟩
  | panic ch=>exact ⟨_,a₁,w₁,hq,.of_steps (.one h0 HN) harr⟩
  | outgrown=>exact ⟨_,a₁,w₁,hq,.of_steps (.one h0 HN) harr⟩
end Go
namespace Go.Sl
open Go
theorem run_scope {ρ:Option Nat} {P:Program} {N:Nat} {Q:Exit→Act→World→Prop} {ds:List Deferred} {l:Sl} {I:Imm} {M:Seg} {c x:Code} (hc:c=.scope x) (h:Run (ρ:=ρ) P N x (Exit.noGoto Q) ds l I M):Run (ρ:=ρ) P N c Q ds l I M:=by
  subst hc;exact fun a w hS hD hW=>wpIn_scope (h a w hS hD hW)
theorem GC {N:Nat} {Q:Exit→Act→World→Prop} {ds:List Deferred} {l:Sl} {I:Imm} {M:Seg} (h:Pst N Q .ret ds l I M):Pst N (Exit.noGoto Q) .ret ds l I M:=h
theorem BM {α : Type} {E : TypeId} {sz : Nat} {cell : α → Nat → Value} {ρ : Option Nat} {P : Program} {N : Nat} {c : Code} {Q : Exit → Act → World → Prop} {ds : List Deferred} {l : Sl} {I : Imm} {M A B Ms : Seg} {v : Value} {xs : List α} (dflt : α)
    (h:Own E sz cell v xs Ms) (hl:xs.length≤140737488355328) (hM:M.Perm (Ms++A)) (hA:A.Perm B)
    (next:∀ J,I.le J→IsSl sz cell dflt J v xs→Run (ρ:=ρ) P N c Q ds l J B):Run (ρ:=ρ) P N c Q ds l I M:=St.own_freeze dflt h hl hM hA next
theorem rn_mem {ρ:Option Nat} {P:Program} {N:Nat} {Q:Exit→Act→World→Prop} {ds:List Deferred} {l:Sl} {I:Imm} {M M':Seg} {c:Code} (s:∀ w,St I M w→St I M' w) (next:Run (ρ:=ρ) P N c Q ds l I M'):Run (ρ:=ρ) P N c Q ds l I M:=run_mem s next
theorem EF {ρ : Option Nat} {P : Program} {N : Nat} {Q : Exit → Act → World → Prop} {ds : List Deferred} {l : Sl} {I : Imm} {M M0 : Seg} {c : Code} {b : Nat} {o : Obj} (hM : M.Perm ((b, o) :: M0))
    (next:∀ J,I.le J→J.blk b=some o→Run (ρ:=ρ) P N c Q ds l J M0):Run (ρ:=ρ) P N c Q ds l I M:=fun a w hS hD hW=>
  have st:=hW.perm hM
  next (I.add b o) (Imm.le_add (st.disj b o Aj)) (Imm.add_same I b o) a w hS hD st.freeze
theorem GD {ρ : Option Nat} {P : Program} {N : Nat} {ops : Array Oper} {i : Nat} {Q : Exit → Act → World → Prop} {ds : List Deferred} {l : Sl} {I : Imm} {M M0 : Seg} {b : Nat} {o : Obj} (hM : M.Perm ((b, o) :: M0))
    (next:∀ J,I.le J→J.blk b=some o→Seq (ρ:=ρ) P N ops Q ds i l J M0):Seq (ρ:=ρ) P N ops Q ds i l I M:=fun a w hS hD hW=>
  have st:=hW.perm hM
  next (I.add b o) (Imm.le_add (st.disj b o Aj)) (Imm.add_same I b o) a w hS hD st.freeze
theorem IU {I:Imm} {M:Seg} {b off n:Nat} {cs:Array Value} {T:TypeId} {fz:Nat × Nat} {vs:List Value} (h:I.blk b=some (Obj.cells cs T fz)) (hv:(cs.toList.drop off).take n=vs):SeesN I M b off vs:=fun k v hk=>by
  refine ⟨rfl,cs,T,fz,.inr h,?_⟩;rw [← hv,Da] at hk
  split at hk
  · rw [List.getElem?_drop] at hk;simpa using hk
  · cases hk
theorem AW {I:Imm} {M:Seg} {b off:Nat} {cs:Array Value} {T:TypeId} {fz:Nat × Nat} {v:Value} (h:I.blk b=some (Obj.cells cs T fz)) (hc:cs[off]?=some v):Sees I M ⟨b,off,none⟩ v:=⟨rfl,cs,T,fz,.inr h,hc⟩
section
variable {P:Program} {N:Nat} {ops:Array Oper} {i:Nat} {l:Sl} {I:Imm} {R M:Seg} {ty:TypeId} {gd:Option (Nat × Bool)} {K:Sl→Imm→Seg→Prop} {d:Nat}
theorem det_loadW {x : Operand} {T S : TypeId} {b n : Nat} {cs : Array Value} {fz : Nat × Nat} (hop : FH ops N i = some (some d, .load T x, ty, gd)) (hg : FL ops l gd = some true) (hT : DR P T = some true) (hsz : CW P T = some n) (hn : cs.size = n)
    (hx:CB l x=some (.pointer (some ⟨b,0,none⟩))) (hs:Holds I R b (.cells cs S fz)):Det P N ops i l I R d (.agg cs):=by
  have h:=det_loadN (P:=P) (I:=I) (R:=R) (n:=n) (vs:=cs.toList) (b:=b) (off:=0) hop hg hT hsz hx (by simpa using hn) (fun k v hk=>⟨rfl,cs,S,fz,hs,by simpa using hk⟩)
  simpa using h
theorem pst_retW {fn : Func} {I₀ : Imm} {post : Value → Imm → Seg → Prop} {F : Seg} {t : Nat} {T S : TypeId} {b n : Nat} {cs : Array Value} {fz : Nat × Nat} (M' : Seg) (hr : fn.results = #[.cell t T]) (ht : DL t l = some (.pointer (some ⟨b, 0, none⟩))) (hT : DR P T = some true) (hsz : CW P T = some n) (hn : cs.size = n)
    (hs:Holds I M b (.cells cs S fz)) (hsub:(M'++F).Sublist M) (hle:I₀.le I) (hp:post (.agg cs) I M'):Pst N (RetQ P fn I₀ post F) .ret [] l I M:=
  DT (T:=T) (n:=n) (b:=b) (off:=0) (vs:=cs.toList) M' hr ht hsz (by simpa using hn) (fun k v hk=>⟨rfl,cs,S,fz,hs,by simpa using hk⟩) (.inl ⟨hT,by simp⟩) hsub hle hp
theorem setRow_all:∀ (vs A B:List Value),vs.length=B.length→(HW (A++B).toArray A.length vs).toList=A++vs:=by
  intro vs A B h;have:=IJ vs A B (by omega);rw [this,List.drop_of_length_le (by omega),Aa]
theorem stp_storeW {T S : TypeId} {x y : Operand} {v : Value} {cs vs : Array Value} {b n : Nat} {M' : Seg} (k : Nat) (hop : FH ops N i = some (none, .store T x y, ty, gd)) (hg : FL ops l gd = some true)
    (hx:CB l x=some (.pointer (some ⟨b,0,none⟩))) (hy:CB l y=some v) (hsz:CW P T=some n) (hvs:v.cells=vs) (hn:vs.size=n) (hone:∀ u∈vs.toList,DF u=true)
    (hk:M[k]?=some (b,Obj.cells cs S (0,0))) (hcs:cs.size=n) (hM:M.set k (b,Obj.cells vs S (0,0))=M')
    (h:K l I M'):Stp P N ops i l I M K:=by
  refine stp_store (cs:=cs.toList) (cs':=vs.toList) (vs:=vs.toList) (off:=0) (S:=S) (M':=M') k hop hg hx hy hsz (by rw [hvs]) (by simpa using hn) (Ax.2 hone) (by simpa using hk) (by simp;omega) ?_ (by simpa using hM) h;have:=setRow_all vs.toList [] cs.toList (by simp;omega)
  simpa using this
end
abbrev RQ (I:Imm) (post:Value→Imm→Seg→Prop) (F:Seg):Ending→World→Prop:=fun e w'=>∃ v I' M',e=.returned v∧I.le I'∧post v I' M'∧St I' (M'++F) w'
def Yt (P:Program) (L:Nat) (args:Array Value) (I:Imm) (pre:Seg) (post:Value→Imm→Seg→Prop):Prop:=
  ∀ F w,St I (pre++F) w→∃ f tmps assign body,(Instr.yield L args).run P w=.ok (.round L f tmps assign body) w∧RoundIn (fen none) 0 P L f tmps assign body w (RQ I post F)
def IterCt {α:Type} (P:Program) (gf:FuncId) (cv:List Value) (enc:α→List Value) (seq:List α) (R:Imm→Seg→Prop) (I0:Imm):Prop:=
  ∀ (L:Nat) (Cl Sp:List α→Imm→Seg→Prop),(∀ xs I J M,I.le J→Cl xs I M→Cl xs J M) →
    (∀ xs x I Mr M,(xs++[x]) <+: seq→I0.le I→R I Mr→Cl xs I M→Yt P L (enc x).toArray I (Mr++M) (fun v I' M'=>(v=.bool true∧∃ Mr' M2,M'=Mr'++M2∧R I' Mr'∧Cl (xs++[x]) I' M2)∨(v=.bool false∧Sp (xs++[x]) I' M'))) →
    ∀ I Mr M,I0.le I→R I Mr→Cl [] I M→Ct P gf (.func (.yield L) #[] #[]::cv).toArray I (Mr++M) (fun _ I' M'=>(∃ Mr' M2,M'=Mr'++M2∧R I' Mr'∧Cl seq I' M2)∨(∃ xs,Sp xs I' M'))
section
variable {ρ:Option Nat} {P:Program} {N:Nat} {ops:Array Oper} {i:Nat} {l:Sl} {I:Imm} {R M:Seg} {ty:TypeId} {gd:Option (Nat × Bool)} {K:Sl→Imm→Seg→Prop} {Q:Exit→Act→World→Prop} {ds:List Deferred}
theorem yield_run {f : Operand} {L : Nat} {args : Array Operand} {tys : Array TypeId} {vals : List Value} {ρ : Operand → Value} {w : World} (hf : ρ f = .func (.yield L) #[] #[]) (hvals : args.toList.map ρ = vals) :
    (KB ρ (.call { callee:=.value f,args,argTypes:=tys }) ty).run P w=(Instr.yield L vals.toArray).run P w:=by
  have e:args.map ρ=vals.toArray:=by apply Array.ext';simp [hvals]
  show (do let d ← resolve ρ { callee:=.value f,args,argTypes:=tys } ty;invoke d.target d.args:Sem Next).run P w=_;unfold resolve;simp only [e,hf,Deferred.ofValue];show (Instr.yield L (#[]++vals.toArray)).run P w=_;simp
theorem stp_yield {d : Option Tmp} {f : Operand} {L : Nat} {args : Array Operand} {tys : Array TypeId} {vals : List Value} {pre F : Seg} {post : Value → Imm → Seg → Prop}
    (hop:FH ops N i=some (d,.call { callee:=.value f,args,argTypes:=tys },ty,gd)) (hg:FL ops l gd=some true) (hf:CB l f=some (.func (.yield L) #[] #[])) (hv:NF l args.toList=some vals)
    (yt:Yt P L vals.toArray I pre post) (hM:M.Perm (pre++F))
    (h:∀ v I' M',I.le I'→post v I' M'→K (ups d v l) I' (M'++F)):Stp P N ops i l I M K:=by
  obtain ⟨o,ho,rfl,he,rfl,rfl,hN,hs⟩:=GQ hop;obtain ⟨h1,h2⟩:=HL hv;refine ⟨o,ho,hN,hs,hg,?_,fun w st=>?_⟩
  · rw [he]
    intro x hx;simp only [Op.operands,Call.operands] at hx;rcases Df.1 hx with hx | hx
    · simp at hx;subst hx;exact ED hf
    · exact h1 x (by simpa using hx)
  · rw [GN,he,yield_run (BI hf) h2]
    obtain ⟨f',tmps,assign,body,hy,hr⟩:=yt F w (st.perm hM);rw [hy];refine RoundIn.mono hr fun e w' ⟨v,I',M',hv',hle,hp,st'⟩=>?_
    exact ⟨v,hv',I',M'++F,hle,st',h v I' M' hle hp⟩
def mark (D:Nat):Deferred:={ target:=.collected D,args:=#[] }
def RoundQ (I:Imm) (post:Option Code→Imm→Seg→Prop) (F:Seg):Exit→Act→World→Prop
  | .normal,_,w=>∃ I' M',I.le I'∧post none I' M'∧St I' (M'++F) w
  | .ret,_,w=>∃ I' M',I.le I'∧post (some .ret) I' M'∧St I' (M'++F) w
  | .exit id,_,w=>∃ I' M',I.le I'∧post (some (.exit id)) I' M'∧St I' (M'++F) w
  | .goto t,_,w=>∃ I' M',I.le I'∧post (some (.goto t)) I' M'∧St I' (M'++F) w
  | _,_,_=>False
def putAll:List (Tmp × Value)→Sl→Sl
  | [],l=>l
  | (t,v)::r,l=>putAll r ((t,v)::l)
theorem slots_fold {N : Nat} {dfs : List Deferred} : ∀ (xs : List (Tmp × Value)) (l : Sl) (tm : Array Value), Slots N l { tmps := tm, defers := dfs } → (∀ x ∈ xs, x.1 < N) →
    Slots N (putAll xs l) { tmps:=xs.foldl (fun t (x:Tmp × Value)=>t.setIfInBounds x.1 x.2) tm,defers:=dfs }:=by
  intro xs
  induction xs with
  | nil=>intro l tm h _;exact h
  | cons x xs ih=>
    intro l tm h hN;obtain ⟨t,v⟩:=x;exact ih _ _ (h.put (hN (t,v) Aj) v) (fun y hy=>hN y (Ag _ hy))
theorem St.putObj {I:Imm} {M:Seg} {w:World} {r:Nat} {o o':Obj} (h:St I ((r,o)::M) w):St I ((r,o')::M) (w.putObj r o'):=by
  have hh:w.heap[r]?=some o:=h.mem r o Aj;have hl:r<w.heap.size:=(Ap.1 hh).1;exact h.put (i:=0) (o:=o') (o':=o) (w':=w.putObj r o') rfl rfl rfl rfl (World.putObj_heap_same hl) (fun b hb=>World.putObj_heap_other hb)
theorem perm3 {A B C:Seg} {x y:Nat × Obj}:((A++(x::y::B))++C).Perm (x::(A++(B++(y::C)))):=by
  rw [Am];refine Az.trans (.cons x (Bo A ?_));exact Az.symm
theorem perm4 {A C:Seg} {x y:Nat × Obj}:(A++(x::y::C)).Perm (x::(A++(y::C))):=Az
theorem run_rangeFunc {α : Type} {c : Code} {g : Operand} {ps : Array Tmp} {assign body : Code} {gf : FuncId} {cv : List Value} {enc : α → List Value} {seq : List α} {R : Imm → Seg → Prop} {Mr M0 F0 : Seg}
    (Cl:List α→Imm→Seg→Prop) (Sp:Code→List α→Imm→Seg→Prop) (sl:α→Nat→Sl) (mm:α→Nat→Seg)
    (hc:c=.rangeFunc g ps assign body) (hg:CB l g=some (.func (.func gf) #[] cv.toArray)) (hcall:DN P gf=true) (hps:∀ x,(enc x).length=ps.size) (hpN:ps.all (fun t=>Nat.blt t N)=true)
    (it:IterCt P gf cv enc seq R I)
    (hmono:∀ xs I J M,I.le J→Cl xs I M→Cl xs J M)
    (hM:M.Perm (Mr++(M0++F0))) (hr:R I Mr) (h0:Cl [] I M0)
    (hassign:∀ L x I1 M1,Run (ρ:=some L) P N assign (Exit.then (fun a w=>∃ k,Slots N (sl x k) a∧a.defers=[]∧St I1 (mm x k++M1) w) (fun _ _ _=>False)) [] (putAll (ps.toList.zip (enc x)) l) I1 M1)
    (hbody:∀ L x k xs I1 Mr1 M1 F1,(xs++[x]) <+: seq→I.le I1→R I1 Mr1→Cl xs I1 M1 →
      Run (ρ:=some L) P N body (RoundQ I1 (fun o I' M'=>match o with | none=>∃ Mr' M2,M'=Mr'++M2∧R I' Mr'∧Cl (xs++[x]) I' M2 | some c=>Sp c (xs++[x]) I' M') F1) [] (sl x k) I1 (mm x k++(Mr1++(M1++F1))))
    (hdone:∀ D I' Mr' M',I.le I'→R I' Mr'→Cl seq I' M'→Pst N Q .normal (mark D::ds) l I' ((D,.deferred (some []))::(Mr'++(M'++F0))))
    (hstop:∀ D c xs I' M',I.le I'→Sp c xs I' M'→Run (ρ:=none) P N c Q (mark D::ds) l I' ((D,.deferred (some []))::(M'++F0))) :
    Run (ρ:=none) P N c Q ds l I M:=by
  subst hc;intro a w hS hD hW;refine wpIn_rangeFunc fun fn _=>?_
  obtain ⟨rec,hrec⟩:∃ rec:LoopState→Option Code→Loop,rec=fun st pe=>{ state:=st,pending:=pe,fn,tmps:=a.tmps,params:=ps,assign,body,defers:=w.heap.size }:=⟨_,rfl⟩
  have hW2:St I ((w.heap.size+1,.loop (rec .ready none))::(w.heap.size,.deferred (some []))::(Mr++(M0++F0))) ((w.alloc (.deferred (some []))).alloc (.loop (rec .ready none))):=by
    have h1:=(hW.perm hM).new (.deferred (some []));have h2:=h1.new (.loop (rec .ready none));have e:(w.heap.push (Obj.deferred (some []))).size=w.heap.size+1:=by simp
    rw [e] at h2;exact h2
  generalize hw1:((w.alloc (.deferred (some []))).alloc (.loop (rec .ready none)))=w1 at hW2
  refine ⟨w.heap.size+1,[mark w.heap.size],w1,{ target:=.fn (.func gf) cv.toArray,args:=#[.func (.yield (w.heap.size+1)) #[] #[]] },w1,gf,(.func (.yield (w.heap.size+1)) #[] #[]::cv).toArray,w1,?_,?_,fun _ _=>trivial,?_,fun h=>by simp [fen,Fence.wide] at h,?_⟩
  · rw [← hw1,hrec];exact run_enterLoop_outer _ _ _ _ _
  · unfold resolve
    simp only [LF hS hg,Deferred.ofValue];simp [Act.eval,pure,Sem.run]
  · show (callFunc gf (#[Value.func (.yield (w.heap.size+1)) #[] #[]]++cv.toArray)).run P w1=_
    rw [HR hcall];simp
  · refine callsIn_fen.2 ?_
    clear hw1 hW
    generalize w.heap.size+1=L at hW2 hrec ⊢
    generalize w.heap.size=D at hW2 hrec ⊢
    have hit:=it L (fun xs I M=>∃ M0,M=(L,.loop (rec .ready none))::(D,.deferred (some []))::M0∧Cl xs I M0)
      (fun xs I M=>∃ c M0,M=(L,.loop (rec .done (some c)))::(D,.deferred (some []))::M0∧Sp c xs I M0)
      (fun xs I J M le ⟨M0,e,h⟩=>⟨M0,e,hmono xs I J M0 le h⟩) ?_ I Mr ((L,.loop (rec .ready none))::(D,.deferred (some []))::M0) (Imm.le.refl I) hr ⟨M0,rfl,h0⟩
    · refine (hit F0 w1 (hW2.perm ?_)).mono ?_
      · rw [Am]
        exact ((Az (l₁:=Mr)).trans (.cons _ (Az (l₁:=Mr)))).symm
      · rintro e w' ⟨v,I',M',rfl,hle,hp,st⟩
        rcases hp with ⟨Mr',M2,rfl,hR,M3,rfl,hcl⟩ | ⟨xs,c,M3,rfl,hsp⟩
        · have st2 := st.perm (show ((Mr' ++ ((L, Obj.loop (rec .ready none)) :: (D, .deferred (some [])) :: M3)) ++ F0).Perm ((L, Obj.loop (rec .ready none)) :: (D, .deferred (some [])) :: (Mr' ++ (M3 ++ F0))) by
            rw [Am]
            exact (Az (l₁:=Mr')).trans (.cons _ (Az (l₁:=Mr'))))
          have hl:=st2.mem _ _ Aj;refine ⟨none,_,by have:=run_endLoop (P:=P) hl (by rw [hrec];simp);rw [hrec] at this;exact this,?_⟩;refine hdone D I' Mr' M3 hle hR hcl _ _ ⟨hS.size,hS.get⟩ (by show [mark D]++a.defers=_;rw [hD];rfl) ?_;exact (St.putObj st2).drop
        · have hl:=st.mem (L) (.loop (rec .done (some c))) (by simp)
          refine ⟨some c,_,by have:=run_endLoop (P:=P) hl (by rw [hrec];simp);rw [hrec] at this;exact this,?_⟩;refine hstop D c xs I' M3 hle hsp _ _ ⟨hS.size,hS.get⟩ (by show [mark D]++a.defers=_;rw [hD];rfl) ?_;exact (St.putObj (M:=(D,Obj.deferred (some []))::(M3++F0)) st).drop
    · rintro xs x I1 Mr1 M1' hpre hle hR ⟨M1,rfl,hcl⟩ F1 w2 st
      have hl:=st.mem L (.loop (rec .ready none)) (by simp);have hy:=run_yield (P:=P) (args:=(enc x).toArray) hl (by rw [hrec];simpa using hps x);rw [hrec] at hy;refine ⟨_,_,assign,body,hy,roundIn_of_wpIn (F:=fen none) trivial ?_⟩;have hfold:((ps.zip (enc x).toArray).foldl (fun tmps (t,a)=>tmps.setIfInBounds t a) a.tmps)=(ps.toList.zip (enc x)).foldl (fun t (x:Tmp × Value)=>t.setIfInBounds x.1 x.2) a.tmps:=by
        rw [← Array.foldl_toList];simp
      simp only;rw [hfold];refine wpIn_mono (hassign L x I1 _ _ w2 (slots_fold (ps.toList.zip (enc x)) l a.tmps ⟨hS.size,hS.get⟩ ?_) rfl st) ?_
      · intro y hy'
        have:=(List.of_mem_zip (show (y.1,y.2)∈ps.toList.zip (enc x) from hy')).1;have h3:=Array.all_eq_true'.1 hpN y.1 (by simpa using this);exact Bn h3
      · rintro e a1 w3 hq
        cases e with
        | normal=>
          obtain ⟨k,hS3,hD3,st3⟩:=hq;have st4:St I1 ((L,.loop (rec .ready none))::(mm x k++(Mr1++(M1++((D,.deferred (some []))::F1))))) w3:=st3.perm ((Bo (mm x k) perm3).trans Az);have hl3:=st4.mem L (.loop (rec .ready none)) Aj;refine ⟨_,run_beginRound hl3 (by rw [hrec]),?_⟩;have st5:St I1 (mm x k++(Mr1++(M1++((L,.loop { rec .ready none with state:=.busy })::(D,.deferred (some []))::F1)))) (w3.putObj L (.loop { rec .ready none with state:=.busy })):=by
            refine (St.putObj st4).perm ?_;refine (Az (l₁:=mm x k)).symm.trans (Bo (mm x k) ?_);have:=(perm3 (A:=Mr1) (B:=M1) (C:=F1) (x:=(L,Obj.loop { rec .ready none with state:=.busy })) (y:=(D,Obj.deferred (some [])))).symm;refine this.trans ?_;rw [Am];refine Bo Mr1 ?_;show ((L,Obj.loop { rec .ready none with state:=.busy })::(D,.deferred (some []))::(M1++F1)).Perm _;exact ((Az (l₁:=M1)).trans (.cons _ (Az (l₁:=M1)))).symm
          refine wpIn_mono (hbody L x k xs I1 Mr1 M1 _ hpre hle hR hcl a1 _ hS3 hD3 st5) ?_
          have fin : ∀ (jump : Option Code) (I' : Imm) (M' : Seg) (w6 : World), St I' (M' ++ ((L, .loop { rec .ready none with state := .busy }) :: (D, .deferred (some [])) :: F1)) w6 →
              (Instr.endRound L jump).run P w6=.ok (.bool jump.isNone) (w6.putObj L (.loop (rec (if jump.isNone then .ready else .done) jump))) ∧
              St I' ((L,.loop (rec (if jump.isNone then .ready else .done) jump))::(M'++((D,.deferred (some []))::F1))) (w6.putObj L (.loop (rec (if jump.isNone then .ready else .done) jump))):=fun jump I' M' w6 st6=>by
            have st7:=st6.perm perm4;have hl7:=st7.mem _ _ Aj;have:=run_endRound (P:=P) jump hl7;rw [hrec] at this ⊢;exact ⟨this,by rw [hrec] at st7;exact St.putObj st7⟩
          rintro e a6 w6 hq6
          have stop : ∀ (c : Code), (∃ I' M', I1.le I' ∧ Sp c (xs ++ [x]) I' M' ∧ St I' (M' ++ ((L, .loop { rec .ready none with state := .busy }) :: (D, .deferred (some [])) :: F1)) w6) →
              ∃ v w',(Instr.endRound L (some c)).run P w6=.ok v w'∧RQ I1 (fun v I' M'=>(v=.bool true∧∃ Mr' M2,M'=Mr'++M2∧R I' Mr'∧∃ M0,M2=(L,.loop (rec .ready none))::(D,.deferred (some []))::M0∧Cl (xs++[x]) I' M0) ∨
                (v=.bool false∧∃ c M0,M'=(L,.loop (rec .done (some c)))::(D,.deferred (some []))::M0∧Sp c (xs++[x]) I' M0)) F1 (.returned v) w':=by
            rintro c ⟨I',M',hle',hp,st6⟩
            obtain ⟨h1,h2⟩:=fin (some c) I' M' w6 st6;exact ⟨_,_,h1,_,I',_,rfl,hle',.inr ⟨rfl,c,M',rfl,hp⟩,h2.perm (.cons _ Az)⟩
          cases e with
          | normal=>
            obtain ⟨I',M',hle',⟨Mr',M2,rfl,hR',hcl'⟩,st6⟩:=hq6;obtain ⟨h1,h2⟩:=fin none I' _ w6 st6;refine ⟨_,_,h1,_,I',_,rfl,hle',.inl ⟨rfl,Mr',_,rfl,hR',M2,rfl,hcl'⟩,h2.perm ?_⟩;rw [Am];exact perm3.symm
          | ret=>exact stop .ret hq6
          | exit id=>exact stop (.exit id) hq6
          | goto t=>exact stop (.goto t) hq6
          | panic ch=>exact hq6.elim
          | outgrown=>exact hq6.elim
        | exit id=>exact hq.elim
        | goto t=>exact hq.elim
        | ret=>exact hq.elim
        | panic ch=>exact hq.elim
        | outgrown=>exact hq.elim
def isNI:Value→Option Bool
  | .nilIface=>some true
  | .iface _ _=>some false
  | _=>none
def tyIface (P:Program) (t:TypeId):Bool:=match P.underlying t with | some (.interface _)=>true | _=>false
theorem det_eqIface {x:Operand} {T T':TypeId} {v:Value} {b:Bool} {d:Nat} (hop:FH ops N i=some (some d,.binOp .eql T x (.const .nilIface) T',ty,gd)) (hg:FL ops l gd=some true) (hT:tyIface P T=true) (hx:CB l x=some v) (hb:isNI v=some b):Det P N ops i l I R d (.bool b):=
  FF hop hg (HE hx rfl) fun I' M'=>by
    show wpL P ((do eqGuard .eql T x (.const .nilIface) (rho l x) .nilIface;binOp .eql T (rho l x) .nilIface) >>= fun x=>pure (Next.value x)) _ I' M';rw [BI hx];refine DB ?_;obtain ⟨ms,hms⟩:∃ ms,P.underlying T=some (.interface ms):=by
      unfold tyIface at hT
      split at hT
      · rename_i ms h;exact ⟨ms,h⟩
      · cases hT
    have e1:eqGuard .eql T x (.const .nilIface) v .nilIface=pure ():=by
      cases v <;> simp [isNI] at hb <;> simp [eqGuard]
    rw [e1];show wpL P (binOp .eql T v .nilIface) _ I' M';cases v <;> simp [isNI] at hb <;> subst hb
    all_goals
      first
        | show wpL P (Op.equalIn 10000 T .nilIface .nilIface >>= fun b=>pure (Value.bool b)) _ I' M'
        | show wpL P (Op.equalIn 10000 T (.iface _ _) .nilIface >>= fun b=>pure (Value.bool b)) _ I' M'
      rw [AE];unfold Op.equalIn;rw [AE,AK hms];exact ⟨rfl,rfl⟩
def Hk (K:Sl→Imm→Seg→Prop) (l:Sl) (I:Imm) (M:Seg):Prop:=∀ w,St I M w→∃ J M',I.le J∧St J M' w∧K l J M'
theorem DK {K:Sl→Imm→Seg→Prop} {l:Sl} {I:Imm} {M:Seg} (h:K l I M):Hk K l I M:=fun _ st=>⟨I,M,Imm.le.refl I,st,h⟩
theorem FR {K:Sl→Imm→Seg→Prop} {l:Sl} {I:Imm} {M M':Seg} (s:∀ w,St I M w→St I M' w) (next:Hk K l I M'):Hk K l I M:=fun w st=>next w (s w st)
theorem hk_hold {K:Sl→Imm→Seg→Prop} {l:Sl} {I:Imm} {M M0:Seg} {b:Nat} {o:Obj} (hM:M.Perm ((b,o)::M0)) (next:∀ J,I.le J→J.blk b=some o→Hk K l J M0):Hk K l I M:=fun w st=>by
  have st':=st.perm hM;obtain ⟨J,M',h1,h2,h3⟩:=next (I.add b o) (Imm.le_add (st'.disj b o Aj)) (Imm.add_same I b o) w st'.freeze;exact ⟨J,M',(Imm.le_add (st'.disj b o Aj)).trans h1,h2,h3⟩
theorem CE {α : Type} {E : TypeId} {sz : Nat} {cell : α → Nat → Value} {K : Sl → Imm → Seg → Prop} {l : Sl} {I : Imm} {M A B Ms : Seg} {v : Value} {xs : List α} (dflt : α)
    (h:Own E sz cell v xs Ms) (hl:xs.length≤140737488355328) (hM:M.Perm (Ms++A)) (hA:A.Perm B) (next:∀ J,I.le J→IsSl sz cell dflt J v xs→Hk K l J B):Hk K l I M:=fun w st=>by
  obtain ⟨J,h1,h2,h3⟩:=h.freeze dflt hl (st.perm hM);obtain ⟨J2,M',g1,g2,g3⟩:=next J h1 h2 w (h3.perm hA);exact ⟨J2,M',h1.trans g1,g2,g3⟩
theorem stp_hk {K:Sl→Imm→Seg→Prop} (h:Stp P N ops i l I M (Hk K)):Stp P N ops i l I M K:=by
  obtain ⟨o,h1,h2,h3,h4,h5,h6⟩:=h;refine ⟨o,h1,h2,h3,h4,h5,fun w st=>(h6 w st).mono fun v w' ⟨I',M',g1,g2,g3⟩=>?_⟩;obtain ⟨J,M2,k1,k2,k3⟩:=g3 w' g2;exact ⟨J,M2,g1.trans k1,k2,k3⟩
theorem DC {S : Seg} {Kfin : Sl → Imm → Seg → Prop} {rest : List (Nat × Bool)}
    (h:Stp P N ops i l I (R++S) (Hk fun l' I' M'=>∃ S',M'.Perm (R++S')∧OFP P N ops R Kfin rest l' I' S')):OFP P N ops R Kfin ((i,false)::rest) l I S:=stp_hk h
theorem pst_round {I₀:Imm} {post:Option Code→Imm→Seg→Prop} {F M':Seg} (hle:I₀.le I) (hp:post none I M') (hs:(M'++F).Sublist M):Pst N (RoundQ I₀ post F) .normal [] l I M:=fun _ _ _ _ hW=>⟨I,M',hle,hp,hW.sub hs⟩
theorem pst_round_ret {I₀:Imm} {post:Option Code→Imm→Seg→Prop} {F M':Seg} (hle:I₀.le I) (hp:post (some .ret) I M') (hs:(M'++F).Sublist M):Pst N (RoundQ I₀ post F) .ret [] l I M:=fun _ _ _ _ hW=>⟨I,M',hle,hp,hW.sub hs⟩
def RetQM (P:Program) (fn:Func) (I:Imm) (post:Value→Imm→Seg→Prop) (F:Seg):Exit→Act→World→Prop:=
  bodyPostM (fen none) 0 P fn (RQ I post F)
theorem OR {f : FuncId} {fn : Func} {args : List Value} {pre : Seg} {post : Value → Imm → Seg → Prop} (hf : P.funcs[f]? = some fn) (hb : fn.body.isSome = true)
    (hN:fn.ntmps=N) (hle:args.length≤N)
    (h:∀ F,Run (ρ:=none) P N (KT fn) (RetQM P fn I post F) [] (JK 0 args) I (pre++F)):Ct P f args.toArray I pre post:=by
  intro F w st;have hbody:fn.body=some (KT fn):=by
    cases hx:fn.body with
    | none=>rw [hx] at hb;cases hb
    | some c=>simp [KT,hx]
  refine callsIn_fen.1 (callsIn_of_wp_marks (F:=fen none) (n:=0) hf hbody trivial (h F _ w ⟨?_,fun t v hv=>?_⟩ rfl st))
  · simp;omega
  obtain ⟨_,h2⟩:=KO args 0 t v hv;rw [Cu] at h2;have hlt:t<args.length:=(Bc.1 h2).1;rw [Dh (by simpa using hlt)]
  simpa using h2
def CtD (P:Program) (f:FuncId) (args:Array Value) (I:Imm) (pre:Seg) (post:Value→Imm→Seg→Prop):Prop:=
  ∀ F w u,St I (pre++F) w→CallsDIn (fen none) 0 P f args u w fun e u' w'=>u'=u∧RQ I post F e w'
theorem fnD_of_run {f : FuncId} {fn : Func} {args : List Value} {pre : Seg} {post : Value → Imm → Seg → Prop} (hf : P.funcs[f]? = some fn) (hb : fn.body.isSome = true)
    (hN:fn.ntmps=N) (hle:args.length≤N)
    (h:∀ F,Run (ρ:=none) P N (KT fn) (RetQ P fn I post F) [] (JK 0 args) I (pre++F)):CtD P f args.toArray I pre post:=by
  intro F w u st;have hbody:fn.body=some (KT fn):=by
    cases hx:fn.body with
    | none=>rw [hx] at hb;cases hb
    | some c=>simp [KT,hx]
  refine callsDIn_of_wp hf hbody trivial (h F _ w ⟨?_,fun t v hv=>?_⟩ rfl st)
  · simp;omega
  obtain ⟨_,h2⟩:=KO args 0 t v hv;rw [Cu] at h2;have hlt:t<args.length:=(Bc.1 h2).1;rw [Dh (by simpa using hlt)]
  simpa using h2
section
variable {fn:Func} {I₀:Imm} {post:Value→Imm→Seg→Prop} {F:Seg}
def NK (Ds:List Nat):Seg:=Ds.map fun D=>(D,.deferred (some []))
theorem leaves_marks {R : Ending → World → Prop} {tm : Array Value} : ∀ (Ds : List Nat) (w : World) (M : Seg), St I (NK Ds ++ M) w → (∀ w', St I M w' → ∃ v, (results fn tm).run P w' = .ok v w' ∧ R (.returned v) w') →
    LeavesInM (fen none) 0 P fn tm R (Ds.map mark) .returning w:=by
  intro Ds
  induction Ds with
  | nil=>intro w M st h;exact h w st
  | cons D Ds ih=>
    intro w M st h;have hh:=st.mem D (.deferred (some [])) (by simp [NK]);exact ⟨by simp,.inl ⟨D,_,rfl,run_takeDeferred hh,ih _ M (St.putObj (M:=NK Ds++M) st).drop h⟩⟩
theorem JD (Ds:List Nat) {e:Exit} (he:e=.ret∨e=.normal) (hM:M.Perm (NK Ds++R)) (h:Pst N (RetQ P fn I₀ post F) e [] l I R):Pst N (RetQM P fn I₀ post F) e (Ds.map mark) l I M:=fun a w hS hD hW=>by
  have key:LeavesInM (fen none) 0 P fn a.tmps (RQ I₀ post F) a.defers .returning w:=by
    rw [hD];refine leaves_marks Ds w R (hW.perm hM) fun w' st=>?_
    have:=h { tmps:=a.tmps,defers:=[] } w' ⟨hS.size,hS.get⟩ rfl st;rcases he with rfl | rfl
    · exact this.2
    · exact this.2
  rcases he with rfl | rfl
  · exact key
  · exact key
theorem pst_deferred {fid : FuncId} {vals cv : List Value} {pre F1 : Seg} {post1 : Value → Imm → Seg → Prop} (hcall : DN P fid = true) (ct : CtD P fid (vals ++ cv).toArray I pre post1) (hM : M.Perm (pre ++ F1))
    (next:∀ v I' M',I.le I'→post1 v I' M'→Pst N (RetQM P fn I₀ post F) .ret ds l I' (M'++F1)):Pst N (RetQM P fn I₀ post F) .ret ({ target:=.fn (.func fid) cv.toArray,args:=vals.toArray }::ds) l I M:=fun a w hS hD hW=>by
  show LeavesInM (fen none) 0 P fn a.tmps (RQ I₀ post F) a.defers .returning w;rw [hD];refine ⟨by simp,.inr ⟨fun h=>by simp [fen,Fence.wide] at h,.func fid,cv.toArray,fid,(vals++cv).toArray,rfl,?_,fun _ _=>trivial,?_⟩⟩
  · show (callFunc fid (vals.toArray++cv.toArray)).run P w=_
    rw [HR hcall];simp
  · refine (ct F1 w .returning (hW.perm hM)).mono ?_
    rintro e u' w' ⟨rfl,v,I',M',rfl,hle,hp,st⟩
    exact next v I' M' hle hp { tmps:=a.tmps,defers:=ds } w' ⟨hS.size,hS.get⟩ rfl st
end
def deferAt (ops:Array Oper) (i:Nat):Option (Call × TypeId × Option (Nat × Bool)):=
  match ops[i]? with
  | some o=>match o.op,o.dst with
    | .defer c,none=>some (c,o.type,o.guard)
    | _,_=>none
  | none=>none
theorem seq_defer {f : Operand} {fid : FuncId} {args : Array Operand} {tys : Array TypeId} {vals cv : List Value} (hop : deferAt ops i = some ({ callee := .value f, args, argTypes := tys }, ty, none)) (hf : CB l f = some (.func (.func fid) #[] cv.toArray)) (hv : NF l args.toList = some vals)
    (next:Seq (ρ:=none) P N ops Q ({ target:=.fn (.func fid) cv.toArray,args:=vals.toArray }::ds) (i+1) l I M):Seq (ρ:=none) P N ops Q ds i l I M:=by
  obtain ⟨h1,h2⟩:=HL hv;unfold deferAt at hop;cases ho:ops[i]? with
  | none=>rw [ho] at hop;cases hop
  | some o=>
    rw [ho] at hop;simp only at hop
    split at hop
    · rename_i c hc hdst
      simp only [Cj,Bs] at hop;obtain ⟨rfl,rfl,hgd⟩:=hop;intro a w hS hD hW;have hlt:i<ops.size:=(Ap.1 ho).1;rw [IQ hlt];simp only [wpOpsIn,ho];have hw:Region.wanted o (yielded ops a.tmps)=true:=by simp [Region.wanted,hgd]
      rw [if_pos hw];refine ⟨fun _ _=>trivial,?_⟩;have hargs:args.map a.eval=vals.toArray:=by
        apply Array.ext'
        simp only [Array.toList_map];rw [← h2];refine List.map_congr_left fun x hx=>?_
        obtain ⟨v,hv'⟩:=h1 x hx;rw [LF hS hv',BI hv']
      have hrun:(o.semAt (fen none).round a.eval).run P w=.ok (.defer { target:=.fn (.func fid) cv.toArray,args:=vals.toArray }) w:=by
        show (Oper.semAt none a.eval o).run P w=_;rw [Oper.semAt_none,GN,hc];show (do pure (Next.defer (← resolve a.eval { callee:=.value f,args,argTypes:=tys } o.type)):Sem Next).run P w=_;unfold resolve;simp only [hargs,LF hS hf,Deferred.ofValue];simp [Sem.run_bind,Result.andThen]
      rw [hrun];show wpOpsIn (fen none) 0 P ops Q _ ({ a with defers:=_::a.defers }.put o.dst undef) w;rw [hdst];exact next _ w ⟨hS.size,hS.get⟩ (by rw [← hD];rfl) hW
    · cases hop
end
end Go.Sl

/- A part of the proof of the laws of this seat. -/
import Derived.Test.YtgcemienebmdeaaGreatP2
import Derived.Test.YtgcemienebmdeaaGreatP1
set_option linter.unusedVariables false
set_option linter.unusedSimpArgs false
namespace Go.Sl
open Go
section
variable {P:Program} {N:Nat} {ops:Array Oper} {i:Nat} {l:Sl} {I:Imm} {M:Seg} {ty:TypeId} {gd:Option (Nat × Bool)} {K:Sl→Imm→Seg→Prop}
theorem call_runB {f : Operand} {fid : FuncId} {args : Array Operand} {tys : Array TypeId} {fs vals cv : List Value} {ρ : Operand → Value} {w : World} (hf : ρ f = .func (.func fid) fs.toArray cv.toArray) (hvals : args.toList.map ρ = vals) (hc : DO P fid = true) :
    (KO ρ (.call { callee:=.value f,args,argTypes:=tys }) ty).run P w=.ok (.enter fid (fs++vals++cv).toArray) w:=by
  have e:args.map ρ=vals.toArray:=by apply Array.ext';simp [hvals]
  show (do let d ← resolve ρ { callee:=.value f,args,argTypes:=tys } ty;invoke d.target d.args:Sem Next).run P w=_;unfold resolve;simp only [e,hf,Deferred.ofValue];show (callFunc fid ((fs.toArray++vals.toArray)++cv.toArray)).run P w=_;rw [JC hc];simp
theorem stp_callB {d : Option Tmp} {f : Operand} {fid : FuncId} {args : Array Operand} {tys : Array TypeId} {fs vals cv : List Value} {pre F : Seg} {post : Value → Imm → Seg → Prop} {argv : Array Value}
    (hop:FZ ops N i=some (d,.call { callee:=.value f,args,argTypes:=tys },ty,gd)) (hg:FM ops l gd=some true) (hf:CI l f=some (.func (.func fid) fs.toArray cv.toArray)) (hv:PB l args.toList=some vals)
    (hc:DO P fid=true) (ha:(fs++vals++cv).toArray=argv) (ct:Ct P fid argv I pre post) (hM:M.Perm (pre++F))
    (h:∀ v I' M',I.le I'→post v I' M'→K (ups d v l) I' (M'++F)):Stp P N ops i l I M K:=by
  obtain ⟨o,ho,rfl,he,rfl,rfl,hN,hs⟩:=HN hop;obtain ⟨h1,h2⟩:=IU hv;refine ⟨o,ho,hN,hs,hg,?_,fun w st=>?_⟩
  · rw [he]
    intro x hx;simp only [Op.operands,Call.operands] at hx;rcases Array.mem_append.1 hx with hx | hx
    · simp at hx;subst hx;exact EJ hf
    · exact h1 x (by simpa using hx)
  · rw [IK,he,call_runB (BM hf) h2 hc,ha]
    refine (ct F w (st.perm hM)).mono fun e w' ⟨v,I',M',hv',hle,hp,st'⟩=>?_
    exact ⟨v,hv',I',M'++F,hle,st',h v I' M' hle hp⟩
end
end Go.Sl
namespace Go.Sh
open Go Go.Sl
def doFn (g:Int→FuncId) (b:Nat) (k:Int):Value:=.func (.func (g k)) #[.pointer (some ⟨b,0,none⟩)] #[]
def fnTab (g:Int→FuncId) (b:Nat):List (Int × Value):=[(1,doFn g b 1),(2,doFn g b 2),(3,doFn g b 3),(4,doFn g b 4),(5,doFn g b 5),(6,doFn g b 6)]
theorem getKv_fn {g:Int→FuncId} {b:Nat} {k:Int} (h1:1≤k) (h2:k≤6):(LH k (fnTab g b)).getD .nilFunc=doFn g b k:=by
  have:k=1∨k=2∨k=3∨k=4∨k=5∨k=6:=by omega
  rcases this with rfl | rfl | rfl | rfl | rfl | rfl <;> rfl
section
variable {s:Slip} {H:Hs}
theorem doSlip_1 (e:s.kind=1):doSlip s H=ML ⟨s.to,s.sort,s.soil⟩ s.amt (ML ⟨s.place,s.sort,s.soil⟩ (-s.amt) H):=by unfold doSlip;rw [if_pos e]
theorem doSlip_2 (e:s.kind=2):doSlip s H=ML ⟨s.place,s.sort,true⟩ s.amt (ML ⟨s.place,s.sort,false⟩ (-s.amt) H):=by unfold doSlip;rw [if_neg (by omega),if_pos e]
theorem doSlip_3 (e:s.kind=3):doSlip s H=ML ⟨s.place,s.sort,false⟩ s.amt (ML ⟨s.place,s.sort,true⟩ (-s.amt) H):=by unfold doSlip;rw [if_neg (by omega),if_neg (by omega),if_pos e]
theorem doSlip_4 (e:s.kind=4):doSlip s H=GV ⟨s.place,s.sort,s.soil⟩ s.amt H:=by unfold doSlip;rw [if_neg (by omega),if_neg (by omega),if_neg (by omega),if_pos e];rfl
theorem doSlip_5 (e:s.kind=5):doSlip s H=ML ⟨s.place,s.sort,false⟩ s.amt H:=by unfold doSlip;rw [if_neg (by omega),if_neg (by omega),if_neg (by omega),if_neg (by omega),if_pos e]
theorem doSlip_6 (e:s.kind=6):doSlip s H=ML ⟨s.place,s.sort,true⟩ (-s.amt) H:=by unfold doSlip;rw [if_neg (by omega),if_neg (by omega),if_neg (by omega),if_neg (by omega),if_neg (by omega)]
end
structure GoodS (l:List Slip):Prop where
  len:l.length<20
  ok:∀ s∈l,(1≤s.kind∧s.kind≤6)∧(0≤s.amt∧s.amt≤50)∧PI s
theorem GoodS.sub {l l':List Slip} (h:GoodS l) (hl:l'.length≤l.length) (hm:∀ x∈l',x∈l):GoodS l':=⟨Nat.lt_of_le_of_lt hl h.len,fun s hs=>h.ok s (hm s hs)⟩
theorem GoodS.perm {l l':List Slip} (h:GoodS l) (p:l'.Perm l):GoodS l':=h.sub (Nat.le_of_eq p.length_eq) fun x hx=>p.subset hx
theorem GoodS.sorted {l:List Slip} (h:GoodS l):GoodS (AE AC l):=h.perm (EH l)
theorem GoodS.small {l:List Slip} (h:GoodS l):∀ x∈l,PI x:=fun x hx=>(h.ok x hx).2.2
section
variable {S:List Slip} {H:Hs} {k:Nat}
theorem GL:∀ {S:List Slip} {H:Hs},(evs H S).length=S.length:=by
  intro S
  induction S with
  | nil=>intro H;rfl
  | cons s r ih=>intro H;simp only [evs,List.length_cons,ih]
theorem evs_take:∀ {S:List Slip} {H:Hs} {k:Nat},k<S.length→(evs H S).take (k+1)=(evs H S).take k++[evOf (aft H (S.take k)) (S.getD k AB)]:=by
  intro S
  induction S with
  | nil=>intro H k h;simp at h
  | cons s r ih=>
    intro H k h;cases k with
    | zero=>rfl
    | succ k=>
      have:=ih (H:=doSlip s H) (k:=k) (by simpa using h);simp only [evs,List.take_succ_cons,this,List.cons_append];rfl
theorem aft_take (h:k<S.length):aft H (S.take (k+1))=doSlip (S.getD k AB) (aft H (S.take k)):=by
  rw [CE (d:=AB) h];unfold aft;rw [List.foldl_append];rfl
theorem aft_within {B:Int} (hB:0≤B) (hg:∀ s∈S,0≤s.amt∧s.amt≤50):∀ {H:Hs},Within B H→Within (B+100*S.length) (aft H S):=by
  induction S generalizing B with
  | nil=>intro H h;simpa [aft] using h
  | cons s r ih=>
    intro H h;have h1:=hg s (by simp);have:=ih (B:=B+100) (by omega) (fun x hx=>hg x (by simp [hx])) (h.doSlip h1.1 h1.2 hB);rw [show B+100*((s::r).length:Int)=B+100+100*(r.length:Int) by rw [List.length_cons];omega];exact this
theorem Within.mono {B B':Int} {H:Hs} (h:Within B H) (hb:B≤B'):Within B' H:=fun k=>by have:=h k;omega
theorem GoodS.within (hg:GoodS S) (h:Within 1000 H) (k:Nat):Within 100000 (aft H (S.take k)):=by
  have hl:=hg.len;refine (aft_within (by omega) (fun s hs=>(hg.ok s (List.mem_of_mem_take hs)).2.1) h).mono ?_;have:(S.take k).length≤S.length:=by rw [List.length_take];omega
  omega
end
theorem below_of {ks0 ks1:List HKey} {h g:Hs} {dn td:List HKey} (h0:Negs ks0 h) (h1:Negs ks1 g) (hp:(dn++td).Perm ks1) (ht:td=[]) (hn:(g.map Prod.fst).Nodup):(dn.any fun k=>!decide (k∈ks0))=falls h g:=by
  subst ht;rw [List.append_nil] at hp;rw [Bool.eq_iff_iff,falls_iff hn];simp only [List.any_eq_true,Bool.not_eq_true',decide_eq_false_iff_not]
  constructor
  · rintro ⟨k,hk,hk2⟩
    exact ⟨k,(h1 k).1 (hp.mem_iff.1 hk),Int.not_lt.1 fun hlt=>hk2 ((h0 k).2 hlt)⟩
  · rintro ⟨k,hk,hk2⟩
    exact ⟨k,hp.mem_iff.2 ((h1 k).2 hk),fun hm=>by have:=(h0 k).1 hm;omega⟩
theorem any_snoc {α:Type} {p:α→Bool} {l:List α} {x:α}:(l++[x]).any p=(l.any p||p x):=by simp
def EvR (r:Nat) (H:Hs) (S:List Slip) (n:Nat) (M:Seg):Prop:=∃ es cl,M=[(r,Obj.map es cl)]∧MapH es cl (aft H (S.take n))
def encEv (e:Event):List Value:=[.agg #[.int .i64 e.slip.num,.int .i64 e.slip.hour,.int .i64 e.slip.kind,.int .i64 e.slip.place,.int .i64 e.slip.to,.int .i64 e.slip.sort,.bool e.slip.soil,.int .i64 e.slip.amt,.int .i64 e.gap,.bool e.below]]
theorem evOf_mk {h:Hs} {s:Slip} {g:Int} {b:Bool} (h1:(evOf h s).gap=g) (h2:falls h (doSlip s h)=b):evOf h s=⟨s,g,b⟩:=by subst h1;subst h2;rfl
theorem gap_t {h:Hs} {s:Slip} (e:s.kind=4):(evOf h s).gap=s.amt-CQ ⟨s.place,s.sort,s.soil⟩ h:=if_pos e
theorem gap_f {h:Hs} {s:Slip} (e:¬ s.kind=4):(evOf h s).gap=0:=if_neg e
theorem permK_took {α:Type} {dn todo A B H:List α} {y:α} (h:(dn++todo).Perm H) (e:todo=A++y::B):((dn++[y])++(A++B)).Perm H:=by
  subst e;refine List.Perm.trans ?_ h;rw [List.append_assoc];exact List.Perm.append_left _ (List.perm_middle (l₁:=A)).symm
theorem tookK_len {α:Type} {todo A B:List α} {y:α} (e:todo=A++y::B):(A++B).length<todo.length:=by subst e;simp
theorem fnTab_of {g:Int→FuncId} {b:Nat} {es:Array MapEntry} (h:MapIs encI es (upd (6:Int) (doFn g b 6) (upd (5:Int) (doFn g b 5) (upd (4:Int) (doFn g b 4) (upd (3:Int) (doFn g b 3) (upd (2:Int) (doFn g b 2) (upd (1:Int) (doFn g b 1) []))))))):MapIs encI es (fnTab g b):=by
  have e:(upd (6:Int) (doFn g b 6) (upd (5:Int) (doFn g b 5) (upd (4:Int) (doFn g b 4) (upd (3:Int) (doFn g b 3) (upd (2:Int) (doFn g b 2) (upd (1:Int) (doFn g b 1) []))))))=fnTab g b:=by simp [upd,fnTab]
  rw [e] at h;exact h
end Go.Sh
namespace Go.Sl
open Go
theorem Own.cutHi {α:Type} {E sz:Nat} {cell:α→Nat→Value} {a:Option Addr} {n c k:Nat} {xs:List α} {Ms:Seg} (h:Own E sz cell (.slice a n c) xs Ms) (hk:k≤xs.length):Own E sz cell (.slice a k c) (xs.take k) Ms:=by
  rcases h with ⟨hv,rfl,rfl⟩ | ⟨b,c',sp,hv,hc,rfl,hlen⟩
  · simp only [Value.slice.injEq] at hv
    obtain ⟨rfl,rfl,rfl⟩:=hv;simp at hk;subst hk;exact .inl ⟨rfl,rfl,rfl⟩
  · simp only [Value.slice.injEq] at hv
    obtain ⟨rfl,rfl,rfl⟩:=hv;refine .inr ⟨b,c,CH sz cell (xs.drop k)++sp,by rw [List.length_take,Nat.min_eq_left hk],by rw [List.length_take];omega,?_,?_⟩
    · rw [← List.append_assoc,show CH sz cell (xs.take k)++CH sz cell (xs.drop k)=CH sz cell xs by simp only [CH];rw [← List.flatMap_append,List.take_append_drop]]
    · rw [← List.append_assoc,show CH sz cell (xs.take k)++CH sz cell (xs.drop k)=CH sz cell xs by simp only [CH];rw [← List.flatMap_append,List.take_append_drop],hlen]
theorem Own.cutE {α:Type} {E sz:Nat} {cell:α→Nat→Value} {a:Option Addr} {n c k:Nat} {xs:List α} {Ms:Seg} (h:Own E sz cell (.slice a n c) xs Ms):(Value.slice (if c=0 then a else a.map (·.add (0*sz))) (k-0) (c-0))=.slice a k c:=by
  rcases h with ⟨hv,rfl,rfl⟩ | ⟨b,c',sp,hv,hc,rfl,hlen⟩
  · simp only [Value.slice.injEq] at hv
    obtain ⟨rfl,rfl,rfl⟩:=hv;simp
  · simp only [Value.slice.injEq] at hv
    obtain ⟨rfl,rfl,rfl⟩:=hv;simp [Addr.add]
section
variable {P:Program} {N:Nat} {ops:Array Oper} {i:Nat} {l:Sl} {I:Imm} {M:Seg} {ty:TypeId} {gd:Option (Nat × Bool)} {K:Sl→Imm→Seg→Prop}
theorem stp_builtin' {M0 : Seg} {b : Builtin} {args : Array Operand} {tys : Array TypeId} {vals : List Value} {dst : Option Tmp}
    (hop:FZ ops N i=some (dst,.call { callee:=.builtin b,args,argTypes:=tys },ty,gd)) (hg:FM ops l gd=some true) (hk:∀ x∈args,KG l x) (hvals:args.toList.map (rho l)=vals) (hM:M.Perm M0)
    (h:∀ (cs:Array Bool),wpL P (builtin b tys ty cs vals.toArray) (fun n M'=>∃ v M'',(n=.value v∨(n=.skip∧v=undef))∧M''.Sublist M'∧K (ups dst v l) I M'') I M0):Stp P N ops i l I M K:=
  IX hop hg (by simpa [Op.operands,Call.operands] using hk) hM (by
    have e:args.map (rho l)=vals.toArray:=by
      apply Array.ext'
      simp [hvals]
    show wpL P (do let d ← resolve (rho l) { callee:=.builtin b,args,argTypes:=tys } ty;invoke d.target d.args) _ I M0
    unfold resolve
    simp only [e]
    exact h _)
theorem stp_clearTail {α : Type} {x : Operand} {T E sz : Nat} {cell : α → Nat → Value} {a : Option Addr} {n c k : Nat} {xs : List α} {Ms R : Seg} {z : Value} {dst : Option Tmp}
    (hop:FZ ops N i=some (dst,.call { callee:=.builtin .clear,args:=#[x],argTypes:=#[T] },ty,gd)) (hg:FM ops l gd=some true) (hT:HV P T=some E) (hz:IZ P E=some z) (hzs:z.cells.size=sz) (hz1:∀ v∈z.cells.toList,DF v=true) (hsz:0<sz)
    (own:Own E sz cell (.slice a n c) xs Ms) (hk:k≤n) (hx:CI l x=some (.slice (if c=k then a else a.map (·.add (k*sz))) (n-k) (c-k))) (hM:M.Perm (Ms++R))
    (next:∀ Ms',Own E sz cell (.slice a k c) (xs.take k) Ms'→K (ups dst (.tuple #[]) l) I (Ms'++R)):Stp P N ops i l I M K:=by
  refine stp_builtin' (vals:=[.slice (if c=k then a else a.map (·.add (k*sz))) (n-k) (c-k)]) hop hg (NV hx) (by simp [BM hx]) hM fun cs=>?_
  show wpL P (Builtin.clear_ #[T] ty #[.slice (if c=k then a else a.map (·.add (k*sz))) (n-k) (c-k)] >>= fun x=>pure (Next.value x)) _ I _;refine EG ?_;have hn:n=xs.length:=by obtain ⟨a',c',e,_⟩:=own.shape;cases e;rfl
  have done:∀ Ms',Own E sz cell (.slice a k c) (xs.take k) Ms'→(∃ v M'',(Next.value (.tuple #[])=.value v∨(Next.value (.tuple #[])=Next.skip∧v=undef))∧M''.Sublist (Ms'++R)∧K (ups dst v l) I M''):=fun Ms' h=>⟨_,_,.inl rfl,List.Sublist.refl _,next Ms' h⟩
  unfold Builtin.clear_;show wpL P (underlying T >>= _) _ I _;rw [AF,AM (DI hT)];rcases Nat.eq_zero_or_pos (n-k) with h0 | h0
  · rw [h0]
    have e:xs.take k=xs:=List.take_of_length_le (by omega);have hkn:k=n:=by omega
    cases (if c=k then a else a.map (·.add (k*sz))) with
    | none=>exact done Ms (own.cutHi (by omega))
    | some b=>exact done Ms (own.cutHi (by omega))
  · rcases own with ⟨hv,rfl,rfl⟩ | ⟨b,c',sp,hv,hc,rfl,hlen⟩
    · simp at hn;omega
    · simp only [Value.slice.injEq] at hv
      obtain ⟨rfl,_,rfl⟩:=hv;rw [if_neg (show ¬ c=k by omega)];obtain ⟨m,hm⟩:∃ m,n-k=m+1:=⟨n-k-1,by omega⟩;rw [hm];show wpL P (zeroValue E >>= _) _ I _;rw [AF,DX hz];show wpL P (storeCells (Addr.add ⟨b,0,none⟩ (k*sz)) (Builtin.zeroCells z.cells (m+1)).toList >>= _) _ I _;rw [AF,FI];have hzl:(Builtin.zeroCells z.cells (m+1)).toList.length=(m+1)*sz:=by simp [Builtin.zeroCells,hzs]
      have hA:(CH sz cell (xs.take k)).length=k*sz:=by rw [BP,List.length_take,Nat.min_eq_left (by omega)]
      have hs:CH sz cell xs=CH sz cell (xs.take k)++CH sz cell (xs.drop k):=by simp only [CH];rw [← List.flatMap_append,List.take_append_drop]
      have hB:(CH sz cell (xs.drop k)).length=(m+1)*sz:=by rw [BP,List.length_drop];congr 1;omega
      refine FG (T:=E) (k:=0) (Builtin.zeroCells z.cells (m+1)).toList 0 _ (CH sz cell xs++sp).toArray _ (by simp) ?_ ?_ ?_
      · rw [hs,hzl];simp only [List.size_toArray,List.length_append,hA,hB];omega
      · intro v hv
        simp only [Builtin.zeroCells,Array.toList_map,Array.toList_range,List.mem_map,List.mem_range] at hv;obtain ⟨q,hq,rfl⟩:=hv;have hlt:q%z.cells.size<z.cells.size:=Nat.mod_lt _ (by omega);rw [getElem!_pos z.cells (q%z.cells.size) hlt];exact hz1 _ (by simp)
      · have e2 : IV (CH sz cell xs ++ sp).toArray (0 + k * sz + 0) (Builtin.zeroCells z.cells (m + 1)).toList = (CH sz cell (xs.take k) ++ ((Builtin.zeroCells z.cells (m + 1)).toList ++ sp)).toArray := by
          apply Array.ext'
          have:=IA (Builtin.zeroCells z.cells (m+1)).toList (CH sz cell (xs.take k)) (CH sz cell (xs.drop k)++sp) (by rw [hzl,List.length_append,hB];omega);rw [hA] at this;rw [hs,show 0+k*sz+0=k*sz by omega,List.append_assoc,this,hzl,List.drop_append_of_le_length (by rw [hB];exact Nat.le_refl _),List.drop_of_length_le (by rw [hB];exact Nat.le_refl _)];simp
        rw [e2];refine done _ (.inr ⟨b,c,(Builtin.zeroCells z.cells (m+1)).toList++sp,by rw [List.length_take,Nat.min_eq_left (by omega)],by rw [List.length_take];omega,rfl,?_⟩);rw [← hlen,hs];simp only [List.length_append,hA,hB,hzl];omega
end
end Go.Sl
namespace Go.Sh
open Go Go.Sl
section
variable {α:Type} {p:α→Bool} {xs zs:List α} {i j:Nat} {d:α}
theorem idxF_ge:-1≤NG p xs:=by unfold NG;cases xs.findIdx? p <;> simp <;> omega
theorem filter_noneD (h:NG p xs=-1):xs.filter (fun x=>!p x)=xs:=by
  have:=idxF_neg (p:=p) (l:=xs) (by omega);rw [List.any_eq_false] at this;exact List.filter_eq_self.2 fun x hx=>by simpa using this x hx
def DelI (p:α→Bool) (xs zs:List α) (i j:Nat):Prop:=zs.length=xs.length∧i<j∧j≤xs.length∧zs.take i=(xs.take j).filter (fun x=>!p x)∧zs.drop j=xs.drop j
theorem DelI.start (hi:i<xs.length) (hp:p (xs.getD i d)=true) (hb:∀ j,j<i→p (xs.getD j d)=false):DelI p xs xs i (i+1):=by
  refine ⟨rfl,by omega,hi,?_,rfl⟩;rw [CE (d:=d) hi,List.filter_append];have h1:(xs.take i).filter (fun x=>!p x)=xs.take i:=List.filter_eq_self.2 fun x hx=>by
    obtain ⟨q,hq,rfl⟩:=List.mem_iff_getElem.1 hx;rw [List.length_take] at hq;have:=hb q (by omega);simp only [List.getElem_take]
    simpa [List.getD,show q<xs.length by omega] using this
  rw [h1];simp only [List.filter_cons,hp,List.filter_nil];simp
theorem DelI.at_j (h:DelI p xs zs i j) (hj:j<xs.length):zs.getD j d=xs.getD j d:=by
  obtain ⟨h1,h2,h3,h4,h5⟩:=h;have e:(zs.drop j)[0]?=(xs.drop j)[0]?:=by rw [h5]
  simp only [List.getElem?_drop,Nat.add_zero] at e;rw [List.getD_eq_getElem?_getD,List.getD_eq_getElem?_getD,e]
theorem drop_next (h:zs.drop j=xs.drop j):zs.drop (j+1)=xs.drop (j+1):=by
  rw [← List.drop_drop,← List.drop_drop,h]
theorem DelI.skip (h:DelI p xs zs i j) (hj:j<xs.length) (hp:p (zs.getD j d)=true):DelI p xs zs i (j+1):=by
  rw [h.at_j hj] at hp;obtain ⟨h1,h2,h3,h4,h5⟩:=h;refine ⟨h1,by omega,hj,?_,drop_next h5⟩;rw [CE (d:=d) hj,List.filter_append,← h4];simp only [List.filter_cons,hp,List.filter_nil];simp
theorem DelI.keep (h:DelI p xs zs i j) (hj:j<xs.length) (hp:p (zs.getD j d)=false):DelI p xs (zs.set i (zs.getD j d)) (i+1) (j+1):=by
  rw [h.at_j hj] at hp ⊢;obtain ⟨h1,h2,h3,h4,h5⟩:=h;refine ⟨by rw [List.length_set,h1],by omega,hj,?_,?_⟩
  · rw [CE (d:=d) hj,List.filter_append,← h4,CE (d:=d) (by rw [List.length_set];omega)]
    simp only [List.filter_cons,hp,List.filter_nil];have e1:(zs.set i (xs.getD j d)).take i=zs.take i:=by rw [List.take_set_of_le (Nat.le_refl _)]
    have e2:(zs.set i (xs.getD j d)).getD i d=xs.getD j d:=by rw [List.getD_eq_getElem?_getD,List.getElem?_set_self (by omega)];rfl
    rw [e1,e2];simp
  · rw [List.drop_set_of_lt (by omega)];exact drop_next h5
theorem DelI.done (h:DelI p xs zs i j) (hj:j=xs.length):zs.take i=xs.filter (fun x=>!p x):=by
  obtain ⟨h1,h2,h3,h4,h5⟩:=h;rw [h4,hj,List.take_length]
end
def DB (L:Lin) (h:Int):List Slip:=L.slips.filter fun x=>!decide (h<x.hour)
def atL (L:Lin) (h:Int):Lin:=⟨L.places,L.sorts,L.start,L.keeps,DB L h⟩
def atH (L:Lin) (h:Int):Hs:=aft (CG L) (AE AC (DB L h))
theorem GoodS.to {L:Lin} (hg:GoodS L.slips) (h:Int):GoodS (atL L h).slips:=hg.sub (List.length_filter_le _ _) fun x hx=>(List.mem_filter.1 hx).1
theorem EvR.full {r:Nat} {H:Hs} {S:List Slip} {M:Seg} {n:Nat} (h:EvR r H S n M) (hn:n=S.length):∃ es cl,M=[(r,Obj.map es cl)]∧MapH es cl (aft H S):=by
  obtain ⟨es,cl,h1,h2⟩:=h;rw [hn,List.take_length] at h2;exact ⟨es,cl,h1,h2⟩
structure GoodL (L:Lin):Prop where
  places:1≤L.places∧L.places≤4
  sorts:1≤L.sorts∧L.sorts≤2
  start:(L.start.length:Int)=L.places
  rows:∀ r∈L.start,(r.length:Int)=L.sorts
  nums:∀ r∈L.start,∀ n∈r,0≤n∧n≤50
  keeps:L.keeps.length≤4
  keep:∀ k,k<L.keeps.length→EU L k=0
  slips:L.slips.length≤8
  slip:∀ k,k<L.slips.length→DA L k=0
theorem all_of {α:Type} {p:α→Bool} {l:List α} (h:¬ l.all p=false):∀ x∈l,p x=true:=List.all_eq_true.1 (by simpa using h)
theorem GG {L:Lin} (h:AS L=0):GoodL L:=by
  unfold AS at h
  split at h;· omega
  rename_i h1
  split at h;· omega
  rename_i h2
  split at h;· omega
  rename_i h3
  split at h;· omega
  rename_i h4
  split at h;· omega
  rename_i h5
  have h3:CU L=0:=Decidable.not_not.1 h3;have h4:CT L=0:=Decidable.not_not.1 h4;unfold CU at h3
  split at h3;· omega
  rename_i a1
  split at h3;· omega
  rename_i a2
  split at h3;· omega
  rename_i a3
  unfold CT at h4
  split at h4;· omega
  rename_i b1
  refine ⟨CR (by simpa using h1),CR (by simpa using h2),Decidable.not_not.1 a1,fun r hr=>of_decide_eq_true (all_of a2 r hr),fun r hr n hn=>CR (all_of a3 n (List.mem_flatten.2 ⟨r,hr,hn⟩)),by omega,firstE_zero.1 h4,by omega,firstE_zero.1 h⟩
theorem MH {L:Lin} {s:Slip} (h:DH L s=0):(1≤s.num∧s.num≤999)∧(0≤s.hour∧s.hour≤200)∧(1≤s.kind∧s.kind≤6)∧(0≤s.place∧s.place≤L.places-1)∧(0≤s.sort∧s.sort≤L.sorts-1)∧(0≤s.amt∧s.amt≤50)∧(s.kind=1→0≤s.to∧s.to≤L.places-1∧s.to≠s.place):=by
  unfold DH at h
  split at h;· omega
  rename_i h1
  split at h;· omega
  rename_i h2
  split at h;· omega
  rename_i h3
  split at h;· omega
  rename_i h4
  split at h;· omega
  rename_i h5
  split at h;· omega
  rename_i h6
  split at h;· omega
  split at h;· omega
  rename_i h8
  split at h;· omega
  by_cases h10:inB s.amt (if s.kind=4 then 0 else 1) 50=false
  · rw [if_pos h10] at h;omega
  have e:∀ {b:Bool},¬ b=false→b=true:=fun hb=>by simpa using hb
  refine ⟨CR (e h1),CR (e h2),CR (e h3),CR (e h4),CR (e h8),?_,fun hk=>?_⟩
  · have:=CR (e h10)
    split at this <;> omega
  · have h5:inB s.to 0 (L.places-1)=true:=e fun hh=>h5 ⟨hk,hh⟩
    have:=CR h5;exact ⟨this.1,this.2,fun hh=>h6 ⟨hk,hh⟩⟩
section
variable {L:Lin} (g:GoodL L)
include g
theorem GoodL.slipAt {k:Nat} (hk:k<L.slips.length):DH L (L.slips.getD k AB)=0:=by
  have:=g.slip k hk;unfold DA at this
  split at this
  · rename_i h;exact absurd this h
  · rename_i h;exact Decidable.not_not.1 h
theorem GoodL.slipOf {s:Slip} (hs:s∈L.slips):DH L s=0:=by
  obtain ⟨k,hk,rfl⟩:=List.mem_iff_getElem.1 hs;have:=g.slipAt hk
  simpa [List.getD,hk] using this
theorem GoodL.goodS:GoodS L.slips:=⟨by have:=g.slips;omega,fun s hs=>by
  obtain ⟨h1,h2,h3,h4,h5,h6,_⟩:=MH (g.slipOf hs)
  exact ⟨h3,h6,by omega,by omega,by omega,by omega⟩⟩
theorem GoodL.once:(L.slips.map (·.num)).Nodup:=by
  rw [List.Nodup,List.pairwise_iff_getElem];intro i j hi hj hij e;rw [List.length_map] at hi hj;have:=g.slip j hj;unfold DA at this
  split at this
  · rename_i h;exact absurd this h
  · split at this
    · omega
    · rename_i h
      refine h ?_;unfold hasNum;refine List.any_eq_true.2 ⟨L.slips[i],?_,?_⟩
      · rw [List.mem_take_iff_getElem];exact ⟨i,by omega,rfl⟩
      · simp only [List.getElem_map] at e
        simpa [List.getD,hj] using e
omit g in
theorem openRow_within {B:Int} {p:Int} {row:List Int} (hB:0≤B) (hr:∀ n∈row,0≤n∧n≤B):∀ {j:Nat} {H:Hs},Within B H→Within B (FQ p row j H):=by
  intro j
  induction j with
  | zero=>intro H h;exact h
  | succ j ih=>
    intro H h;refine (ih h).put ?_ ?_ (Int.le_refl _)
    · rcases Nat.lt_or_ge j row.length with hj | hj
      · have:=hr _ (BD (xs:=row) (d:=0) hj);omega
      · have:row.getD j 0=0:=by simp [List.getD,hj]
        omega
    · rcases Nat.lt_or_ge j row.length with hj | hj
      · exact (hr _ (BD (xs:=row) (d:=0) hj)).2
      · have:row.getD j 0=0:=by simp [List.getD,hj]
        omega
omit g in
theorem openTo_within {B:Int} {st:List (List Int)} (hB:0≤B) (hr:∀ r∈st,∀ n∈r,0≤n∧n≤B):∀ {i:Nat},i≤st.length→Within B (GU st i):=by
  intro i
  induction i with
  | zero=>intro _ k;show -B≤(0:Int)∧(0:Int)≤B;omega
  | succ i ih=>intro hi;exact openRow_within hB (hr _ (BD (xs:=st) (d:=[]) hi)) (ih (by omega))
theorem GoodL.within:Within 1000 (CG L):=(openTo_within (B:=50) (by omega) g.nums (Nat.le_refl _)).mono (by omega)
end
def AX (H:Hs) (p:Int):Nat→List Int
  | 0=>[]
  | j+1=>AX H p j++[CQ ⟨p,(j:Int),false⟩ H,CQ ⟨p,(j:Int),true⟩ H]
def AY (H:Hs) (s:Nat):Nat→List (List Int)
  | 0=>[]
  | k+1=>AY H s k++[AX H (k:Int) s]
def DC (L:Lin) (hour:Int):List (List Int) × Int:=
  if AS L≠0 then ([],AS L) else if inB hour 0 200=false then ([],1) else (AY (atH L hour) L.sorts.toNat L.places.toNat,0)
theorem FS {H:Hs} {p:Int} {j:Nat}:(AX H p j).length=2*j:=by induction j with
  | zero=>rfl
  | succ j ih=>simp only [AX,List.length_append,ih,List.length_cons,List.length_nil];omega
theorem EA {H:Hs} {s k:Nat}:(AY H s k).length=k:=by induction k with
  | zero=>rfl
  | succ k ih=>simp only [AY,List.length_append,ih,List.length_cons,List.length_nil]
theorem stockE_1 {L:Lin} {hour:Int} (h:AS L≠0):DC L hour=([],AS L):=if_pos h
theorem stockE_2 {L:Lin} {hour:Int} (h:AS L=0) (h2:inB hour 0 200=false):DC L hour=([],1):=by unfold DC;rw [if_neg (fun x=>x h),if_pos h2]
theorem stockE_3 {L:Lin} {hour:Int} {k s:Nat} (h:AS L=0) (h2:inB hour 0 200=true) (hk:(k:Int)=L.places) (hs:(s:Int)=L.sorts):DC L hour=(AY (atH L hour) s k,0):=by
  unfold DC;rw [if_neg (fun x=>x h),if_neg (by rw [h2];decide),← hk,← hs];rfl
def gapOf (e:Event):List Gap:=if e.gap≠0 then [⟨e.slip.num,e.gap⟩] else []
def EE (l:List Event):List Gap:=l.flatMap gapOf
def CX (L:Lin):List Event:=evs (CG L) (AE AC L.slips)
def NO (L:Lin):List Gap × Int:=if AS L≠0 then ([],AS L) else (EE (CX L),0)
theorem gapsOf_snoc {l:List Event} {e:Event}:EE (l++[e])=EE l++gapOf e:=by simp [EE]
theorem gapsOf_t {l:List Event} {e:Event} (h:e.gap≠0):EE l++[⟨e.slip.num,e.gap⟩]=EE (l++[e]):=by rw [gapsOf_snoc];unfold gapOf;rw [if_pos h]
theorem gapsOf_f {l:List Event} {e:Event} (h:e.gap=0):EE l=EE (l++[e]):=by rw [gapsOf_snoc];unfold gapOf;rw [if_neg (fun x=>x h),List.append_nil]
theorem gapsOf_length:∀ {l:List Event},(EE l).length≤l.length:=by
  intro l
  induction l with
  | nil=>exact Nat.le_refl _
  | cons x r ih=>
    show (gapOf x++EE r).length≤_;rw [List.length_append,List.length_cons];have:(gapOf x).length≤1:=by unfold gapOf;split <;> simp
    omega
theorem gapsE_1 {L:Lin} (h:AS L≠0):NO L=([],AS L):=if_pos h
theorem gapsE_2 {L:Lin} (h:AS L=0):NO L=(EE (CX L),0):=if_neg (fun x=>x h)
theorem IJ {L:Lin}:(CX L).length=L.slips.length:=by unfold CX;rw [GL];exact (EH _).length_eq
end Go.Sh
namespace Go.Sl
open Go
def IterE {α β:Type} (P:Program) (gf:FuncId) (cv:List Value) (enc:β→List Value) (pr:β→α) (seq:List α) (E:β→Imm→Prop) (R:Imm→Seg→Prop) (I0:Imm):Prop:=
  ∀ (L:Nat) (Cl Sp:List α→Imm→Seg→Prop),(∀ xs I J M,I.le J→Cl xs I M→Cl xs J M) →
    (∀ xs x I Mr M,(xs++[pr x]) <+: seq→I0.le I→E x I→Cl xs I M→Yt P L (enc x).toArray I (Mr++M) (fun v I' M'=>(v=.bool true∧∃ M2,M'=Mr++M2∧Cl (xs++[pr x]) I' M2)∨(v=.bool false∧Sp (xs++[pr x]) I' M'))) →
    ∀ I Mr M,I0.le I→R I Mr→Cl [] I M→Ct P gf (.func (.yield L) #[] #[]::cv).toArray I (Mr++M) (fun _ I' M'=>(∃ Mr' M2,M'=Mr'++M2∧Cl seq I' M2)∨(∃ xs,Sp xs I' M'))
section
variable {ρ:Option Nat} {P:Program} {N:Nat} {ops:Array Oper} {i:Nat} {l:Sl} {I:Imm} {R M:Seg} {ty:TypeId} {gd:Option (Nat × Bool)} {K:Sl→Imm→Seg→Prop} {Q:Exit→Act→World→Prop} {ds:List Deferred}
theorem run_rangeFuncE {α β : Type} {c : Code} {g : Operand} {ps : Array Tmp} {assign body : Code} {gf : FuncId} {cv : List Value} {enc : β → List Value} {pr : β → α} {seq : List α} {E : β → Imm → Prop} {R : Imm → Seg → Prop} {Mr M0 F0 : Seg}
    (Cl:List α→Imm→Seg→Prop) (Sp:Code→List α→Imm→Seg→Prop) (sl:β→Nat→Sl) (mm:β→Nat→Seg)
    (hc:c=.rangeFunc g ps assign body) (hg:CI l g=some (.func (.func gf) #[] cv.toArray)) (hcall:DO P gf=true) (hps:∀ x,(enc x).length=ps.size) (hpN:ps.all (fun t=>Nat.blt t N)=true)
    (it:IterE P gf cv enc pr seq E R I)
    (hmono:∀ xs I J M,I.le J→Cl xs I M→Cl xs J M)
    (hM:M.Perm (Mr++(M0++F0))) (hr:R I Mr) (h0:Cl [] I M0)
    (hassign:∀ L x I1 M1,Run (ρ:=some L) P N assign (Exit.then (fun a w=>∃ k,Slots N (sl x k) a∧a.defers=[]∧St I1 (mm x k++M1) w) (fun _ _ _=>False)) [] (putAll (ps.toList.zip (enc x)) l) I1 M1)
    (hbody:∀ L x k xs I1 Mr1 M1 F1,(xs++[pr x]) <+: seq→I.le I1→E x I1→Cl xs I1 M1 →
      Run (ρ:=some L) P N body (RoundQ I1 (fun o I' M'=>match o with | none=>∃ M2,M'=Mr1++M2∧Cl (xs++[pr x]) I' M2 | some c=>Sp c (xs++[pr x]) I' M') F1) [] (sl x k) I1 (mm x k++(Mr1++(M1++F1))))
    (hdone:∀ D I' Mr' M',I.le I'→Cl seq I' M'→Pst N Q .normal (mark D::ds) l I' ((D,.deferred (some []))::(Mr'++(M'++F0))))
    (hstop:∀ D c xs I' M',I.le I'→Sp c xs I' M'→Run (ρ:=none) P N c Q (mark D::ds) l I' ((D,.deferred (some []))::(M'++F0))) :
    Run (ρ:=none) P N c Q ds l I M:=by
  subst hc;intro a w hS hD hW;refine wpIn_rangeFunc fun fn _=>?_
  obtain ⟨rec,hrec⟩:∃ rec:LoopState→Option Code→Loop,rec=fun st pe=>{ state:=st,pending:=pe,fn,tmps:=a.tmps,params:=ps,assign,body,defers:=w.heap.size }:=⟨_,rfl⟩
  have hW2:St I ((w.heap.size+1,.loop (rec .ready none))::(w.heap.size,.deferred (some []))::(Mr++(M0++F0))) ((w.alloc (.deferred (some []))).alloc (.loop (rec .ready none))):=by
    have h1:=(hW.perm hM).new (.deferred (some []));have h2:=h1.new (.loop (rec .ready none));have e:(w.heap.push (Obj.deferred (some []))).size=w.heap.size+1:=by simp
    rw [e] at h2;exact h2
  generalize hw1:((w.alloc (.deferred (some []))).alloc (.loop (rec .ready none)))=w1 at hW2
  refine ⟨w.heap.size+1,[mark w.heap.size],w1,{ target:=.fn (.func gf) cv.toArray,args:=#[.func (.yield (w.heap.size+1)) #[] #[]] },w1,gf,(.func (.yield (w.heap.size+1)) #[] #[]::cv).toArray,w1,?_,?_,fun _ _=>trivial,?_,fun h=>by simp [fen,Fence.wide] at h,?_⟩
  · rw [← hw1,hrec];exact run_enterLoop_outer _ _ _ _ _
  · unfold resolve
    simp only [eval_of hS hg,Deferred.ofValue];simp [Act.eval,pure,Sem.run]
  · show (callFunc gf (#[Value.func (.yield (w.heap.size+1)) #[] #[]]++cv.toArray)).run P w1=_
    rw [JC hcall];simp
  · refine callsIn_fen.2 ?_
    clear hw1 hW
    generalize w.heap.size+1=L at hW2 hrec ⊢
    generalize w.heap.size=D at hW2 hrec ⊢
    have hit:=it L (fun xs I M=>∃ M0,M=(L,.loop (rec .ready none))::(D,.deferred (some []))::M0∧Cl xs I M0)
      (fun xs I M=>∃ c M0,M=(L,.loop (rec .done (some c)))::(D,.deferred (some []))::M0∧Sp c xs I M0)
      (fun xs I J M le ⟨M0,e,h⟩=>⟨M0,e,hmono xs I J M0 le h⟩) ?_ I Mr ((L,.loop (rec .ready none))::(D,.deferred (some []))::M0) (Imm.le.refl I) hr ⟨M0,rfl,h0⟩
    · refine (hit F0 w1 (hW2.perm ?_)).mono ?_
      · rw [List.append_assoc]
        exact ((List.perm_middle (l₁:=Mr)).trans (.cons _ (List.perm_middle (l₁:=Mr)))).symm
      · rintro e w' ⟨v,I',M',rfl,hle,hp,st⟩
        rcases hp with ⟨Mr',M2,rfl,M3,rfl,hcl⟩ | ⟨xs,c,M3,rfl,hsp⟩
        · have st2 := st.perm (show ((Mr' ++ ((L, Obj.loop (rec .ready none)) :: (D, .deferred (some [])) :: M3)) ++ F0).Perm ((L, Obj.loop (rec .ready none)) :: (D, .deferred (some [])) :: (Mr' ++ (M3 ++ F0))) by
            rw [List.append_assoc]
            exact (List.perm_middle (l₁:=Mr')).trans (.cons _ (List.perm_middle (l₁:=Mr'))))
          have hl:=st2.mem _ _ List.mem_cons_self;refine ⟨none,_,by have:=run_endLoop (P:=P) hl (by rw [hrec];simp);rw [hrec] at this;exact this,?_⟩;refine hdone D I' Mr' M3 hle hcl _ _ ⟨hS.size,hS.get⟩ (by show [mark D]++a.defers=_;rw [hD];rfl) ?_;exact (St.putObj st2).drop
        · have hl:=st.mem (L) (.loop (rec .done (some c))) (by simp)
          refine ⟨some c,_,by have:=run_endLoop (P:=P) hl (by rw [hrec];simp);rw [hrec] at this;exact this,?_⟩;refine hstop D c xs I' M3 hle hsp _ _ ⟨hS.size,hS.get⟩ (by show [mark D]++a.defers=_;rw [hD];rfl) ?_;exact (St.putObj (M:=(D,Obj.deferred (some []))::(M3++F0)) st).drop
    · rintro xs x I1 Mr1 M1' hpre hle hE ⟨M1,rfl,hcl⟩ F1 w2 st
      have hl:=st.mem L (.loop (rec .ready none)) (by simp);have hy:=run_yield (P:=P) (args:=(enc x).toArray) hl (by rw [hrec];simpa using hps x);rw [hrec] at hy;refine ⟨_,_,assign,body,hy,roundIn_of_wpIn (F:=fen none) trivial ?_⟩;have hfold:((ps.zip (enc x).toArray).foldl (fun tmps (t,a)=>tmps.setIfInBounds t a) a.tmps)=(ps.toList.zip (enc x)).foldl (fun t (x:Tmp × Value)=>t.setIfInBounds x.1 x.2) a.tmps:=by
        rw [← Array.foldl_toList];simp
      simp only;rw [hfold];refine wpIn_mono (hassign L x I1 _ _ w2 (slots_fold (ps.toList.zip (enc x)) l a.tmps ⟨hS.size,hS.get⟩ ?_) rfl st) ?_
      · intro y hy'
        have:=(List.of_mem_zip (show (y.1,y.2)∈ps.toList.zip (enc x) from hy')).1;have h3:=Array.all_eq_true'.1 hpN y.1 (by simpa using this);exact Nat.le_of_ble_eq_true h3
      · rintro e a1 w3 hq
        cases e with
        | normal=>
          obtain ⟨k,hS3,hD3,st3⟩:=hq;have st4:St I1 ((L,.loop (rec .ready none))::(mm x k++(Mr1++(M1++((D,.deferred (some []))::F1))))) w3:=st3.perm ((List.Perm.append_left (mm x k) perm3).trans List.perm_middle);have hl3:=st4.mem L (.loop (rec .ready none)) List.mem_cons_self;refine ⟨_,run_beginRound hl3 (by rw [hrec]),?_⟩;have st5:St I1 (mm x k++(Mr1++(M1++((L,.loop { rec .ready none with state:=.busy })::(D,.deferred (some []))::F1)))) (w3.putObj L (.loop { rec .ready none with state:=.busy })):=by
            refine (St.putObj st4).perm ?_;refine (List.perm_middle (l₁:=mm x k)).symm.trans (List.Perm.append_left (mm x k) ?_);have:=(perm3 (A:=Mr1) (B:=M1) (C:=F1) (x:=(L,Obj.loop { rec .ready none with state:=.busy })) (y:=(D,Obj.deferred (some [])))).symm;refine this.trans ?_;rw [List.append_assoc];refine List.Perm.append_left Mr1 ?_;show ((L,Obj.loop { rec .ready none with state:=.busy })::(D,.deferred (some []))::(M1++F1)).Perm _;exact ((List.perm_middle (l₁:=M1)).trans (.cons _ (List.perm_middle (l₁:=M1)))).symm
          refine wpIn_mono (hbody L x k xs I1 Mr1 M1 _ hpre hle hE hcl a1 _ hS3 hD3 st5) ?_
          have fin : ∀ (jump : Option Code) (I' : Imm) (M' : Seg) (w6 : World), St I' (M' ++ ((L, .loop { rec .ready none with state := .busy }) :: (D, .deferred (some [])) :: F1)) w6 →
              (Instr.endRound L jump).run P w6=.ok (.bool jump.isNone) (w6.putObj L (.loop (rec (if jump.isNone then .ready else .done) jump))) ∧
              St I' ((L,.loop (rec (if jump.isNone then .ready else .done) jump))::(M'++((D,.deferred (some []))::F1))) (w6.putObj L (.loop (rec (if jump.isNone then .ready else .done) jump))):=fun jump I' M' w6 st6=>by
            have st7:=st6.perm perm4;have hl7:=st7.mem _ _ List.mem_cons_self;have:=run_endRound (P:=P) jump hl7;rw [hrec] at this ⊢;exact ⟨this,by rw [hrec] at st7;exact St.putObj st7⟩
          rintro e a6 w6 hq6
          have stop : ∀ (c : Code), (∃ I' M', I1.le I' ∧ Sp c (xs ++ [pr x]) I' M' ∧ St I' (M' ++ ((L, .loop { rec .ready none with state := .busy }) :: (D, .deferred (some [])) :: F1)) w6) →
              ∃ v w',(Instr.endRound L (some c)).run P w6=.ok v w'∧RQ I1 (fun v I' M'=>(v=.bool true∧∃ M2,M'=Mr1++M2∧∃ M0,M2=(L,.loop (rec .ready none))::(D,.deferred (some []))::M0∧Cl (xs++[pr x]) I' M0) ∨
                (v=.bool false∧∃ c M0,M'=(L,.loop (rec .done (some c)))::(D,.deferred (some []))::M0∧Sp c (xs++[pr x]) I' M0)) F1 (.returned v) w':=by
            rintro c ⟨I',M',hle',hp,st6⟩
            obtain ⟨h1,h2⟩:=fin (some c) I' M' w6 st6;exact ⟨_,_,h1,_,I',_,rfl,hle',.inr ⟨rfl,c,M',rfl,hp⟩,h2.perm (.cons _ List.perm_middle)⟩
          cases e with
          | normal=>
            obtain ⟨I',M',hle',⟨M2,rfl,hcl'⟩,st6⟩:=hq6;obtain ⟨h1,h2⟩:=fin none I' _ w6 st6;refine ⟨_,_,h1,_,I',_,rfl,hle',.inl ⟨rfl,_,rfl,M2,rfl,hcl'⟩,h2.perm ?_⟩;rw [List.append_assoc];exact perm3.symm
          | ret=>exact stop .ret hq6
          | exit id=>exact stop (.exit id) hq6
          | goto t=>exact stop (.goto t) hq6
          | panic ch=>exact hq6.elim
          | outgrown=>exact hq6.elim
        | exit id=>exact hq.elim
        | goto t=>exact hq.elim
        | ret=>exact hq.elim
        | panic ch=>exact hq.elim
        | outgrown=>exact hq.elim
end
end Go.Sl
namespace Go.Sh
open Go Go.Sl
def kstep (p h:Int) (q:Int × Int) (k:Keep):Int × Int:=bif cmp .eql k.place p&&(cmp .leq k.hour h&&cmp .gtr k.hour q.2) then (k.who,k.hour) else q
def LL (p h:Int) (ks:List Keep):Int × Int:=ks.foldl (kstep p h) (0,-1)
def CZ (L:Lin) (p h:Int):Int:=(LL p h L.keeps).1
section
variable {p h:Int} {ks:List Keep} {k:Nat}
theorem kfold_t (hk:k<ks.length) (hc:(cmp .eql (ks.getD k AJ).place p&&(cmp .leq (ks.getD k AJ).hour h&&cmp .gtr (ks.getD k AJ).hour (LL p h (ks.take k)).2))=true):((ks.getD k AJ).who,(ks.getD k AJ).hour)=LL p h (ks.take (k+1)):=by
  rw [CE (d:=AJ) hk];unfold LL at *;rw [List.foldl_append];simp only [List.foldl_cons,List.foldl_nil,kstep];rw [hc];rfl
theorem kfold_f (hk:k<ks.length) (hc:(cmp .eql (ks.getD k AJ).place p&&(cmp .leq (ks.getD k AJ).hour h&&cmp .gtr (ks.getD k AJ).hour (LL p h (ks.take k)).2))=false):LL p h (ks.take k)=LL p h (ks.take (k+1)):=by
  rw [CE (d:=AJ) hk];unfold LL at *;rw [List.foldl_append];simp only [List.foldl_cons,List.foldl_nil,kstep];rw [hc];rfl
theorem kfold_who:∀ {ks:List Keep} {q:Int × Int},(ks.foldl (kstep p h) q).1=q.1∨(ks.foldl (kstep p h) q).1∈ks.map (·.who):=by
  intro ks
  induction ks with
  | nil=>intro q;exact .inl rfl
  | cons x r ih=>
    intro q;simp only [List.foldl_cons,List.map_cons,List.mem_cons];rcases ih (q:=kstep p h q x) with e | e
    · rw [e];unfold kstep;cases (cmp .eql x.place p&&(cmp .leq x.hour h&&cmp .gtr x.hour q.2)) with
      | true=>exact .inr (.inl rfl)
      | false=>exact .inl rfl
    · exact .inr (.inr e)
end
theorem keeperOf_mem {L:Lin} {p h:Int} (hn:CZ L p h≠0):CZ L p h∈L.keeps.map (·.who):=by
  rcases kfold_who (p:=p) (h:=h) (ks:=L.keeps) (q:=(0,-1)) with e | e
  · exact absurd e hn
  · exact e
def DE (L:Lin) (p since:Int):Nat→List Int
  | 0=>[]
  | n+1=>if (n:Int)<since then DE L p since n else if CZ L p n=0 then DE L p since n else if CZ L p n∈DE L p since n then DE L p since n else DE L p since n++[CZ L p n]
section
variable {L:Lin} {p since:Int} {n:Nat}
theorem holdTo_1 (h:(n:Int)<since):DE L p since n=DE L p since (n+1):=(if_pos h).symm
theorem holdTo_2 (h:¬ (n:Int)<since) (h2:CZ L p n=0):DE L p since n=DE L p since (n+1):=by simp only [DE];rw [if_neg h,if_pos h2]
theorem holdTo_3 (h:¬ (n:Int)<since) (h2:¬ CZ L p n=0) (h3:CZ L p n∈DE L p since n):DE L p since n=DE L p since (n+1):=by simp only [DE];rw [if_neg h,if_neg h2,if_pos h3]
theorem holdTo_4 (h:¬ (n:Int)<since) (h2:¬ CZ L p n=0) (h3:¬ CZ L p n∈DE L p since n):DE L p since n++[CZ L p n]=DE L p since (n+1):=by simp only [DE];rw [if_neg h,if_neg h2,if_neg h3]
theorem holdTo_once:∀ n,(DE L p since n).Nodup∧∀ x∈DE L p since n,x∈L.keeps.map (·.who):=by
  intro n
  induction n with
  | zero=>exact ⟨List.nodup_nil,fun x hx=>by cases hx⟩
  | succ n ih=>
    simp only [DE]
    split
    · exact ih
    split
    · exact ih
    rename_i h2
    split
    · exact ih
    · rename_i h3
      refine ⟨List.nodup_append.2 ⟨ih.1,by simp,fun a ha b hb=>?_⟩,fun x hx=>?_⟩
      · simp only [List.mem_singleton] at hb;intro e;rw [e,hb] at ha;exact h3 ha
      · rcases List.mem_append.1 hx with hx | hx
        · exact ih.2 x hx
        · simp only [List.mem_singleton] at hx;subst hx;exact keeperOf_mem h2
omit p since n in
theorem once_len:∀ {l m:List Int},l.Nodup→(∀ x∈l,x∈m)→l.length≤m.length:=by
  intro l
  induction l with
  | nil=>intro m _ _;exact Nat.zero_le _
  | cons x r ih=>
    intro m hn hs;have hn2:=List.nodup_cons.1 hn;have hx:=hs x (by simp);have:=ih (m:=m.erase x) hn2.2 (fun y hy=>(List.mem_erase_of_ne (fun e=>hn2.1 (by rw [← e];exact hy))).2 (hs y (by simp [hy])));rw [List.length_erase_of_mem hx] at this;have h0:=List.length_pos_of_mem hx;rw [List.length_cons];omega
theorem holdTo_len (hk:L.keeps.length≤4):(DE L p since n).length≤4:=by
  have:=once_len (holdTo_once (L:=L) (p:=p) (since:=since) n).1 (holdTo_once n).2;rw [List.length_map] at this;omega
end
def ET (L:Lin) (s:Slip) (since:Int):List Int:=AE cmpZ (DE L s.place since (s.hour+1).toNat)
theorem holdersOf_len {L:Lin} {s:Slip} {since:Int} (hk:L.keeps.length≤4):(ET L s since).length≤4:=by unfold ET;rw [(EH _).length_eq];exact holdTo_len hk
theorem holdersOf_at {L:Lin} {s:Slip} {since:Int} {n:Nat} (h:(n:Int)=s.hour+1):AE cmpZ (DE L s.place since n)=ET L s since:=by unfold ET;rw [← h];rfl
abbrev EvH:=Sh.Event × List Int
def gstep (L:Lin) (q:Hs × List EvH) (e:Sh.Event):Hs × List EvH:=
  if e.slip.kind≠4 then q else (GV (keyOf e.slip) e.slip.hour q.1,if e.gap≠0 then q.2++[(e,ET L e.slip (CQ (keyOf e.slip) q.1))] else q.2)
def FH (L:Lin) (l:List Sh.Event):Hs × List EvH:=l.foldl (gstep L) ([],[])
def lackOf (L:Lin):List EvH:=(FH L (CX L)).2
section
variable {L:Lin} {xs ys:List Sh.Event} {x:Sh.Event}
theorem JV:FH L (xs++[x])=gstep L (FH L xs) x:=by unfold FH;rw [List.foldl_append];rfl
theorem gfold_1 (h:x.slip.kind≠4):FH L xs=FH L (xs++[x]):=by rw [JV];unfold gstep;rw [if_pos h]
theorem gfold_2 (h:x.slip.kind=4):(FH L (xs++[x])).1=GV ⟨x.slip.place,x.slip.sort,x.slip.soil⟩ x.slip.hour (FH L xs).1:=by rw [JV];unfold gstep;rw [if_neg (fun e=>e h)];rfl
theorem gfold_3 (h:x.slip.kind=4) (h2:x.gap=0):(FH L xs).2=(FH L (xs++[x])).2:=by rw [JV];unfold gstep;rw [if_neg (fun e=>e h)];simp only;rw [if_neg (fun e=>e h2)]
theorem gfold_4 (h:x.slip.kind=4) (h2:x.gap≠0):(FH L xs).2++[(x,ET L x.slip (CQ ⟨x.slip.place,x.slip.sort,x.slip.soil⟩ (FH L xs).1))]=(FH L (xs++[x])).2:=by rw [JV];unfold gstep;rw [if_neg (fun e=>e h)];simp only;rw [if_pos h2];rfl
theorem gfold_more:∀ {ys xs:List Sh.Event},(FH L xs).2 <+: (FH L (xs++ys)).2:=by
  intro ys
  induction ys with
  | nil=>intro xs;rw [List.append_nil];exact List.prefix_refl _
  | cons y r ih=>
    intro xs;have h1:(FH L xs).2 <+: (FH L (xs++[y])).2:=by
      rw [JV];unfold gstep
      split
      · exact List.prefix_refl _
      · simp only;split
        · exact List.prefix_append _ _
        · exact List.prefix_refl _
    have h2:=ih (xs:=xs++[y]);rw [List.append_assoc] at h2;exact h1.trans h2
theorem gfold_pre (h:xs <+: ys):(FH L xs).2 <+: (FH L ys).2:=by obtain ⟨r,rfl⟩:=h;exact gfold_more
end
def encEvH (q:EvH × (Option Addr × Nat)):List Value:=[.agg #[.int .i64 q.1.1.slip.num,.int .i64 q.1.1.slip.hour,.int .i64 q.1.1.slip.kind,.int .i64 q.1.1.slip.place,.int .i64 q.1.1.slip.to,.int .i64 q.1.1.slip.sort,.bool q.1.1.slip.soil,.int .i64 q.1.1.slip.amt,.int .i64 q.1.1.gap,.bool q.1.1.below,.slice q.2.1 q.1.2.length q.2.2]]
theorem evs_slip:∀ {S:List Slip} {H:Hs} {x:Sh.Event},x∈evs H S→x.slip∈S:=by
  intro S
  induction S with
  | nil=>intro H x hx;cases hx
  | cons s r ih=>
    intro H x hx;simp only [evs] at hx;rcases List.mem_cons.1 hx with rfl | hx
    · exact List.mem_cons_self
    · exact List.mem_cons_of_mem _ (ih hx)
theorem GoodL.ofEv {L:Lin} (g:GoodL L) {xs:List Sh.Event} {x:Sh.Event} {H:Hs} (h:(xs++[x]) <+: evs H (AE AC L.slips)):0≤x.slip.hour∧x.slip.hour≤200:=
  (MH (g.slipOf ((EH _).subset (evs_slip (h.subset (List.mem_append_right _ List.mem_cons_self)))))).2.1
def PP (n:Int) (l:List EvH):Option (List Int):=(l.find? fun q=>decide (q.1.slip.num=n)).map Prod.snd
theorem lackAt_hit {n:Int} {l xs:List EvH} {x:EvH} (h:(xs++[x]) <+: l) (hn:∀ q∈xs,q.1.slip.num≠n) (hx:x.1.slip.num=n):PP n l=some x.2:=by
  obtain ⟨r,rfl⟩:=h;unfold PP;rw [List.append_assoc,List.find?_append,List.find?_eq_none.2 (fun q hq=>by simpa using hn q hq)];simp [hx]
theorem lackAt_none {n:Int} {l:List EvH} (hn:∀ q∈l,q.1.slip.num≠n):PP n l=none:=by
  unfold PP;rw [List.find?_eq_none.2 (fun q hq=>by simpa using hn q hq)];rfl
def CY (L:Lin) (n:Int):List Int × Int:=
  if AS L≠0 then ([],AS L) else if NG (fun x:Slip=>decide (x.num=n)) L.slips<0 then ([],3)
  else if (L.slips.getD (NG (fun x:Slip=>decide (x.num=n)) L.slips).toNat AB).kind≠4 then ([],8)
  else match PP n (lackOf L) with
    | some h=>(h,0)
    | none=>([],11)
section
variable {L:Lin} {n:Int} {i:Nat}
theorem holdersE_1 (h:AS L≠0):CY L n=([],AS L):=if_pos h
theorem holdersE_2 (h:AS L=0) (h2:NG (fun x:Slip=>decide (x.num=n)) L.slips<0):CY L n=([],3):=by unfold CY;rw [if_neg (fun x=>x h),if_pos h2]
theorem holdersE_3 (h:AS L=0) (h2:NG (fun x:Slip=>decide (x.num=n)) L.slips=(i:Int)) (h3:¬ (L.slips.getD i AB).kind=4):CY L n=([],8):=by
  unfold CY;rw [if_neg (fun x=>x h),h2,if_neg (by omega),Int.toNat_natCast,if_pos h3]
theorem holdersE_4 {l:List Int} (h:AS L=0) (h2:NG (fun x:Slip=>decide (x.num=n)) L.slips=(i:Int)) (h3:(L.slips.getD i AB).kind=4) (h4:PP n (lackOf L)=some l):CY L n=(l,0):=by
  unfold CY;rw [if_neg (fun x=>x h),h2,if_neg (by omega),Int.toNat_natCast,if_neg (fun x=>x h3),h4]
theorem holdersE_5 (h:AS L=0) (h2:NG (fun x:Slip=>decide (x.num=n)) L.slips=(i:Int)) (h3:(L.slips.getD i AB).kind=4) (h4:PP n (lackOf L)=none):CY L n=([],11):=by
  unfold CY;rw [if_neg (fun x=>x h),h2,if_neg (by omega),Int.toNat_natCast,if_neg (fun x=>x h3),h4]
end
theorem ne_snoc {α:Type} {p:α→Prop} {xs:List α} {x:α} (h:∀ q∈xs,p q) (hx:p x):∀ q∈xs++[x],p q:=fun q hq=>by
  rcases List.mem_append.1 hq with hq | hq
  · exact h q hq
  · simp only [List.mem_singleton] at hq;subst hq;exact hx
def evOk (e:Sh.Event):Bool:=cmp .eql e.gap 0&&!e.below
def rightE (L:Lin):Bool:=(CX L).all evOk
theorem rightE_no {L:Lin} {xs:List Sh.Event} {x:Sh.Event} (h:(xs++[x]) <+: CX L) (hx:evOk x=false):rightE L=false:=by
  unfold rightE;cases e:(CX L).all evOk with
  | false=>rfl
  | true=>
    have:=List.all_eq_true.1 e x (h.subset (by simp));rw [hx] at this;cases this
theorem rightE_yes {L:Lin} (h:∀ x∈CX L,evOk x=true):rightE L=true:=List.all_eq_true.2 h
def woS (L:Lin) (ns:List Int):List Slip:=L.slips.filter fun x=>!decide (x.num∈ns)
def woL (L:Lin) (ns:List Int):Lin:=⟨L.places,L.sorts,L.start,L.keeps,woS L ns⟩
theorem GoodL.wo {L:Lin} (g:GoodL L) {ns:List Int}:GoodS (woL L ns).slips:=g.goodS.sub (List.length_filter_le _ _) fun x hx=>(List.mem_filter.1 hx).1
theorem GoodL.woW {L:Lin} (g:GoodL L) {ns:List Int}:Within 1000 (CG (woL L ns)):=g.within
def IL (f:Nat→List Int × Bool) (j:Nat):Nat→List Int × Bool
  | 0=>([],false)
  | k+1=>if (f j).2=true then ((f j).1,true) else IL f (j+1) k
def FV (L:Lin) (all:List Int):Nat→List Int→Nat→List Int × Bool
  | 0,begun,_=>(begun,rightE (woL L begun))
  | m+1,begun,j=>IL (fun i=>FV L all m (begun++[all.getD i 0]) (i+1)) j (all.length-j)
section
variable {f:Nat→List Int × Bool} {i n:Nat}
theorem firstW_hit (hi:i<n) (h:(f i).2=true):IL f i (n-i)=((f i).1,true):=by
  obtain ⟨k,hk⟩:∃ k,n-i=k+1:=⟨n-i-1,by omega⟩;rw [hk];simp only [IL];rw [if_pos h]
theorem firstW_miss (hi:i<n) (h:(f i).2=false):IL f i (n-i)=IL f (i+1) (n-(i+1)):=by
  obtain ⟨k,hk⟩:∃ k,n-i=k+1:=⟨n-i-1,by omega⟩;rw [hk,show n-(i+1)=k by omega];simp only [IL];rw [if_neg (by rw [h];decide)]
theorem firstW_none (hi:n≤i):IL f i (n-i)=([],false):=by rw [show n-i=0 by omega];rfl
end
def allN (L:Lin):List Int:=AE cmpZ (L.slips.map (·.num))
def HR (L:Lin):List Int × Int:=
  if AS L≠0 then ([],AS L)
  else if (IL (fun m=>FV L (allN L) m [] 0) 0 3).2=true then ((IL (fun m=>FV L (allN L) m [] 0) 0 3).1,0) else ([],11)
theorem wrongE_1 {L:Lin} (h:AS L≠0):HR L=([],AS L):=if_pos h
theorem wrongE_2 {L:Lin} {l:List Int} (h:AS L=0) (h2:IL (fun m=>FV L (allN L) m [] 0) 0 3=(l,true)):HR L=(l,0):=by unfold HR;rw [if_neg (fun x=>x h),h2,if_pos rfl]
theorem wrongE_3 {L:Lin} (h:AS L=0) (h2:IL (fun m=>FV L (allN L) m [] 0) 0 3=([],false)):HR L=([],11):=by unfold HR;rw [if_neg (fun x=>x h),h2,if_neg (by decide)]
theorem allN_len {L:Lin}:(allN L).length=L.slips.length:=by unfold allN;rw [(EH _).length_eq,List.length_map]
section
variable {n m h:Nat} {left:Int} {g l:List Int}
def balF (n m h:Nat) (left:Int) (g l:List Int) (b:Nat):Option (List Cart):=
  (CN n m h (left-(b+1:Nat)) (less (pF n (m+1)) (b+1) g) (less (pT n (m+1)) (b+1) l)).map (fun r=>(⟨(pF n (m+1):Int),(pT n (m+1):Int),(b:Int)+1⟩:Cart)::r)
theorem MF:CN n m 0 left g l=if left=0 then some [] else none:=by cases m <;> rfl
theorem growD_few (hl:left<(h:Int)+1):CN n (m+1) (h+1) left g l=none:=if_pos hl
theorem growD_eq (hl:¬ left<(h:Int)+1):CN n (m+1) (h+1) left g l=(match (List.range (most n (m+1) g l)).findSome? (balF n m h left g l) with | some x=>some x | none=>CN n m (h+1) left g l):=if_neg hl
def BalNo (n m h:Nat) (left:Int) (g l:List Int) (j:Nat):Prop:=∀ b,b+1<j→balF n m h left g l b=none
theorem BalNo.start:BalNo n m h left g l 1:=fun b hb=>by omega
abbrev JF (n m h:Nat) (left:Int) (g l:List Int) (j:Nat):Option (List Cart):=CN n m h (left-(j:Int)) (less (pF n (m+1)) j g) (less (pT n (m+1)) j l)
theorem BalNo.next {j:Nat} (hn:BalNo n m h left g l j) (h1:1≤j) (hs:(JF n m h left g l j).isSome=false):BalNo n m h left g l (j+1):=fun b hb=>by
  by_cases e:b+1=j
  · subst e
    unfold balF;rw [Option.map_eq_none_iff];cases hx:JF n m h left g l (b+1) with
    | none=>exact hx
    | some x=>rw [hx] at hs;cases hs
  · exact hn b (by omega)
theorem grow_hit {j : Nat} (hl : ¬ left < (h : Int) + 1) (hn : BalNo n m h left g l j) (h1 : 1 ≤ j) (h2 : (j : Int) ≤ most n (m + 1) g l) (hs : (JF n m h left g l j).isSome = true) :
    CN n (m+1) (h+1) left g l=some (⟨(pF n (m+1):Int),(pT n (m+1):Int),(j:Int)⟩::(JF n m h left g l j).getD []):=by
  obtain ⟨r,hr⟩:=Option.isSome_iff_exists.1 hs;obtain ⟨b,rfl⟩:∃ b,j=b+1:=⟨j-1,by omega⟩;rw [growD_eq hl,JS (k:=b) (r:=⟨(pF n (m+1):Int),(pT n (m+1):Int),((b+1:Nat):Int)⟩::r) (fun i hi=>hn i (by omega)) ?_ (by omega),hr]
  · rfl
  · unfold balF;rw [show CN n m h (left-((b+1:Nat):Int)) (less (pF n (m+1)) (b+1) g) (less (pT n (m+1)) (b+1) l)=some r from hr];rfl
theorem grow_miss {j:Nat} (hl:¬ left<(h:Int)+1) (hn:BalNo n m h left g l j) (h2:¬ (j:Int)≤most n (m+1) g l):CN n (m+1) (h+1) left g l=CN n m (h+1) left g l:=by
  rw [growD_eq hl,GI (fun i hi=>hn i (by omega))]
theorem less_back {k b:Nat} {l:List Int}:(less k b l).set k ((less k b l).getD k 0+(b:Int))=l:=by
  unfold less
  by_cases hk:k<l.length
  · rw [List.set_set]
    have:(l.set k (l.getD k 0-(b:Int))).getD k 0+(b:Int)=l.getD k 0:=by simp [List.getD,hk]
    rw [this]
    apply List.ext_getElem?
    intro i;rw [List.getElem?_set]
    split
    · rename_i e;subst e;simp [List.getD,hk]
    · rfl
  · have e:l.set k (l.getD k 0-(b:Int))=l:=List.set_eq_of_length_le (by omega)
    rw [e];exact List.set_eq_of_length_le (by omega)
end
theorem grow_len {n:Nat}:∀ (m h:Nat) (left:Int) (g l:List Int) (z:List Cart),CN n m h left g l=some z→z.length=h:=by
  intro m
  induction m with
  | zero=>
    intro h left g l z e;cases h with
    | zero=>rw [MF] at e;split at e <;> simp at e;subst e;rfl
    | succ h=>cases e
  | succ m ih=>
    intro h left g l z e;cases h with
    | zero=>rw [MF] at e;split at e <;> simp at e;subst e;rfl
    | succ h=>
      by_cases hl:left<(h:Int)+1
      · rw [growD_few hl] at e;cases e
      · rw [growD_eq hl] at e
        split at e
        · rename_i x hx
          obtain ⟨b,_,hb⟩:=List.exists_of_findSome?_eq_some hx;cases e;unfold balF at hb;obtain ⟨r,hr,rfl⟩:=Option.map_eq_some_iff.1 hb;simp [ih _ _ _ _ _ hr]
        · exact ih _ _ _ _ _ e
theorem grow_getD_len {n m h:Nat} {left:Int} {g l:List Int}:((CN n m h left g l).getD []).length≤h:=by
  cases e:CN n m h left g l with
  | none=>simp
  | some z=>simp [grow_len _ _ _ _ _ _ e]
structure GrowOk (n:Nat) (left:Int) (g l:List Int):Prop where
  n4:n≤4
  gl:g.length=n
  ll:l.length=n
  g0:∀ x∈g,0≤x∧x≤50
  l0:∀ x∈l,0≤x∧x≤50
  sum:left=l.sum
theorem sum_le {c:Int}:∀ {l:List Int},(∀ x∈l,x≤c)→l.sum≤l.length*c:=by
  intro l
  induction l with
  | nil=>intro _;simp
  | cons x r ih=>
    intro h;have h1:=h x (by simp);have h2:=ih (fun y hy=>h y (by simp [hy]));simp only [List.sum_cons,List.length_cons];rw [show ((r.length+1:Nat):Int)*c=r.length*c+c by rw [Int.natCast_add,Int.add_mul];omega];omega
theorem GrowOk.left {n:Nat} {left:Int} {g l:List Int} (o:GrowOk n left g l):0≤left∧left≤200:=by
  have h1:=JY (fun x hx=>(o.l0 x hx).1);have h2:=sum_le (c:=50) (fun x hx=>(o.l0 x hx).2);have h3:=o.n4;have h4:=o.ll;have h5:=o.sum;omega
theorem GrowOk.at {n:Nat} {left:Int} {g l:List Int} (o:GrowOk n left g l) (k:Nat):0≤g.getD k 0∧g.getD k 0≤50∧0≤l.getD k 0∧l.getD k 0≤50:=by
  have hz:∀ {q:List Int},(∀ x∈q,0≤x∧x≤50)→0≤q.getD k 0∧q.getD k 0≤50:=fun {q} h=>by
    by_cases hk:k<q.length
    · exact h _ (BD hk)
    · simp [List.getD,List.getElem?_eq_none (Nat.le_of_not_lt hk)]
  exact ⟨(hz o.g0).1,(hz o.g0).2,(hz o.l0).1,(hz o.l0).2⟩
theorem GrowOk.less {n m j:Nat} {left:Int} {g l:List Int} (o:GrowOk n left g l) (h1:1≤j) (h2:(j:Int)≤most n (m+1) g l):GrowOk n (left-(j:Int)) (less (pF n (m+1)) j g) (less (pT n (m+1)) j l):=by
  obtain ⟨b,rfl⟩:∃ b,j=b+1:=⟨j-1,by omega⟩;obtain ⟨h3,h4⟩:=most_lt (n:=n) (m:=m+1) (g:=g) (l:=l) (b:=b) (by omega);have e1:∀ {k:Nat} {q:List Int},(∀ x∈q,0≤x∧x≤50)→((b:Int)+1≤q.getD k 0)→∀ x∈Sh.less k (b+1) q,0≤x∧x≤50:=fun {k q} h hb x hx=>by
    rcases List.mem_or_eq_of_mem_set hx with h5 | rfl
    · exact h x h5
    · have hk : k < q.length := by
        rcases Nat.lt_or_ge k q.length with h | h
        · exact h
        · simp [List.getD,List.getElem?_eq_none h] at hb;omega
      have:=h _ (BD (d:=0) hk);omega
  exact ⟨o.n4,by rw [EZ];exact o.gl,by rw [EZ];exact o.ll,e1 o.g0 h3,e1 o.l0 h4,by rw [NY h4,o.sum]⟩
theorem most_int {n m:Nat} {left:Int} {g l:List Int} (o:GrowOk n left g l):(if l.getD (pT n m) 0<g.getD (pF n m) 0 then l.getD (pT n m) 0 else g.getD (pF n m) 0)=((most n m g l:Nat):Int):=by
  have h1:=(o.at (pF n m)).1;have h2:=(o.at (pT n m)).2.2.1;unfold most;omega
def ER (F:Nat→Int) (n k:Nat):List Int:=(List.range n).map fun i=>if i<k then F i else 0
section
variable {F:Nat→Int} {n k:Nat}
theorem HC:(ER F n k).length=n:=by simp [ER]
theorem fill_zero:List.replicate n (0:Int)=ER F n 0:=by
  apply List.ext_getElem?;intro i;unfold ER
  by_cases h:i<n
  · simp [h]
  · simp [h]
theorem fill_set (hk:k<n):(ER F n k).set k (F k)=ER F n (k+1):=by
  apply List.ext_getElem?;intro i
  rw [List.getElem?_set]
  by_cases e:k=i
  · subst e;simp [ER,hk]
  · rw [if_neg e];unfold ER
    by_cases h:i<n
    · simp only [List.getElem?_map,List.getElem?_range h,Option.map_some]
      by_cases h2:i<k
      · rw [if_pos h2,if_pos (by omega)]
      · rw [if_neg h2,if_neg (by omega)]
    · simp [h]
theorem fill_skip (h0:F k=0):ER F n k=ER F n (k+1):=by
  unfold ER;refine List.map_congr_left fun i _=>?_
  by_cases h2:i<k
  · rw [if_pos h2,if_pos (by omega)]
  · rw [if_neg h2]
    by_cases h3:i=k
    · subst h3;rw [if_pos (by omega),h0]
    · rw [if_neg (by omega)]
theorem fill_at (hk:k<n):(ER F n (k+1)).getD k 0=F k:=by simp [ER,List.getD,hk]
theorem fill_done:ER F n n=(List.range n).map F:=by
  unfold ER;refine List.map_congr_left fun i hi=>?_
  rw [if_pos (List.mem_range.1 hi)]
def GQ (F:Nat→Int):Nat→Int
  | 0=>0
  | k+1=>GQ F k+F k
theorem sumTo_eq:∀ n,GQ F n=((List.range n).map F).sum:=by
  intro n
  induction n with
  | zero=>rfl
  | succ n ih=>rw [GQ,ih,List.range_succ,List.map_append,List.sum_append];simp
theorem sumTo_le {c:Int} (h:∀ i,0≤F i∧F i≤c):∀ k,0≤GQ F k∧GQ F k≤k*c:=by
  intro k
  induction k with
  | zero=>simp [GQ]
  | succ k ih=>
    have:=h k;rw [GQ,show ((k+1:Nat):Int)*c=k*c+c by rw [Int.natCast_add,Int.add_mul];omega];omega
end
section
variable {h nd:List Int} {b:Int} {k:Nat}
theorem div_give (hk:k<h.length) (e:nd.getD k 0≤h.getD k 0):(ER (CW h nd b) h.length k).set k ((h.getD k 0-nd.getD k 0)/b)=ER (CW h nd b) h.length (k+1)∧ER (EL h nd b) h.length k=ER (EL h nd b) h.length (k+1):=by
  refine ⟨?_,fill_skip (if_pos e)⟩;rw [← fill_set hk,CW,if_pos e]
theorem div_get (hk:k<h.length) (e:¬ nd.getD k 0≤h.getD k 0):(ER (EL h nd b) h.length k).set k ((nd.getD k 0-h.getD k 0+b-1)/b)=ER (EL h nd b) h.length (k+1)∧ER (CW h nd b) h.length k=ER (CW h nd b) h.length (k+1):=by
  refine ⟨?_,fill_skip (if_neg e)⟩;rw [← fill_set hk,EL,if_neg e]
theorem Pool.bound (hp:Pool h nd b) (i:Nat):(0≤CW h nd b i∧CW h nd b i≤50)∧(0≤EL h nd b i∧EL h nd b i≤50):=by
  by_cases hi:i<h.length
  · have h1:=CR (hp.each i hi).1;have h2:=CR (hp.each i hi).2
    exact ⟨⟨NP hp.bale.1 i,giveOf_le hp.bale.1 (by decide) h1.2 h2.1⟩,⟨PK hp.bale.1 i,getOf_le hp.bale.1 (by decide) h2.2 h1.1⟩⟩
  · have e1:h.getD i 0=0:=by simp [List.getD,List.getElem?_eq_none (Nat.le_of_not_lt hi)]
    have e2:nd.getD i 0=0:=by have:=hp.same;simp [List.getD,List.getElem?_eq_none (show nd.length≤i by omega)]
    simp only [CW,EL,e1,e2];simp
theorem Pool.at (hp:Pool h nd b) {i:Nat} (hi:i<h.length):0≤h.getD i 0∧h.getD i 0≤50∧0≤nd.getD i 0∧nd.getD i 0≤50:=by
  have h1:=CR (hp.each i hi).1;have h2:=CR (hp.each i hi).2;exact ⟨h1.1,h1.2,h2.1,h2.2⟩
theorem Pool.grow (hp:Pool h nd b):GrowOk h.length (FO h nd b).sum (FJ h nd b) (FO h nd b):=by
  refine ⟨hp.few,NQ,PL,fun x hx=>?_,fun x hx=>?_,rfl⟩
  · obtain ⟨i,_,rfl⟩:=List.mem_map.1 hx;exact (hp.bound i).1
  · obtain ⟨i,_,rfl⟩:=List.mem_map.1 hx;exact (hp.bound i).2
theorem gives_sum:GQ (CW h nd b) h.length=(FJ h nd b).sum:=sumTo_eq _
theorem gets_sum:GQ (EL h nd b) h.length=(FO h nd b).sum:=sumTo_eq _
end
section
variable {n k:Nat} {g l:List Int}
theorem first_some (hn:0<n) (hg:g.length=n) (hl:l.length=n) (g0:∀ x∈g,0≤x) (l0:∀ x∈l,0≤x) (hs:¬ g.sum<l.sum):firstD n g l≠none:=by
  rw [firstD_best l0];cases hL:DP n (n*n) g l with
  | nil=>exact absurd ((lists_none hn hg hl g0 l0).1 hL) hs
  | cons x r=>simp
theorem first_more (hex:firstD n g l≠none) (hno:∀ j,j<k→CN n (n*n) j l.sum g l=none) (hs:(CN n (n*n) k l.sum g l).isSome=false):k+1≤n*n:=by
  refine Nat.le_of_not_lt fun hk=>hex (GI fun j hj=>?_)
  by_cases e:j<k
  · exact hno j e
  · obtain rfl:j=k:=by omega
    cases hx:CN n (n*n) j l.sum g l with
    | none=>rfl
    | some x=>rw [hx] at hs;cases hs
theorem divD_hit (hno:∀ j,j<k→CN n (n*n) j l.sum g l=none) (hk:k≤n*n) (hs:(CN n (n*n) k l.sum g l).isSome=true):firstD n g l=CN n (n*n) k l.sum g l:=by
  obtain ⟨r,hr⟩:=Option.isSome_iff_exists.1 hs;rw [hr];exact JS hno hr (by omega)
theorem none_next (hno:∀ j,j<k→CN n (n*n) j l.sum g l=none) (hs:(CN n (n*n) k l.sum g l).isSome=false):∀ j,j<k+1→CN n (n*n) j l.sum g l=none:=
  IH hno (by cases hx:CN n (n*n) k l.sum g l with | none=>rfl | some x=>rw [hx] at hs;cases hs)
end
theorem divE_bad {h nd:List Int} {b:Int} (e:DW h nd b≠0):divE h nd b=([],DW h nd b):=if_pos e
theorem divE_none {h nd:List Int} {b:Int} (e:DW h nd b=0) (hs:(FJ h nd b).sum<(FO h nd b).sum):divE h nd b=([],11):=by unfold divE;rw [if_neg (by omega),if_pos hs]
theorem divE_ok {h nd:List Int} {b:Int} (e:DW h nd b=0) (hs:¬ (FJ h nd b).sum<(FO h nd b).sum):divE h nd b=((firstD h.length (FJ h nd b) (FO h nd b)).getD [],0):=by unfold divE;rw [if_neg (by omega),if_neg hs]
def CartsV (I:Imm) (vs:List Value) (xss:List (List Cart)):Prop:=vs.length=xss.length∧∀ i,i<xss.length→IsCarts I (vs.getD i undef) (xss.getD i [])
theorem CartsV.mono {I J:Imm} {vs:List Value} {xss:List (List Cart)} (h:CartsV I vs xss) (le:I.le J):CartsV J vs xss:=⟨h.1,fun i hi=>(h.2 i hi).mono le⟩
theorem CartsV.nil (I:Imm):CartsV I [] []:=⟨rfl,fun i hi=>by simp at hi⟩
theorem CartsV.snoc {I:Imm} {vs:List Value} {xss:List (List Cart)} {v:Value} {xs:List Cart} (h:CartsV I vs xss) (hv:IsCarts I v xs):CartsV I (vs++[v]) (xss++[xs]):=by
  refine ⟨by simp [h.1],fun i hi=>?_⟩
  by_cases e:i<xss.length
  · have:=h.2 i e
    simp only [List.getD,List.getElem?_append_left (h.1▸e),List.getElem?_append_left e] at this ⊢;exact this
  · have e1:i=xss.length:=by simp at hi;omega
    subst e1;have h1:=h.1;simp only [List.getD];rw [List.getElem?_append_right (by omega),List.getElem?_append_right (by omega),h1]
    simpa using hv
theorem CartsV.append {I:Imm} {vs ws:List Value} {xss yss:List (List Cart)} (h:CartsV I vs xss) (k:CartsV I ws yss):CartsV I (vs++ws) (xss++yss):=by
  have h1:=h.1;refine ⟨by simp [h.1,k.1],fun i hi=>?_⟩;simp only [List.length_append] at hi
  by_cases e:i<xss.length
  · have:=h.2 i e
    simp only [List.getD] at this ⊢;rw [List.getElem?_append_left (by omega),List.getElem?_append_left e];exact this
  · have:=k.2 (i-xss.length) (by omega)
    simp only [List.getD] at this ⊢;rw [List.getElem?_append_right (by omega),List.getElem?_append_right (by omega),h1];exact this
theorem CartsV.one {I:Imm} {vs:List Value} {xss:List (List Cart)} (h:CartsV I vs xss):vs.all DF=true:=by
  rw [List.all_eq_true];intro v hv;obtain ⟨i,hi,rfl⟩:=List.mem_iff_getElem.1 hv;have:=h.2 i (h.1▸hi);obtain ⟨a,c,b,o,e,_⟩:=this;rw [List.getD,List.getElem?_eq_getElem hi] at e;simp only [Option.getD_some] at e;rw [e];rfl
section
variable {n q fr to c:Nat} {g l:List Int}
end
section
variable {h nd:List Int} {b:Int} {k:Nat}
theorem Pool.at2 (hp:Pool h nd b) (hk:k<h.length):(0≤h.getD k 0∧h.getD k 0≤50)∧(0≤nd.getD k 0∧nd.getD k 0≤50):=⟨CR (hp.each k hk).1,CR (hp.each k hk).2⟩
theorem Pool.cap (hp:Pool h nd b):(∀ x∈FJ h nd b,0≤x∧x≤50)∧(∀ x∈FO h nd b,0≤x∧x≤50):=by
  constructor
  · intro x hx
    refine ⟨NR hp.bale.1 x hx,?_⟩;obtain ⟨i,_,rfl⟩:=List.mem_map.1 hx;exact (hp.bound i).1.2
  · intro x hx
    refine ⟨PN hp.bale.1 x hx,?_⟩;obtain ⟨i,_,rfl⟩:=List.mem_map.1 hx;exact (hp.bound i).2.2
end
def bookL:Lin:=⟨2,1,[[10],[0]],[⟨1,2,5⟩],[⟨1,1,1,0,1,0,false,6⟩,⟨2,3,2,1,0,0,false,4⟩,⟨3,5,4,1,0,0,false,1⟩,⟨4,5,4,1,0,0,true,4⟩,⟨6,6,1,1,0,0,true,4⟩]⟩
def turnedL:Lin:=⟨2,1,[[10],[0]],[⟨1,2,5⟩],[⟨6,6,1,1,0,0,true,4⟩,⟨4,5,4,1,0,0,true,4⟩,⟨3,5,4,1,0,0,false,1⟩,⟨2,3,2,1,0,0,false,4⟩,⟨1,1,1,0,1,0,false,6⟩]⟩
theorem ex_stock:DC turnedL 9=([[4,4],[1,0]],0):=by decide +kernel
theorem ex_gaps:NO bookL=([⟨3,-1⟩],0):=by decide +kernel
theorem ex_hold:CY bookL 3=([5],0):=by decide +kernel
theorem ex_wrong:HR bookL=([3],0):=by decide +kernel
theorem ex_div:divE [7,0,3] [2,4,3] 2=([⟨0,1,2⟩],0):=by decide +kernel
theorem turn_step {l:List Slip} {k:Nat} (hk:k<l.length):(l.reverse.take k++l.drop k).set k (l.getD (l.length-1-k) AB)=l.reverse.take (k+1)++l.drop (k+1):=by
  rw [List.set_append_right _ _ (by rw [List.length_take,List.length_reverse];omega)];rw [List.length_take,List.length_reverse,Nat.min_eq_left (by omega),Nat.sub_self];rw [List.drop_eq_getElem_cons hk,List.set_cons_zero,CE (d:=AB) (by rw [List.length_reverse];exact hk)];have e:l.reverse.getD k AB=l.getD (l.length-1-k) AB:=by
    simp only [List.getD];rw [List.getElem?_reverse hk]
  rw [e];simp
end Go.Sh
namespace Go.Sl
open Go
section
variable {P:Program} {N:Nat} {ops:Array Oper} {L0:Sl} {i d:Nat} {ty:TypeId}
theorem alOk_mk {x : Operand} {T E bs n : Nat} {z zv : Value} (h1 : DV ops i = some d) (h0 : EN d L0 = none) (h2 : supB ops i L0 = true) (hop : FZ ops N i = some (some d, .makeSlice T x x, ty, none))
    (hT:HV P T=some E) (hsz:EX P E=some 1) (hz:IZ P E=some z) (hzc:z.cells=#[zv]) (hb:NE P E=some bs) (hbs:1≤bs∧bs≤256)
    (hx:CI L0 x=some (.int .i64 (n:Int))) (hn:n≤1000000):QC P N ops L0 i d (.bs E n (List.replicate n zv).toArray):=
  ⟨h1,h0,supB_spec h2,fun I M=>OL hop rfl hT hsz hz hzc hb hbs hx hn (fun b=>⟨b,rfl,rfl,rfl⟩)⟩
theorem alOk_clL {T:TypeId} {cs:Array Value} (h1:DV ops i=some d) (h0:EN d L0=none) (h2:noLooks ops i=true) (h3:alAt P N ops L0 i=some (d,T,cs)):QC P N ops L0 i d (.cl T cs):=
  ⟨h1,h0,(fun t ht=>by rw [LP h2] at ht;cases ht),fun I M=>sal d T cs (fun b=>⟨b,rfl,rfl,rfl⟩) h3⟩
end
theorem Own.madeI {E:TypeId} {b n:Nat}:Own E 1 AK (.slice (some ⟨b,0,none⟩) n n) (List.replicate n (0:Int)) [(b,Obj.cells (List.replicate n (Value.int .i64 0)).toArray E (0,0))]:=
  .inr ⟨b,n,[],by rw [List.length_replicate],by simp,by rw [List.append_nil];simp [CH,AK,List.flatMap_replicate],by rw [List.append_nil,BP,List.length_replicate]⟩
end Go.Sl
namespace Go.Proofs.YtgcemienebmdeaaGreat
open Go Go.Sl Go.Sh
set_option maxRecDepth 100000
noncomputable def c_EqualCarts_ct (p:List Nat):Code:=sub (AQ Tryz.f63) p
theorem EqualCarts_ct (I:Imm) (a:Value) (xs:List Cart) (b:Value) (ys:List Cart) (a_f:IsCarts I a xs) (b_f:IsCarts I b ys):CtV Tryz.prog 63 #[a,b] I (.bool (decide (xs=ys))):=by
 obtain ⟨a0,a1,b1,b4,a9,b2,b3,a7⟩:=id a_f;subst a9;obtain ⟨a2,a3,b5,b8,b0,b6,b7,a8⟩:=id b_f;subst b0;refine fr (args:=[_,_]) (N:=26) Tryz.func63 (fun F=>?_);show Run _ _ (c_EqualCarts_ct []) _ _ [(0,vS a0 xs.length a1),(1,vS a2 ys.length a3)] _ _;refine rnm (rqr ?_);refine sp 1 [(4,.bool (false))] (se (rq (rqr (sp 5 [(10,.bool (!(cmp .eql (↑(xs.length)) (↑(ys.length)))))] (se (rc 10 rfl (fun h1=>?_) (fun h1=>?_)))))))
 ·
  have a4:=h1;have h1:=BK (BQ h1);refine rqr (sp 1 [(4,.bool (false))] (se (BH ((RP (AG (t:=4) [] (by kernel_rfl) rfl (TR _) (IR _) ?_))))));exact ⟨by rw [decide_eq_false (fun e=>h1 (by rw [e]))],rfl⟩
 have a4:=h1;have h1:=BL (BJ h1);refine AO (NX (rq (rqr (sp 1 [(5,vI (0))] (se (rb 0 ?_))))));refine rl (fun mz a w=>∃ k:Nat,(k≤xs.length)∧(xs.length=ys.length)∧(xs.take k=ys.take k)∧Slots 26 [(5,vI ↑k),(0,vS a0 xs.length a1),(1,vS a2 ys.length a3)] a∧a.defers=[]∧St I (F) w∧mz=xs.length-k) ?_ ?_
 ·intro a w hS hD hW;exact ⟨_,0,Nat.zero_le _,by omega,rfl,hS.sub (.cons 5 rfl (.cons 0 rfl (.cons 1 rfl (.nil _)))),hD,hW,rfl⟩
 rintro mz a w ⟨k,hk,hl,ht,hS,hD,hW,rfl⟩
 refine AR hS hD hW ?_;clear hS hD hW a w;refine rq (rqr (sp 4 [(14,.bool (cmp .lss (↑k) (↑(xs.length))))] (se (rc 14 rfl (fun h2=>?_) (fun h2=>?_)))))
 ·
  have a5:=h2;have h2:=CF h2;refine AO (NX (rq (rb 1 (rq ?_))));refine rd0 8 (ox 2 [(18,vI (↑k)),(17,vS a0 xs.length a1)] ?_);refine AD (di 19 3 (k) a7.addr) ?_;refine AD (BR (x:=(.tmp 19)) (T:=88) (n:=3) (vs:=[vI ((xs.getD (k) KP).frm),vI ((xs.getD (k) KP).to),vI ((xs.getD (k) KP).bales)]) (d:=20) (ty:=88) (gd:=none) (by kernel_rfl) rfl (by kernel_rfl) (by kernel_rfl) rfl rfl (DQ (vals:=QK) (fun _=>rfl) a7 (k) (by omega))) (ox 2 [(22,vI (↑k)),(21,vS a2 ys.length a3)] ?_);refine AD (di 23 3 (k) a8.addr) ?_;refine AD (BR (x:=(.tmp 23)) (T:=88) (n:=3) (vs:=[vI ((ys.getD (k) KP).frm),vI ((ys.getD (k) KP).to),vI ((ys.getD (k) KP).bales)]) (d:=24) (ty:=88) (gd:=none) (by kernel_rfl) rfl (by kernel_rfl) (by kernel_rfl) rfl rfl (DQ (vals:=QK) (fun _=>rfl) a8 (k) (by omega))) ?_;refine AU (sd (MC (L:=[(0,.i .i64),(1,.i .i64),(2,.i .i64)]) (x:=(.tmp 20)) (y:=(.tmp 24)) (T:=88) (T':=88) (d:=25) (ty:=4) (gd:=none) (by kernel_rfl) rfl (by kernel_rfl) rfl rfl rfl (eqCart (xs.getD (k) KP) (ys.getD (k) KP))) (se (rc 25 rfl (fun h3=>?_) (fun h3=>?_))))
  ·
   have a6:=h3;have h3:=dec_f (BQ h3);refine rqr (sp 1 [(4,.bool (false))] (se (BH ((RB (RP (RP (RB (RP (AG (t:=4) [] (by kernel_rfl) rfl (TR _) (IR _) ?_))))))))));exact ⟨by rw [decide_eq_false (getD_ne hl h3)],rfl⟩
  have a6:=h3;have h3:=dec_t (BJ h3);refine AO (NB (NX (rr (sp 1 [(15,vI (↑k))] (sd (da 16 (↑k) (1)) (sp 1 [(5,vI (↑k+1))] (ee ?_)))))));refine AN (xs.length-(k+1)) (by omega) ?_;intro a w hS hD hW;exact ⟨k+1,by omega,hl,KA (d:=KP) hl ht (by omega) h3,hS.sub (.consE 5 rfl rfl (.cons 0 rfl (.cons 1 rfl (.nil _)))),hD,hW,rfl⟩
 have a5:=h2;have h2:=CO h2;refine CB 0 ((EP (EP (EB (NX (rqr (sp 1 [(4,.bool (true))] (se (BH (AG (t:=4) [] (by kernel_rfl) rfl (TR _) (IR _) ?_))))))))));exact ⟨by rw [decide_eq_true (OM hl ht (by omega))],rfl⟩
noncomputable def c_EqualGaps_ct (p:List Nat):Code:=sub (AQ Tryz.f26) p
theorem EqualGaps_ct (I:Imm) (a:Value) (xs:List Gap) (b:Value) (ys:List Gap) (a_f:IsGaps I a xs) (b_f:IsGaps I b ys):CtV Tryz.prog 26 #[a,b] I (.bool (decide (xs=ys))):=by
 obtain ⟨a0,a1,b1,b4,a9,b2,b3,a7⟩:=id a_f;subst a9;obtain ⟨a2,a3,b5,b8,b0,b6,b7,a8⟩:=id b_f;subst b0;refine fr (args:=[_,_]) (N:=26) Tryz.func26 (fun F=>?_);show Run _ _ (c_EqualGaps_ct []) _ _ [(0,vS a0 xs.length a1),(1,vS a2 ys.length a3)] _ _;refine rnm (rqr ?_);refine sp 1 [(4,.bool (false))] (se (rq (rqr (sp 5 [(10,.bool (!(cmp .eql (↑(xs.length)) (↑(ys.length)))))] (se (rc 10 rfl (fun h1=>?_) (fun h1=>?_)))))))
 ·
  have a4:=h1;have h1:=BK (BQ h1);refine rqr (sp 1 [(4,.bool (false))] (se (BH ((RP (AG (t:=4) [] (by kernel_rfl) rfl (TR _) (IR _) ?_))))));exact ⟨by rw [decide_eq_false (fun e=>h1 (by rw [e]))],rfl⟩
 have a4:=h1;have h1:=BL (BJ h1);refine AO (NX (rq (rqr (sp 1 [(5,vI (0))] (se (rb 0 ?_))))));refine rl (fun mz a w=>∃ k:Nat,(k≤xs.length)∧(xs.length=ys.length)∧(xs.take k=ys.take k)∧Slots 26 [(5,vI ↑k),(0,vS a0 xs.length a1),(1,vS a2 ys.length a3)] a∧a.defers=[]∧St I (F) w∧mz=xs.length-k) ?_ ?_
 ·intro a w hS hD hW;exact ⟨_,0,Nat.zero_le _,by omega,rfl,hS.sub (.cons 5 rfl (.cons 0 rfl (.cons 1 rfl (.nil _)))),hD,hW,rfl⟩
 rintro mz a w ⟨k,hk,hl,ht,hS,hD,hW,rfl⟩
 refine AR hS hD hW ?_;clear hS hD hW a w;refine rq (rqr (sp 4 [(14,.bool (cmp .lss (↑k) (↑(xs.length))))] (se (rc 14 rfl (fun h2=>?_) (fun h2=>?_)))))
 ·
  have a5:=h2;have h2:=CF h2;refine AO (NX (rq (rb 1 (rq ?_))));refine rd0 8 (ox 2 [(18,vI (↑k)),(17,vS a0 xs.length a1)] ?_);refine AD (di 19 2 (k) a7.addr) ?_;refine AD (BR (x:=(.tmp 19)) (T:=59) (n:=2) (vs:=[vI ((xs.getD (k) noGap).num),vI ((xs.getD (k) noGap).amt)]) (d:=20) (ty:=59) (gd:=none) (by kernel_rfl) rfl (by kernel_rfl) (by kernel_rfl) rfl rfl (DQ (vals:=gapVals) (fun _=>rfl) a7 (k) (by omega))) (ox 2 [(22,vI (↑k)),(21,vS a2 ys.length a3)] ?_);refine AD (di 23 2 (k) a8.addr) ?_;refine AD (BR (x:=(.tmp 23)) (T:=59) (n:=2) (vs:=[vI ((ys.getD (k) noGap).num),vI ((ys.getD (k) noGap).amt)]) (d:=24) (ty:=59) (gd:=none) (by kernel_rfl) rfl (by kernel_rfl) (by kernel_rfl) rfl rfl (DQ (vals:=gapVals) (fun _=>rfl) a8 (k) (by omega))) ?_;refine AU (sd (MC (L:=[(0,.i .i64),(1,.i .i64)]) (x:=(.tmp 20)) (y:=(.tmp 24)) (T:=59) (T':=59) (d:=25) (ty:=4) (gd:=none) (by kernel_rfl) rfl (by kernel_rfl) rfl rfl rfl (eqGap (xs.getD (k) noGap) (ys.getD (k) noGap))) (se (rc 25 rfl (fun h3=>?_) (fun h3=>?_))))
  ·
   have a6:=h3;have h3:=dec_f (BQ h3);refine rqr (sp 1 [(4,.bool (false))] (se (BH ((RB (RP (RP (RB (RP (AG (t:=4) [] (by kernel_rfl) rfl (TR _) (IR _) ?_))))))))));exact ⟨by rw [decide_eq_false (getD_ne hl h3)],rfl⟩
  have a6:=h3;have h3:=dec_t (BJ h3);refine AO (NB (NX (rr (sp 1 [(15,vI (↑k))] (sd (da 16 (↑k) (1)) (sp 1 [(5,vI (↑k+1))] (ee ?_)))))));refine AN (xs.length-(k+1)) (by omega) ?_;intro a w hS hD hW;exact ⟨k+1,by omega,hl,KA (d:=noGap) hl ht (by omega) h3,hS.sub (.consE 5 rfl rfl (.cons 0 rfl (.cons 1 rfl (.nil _)))),hD,hW,rfl⟩
 have a5:=h2;have h2:=CO h2;refine CB 0 ((EP (EP (EB (NX (rqr (sp 1 [(4,.bool (true))] (se (BH (AG (t:=4) [] (by kernel_rfl) rfl (TR _) (IR _) ?_))))))))));exact ⟨by rw [decide_eq_true (OM hl ht (by omega))],rfl⟩
noncomputable def c_exslip (p:List Nat):Code:=sub (AQ Tryz.f114) p
theorem NN (I:Imm) (n1:Int) (n2:Int) (n3:Int) (n4:Int) (n5:Bool):Ct Tryz.prog 114 #[vI n1,vI n2,vI n3,vI n4,.bool n5] I ([]) (fun v I' M'=>v=.agg #[vI ((⟨n1,n2,n3,1,0,0,n5,n4⟩:Slip)).num,vI ((⟨n1,n2,n3,1,0,0,n5,n4⟩:Slip)).hour,vI ((⟨n1,n2,n3,1,0,0,n5,n4⟩:Slip)).kind,vI ((⟨n1,n2,n3,1,0,0,n5,n4⟩:Slip)).place,vI ((⟨n1,n2,n3,1,0,0,n5,n4⟩:Slip)).to,vI ((⟨n1,n2,n3,1,0,0,n5,n4⟩:Slip)).sort,.bool ((⟨n1,n2,n3,1,0,0,n5,n4⟩:Slip)).soil,vI ((⟨n1,n2,n3,1,0,0,n5,n4⟩:Slip)).amt]∧M'=[]):=by
 refine fr (args:=[_,_,_,_,_]) (N:=17) Tryz.func114 (fun F=>?_);show Run _ _ (c_exslip []) _ _ [(0,vI (n1)),(1,vI (n2)),(2,vI (n3)),(3,vI (n4)),(4,.bool (n5))] _ _;refine rnm (rqr ?_);refine sS (sal 10 28 #[vI (0),vI (0),vI (0),vI (0),vI (0),vI (0),.bool (false),vI (0)] (fun b1=>(sn (sp 6 [(16,.agg #[vI (n1),vI (n2),vI (n3),vI (1),vI (0),vI (0),.bool (n5),vI (n4)])] (sS (ss 0 0 b1 [vI (n1),vI (n2),vI (n3),vI (1),vI (0),vI (0),.bool (n5),vI (n4)] [vI (n1),vI (n2),vI (n3),vI (1),vI (0),vI (0),.bool (n5),vI (n4)] (_::_) (cs:=[_,_,_,_,_,_,_,_]) rfl rfl (se (BH (FR (t:=10) (T:=28) (n:=8) [] (by kernel_rfl) rfl (by kernel_rfl) rfl (CP (n:=8) (cs:=#[vI (n1),vI (n2),vI (n3),vI (1),vI (0),vI (0),.bool (n5),vI (n4)]) (b:=b1) (off:=0) (T:=28) (fz:=(0,0)) (vs:=[vI (n1),vI (n2),vI (n3),vI (1),vI (0),vI (0),.bool (n5),vI (n4)]) (by simp) rfl) (.inl ⟨by kernel_rfl,rfl⟩) (TC _ (TR _)) (IR _) ?_)))))))));exact ⟨rfl,rfl⟩
noncomputable def c_exbook (p:List Nat):Code:=sub (AQ Tryz.f61) p
theorem LG (I:Imm):Ct Tryz.prog 61 #[] I ([]) (fun v I' M'=>∃ u1:Value,∃ u2:Value,∃ u3:Value,∃ Ms:Seg,v=.agg #[vI (bookL).places,vI (bookL).sorts,u1,u2,u3]∧M'=Ms∧IsRows I' u1 (bookL).start∧HS I' u2 (bookL).keeps∧Own 28 8 AW u3 (bookL).slips Ms):=by
 refine fr (args:=[]) (N:=13) Tryz.func61 (fun F=>?_);show Run _ _ (c_exbook []) _ _ [] _ _;refine rnm (rqr ?_);refine sS (sal 0 26 #[vI (0),vI (0),vN,vN,vN] (fun b1=>(sn (sS (sbs 1 3 1 #[vI (10)] (fun b3=>(sS (sbs 2 3 1 #[vI (0)] (fun b5=>(sS (sbs 3 29 2 #[vS (some ⟨b3,0,none⟩) 1 1,vS (some ⟨b5,0,none⟩) 1 1] (fun b7=>(sp 1 [(4,.agg #[vI (1),vI (2),vI (5)])] (sS (sbs 5 50 1 #[vI (1),vI (2),vI (5)] (fun b9=>(sp 1 [(6,.agg #[vI (1),vI (1),vI (1),vI (0),vI (1),vI (0),.bool (false),vI (6)])] (sS (sc (some 7) (NN _ (2) (3) (2) (4) (false) :) (.refl _) (fun i6 j0 i2 c1 h6=>?_))))))))))))))))))));obtain ⟨d0,c6⟩:=h6;rw [d0,c6];clear d0 c6;refine nm ?_;refine sS (sc (some 8) (NN _ (3) (5) (4) (1) (false) :) (.refl _) (fun i7 j1 i3 c2 h7=>?_));obtain ⟨d1,c7⟩:=h7;rw [d1,c7];clear d1 c7;refine nm ?_;refine sS (sc (some 9) (NN _ (4) (5) (4) (4) (true) :) (.refl _) (fun i8 j2 i4 c3 h8=>?_));obtain ⟨d2,c8⟩:=h8;rw [d2,c8];clear d2 c8;refine nm ?_;refine sS (sc (some 10) (NN _ (6) (6) (1) (4) (true) :) (.refl _) (fun i9 j3 i5 c4 h9=>?_));obtain ⟨d3,c9⟩:=h9;rw [d3,c9];clear d3 c9;refine nm ?_;refine sS (sbs 11 28 5 #[vI (1),vI (1),vI (1),vI (0),vI (1),vI (0),.bool (false),vI (6),vI (((⟨2,3,2,1,0,0,false,4⟩:Slip)).num),vI (((⟨2,3,2,1,0,0,false,4⟩:Slip)).hour),vI (((⟨2,3,2,1,0,0,false,4⟩:Slip)).kind),vI (((⟨2,3,2,1,0,0,false,4⟩:Slip)).place),vI (((⟨2,3,2,1,0,0,false,4⟩:Slip)).to),vI (((⟨2,3,2,1,0,0,false,4⟩:Slip)).sort),.bool (((⟨2,3,2,1,0,0,false,4⟩:Slip)).soil),vI (((⟨2,3,2,1,0,0,false,4⟩:Slip)).amt),vI (((⟨3,5,4,1,0,0,false,1⟩:Slip)).num),vI (((⟨3,5,4,1,0,0,false,1⟩:Slip)).hour),vI (((⟨3,5,4,1,0,0,false,1⟩:Slip)).kind),vI (((⟨3,5,4,1,0,0,false,1⟩:Slip)).place),vI (((⟨3,5,4,1,0,0,false,1⟩:Slip)).to),vI (((⟨3,5,4,1,0,0,false,1⟩:Slip)).sort),.bool (((⟨3,5,4,1,0,0,false,1⟩:Slip)).soil),vI (((⟨3,5,4,1,0,0,false,1⟩:Slip)).amt),vI (((⟨4,5,4,1,0,0,true,4⟩:Slip)).num),vI (((⟨4,5,4,1,0,0,true,4⟩:Slip)).hour),vI (((⟨4,5,4,1,0,0,true,4⟩:Slip)).kind),vI (((⟨4,5,4,1,0,0,true,4⟩:Slip)).place),vI (((⟨4,5,4,1,0,0,true,4⟩:Slip)).to),vI (((⟨4,5,4,1,0,0,true,4⟩:Slip)).sort),.bool (((⟨4,5,4,1,0,0,true,4⟩:Slip)).soil),vI (((⟨4,5,4,1,0,0,true,4⟩:Slip)).amt),vI (((⟨6,6,1,1,0,0,true,4⟩:Slip)).num),vI (((⟨6,6,1,1,0,0,true,4⟩:Slip)).hour),vI (((⟨6,6,1,1,0,0,true,4⟩:Slip)).kind),vI (((⟨6,6,1,1,0,0,true,4⟩:Slip)).place),vI (((⟨6,6,1,1,0,0,true,4⟩:Slip)).to),vI (((⟨6,6,1,1,0,0,true,4⟩:Slip)).sort),.bool (((⟨6,6,1,1,0,0,true,4⟩:Slip)).soil),vI (((⟨6,6,1,1,0,0,true,4⟩:Slip)).amt)] (fun a0=>(sp 1 [(12,.agg #[vI (2),vI (1),vS (some ⟨b7,0,none⟩) 2 2,vS (some ⟨b9,0,none⟩) 1 1,vS (some ⟨a0,0,none⟩) 5 5])] (pm (M':=((bX a0 #[vI (1),vI (1),vI (1),vI (0),vI (1),vI (0),.bool (false),vI (6),vI (((⟨2,3,2,1,0,0,false,4⟩:Slip)).num),vI (((⟨2,3,2,1,0,0,false,4⟩:Slip)).hour),vI (((⟨2,3,2,1,0,0,false,4⟩:Slip)).kind),vI (((⟨2,3,2,1,0,0,false,4⟩:Slip)).place),vI (((⟨2,3,2,1,0,0,false,4⟩:Slip)).to),vI (((⟨2,3,2,1,0,0,false,4⟩:Slip)).sort),.bool (((⟨2,3,2,1,0,0,false,4⟩:Slip)).soil),vI (((⟨2,3,2,1,0,0,false,4⟩:Slip)).amt),vI (((⟨3,5,4,1,0,0,false,1⟩:Slip)).num),vI (((⟨3,5,4,1,0,0,false,1⟩:Slip)).hour),vI (((⟨3,5,4,1,0,0,false,1⟩:Slip)).kind),vI (((⟨3,5,4,1,0,0,false,1⟩:Slip)).place),vI (((⟨3,5,4,1,0,0,false,1⟩:Slip)).to),vI (((⟨3,5,4,1,0,0,false,1⟩:Slip)).sort),.bool (((⟨3,5,4,1,0,0,false,1⟩:Slip)).soil),vI (((⟨3,5,4,1,0,0,false,1⟩:Slip)).amt),vI (((⟨4,5,4,1,0,0,true,4⟩:Slip)).num),vI (((⟨4,5,4,1,0,0,true,4⟩:Slip)).hour),vI (((⟨4,5,4,1,0,0,true,4⟩:Slip)).kind),vI (((⟨4,5,4,1,0,0,true,4⟩:Slip)).place),vI (((⟨4,5,4,1,0,0,true,4⟩:Slip)).to),vI (((⟨4,5,4,1,0,0,true,4⟩:Slip)).sort),.bool (((⟨4,5,4,1,0,0,true,4⟩:Slip)).soil),vI (((⟨4,5,4,1,0,0,true,4⟩:Slip)).amt),vI (((⟨6,6,1,1,0,0,true,4⟩:Slip)).num),vI (((⟨6,6,1,1,0,0,true,4⟩:Slip)).hour),vI (((⟨6,6,1,1,0,0,true,4⟩:Slip)).kind),vI (((⟨6,6,1,1,0,0,true,4⟩:Slip)).place),vI (((⟨6,6,1,1,0,0,true,4⟩:Slip)).to),vI (((⟨6,6,1,1,0,0,true,4⟩:Slip)).sort),.bool (((⟨6,6,1,1,0,0,true,4⟩:Slip)).soil),vI (((⟨6,6,1,1,0,0,true,4⟩:Slip)).amt)] 28)::(bX b9 #[vI (1),vI (2),vI (5)] 50)::(bX b7 #[vS (some ⟨b3,0,none⟩) 1 1,vS (some ⟨b5,0,none⟩) 1 1] 29)::(bX b5 #[vI (0)] 3)::(bX b1 #[vI (0),vI (0),vN,vN,vN] 26)::([(bX b3 #[vI (10)] 3)]++F))) (PC _ (PC _ (PC _ (PC _ (PS _ _ _))))) ?_))));have h1:Own 3 1 AK (vS (some ⟨b3,0,none⟩) 1 1) ([(10:Int)]:List Int) [(bX b3 #[vI (10)] 3)]:=Own.lit rfl rfl;refine sfz (A:=((bX a0 #[vI (1),vI (1),vI (1),vI (0),vI (1),vI (0),.bool (false),vI (6),vI (((⟨2,3,2,1,0,0,false,4⟩:Slip)).num),vI (((⟨2,3,2,1,0,0,false,4⟩:Slip)).hour),vI (((⟨2,3,2,1,0,0,false,4⟩:Slip)).kind),vI (((⟨2,3,2,1,0,0,false,4⟩:Slip)).place),vI (((⟨2,3,2,1,0,0,false,4⟩:Slip)).to),vI (((⟨2,3,2,1,0,0,false,4⟩:Slip)).sort),.bool (((⟨2,3,2,1,0,0,false,4⟩:Slip)).soil),vI (((⟨2,3,2,1,0,0,false,4⟩:Slip)).amt),vI (((⟨3,5,4,1,0,0,false,1⟩:Slip)).num),vI (((⟨3,5,4,1,0,0,false,1⟩:Slip)).hour),vI (((⟨3,5,4,1,0,0,false,1⟩:Slip)).kind),vI (((⟨3,5,4,1,0,0,false,1⟩:Slip)).place),vI (((⟨3,5,4,1,0,0,false,1⟩:Slip)).to),vI (((⟨3,5,4,1,0,0,false,1⟩:Slip)).sort),.bool (((⟨3,5,4,1,0,0,false,1⟩:Slip)).soil),vI (((⟨3,5,4,1,0,0,false,1⟩:Slip)).amt),vI (((⟨4,5,4,1,0,0,true,4⟩:Slip)).num),vI (((⟨4,5,4,1,0,0,true,4⟩:Slip)).hour),vI (((⟨4,5,4,1,0,0,true,4⟩:Slip)).kind),vI (((⟨4,5,4,1,0,0,true,4⟩:Slip)).place),vI (((⟨4,5,4,1,0,0,true,4⟩:Slip)).to),vI (((⟨4,5,4,1,0,0,true,4⟩:Slip)).sort),.bool (((⟨4,5,4,1,0,0,true,4⟩:Slip)).soil),vI (((⟨4,5,4,1,0,0,true,4⟩:Slip)).amt),vI (((⟨6,6,1,1,0,0,true,4⟩:Slip)).num),vI (((⟨6,6,1,1,0,0,true,4⟩:Slip)).hour),vI (((⟨6,6,1,1,0,0,true,4⟩:Slip)).kind),vI (((⟨6,6,1,1,0,0,true,4⟩:Slip)).place),vI (((⟨6,6,1,1,0,0,true,4⟩:Slip)).to),vI (((⟨6,6,1,1,0,0,true,4⟩:Slip)).sort),.bool (((⟨6,6,1,1,0,0,true,4⟩:Slip)).soil),vI (((⟨6,6,1,1,0,0,true,4⟩:Slip)).amt)] 28)::(bX b9 #[vI (1),vI (2),vI (5)] 50)::(bX b7 #[vS (some ⟨b3,0,none⟩) 1 1,vS (some ⟨b5,0,none⟩) 1 1] 29)::(bX b5 #[vI (0)] 3)::(bX b1 #[vI (0),vI (0),vN,vN,vN] 26)::F)) 0 h1 (PU (PU (PU (PU (PM.symm))))) (fun j4 c5 a2=>?_);obtain ⟨e3,e5,e4,e8,b2,e6,e7,e9⟩:=id a2;cases b2;refine pm (M':=((bX a0 #[vI (1),vI (1),vI (1),vI (0),vI (1),vI (0),.bool (false),vI (6),vI (((⟨2,3,2,1,0,0,false,4⟩:Slip)).num),vI (((⟨2,3,2,1,0,0,false,4⟩:Slip)).hour),vI (((⟨2,3,2,1,0,0,false,4⟩:Slip)).kind),vI (((⟨2,3,2,1,0,0,false,4⟩:Slip)).place),vI (((⟨2,3,2,1,0,0,false,4⟩:Slip)).to),vI (((⟨2,3,2,1,0,0,false,4⟩:Slip)).sort),.bool (((⟨2,3,2,1,0,0,false,4⟩:Slip)).soil),vI (((⟨2,3,2,1,0,0,false,4⟩:Slip)).amt),vI (((⟨3,5,4,1,0,0,false,1⟩:Slip)).num),vI (((⟨3,5,4,1,0,0,false,1⟩:Slip)).hour),vI (((⟨3,5,4,1,0,0,false,1⟩:Slip)).kind),vI (((⟨3,5,4,1,0,0,false,1⟩:Slip)).place),vI (((⟨3,5,4,1,0,0,false,1⟩:Slip)).to),vI (((⟨3,5,4,1,0,0,false,1⟩:Slip)).sort),.bool (((⟨3,5,4,1,0,0,false,1⟩:Slip)).soil),vI (((⟨3,5,4,1,0,0,false,1⟩:Slip)).amt),vI (((⟨4,5,4,1,0,0,true,4⟩:Slip)).num),vI (((⟨4,5,4,1,0,0,true,4⟩:Slip)).hour),vI (((⟨4,5,4,1,0,0,true,4⟩:Slip)).kind),vI (((⟨4,5,4,1,0,0,true,4⟩:Slip)).place),vI (((⟨4,5,4,1,0,0,true,4⟩:Slip)).to),vI (((⟨4,5,4,1,0,0,true,4⟩:Slip)).sort),.bool (((⟨4,5,4,1,0,0,true,4⟩:Slip)).soil),vI (((⟨4,5,4,1,0,0,true,4⟩:Slip)).amt),vI (((⟨6,6,1,1,0,0,true,4⟩:Slip)).num),vI (((⟨6,6,1,1,0,0,true,4⟩:Slip)).hour),vI (((⟨6,6,1,1,0,0,true,4⟩:Slip)).kind),vI (((⟨6,6,1,1,0,0,true,4⟩:Slip)).place),vI (((⟨6,6,1,1,0,0,true,4⟩:Slip)).to),vI (((⟨6,6,1,1,0,0,true,4⟩:Slip)).sort),.bool (((⟨6,6,1,1,0,0,true,4⟩:Slip)).soil),vI (((⟨6,6,1,1,0,0,true,4⟩:Slip)).amt)] 28)::(bX b9 #[vI (1),vI (2),vI (5)] 50)::(bX b7 #[vS (some ⟨b3,0,none⟩) 1 1,vS (some ⟨b5,0,none⟩) 1 1] 29)::(bX b1 #[vI (0),vI (0),vN,vN,vN] 26)::([(bX b5 #[vI (0)] 3)]++F))) (PC _ (PC _ (PC _ (PS _ _ _)))) ?_;have h2:Own 3 1 AK (vS (some ⟨b5,0,none⟩) 1 1) ([(0:Int)]:List Int) [(bX b5 #[vI (0)] 3)]:=Own.lit rfl rfl;refine sfz (A:=((bX a0 #[vI (1),vI (1),vI (1),vI (0),vI (1),vI (0),.bool (false),vI (6),vI (((⟨2,3,2,1,0,0,false,4⟩:Slip)).num),vI (((⟨2,3,2,1,0,0,false,4⟩:Slip)).hour),vI (((⟨2,3,2,1,0,0,false,4⟩:Slip)).kind),vI (((⟨2,3,2,1,0,0,false,4⟩:Slip)).place),vI (((⟨2,3,2,1,0,0,false,4⟩:Slip)).to),vI (((⟨2,3,2,1,0,0,false,4⟩:Slip)).sort),.bool (((⟨2,3,2,1,0,0,false,4⟩:Slip)).soil),vI (((⟨2,3,2,1,0,0,false,4⟩:Slip)).amt),vI (((⟨3,5,4,1,0,0,false,1⟩:Slip)).num),vI (((⟨3,5,4,1,0,0,false,1⟩:Slip)).hour),vI (((⟨3,5,4,1,0,0,false,1⟩:Slip)).kind),vI (((⟨3,5,4,1,0,0,false,1⟩:Slip)).place),vI (((⟨3,5,4,1,0,0,false,1⟩:Slip)).to),vI (((⟨3,5,4,1,0,0,false,1⟩:Slip)).sort),.bool (((⟨3,5,4,1,0,0,false,1⟩:Slip)).soil),vI (((⟨3,5,4,1,0,0,false,1⟩:Slip)).amt),vI (((⟨4,5,4,1,0,0,true,4⟩:Slip)).num),vI (((⟨4,5,4,1,0,0,true,4⟩:Slip)).hour),vI (((⟨4,5,4,1,0,0,true,4⟩:Slip)).kind),vI (((⟨4,5,4,1,0,0,true,4⟩:Slip)).place),vI (((⟨4,5,4,1,0,0,true,4⟩:Slip)).to),vI (((⟨4,5,4,1,0,0,true,4⟩:Slip)).sort),.bool (((⟨4,5,4,1,0,0,true,4⟩:Slip)).soil),vI (((⟨4,5,4,1,0,0,true,4⟩:Slip)).amt),vI (((⟨6,6,1,1,0,0,true,4⟩:Slip)).num),vI (((⟨6,6,1,1,0,0,true,4⟩:Slip)).hour),vI (((⟨6,6,1,1,0,0,true,4⟩:Slip)).kind),vI (((⟨6,6,1,1,0,0,true,4⟩:Slip)).place),vI (((⟨6,6,1,1,0,0,true,4⟩:Slip)).to),vI (((⟨6,6,1,1,0,0,true,4⟩:Slip)).sort),.bool (((⟨6,6,1,1,0,0,true,4⟩:Slip)).soil),vI (((⟨6,6,1,1,0,0,true,4⟩:Slip)).amt)] 28)::(bX b9 #[vI (1),vI (2),vI (5)] 50)::(bX b7 #[vS (some ⟨b3,0,none⟩) 1 1,vS (some ⟨b5,0,none⟩) 1 1] 29)::(bX b1 #[vI (0),vI (0),vN,vN,vN] 26)::F)) 0 h2 (PU (PU (PU (PM.symm)))) (fun i0 a7 a4=>?_);replace a2:=a2.mono a7;obtain ⟨f0,f2,f1,f5,b4,f3,f4,f6⟩:=id a4;cases b4;refine pm (M':=((bX a0 #[vI (1),vI (1),vI (1),vI (0),vI (1),vI (0),.bool (false),vI (6),vI (((⟨2,3,2,1,0,0,false,4⟩:Slip)).num),vI (((⟨2,3,2,1,0,0,false,4⟩:Slip)).hour),vI (((⟨2,3,2,1,0,0,false,4⟩:Slip)).kind),vI (((⟨2,3,2,1,0,0,false,4⟩:Slip)).place),vI (((⟨2,3,2,1,0,0,false,4⟩:Slip)).to),vI (((⟨2,3,2,1,0,0,false,4⟩:Slip)).sort),.bool (((⟨2,3,2,1,0,0,false,4⟩:Slip)).soil),vI (((⟨2,3,2,1,0,0,false,4⟩:Slip)).amt),vI (((⟨3,5,4,1,0,0,false,1⟩:Slip)).num),vI (((⟨3,5,4,1,0,0,false,1⟩:Slip)).hour),vI (((⟨3,5,4,1,0,0,false,1⟩:Slip)).kind),vI (((⟨3,5,4,1,0,0,false,1⟩:Slip)).place),vI (((⟨3,5,4,1,0,0,false,1⟩:Slip)).to),vI (((⟨3,5,4,1,0,0,false,1⟩:Slip)).sort),.bool (((⟨3,5,4,1,0,0,false,1⟩:Slip)).soil),vI (((⟨3,5,4,1,0,0,false,1⟩:Slip)).amt),vI (((⟨4,5,4,1,0,0,true,4⟩:Slip)).num),vI (((⟨4,5,4,1,0,0,true,4⟩:Slip)).hour),vI (((⟨4,5,4,1,0,0,true,4⟩:Slip)).kind),vI (((⟨4,5,4,1,0,0,true,4⟩:Slip)).place),vI (((⟨4,5,4,1,0,0,true,4⟩:Slip)).to),vI (((⟨4,5,4,1,0,0,true,4⟩:Slip)).sort),.bool (((⟨4,5,4,1,0,0,true,4⟩:Slip)).soil),vI (((⟨4,5,4,1,0,0,true,4⟩:Slip)).amt),vI (((⟨6,6,1,1,0,0,true,4⟩:Slip)).num),vI (((⟨6,6,1,1,0,0,true,4⟩:Slip)).hour),vI (((⟨6,6,1,1,0,0,true,4⟩:Slip)).kind),vI (((⟨6,6,1,1,0,0,true,4⟩:Slip)).place),vI (((⟨6,6,1,1,0,0,true,4⟩:Slip)).to),vI (((⟨6,6,1,1,0,0,true,4⟩:Slip)).sort),.bool (((⟨6,6,1,1,0,0,true,4⟩:Slip)).soil),vI (((⟨6,6,1,1,0,0,true,4⟩:Slip)).amt)] 28)::(bX b9 #[vI (1),vI (2),vI (5)] 50)::(bX b1 #[vI (0),vI (0),vN,vN,vN] 26)::([(bX b7 #[vS (some ⟨b3,0,none⟩) 1 1,vS (some ⟨b5,0,none⟩) 1 1] 29)]++F))) (PC _ (PC _ (PS _ _ _))) ?_;have h3:Own 29 1 CV (vS (some ⟨b7,0,none⟩) 2 2) ([(vS (some ⟨b3,0,none⟩) 1 1:Value),(vS (some ⟨b5,0,none⟩) 1 1:Value)]:List Value) [(bX b7 #[vS (some ⟨b3,0,none⟩) 1 1,vS (some ⟨b5,0,none⟩) 1 1] 29)]:=Own.lit rfl rfl;have a3:=(((RowsV.nil i0).snoc a2).snoc a4);simp only [NA,CA] at a3;refine sfz (A:=((bX a0 #[vI (1),vI (1),vI (1),vI (0),vI (1),vI (0),.bool (false),vI (6),vI (((⟨2,3,2,1,0,0,false,4⟩:Slip)).num),vI (((⟨2,3,2,1,0,0,false,4⟩:Slip)).hour),vI (((⟨2,3,2,1,0,0,false,4⟩:Slip)).kind),vI (((⟨2,3,2,1,0,0,false,4⟩:Slip)).place),vI (((⟨2,3,2,1,0,0,false,4⟩:Slip)).to),vI (((⟨2,3,2,1,0,0,false,4⟩:Slip)).sort),.bool (((⟨2,3,2,1,0,0,false,4⟩:Slip)).soil),vI (((⟨2,3,2,1,0,0,false,4⟩:Slip)).amt),vI (((⟨3,5,4,1,0,0,false,1⟩:Slip)).num),vI (((⟨3,5,4,1,0,0,false,1⟩:Slip)).hour),vI (((⟨3,5,4,1,0,0,false,1⟩:Slip)).kind),vI (((⟨3,5,4,1,0,0,false,1⟩:Slip)).place),vI (((⟨3,5,4,1,0,0,false,1⟩:Slip)).to),vI (((⟨3,5,4,1,0,0,false,1⟩:Slip)).sort),.bool (((⟨3,5,4,1,0,0,false,1⟩:Slip)).soil),vI (((⟨3,5,4,1,0,0,false,1⟩:Slip)).amt),vI (((⟨4,5,4,1,0,0,true,4⟩:Slip)).num),vI (((⟨4,5,4,1,0,0,true,4⟩:Slip)).hour),vI (((⟨4,5,4,1,0,0,true,4⟩:Slip)).kind),vI (((⟨4,5,4,1,0,0,true,4⟩:Slip)).place),vI (((⟨4,5,4,1,0,0,true,4⟩:Slip)).to),vI (((⟨4,5,4,1,0,0,true,4⟩:Slip)).sort),.bool (((⟨4,5,4,1,0,0,true,4⟩:Slip)).soil),vI (((⟨4,5,4,1,0,0,true,4⟩:Slip)).amt),vI (((⟨6,6,1,1,0,0,true,4⟩:Slip)).num),vI (((⟨6,6,1,1,0,0,true,4⟩:Slip)).hour),vI (((⟨6,6,1,1,0,0,true,4⟩:Slip)).kind),vI (((⟨6,6,1,1,0,0,true,4⟩:Slip)).place),vI (((⟨6,6,1,1,0,0,true,4⟩:Slip)).to),vI (((⟨6,6,1,1,0,0,true,4⟩:Slip)).sort),.bool (((⟨6,6,1,1,0,0,true,4⟩:Slip)).soil),vI (((⟨6,6,1,1,0,0,true,4⟩:Slip)).amt)] 28)::(bX b9 #[vI (1),vI (2),vI (5)] 50)::(bX b1 #[vI (0),vI (0),vN,vN,vN] 26)::F)) undef h3 (PU (PU (PM.symm))) (fun j5 a8 a5=>?_);replace a3:=a3.mono a8;obtain ⟨f7,f9,f8,g2,b6,g0,g1,g3⟩:=id a5;cases b6;have a1:=a3.isRows a5;have c0:=a3.1;obtain ⟨d5,d7,d6,e0,d4,b0,d8,d9,e1,e2⟩:=id a1
 injection b0 with fr54_e1 fr54_e2 fr54_e3;subst fr54_e1;subst fr54_e3
 refine pm (M':=((bX a0 #[vI (1),vI (1),vI (1),vI (0),vI (1),vI (0),.bool (false),vI (6),vI (((⟨2,3,2,1,0,0,false,4⟩:Slip)).num),vI (((⟨2,3,2,1,0,0,false,4⟩:Slip)).hour),vI (((⟨2,3,2,1,0,0,false,4⟩:Slip)).kind),vI (((⟨2,3,2,1,0,0,false,4⟩:Slip)).place),vI (((⟨2,3,2,1,0,0,false,4⟩:Slip)).to),vI (((⟨2,3,2,1,0,0,false,4⟩:Slip)).sort),.bool (((⟨2,3,2,1,0,0,false,4⟩:Slip)).soil),vI (((⟨2,3,2,1,0,0,false,4⟩:Slip)).amt),vI (((⟨3,5,4,1,0,0,false,1⟩:Slip)).num),vI (((⟨3,5,4,1,0,0,false,1⟩:Slip)).hour),vI (((⟨3,5,4,1,0,0,false,1⟩:Slip)).kind),vI (((⟨3,5,4,1,0,0,false,1⟩:Slip)).place),vI (((⟨3,5,4,1,0,0,false,1⟩:Slip)).to),vI (((⟨3,5,4,1,0,0,false,1⟩:Slip)).sort),.bool (((⟨3,5,4,1,0,0,false,1⟩:Slip)).soil),vI (((⟨3,5,4,1,0,0,false,1⟩:Slip)).amt),vI (((⟨4,5,4,1,0,0,true,4⟩:Slip)).num),vI (((⟨4,5,4,1,0,0,true,4⟩:Slip)).hour),vI (((⟨4,5,4,1,0,0,true,4⟩:Slip)).kind),vI (((⟨4,5,4,1,0,0,true,4⟩:Slip)).place),vI (((⟨4,5,4,1,0,0,true,4⟩:Slip)).to),vI (((⟨4,5,4,1,0,0,true,4⟩:Slip)).sort),.bool (((⟨4,5,4,1,0,0,true,4⟩:Slip)).soil),vI (((⟨4,5,4,1,0,0,true,4⟩:Slip)).amt),vI (((⟨6,6,1,1,0,0,true,4⟩:Slip)).num),vI (((⟨6,6,1,1,0,0,true,4⟩:Slip)).hour),vI (((⟨6,6,1,1,0,0,true,4⟩:Slip)).kind),vI (((⟨6,6,1,1,0,0,true,4⟩:Slip)).place),vI (((⟨6,6,1,1,0,0,true,4⟩:Slip)).to),vI (((⟨6,6,1,1,0,0,true,4⟩:Slip)).sort),.bool (((⟨6,6,1,1,0,0,true,4⟩:Slip)).soil),vI (((⟨6,6,1,1,0,0,true,4⟩:Slip)).amt)] 28)::(bX b1 #[vI (0),vI (0),vN,vN,vN] 26)::([(bX b9 #[vI (1),vI (2),vI (5)] 50)]++F))) (PC _ (PS _ _ _)) ?_;have h4:Own 50 3 JG (vS (some ⟨b9,0,none⟩) 1 1) ([(⟨1,2,5⟩:Keep)]:List Keep) [(bX b9 #[vI (1),vI (2),vI (5)] 50)]:=Own.lit rfl rfl;refine sfz (A:=((bX a0 #[vI (1),vI (1),vI (1),vI (0),vI (1),vI (0),.bool (false),vI (6),vI (((⟨2,3,2,1,0,0,false,4⟩:Slip)).num),vI (((⟨2,3,2,1,0,0,false,4⟩:Slip)).hour),vI (((⟨2,3,2,1,0,0,false,4⟩:Slip)).kind),vI (((⟨2,3,2,1,0,0,false,4⟩:Slip)).place),vI (((⟨2,3,2,1,0,0,false,4⟩:Slip)).to),vI (((⟨2,3,2,1,0,0,false,4⟩:Slip)).sort),.bool (((⟨2,3,2,1,0,0,false,4⟩:Slip)).soil),vI (((⟨2,3,2,1,0,0,false,4⟩:Slip)).amt),vI (((⟨3,5,4,1,0,0,false,1⟩:Slip)).num),vI (((⟨3,5,4,1,0,0,false,1⟩:Slip)).hour),vI (((⟨3,5,4,1,0,0,false,1⟩:Slip)).kind),vI (((⟨3,5,4,1,0,0,false,1⟩:Slip)).place),vI (((⟨3,5,4,1,0,0,false,1⟩:Slip)).to),vI (((⟨3,5,4,1,0,0,false,1⟩:Slip)).sort),.bool (((⟨3,5,4,1,0,0,false,1⟩:Slip)).soil),vI (((⟨3,5,4,1,0,0,false,1⟩:Slip)).amt),vI (((⟨4,5,4,1,0,0,true,4⟩:Slip)).num),vI (((⟨4,5,4,1,0,0,true,4⟩:Slip)).hour),vI (((⟨4,5,4,1,0,0,true,4⟩:Slip)).kind),vI (((⟨4,5,4,1,0,0,true,4⟩:Slip)).place),vI (((⟨4,5,4,1,0,0,true,4⟩:Slip)).to),vI (((⟨4,5,4,1,0,0,true,4⟩:Slip)).sort),.bool (((⟨4,5,4,1,0,0,true,4⟩:Slip)).soil),vI (((⟨4,5,4,1,0,0,true,4⟩:Slip)).amt),vI (((⟨6,6,1,1,0,0,true,4⟩:Slip)).num),vI (((⟨6,6,1,1,0,0,true,4⟩:Slip)).hour),vI (((⟨6,6,1,1,0,0,true,4⟩:Slip)).kind),vI (((⟨6,6,1,1,0,0,true,4⟩:Slip)).place),vI (((⟨6,6,1,1,0,0,true,4⟩:Slip)).to),vI (((⟨6,6,1,1,0,0,true,4⟩:Slip)).sort),.bool (((⟨6,6,1,1,0,0,true,4⟩:Slip)).soil),vI (((⟨6,6,1,1,0,0,true,4⟩:Slip)).amt)] 28)::(bX b1 #[vI (0),vI (0),vN,vN,vN] 26)::F)) AJ h4 (PU (PM.symm)) (fun j6 a9 a6=>?_);replace a1:=a1.mono a9;obtain ⟨g4,g6,g5,g9,b8,g7,g8,h0⟩:=id a6;cases b8;refine pm (M':=((bX b1 #[vI (0),vI (0),vN,vN,vN] 26)::([(bX a0 #[vI (1),vI (1),vI (1),vI (0),vI (1),vI (0),.bool (false),vI (6),vI (((⟨2,3,2,1,0,0,false,4⟩:Slip)).num),vI (((⟨2,3,2,1,0,0,false,4⟩:Slip)).hour),vI (((⟨2,3,2,1,0,0,false,4⟩:Slip)).kind),vI (((⟨2,3,2,1,0,0,false,4⟩:Slip)).place),vI (((⟨2,3,2,1,0,0,false,4⟩:Slip)).to),vI (((⟨2,3,2,1,0,0,false,4⟩:Slip)).sort),.bool (((⟨2,3,2,1,0,0,false,4⟩:Slip)).soil),vI (((⟨2,3,2,1,0,0,false,4⟩:Slip)).amt),vI (((⟨3,5,4,1,0,0,false,1⟩:Slip)).num),vI (((⟨3,5,4,1,0,0,false,1⟩:Slip)).hour),vI (((⟨3,5,4,1,0,0,false,1⟩:Slip)).kind),vI (((⟨3,5,4,1,0,0,false,1⟩:Slip)).place),vI (((⟨3,5,4,1,0,0,false,1⟩:Slip)).to),vI (((⟨3,5,4,1,0,0,false,1⟩:Slip)).sort),.bool (((⟨3,5,4,1,0,0,false,1⟩:Slip)).soil),vI (((⟨3,5,4,1,0,0,false,1⟩:Slip)).amt),vI (((⟨4,5,4,1,0,0,true,4⟩:Slip)).num),vI (((⟨4,5,4,1,0,0,true,4⟩:Slip)).hour),vI (((⟨4,5,4,1,0,0,true,4⟩:Slip)).kind),vI (((⟨4,5,4,1,0,0,true,4⟩:Slip)).place),vI (((⟨4,5,4,1,0,0,true,4⟩:Slip)).to),vI (((⟨4,5,4,1,0,0,true,4⟩:Slip)).sort),.bool (((⟨4,5,4,1,0,0,true,4⟩:Slip)).soil),vI (((⟨4,5,4,1,0,0,true,4⟩:Slip)).amt),vI (((⟨6,6,1,1,0,0,true,4⟩:Slip)).num),vI (((⟨6,6,1,1,0,0,true,4⟩:Slip)).hour),vI (((⟨6,6,1,1,0,0,true,4⟩:Slip)).kind),vI (((⟨6,6,1,1,0,0,true,4⟩:Slip)).place),vI (((⟨6,6,1,1,0,0,true,4⟩:Slip)).to),vI (((⟨6,6,1,1,0,0,true,4⟩:Slip)).sort),.bool (((⟨6,6,1,1,0,0,true,4⟩:Slip)).soil),vI (((⟨6,6,1,1,0,0,true,4⟩:Slip)).amt)] 28)]++F))) (PS _ _ _) ?_;have h5:Own 28 8 AW (vS (some ⟨a0,0,none⟩) 5 5) ([(⟨1,1,1,0,1,0,false,6⟩:Slip),(⟨2,3,2,1,0,0,false,4⟩:Slip),(⟨3,5,4,1,0,0,false,1⟩:Slip),(⟨4,5,4,1,0,0,true,4⟩:Slip),(⟨6,6,1,1,0,0,true,4⟩:Slip)]:List Slip) [(bX a0 #[vI (1),vI (1),vI (1),vI (0),vI (1),vI (0),.bool (false),vI (6),vI (((⟨2,3,2,1,0,0,false,4⟩:Slip)).num),vI (((⟨2,3,2,1,0,0,false,4⟩:Slip)).hour),vI (((⟨2,3,2,1,0,0,false,4⟩:Slip)).kind),vI (((⟨2,3,2,1,0,0,false,4⟩:Slip)).place),vI (((⟨2,3,2,1,0,0,false,4⟩:Slip)).to),vI (((⟨2,3,2,1,0,0,false,4⟩:Slip)).sort),.bool (((⟨2,3,2,1,0,0,false,4⟩:Slip)).soil),vI (((⟨2,3,2,1,0,0,false,4⟩:Slip)).amt),vI (((⟨3,5,4,1,0,0,false,1⟩:Slip)).num),vI (((⟨3,5,4,1,0,0,false,1⟩:Slip)).hour),vI (((⟨3,5,4,1,0,0,false,1⟩:Slip)).kind),vI (((⟨3,5,4,1,0,0,false,1⟩:Slip)).place),vI (((⟨3,5,4,1,0,0,false,1⟩:Slip)).to),vI (((⟨3,5,4,1,0,0,false,1⟩:Slip)).sort),.bool (((⟨3,5,4,1,0,0,false,1⟩:Slip)).soil),vI (((⟨3,5,4,1,0,0,false,1⟩:Slip)).amt),vI (((⟨4,5,4,1,0,0,true,4⟩:Slip)).num),vI (((⟨4,5,4,1,0,0,true,4⟩:Slip)).hour),vI (((⟨4,5,4,1,0,0,true,4⟩:Slip)).kind),vI (((⟨4,5,4,1,0,0,true,4⟩:Slip)).place),vI (((⟨4,5,4,1,0,0,true,4⟩:Slip)).to),vI (((⟨4,5,4,1,0,0,true,4⟩:Slip)).sort),.bool (((⟨4,5,4,1,0,0,true,4⟩:Slip)).soil),vI (((⟨4,5,4,1,0,0,true,4⟩:Slip)).amt),vI (((⟨6,6,1,1,0,0,true,4⟩:Slip)).num),vI (((⟨6,6,1,1,0,0,true,4⟩:Slip)).hour),vI (((⟨6,6,1,1,0,0,true,4⟩:Slip)).kind),vI (((⟨6,6,1,1,0,0,true,4⟩:Slip)).place),vI (((⟨6,6,1,1,0,0,true,4⟩:Slip)).to),vI (((⟨6,6,1,1,0,0,true,4⟩:Slip)).sort),.bool (((⟨6,6,1,1,0,0,true,4⟩:Slip)).soil),vI (((⟨6,6,1,1,0,0,true,4⟩:Slip)).amt)] 28)]:=Own.lit rfl rfl;obtain ⟨mB,hmB⟩:∃ X:Seg,X=[(bX a0 #[vI (1),vI (1),vI (1),vI (0),vI (1),vI (0),.bool (false),vI (6),vI (((⟨2,3,2,1,0,0,false,4⟩:Slip)).num),vI (((⟨2,3,2,1,0,0,false,4⟩:Slip)).hour),vI (((⟨2,3,2,1,0,0,false,4⟩:Slip)).kind),vI (((⟨2,3,2,1,0,0,false,4⟩:Slip)).place),vI (((⟨2,3,2,1,0,0,false,4⟩:Slip)).to),vI (((⟨2,3,2,1,0,0,false,4⟩:Slip)).sort),.bool (((⟨2,3,2,1,0,0,false,4⟩:Slip)).soil),vI (((⟨2,3,2,1,0,0,false,4⟩:Slip)).amt),vI (((⟨3,5,4,1,0,0,false,1⟩:Slip)).num),vI (((⟨3,5,4,1,0,0,false,1⟩:Slip)).hour),vI (((⟨3,5,4,1,0,0,false,1⟩:Slip)).kind),vI (((⟨3,5,4,1,0,0,false,1⟩:Slip)).place),vI (((⟨3,5,4,1,0,0,false,1⟩:Slip)).to),vI (((⟨3,5,4,1,0,0,false,1⟩:Slip)).sort),.bool (((⟨3,5,4,1,0,0,false,1⟩:Slip)).soil),vI (((⟨3,5,4,1,0,0,false,1⟩:Slip)).amt),vI (((⟨4,5,4,1,0,0,true,4⟩:Slip)).num),vI (((⟨4,5,4,1,0,0,true,4⟩:Slip)).hour),vI (((⟨4,5,4,1,0,0,true,4⟩:Slip)).kind),vI (((⟨4,5,4,1,0,0,true,4⟩:Slip)).place),vI (((⟨4,5,4,1,0,0,true,4⟩:Slip)).to),vI (((⟨4,5,4,1,0,0,true,4⟩:Slip)).sort),.bool (((⟨4,5,4,1,0,0,true,4⟩:Slip)).soil),vI (((⟨4,5,4,1,0,0,true,4⟩:Slip)).amt),vI (((⟨6,6,1,1,0,0,true,4⟩:Slip)).num),vI (((⟨6,6,1,1,0,0,true,4⟩:Slip)).hour),vI (((⟨6,6,1,1,0,0,true,4⟩:Slip)).kind),vI (((⟨6,6,1,1,0,0,true,4⟩:Slip)).place),vI (((⟨6,6,1,1,0,0,true,4⟩:Slip)).to),vI (((⟨6,6,1,1,0,0,true,4⟩:Slip)).sort),.bool (((⟨6,6,1,1,0,0,true,4⟩:Slip)).soil),vI (((⟨6,6,1,1,0,0,true,4⟩:Slip)).amt)] 28)]:=⟨_,rfl⟩;have i1:Own 28 8 AW (vS (some ⟨a0,0,none⟩) 5 5) bookL.slips mB:=by rw [hmB];exact h5
 refine BC (M':=((bX b1 #[vI (0),vI (0),vN,vN,vN] 26)::(mB++F))) (fun w h=>by rw [hmB];exact h) (sS (ss 0 0 b1 [vI (2),vI (1),vS (some ⟨b7,0,none⟩) 2 2,vS (some ⟨b9,0,none⟩) 1 1,vS (some ⟨a0,0,none⟩) 5 5] [vI (2),vI (1),vS (some ⟨b7,0,none⟩) 2 2,vS (some ⟨b9,0,none⟩) 1 1,vS (some ⟨a0,0,none⟩) 5 5] (_::_) (cs:=[_,_,_,_,_]) rfl rfl (se (BH (ppm (M':=((mB++(bX b1 #[vI (2),vI (1),vS (some ⟨b7,0,none⟩) 2 2,vS (some ⟨b9,0,none⟩) 1 1,vS (some ⟨a0,0,none⟩) 5 5] 26)::F))) (PM.symm) (FR (t:=0) (T:=26) (n:=5) (mB) (by kernel_rfl) rfl (by kernel_rfl) rfl (CP (n:=5) (cs:=#[vI (2),vI (1),vS (some ⟨b7,0,none⟩) 2 2,vS (some ⟨b9,0,none⟩) 1 1,vS (some ⟨a0,0,none⟩) 5 5]) (b:=b1) (off:=0) (T:=26) (fz:=(0,0)) (vs:=[vI (2),vI (1),vS (some ⟨b7,0,none⟩) 2 2,vS (some ⟨b9,0,none⟩) 1 1,vS (some ⟨a0,0,none⟩) 5 5]) (by simp) rfl) (.inl ⟨by kernel_rfl,rfl⟩) (TA (TC _ (TR _)) _) (IT (IT (IT (IT (IT (IT (IT c1 c2) c3) c4) c5) a7) a8) a9) ?_))))));exact ⟨_,_,_,_,rfl,rfl,a1,a6,i1⟩
noncomputable def c_exturned (p:List Nat):Code:=sub (AQ Tryz.f60) p
theorem exturned_ct (I:Imm):Ct Tryz.prog 60 #[] I ([]) (fun v I' M'=>∃ u1:Value,∃ u2:Value,∃ u3:Value,∃ Ms:Seg,v=.agg #[vI (turnedL).places,vI (turnedL).sorts,u1,u2,u3]∧M'=Ms∧IsRows I' u1 (turnedL).start∧HS I' u2 (turnedL).keeps∧Own 28 8 AW u3 (turnedL).slips Ms):=by
 refine fr (args:=[]) (N:=26) Tryz.func60 (fun F=>?_);show Run _ _ (c_exturned []) _ _ [] _ _;refine rnm ?_;have hN5:bookL.slips.length=5:=rfl;refine rqr (sS (sal 0 26 #[vI (0),vI (0),vN,vN,vN] (fun b1=>(sn (sS (sc (some 4) (LG _ :) (.refl _) (fun i7 I3 i5 f1 i3=>?_)))))));obtain ⟨j5,j6,j1,d0,g9,g8,d6,d4,d8⟩:=i3;rw [g9,g8];clear g9 g8;have a7:=d6;have a8:=d4;obtain ⟨a3,a4,h0,h4,g0,e0,h2,h3,h5,h6⟩:=id a7;obtain ⟨a5,a6,h7,i0,e1,h8,h9,i1⟩:=id a8;subst e0;subst e1;obtain ⟨a0,a1,c8,g6⟩:=d8.shape;subst c8;refine pm (M':=((bX b1 #[vI (0),vI (0),vN,vN,vN] 26)::(d0++F))) PM (sS (sal 1 26 #[vI (0),vI (0),vN,vN,vN] (fun b0=>(sS (ss 0 0 b0 [vI (bookL.places),vI (bookL.sorts),vS a3 bookL.start.length a4,vS a5 bookL.keeps.length a6,vS a0 bookL.slips.length a1] [vI (bookL.places),vI (bookL.sorts),vS a3 bookL.start.length a4,vS a5 bookL.keeps.length a6,vS a0 bookL.slips.length a1] (_::_::_) (cs:=[_,_,_,_,_]) rfl rfl (sn (sp 1 [(5,vP b0 4)] (sd (dlb 6 0 4 b0 (vS a0 bookL.slips.length a1)) (sp 2 [(2,vI (↑(bookL.slips.length)))] (se (rq (rqr (sp 1 [(3,vI (0))] (se (rb 0 ?_)))))))))))))));refine rl (fun mz a w=>∃ J0:Imm,∃ k:Nat,∃ a2:Seg,(I3.le J0)∧(k≤bookL.slips.length)∧(Own 28 8 AW (vS a0 bookL.slips.length a1) ((bookL.slips.reverse.take k++bookL.slips.drop k)) a2)∧Slots 26 [(3,vI ↑k),(0,vP b1 0),(1,vP b0 0),(2,vI (↑(bookL.slips.length)))] a∧a.defers=[]∧St J0 ((bX b0 #[vI (bookL.places),vI (bookL.sorts),vS a3 bookL.start.length a4,vS a5 bookL.keeps.length a6,(vS a0 bookL.slips.length a1)] 26)::(bX b1 #[vI (0),vI (0),vN,vN,vN] 26)::(a2++F)) w∧mz=bookL.slips.length-k) ?_ ?_
 ·intro a w hS hD hW;exact ⟨_,I3,0,d0,IR _,Nat.zero_le _,d8,hS.sub (.cons 3 rfl (.cons 0 rfl (.cons 1 rfl (.cons 2 rfl (.nil _))))),hD,hW,rfl⟩
 rintro mz a w ⟨J0,k,a2,hJ0,hk,a9,hS,hD,hW,rfl⟩
 refine AR hS hD hW ?_;clear hS hD hW a w;replace a7:=a7.mono hJ0;replace a8:=a8.mono hJ0;have j4:(bookL.slips.reverse.take k++bookL.slips.drop k).length=bookL.slips.length:=by rw [LA,LK,LD,List.length_reverse];omega
 refine rq (rqr (sp 3 [(10,.bool (cmp .lss (↑k) (↑(bookL.slips.length))))] (se (rc 10 rfl (fun h1=>?_) (fun h1=>?_)))))
 ·
  have f0:=h1;have h1:=CF h1;refine AO (NX (rq (rb 1 ?_)));refine rd 11 [(0,true),(1,true),(2,true),(5,true),(6,true),(7,true),(8,true),(3,false),(4,true),(9,true),(10,true)] ((bX b0 #[vI (bookL.places),vI (bookL.sorts),vS a3 bookL.start.length a4,vS a5 bookL.keeps.length a6,vS a0 bookL.slips.length a1] 26)::(bX b1 #[vI (0),vI (0),vN,vN,vN] 26)::[]) ((a2++F)) (ox 1 [(13,vP b0 4)] ?_);refine AD (dlb 14 0 4 b0 (vS a0 bookL.slips.length a1)) (ox 2 [(18,vI (↑(bookL.slips.length))),(15,vI (↑k))] ?_);refine AD (dsb 19 (↑(bookL.slips.length)) (1)) (ox 1 [(20,vI (↑k))] ?_);refine AD (dsb 21 ((↑(bookL.slips.length))-1) (↑k)) ?_;refine OFP.sub 21 (show (vI (((↑(bookL.slips.length))-1)-↑k):Value)=vI (↑(bookL.slips.length-1-k)) from congrArg (Value.int .i64) (by omega)) ?_;refine ofp_stpH (sc (some 16) (F:=((bX b0 #[vI (bookL.places),vI (bookL.sorts),vS a3 bookL.start.length a4,vS a5 bookL.keeps.length a6,vS a0 bookL.slips.length a1] 26)::(bX b1 #[vI (0),vI (0),vN,vN,vN] 26)::(a2++F))) (LG _ :) (PR _) (fun i8 j3 i6 b3 f3=>?_));obtain ⟨i9,j0,j2,e3,d3,d2,d7,d5,d9⟩:=f3;rw [d3,d2];clear d3 d2;replace a7:=a7.mono b3;replace a8:=a8.mono b3;have c3:=d7;have c7:=d5;obtain ⟨c0,c1,f4,f7,e2,c2,f5,f6,f8,f9⟩:=id c3;obtain ⟨c4,c5,g1,g4,c6,g2,g3,g5⟩:=id c7;subst c2;subst c6;obtain ⟨b5,b6,c9,g7⟩:=d9.shape;subst c9;refine hk_mem (M':=((e3++(bX b0 #[vI (bookL.places),vI (bookL.sorts),vS a3 bookL.start.length a4,vS a5 bookL.keeps.length a6,vS a0 bookL.slips.length a1] 26)::(bX b1 #[vI (0),vI (0),vN,vN,vN] 26)::(a2++F)))) (fun w h=>by simpa only [AA,CA,NA] using h) ?_;refine NS (B:=((bX b0 #[vI (bookL.places),vI (bookL.sorts),vS a3 bookL.start.length a4,vS a5 bookL.keeps.length a6,vS a0 bookL.slips.length a1] 26)::(bX b1 #[vI (0),vI (0),vN,vN,vN] 26)::(a2++F))) AB d9 (by first | omega | (simp only [LS,LC,LN,LA,LK,LD] <;> omega) | decide) (PR _) (PR _) (fun i2 b4 b9=>?_);replace a7:=a7.mono b4;replace a8:=a8.mono b4;obtain ⟨e4,e6,e5,e9,b8,e7,e8,b2⟩:=id b9;cases b8;refine hk_done ?_;refine EI (S':=((a2++F))) (PR _) ?_;show OFP _ _ _ _ _ _ ((16,.agg #[vI (bookL.places),vI (bookL.sorts),vS c0 bookL.start.length c1,vS c4 bookL.keeps.length c5,vS b5 bookL.slips.length b6])::_) _ _;refine ox 1 [(17,vS b5 bookL.slips.length b6)] ?_;refine AD (di 22 8 (bookL.slips.length-1-k) b2.addr) ?_;refine AD (BR (x:=(.tmp 22)) (T:=28) (n:=8) (vs:=[vI ((bookL.slips.getD (bookL.slips.length-1-k) AB).num),vI ((bookL.slips.getD (bookL.slips.length-1-k) AB).hour),vI ((bookL.slips.getD (bookL.slips.length-1-k) AB).kind),vI ((bookL.slips.getD (bookL.slips.length-1-k) AB).place),vI ((bookL.slips.getD (bookL.slips.length-1-k) AB).to),vI ((bookL.slips.getD (bookL.slips.length-1-k) AB).sort),.bool ((bookL.slips.getD (bookL.slips.length-1-k) AB).soil),vI ((bookL.slips.getD (bookL.slips.length-1-k) AB).amt)]) (d:=23) (ty:=28) (gd:=none) (by kernel_rfl) rfl (by kernel_rfl) (by kernel_rfl) rfl rfl (DQ (vals:=DD) (fun _=>rfl) b2 (bookL.slips.length-1-k) (by omega))) ?_;refine IP (nm (nm ?_));obtain ⟨i4,b7⟩:=a9.row AB;refine sd (di 24 8 (k) (fun _=>b7.addr (by omega)) (n:=bookL.slips.length)) (sS (GY (T:=28) (x:=(.tmp 24)) (y:=(.tmp 23)) (rc:=fun i f=>AW (((bookL.slips.reverse.take k++bookL.slips.drop k)).getD i AB) f) AB (k) (bookL.slips.getD (bookL.slips.length-1-k) AB) (ty:=0) (gd:=none) (by kernel_rfl) rfl a9 b7 (by omega) rfl rfl (by kernel_rfl) rfl (LR _) (PU (PM.symm)) (fun d1 f2=>(pm (M':=((bX b0 #[vI (bookL.places),vI (bookL.sorts),vS a3 bookL.start.length a4,vS a5 bookL.keeps.length a6,vS a0 bookL.slips.length a1] 26)::(bX b1 #[vI (0),vI (0),vN,vN,vN] 26)::(d1++F))) (PW PM) (ee (NB (NX (rr (sp 1 [(11,vI (↑k))] (sd (da 12 (↑k) (1)) (sp 1 [(3,vI (↑k+1))] (ee ?_))))))))))));refine AN (bookL.slips.length-(k+1)) (by omega) ?_;intro a w hS hD hW;exact ⟨i2,k+1,d1,(IT (IT hJ0 b3) b4),by omega,(by rw [← turn_step (by omega)];exact f2),hS.sub (.consE 3 rfl rfl (.cons 0 rfl (.cons 1 rfl (.cons 2 rfl (.nil _))))),hD,hW,rfl⟩
 have f0:=h1;have h1:=CO h1;refine CB 0 ((EP (EP (EB (NX (rqr (sd (dnb 25 0 0 b0 [vI (bookL.places),vI (bookL.sorts),vS a3 bookL.start.length a4,vS a5 bookL.keeps.length a6,vS a0 bookL.slips.length a1]) (sS (ss 1 0 b1 [vI (bookL.places),vI (bookL.sorts),vS a3 bookL.start.length a4,vS a5 bookL.keeps.length a6,vS a0 bookL.slips.length a1] [vI (bookL.places),vI (bookL.sorts),vS a3 bookL.start.length a4,vS a5 bookL.keeps.length a6,vS a0 bookL.slips.length a1] (_::_::_) (cs:=[_,_,_,_,_]) rfl rfl (se (BH (ppm (M':=((a2++(bX b0 #[vI (bookL.places),vI (bookL.sorts),vS a3 bookL.start.length a4,vS a5 bookL.keeps.length a6,vS a0 bookL.slips.length a1] 26)::(bX b1 #[vI (bookL.places),vI (bookL.sorts),vS a3 bookL.start.length a4,vS a5 bookL.keeps.length a6,vS a0 bookL.slips.length a1] 26)::F))) (PU (PM.symm)) (FR (t:=0) (T:=26) (n:=5) (a2) (by kernel_rfl) rfl (by kernel_rfl) rfl (CP (n:=5) (cs:=#[vI (bookL.places),vI (bookL.sorts),vS a3 bookL.start.length a4,vS a5 bookL.keeps.length a6,vS a0 bookL.slips.length a1]) (b:=b1) (off:=0) (T:=26) (fz:=(0,0)) (vs:=[vI (bookL.places),vI (bookL.sorts),vS a3 bookL.start.length a4,vS a5 bookL.keeps.length a6,vS a0 bookL.slips.length a1]) (by simp) rfl) (.inl ⟨by kernel_rfl,rfl⟩) (TA (TC _ (TC _ (TR _))) _) (IT f1 hJ0) ?_)))))))))))));exact ⟨_,_,_,_,rfl,rfl,a7,a8,((show (bookL.slips.reverse.take k++bookL.slips.drop k)=turnedL.slips from by rw [show k=bookL.slips.length by omega];rfl)▸a9)⟩
def DivAt (m:Nat):Prop:=∀ (I:Imm) (p h:Nat) (left:Int) (b3 b9 b10 b15:Nat) (hv gv lv:Value) (hs g l:List Int) (gM lM:Seg) (hb3:I.blk b3=some (Obj.cells #[hv] 29 (0,0))) (hb15:I.blk b15=some (Obj.cells #[.func (.func 116) #[] #[vP b3 0,vP b9 0,vP b10 0,vP b15 0]] 146 (0,0))) (hv_f:CJ I hv hs) (hgo:Own 3 1 AK gv g gM) (hlo:Own 3 1 AK lv l lM) (hok:GrowOk hs.length left g l) (hpm:p+m=hs.length*hs.length) (hhp:h≤100),Ct Tryz.prog 116 #[vI ↑p,vI ↑h,vI left,vP b3 0,vP b9 0,vP b10 0,vP b15 0] I ((bX b9 #[gv] 29)::(bX b10 #[lv] 29)::(gM++lM)) (fun v I' M'=>∃ (u:Value) (gM' lM' oM:Seg),v=.tuple #[u,.bool (CN hs.length m h left g l).isSome]∧M'=(bX b9 #[gv] 29)::(bX b10 #[lv] 29)::(gM'++(lM'++oM))∧Own 3 1 AK gv g gM'∧Own 3 1 AK lv l lM'∧Own 88 3 JD u ((CN hs.length m h left g l).getD []) oM)
noncomputable def c_Divide1 (p:List Nat):Code:=sub (AQ Tryz.f116) p
set_option maxHeartbeats 1000000 in
theorem div_of (m:Nat) (ihm:∀ q,m=q+1→DivAt q) (I:Imm) (p h:Nat) (left:Int) (b3 b9 b10 b15:Nat) (hv gv lv:Value) (hs g l:List Int) (gM lM:Seg) (hb3:I.blk b3=some (Obj.cells #[hv] 29 (0,0))) (hb15:I.blk b15=some (Obj.cells #[.func (.func 116) #[] #[vP b3 0,vP b9 0,vP b10 0,vP b15 0]] 146 (0,0))) (hv_f:CJ I hv hs) (hgo:Own 3 1 AK gv g gM) (hlo:Own 3 1 AK lv l lM) (hok:GrowOk hs.length left g l) (hpm:p+m=hs.length*hs.length) (hhp:h≤100):Ct Tryz.prog 116 #[vI ↑p,vI ↑h,vI left,vP b3 0,vP b9 0,vP b10 0,vP b15 0] I ((bX b9 #[gv] 29)::(bX b10 #[lv] 29)::(gM++lM)) (fun v I' M'=>∃ (u:Value) (gM' lM' oM:Seg),v=.tuple #[u,.bool (CN hs.length m h left g l).isSome]∧M'=(bX b9 #[gv] 29)::(bX b10 #[lv] 29)::(gM'++(lM'++oM))∧Own 3 1 AK gv g gM'∧Own 3 1 AK lv l lM'∧Own 88 3 JD u ((CN hs.length m h left g l).getD []) oM):=by
 obtain ⟨c0,c1,i5,i8,g3,i6,i7,i9⟩:=id hv_f;subst g3;obtain ⟨a0,a1,f0,h7⟩:=hgo.shape;subst f0;obtain ⟨a2,a3,g4,j0⟩:=hlo.shape;subst g4;have h0:=hok.n4;have k6:=hok.gl;have k7:=hok.ll;have k8:=hok.left;have k9:hs.length*hs.length≤16:=Nat.mul_le_mul h0 h0;refine fr (args:=[_,_,_,_,_,_,_]) (N:=110) Tryz.func116 (fun F=>?_);show Run _ _ (c_Divide1 []) _ _ [(0,vI (↑p)),(1,vI (↑h)),(2,vI (left)),(3,vP b3 0),(4,vP b9 0),(5,vP b10 0),(6,vP b15 0)] _ _;refine GX (M':=((bX b9 #[vS a0 g.length a1] 29)::(bX b10 #[vS a2 l.length a3] 29)::(gM++(lM++F)))) (fun w h=>by simpa only [AA,CA,NA] using h) (rnm (rqr ?_));refine sp 2 [(11,.bool (false)),(10,vN)] (se (rq (rqr (sp 2 [(18,.bool (cmp .eql (↑h) (0)))] (se (rc 18 rfl (fun h1=>?_) (fun h1=>?_)))))))
 ·
  have f1:=h1;have h1:=BL h1;refine rqr (sp 4 [(11,.bool (cmp .eql (left) (0))),(10,vN)] (se (BH ((RP ?_)))));obtain rfl:h=0:=by omega
  refine BS (t:=10) (u:=11) ([(bX b9 #[vS a0 g.length a1] 29)]++([(bX b10 #[vS a2 l.length a3] 29)]++(gM++(lM++([]))))) (by kernel_rfl) rfl rfl (by simp only [AA,NA,CA];exact (TK _ (TK _ (TA (TA (TR _) _) _)))) (IR _) ?_;exact ⟨_,gM,lM,[],congrArg (fun b=>Value.tuple #[_,.bool b]) (show cmp .eql (left) (0)=(CN hs.length m 0 left g l).isSome from by rw [MF];by_cases e:left=0 <;> simp [cmp,e]),rfl,hgo,hlo,(show []=(CN hs.length m 0 left g l).getD [] from by rw [MF];split <;> rfl)▸(Own.nil _ _ _)⟩
 have f1:=h1;have h1:=BK h1
 skip
 refine AO (NX (rq (rq ?_)));refine CC (fun a w=>Slots 110 [(0,vI (↑p)),(1,vI (↑h)),(2,vI (left)),(3,vP b3 0),(4,vP b9 0),(5,vP b10 0),(6,vP b15 0),(10,vN),(11,.bool (false)),(32,.bool ((cmp .eql (↑p) (↑(hs.length*hs.length)))||(cmp .lss (left) (↑h))))] a∧a.defers=[]∧St I ((bX b9 #[vS a0 g.length a1] 29)::(bX b10 #[vS a2 l.length a3] 29)::(gM++(lM++F))) w) ?_ ?_
 ·
  refine rr (sp 1 [(21,vI (↑p))] (sd (BG (v:=vS c0 hs.length c1) (x:=(.tmp 3)) (T:=29) (d:=22) (ty:=29) (gd:=none) (by kernel_rfl) rfl (by kernel_rfl) rfl (AZ hb3 rfl)) (sp 1 [(23,vI (↑(hs.length)))] (sd (BG (v:=vS c0 hs.length c1) (x:=(.tmp 3)) (T:=29) (d:=24) (ty:=29) (gd:=none) (by kernel_rfl) rfl (by kernel_rfl) rfl (AZ hb3 rfl)) (sp 1 [(25,vI (↑(hs.length)))] (sd (dmu 26 (↑(hs.length)) (↑(hs.length)) (hr:=by have:=Int.natCast_mul hs.length hs.length;omega)) (EW 26 rfl (show (vI ((↑(hs.length))*(↑(hs.length))):Value)=vI (↑(hs.length*hs.length)) from congrArg (Value.int .i64) (Int.natCast_mul _ _).symm) (sp 2 [(28,.bool (cmp .eql (↑p) (↑(hs.length*hs.length))))] ?_))))))));refine BE 28 rfl (fun h2=>?_) (fun h2=>?_)
  ·
   have b5:=h2;have b5:=BL b5;refine sp 4 [(32,.bool (true))] (ee ?_);refine AL (fun a w hS hD hW=>⟨hS.sub (.cons 0 rfl (.cons 1 rfl (.cons 2 rfl (.cons 3 rfl (.cons 4 rfl (.cons 5 rfl (.cons 6 rfl (.cons 10 rfl (.cons 11 rfl (.consE 32 rfl (congrArg Value.bool (by simp only [h2,kA,kB,kC,kD,kE,kF,kG,kH,kI,kJ])) (.nil _))))))))))),hD,hW⟩)
  have b5:=h2;have b5:=BK b5;refine sp 4 [(32,.bool (cmp .lss (left) (↑h)))] (ee ?_);refine AL (fun a w hS hD hW=>⟨hS.sub (.cons 0 rfl (.cons 1 rfl (.cons 2 rfl (.cons 3 rfl (.cons 4 rfl (.cons 5 rfl (.cons 6 rfl (.cons 10 rfl (.cons 11 rfl (.consE 32 rfl (congrArg Value.bool (by simp only [h2,kA,kB,kC,kD,kE,kF,kG,kH,kI,kJ])) (.nil _))))))))))),hD,hW⟩)
 rintro a w ⟨hS,hD,hW⟩
 refine AR hS hD hW ?_;clear hS hD hW a w;refine rc 32 rfl (fun h3=>?_) (fun h3=>?_)
 ·
  have f2:=h3;refine rqr (sp 2 [(11,.bool (false)),(10,vN)] (se (BH ((RP ?_)))));have b0:CN hs.length m h left g l=none:=by
   obtain ⟨e,rfl⟩:∃ e,h=e+1:=⟨h-1,by omega⟩;cases m with
   | zero=>rfl
   | succ q=>exact growD_few (by have hq:=h3;simp [cmp] at hq;omega)
  refine BS (t:=10) (u:=11) ([(bX b9 #[vS a0 g.length a1] 29)]++([(bX b10 #[vS a2 l.length a3] 29)]++(gM++(lM++([]))))) (by kernel_rfl) rfl rfl (by simp only [AA,NA,CA];exact (TK _ (TK _ (TA (TA (TR _) _) _)))) (IR _) ?_;exact ⟨_,gM,lM,[],congrArg (fun b=>Value.tuple #[_,.bool b]) (show false=(CN hs.length m h left g l).isSome from by rw [b0];rfl),rfl,hgo,hlo,(show []=(CN hs.length m h left g l).getD [] from by rw [b0];rfl)▸(Own.nil _ _ _)⟩
 have f2:=h3;obtain ⟨d7,d8⟩:=or_f h3;have d7:=BK d7;have d8:=CO d8;refine AO (NX (rq ?_));obtain ⟨q,rfl⟩:∃ q,m=q+1:=⟨m-1,by omega⟩;obtain ⟨e,hhe⟩:∃ e,h=e+1:=⟨h-1,by omega⟩;have ih:=ihm q rfl;have l0:=pair_step (n:=hs.length) (m:=q) (by omega);have h8:pF hs.length (q+1)=p/hs.length:=by unfold pF;rw [show hs.length*hs.length-(q+1)=p by omega]
 have i4:pT hs.length (q+1)=p%hs.length:=by unfold pT;rw [show hs.length*hs.length-(q+1)=p by omega]
 have g9:¬ left<(e:Int)+1:=by omega
 have k3:=hok.at (pF hs.length (q+1));have k4:=hok.at (pT hs.length (q+1));have k5:most hs.length (q+1) g l≤50:=by unfold most;omega
 refine rd0 9 (ox 1 [(33,vI (↑p))] ?_);refine AD (BG (v:=vS c0 hs.length c1) (x:=(.tmp 3)) (T:=29) (d:=34) (ty:=29) (gd:=none) (by kernel_rfl) rfl (by kernel_rfl) rfl (AZ hb3 rfl)) (ox 1 [(35,vI (↑(hs.length)))] ?_);refine AD (det_quo (x:=(.tmp 33)) (y:=(.tmp 35)) (T:=3) (T':=3) (d:=36) (ty:=3) (gd:=none) (by kernel_rfl) rfl rfl rfl (by omega) (by omega)) ?_;refine OFP.sub 36 (show (vI (↑p/(↑(hs.length))):Value)=vI (↑(pF hs.length (q+1))) from congrArg (Value.int .i64) (by rw [h8];rfl)) (ox 1 [(37,vI (↑p))] ?_);refine AD (BG (v:=vS c0 hs.length c1) (x:=(.tmp 3)) (T:=29) (d:=38) (ty:=29) (gd:=none) (by kernel_rfl) rfl (by kernel_rfl) rfl (AZ hb3 rfl)) (ox 1 [(39,vI (↑(hs.length)))] ?_);refine AD (det_rem (x:=(.tmp 37)) (y:=(.tmp 39)) (T:=3) (T':=3) (d:=40) (ty:=3) (gd:=none) (by kernel_rfl) rfl rfl rfl (by omega) (by omega)) ?_;refine OFP.sub 40 (show (vI ((↑p:Int)%(↑(hs.length))):Value)=vI (↑(pT hs.length (q+1))) from congrArg (Value.int .i64) (by rw [i4];rfl)) (ox 1 [(12,vI (↑(pF hs.length (q+1))))] ?_);refine AU (sp 1 [(13,vI (↑(pT hs.length (q+1))))] (se (rq (rqr (sp 1 [(14,vI (1))] (se (rb 0 ?_)))))));refine rl (fun mz a w=>∃ J0:Imm,∃ j:Nat,∃ a7:Seg,∃ a6:Seg,(I.le J0)∧(1≤j)∧(j≤most hs.length (q+1) g l+1)∧(BalNo hs.length q e left g l j)∧(Own 3 1 AK (vS a0 g.length a1) (g) a7)∧(Own 3 1 AK (vS a2 l.length a3) (l) a6)∧Slots 110 [(14,vI ↑j),(0,vI (↑p)),(1,vI (↑h)),(2,vI (left)),(4,vP b9 0),(5,vP b10 0),(6,vP b15 0),(12,vI (↑(pF hs.length (q+1)))),(13,vI (↑(pT hs.length (q+1))))] a∧a.defers=[]∧St J0 ((bX b9 #[(vS a0 g.length a1)] 29)::(bX b10 #[(vS a2 l.length a3)] 29)::(a7++(a6++F))) w∧mz=most hs.length (q+1) g l+1-j) ?_ ?_
 ·intro a w hS hD hW;exact ⟨_,I,1,gM,lM,IR _,Nat.le_refl _,Nat.le_add_left _ _,BalNo.start,hgo,hlo,hS.sub (.cons 14 rfl (.cons 0 rfl (.cons 1 rfl (.cons 2 rfl (.cons 4 rfl (.cons 5 rfl (.cons 6 rfl (.cons 12 rfl (.cons 13 rfl (.nil _)))))))))),hD,hW,rfl⟩
 rintro mz a w ⟨J0,j,a7,a6,hJ0,f5,hj,f6,a4,a5,hS,hD,hW,rfl⟩
 refine AR hS hD hW ?_;clear hS hD hW a w;replace hb3:=hJ0.blk _ _ hb3;replace hb15:=hJ0.blk _ _ hb15;replace hv_f:=hv_f.mono hJ0;refine rq (rq ?_);refine rd0 10 (ox 1 [(41,vI (↑j))] ?_);refine AD (dlb 42 0 0 b9 (vS a0 g.length a1)) (ox 1 [(43,vI (↑(pF hs.length (q+1))))] ?_);obtain ⟨l1,e3⟩:=a4.row 0;refine AD (di 44 1 (pF hs.length (q+1)) e3.addr) ?_;refine AD (dl 45 (e3.get (pF hs.length (q+1)) (by omega) 0 (by decide) _ _ (fun x hx=>by simp [hx]))) ?_;refine AD (dlb 46 1 0 b10 (vS a2 l.length a3)) (ox 1 [(47,vI (↑(pT hs.length (q+1))))] ?_);obtain ⟨l2,e4⟩:=a5.row 0;refine AD (di 48 1 (pT hs.length (q+1)) e4.addr) ?_;refine AD (dl 49 (e4.get (pT hs.length (q+1)) (by omega) 0 (by decide) _ _ (fun x hx=>by simp [hx]))) (ox 1 [(50,vI ((if (l.getD (pT hs.length (q+1)) 0:Int)<(g.getD (pF hs.length (q+1)) 0:Int) then l.getD (pT hs.length (q+1)) 0 else g.getD (pF hs.length (q+1)) 0)))] ?_);refine OFP.sub 50 (show (vI ((if (l.getD (pT hs.length (q+1)) 0:Int)<(g.getD (pF hs.length (q+1)) 0:Int) then l.getD (pT hs.length (q+1)) 0 else g.getD (pF hs.length (q+1)) 0)):Value)=vI (↑(most hs.length (q+1) g l)) from congrArg (Value.int .i64) (most_int hok)) ?_;refine AU (sp 1 [(51,.bool (cmp .leq (↑j) (↑(most hs.length (q+1) g l))))] (se (rc 51 rfl (fun h4=>?_) (fun h4=>?_))))
 ·
  have f3:=h4;have h4:=leq_t h4;refine AO (NX (rq (rb 1 (rqr (sd (dlb 54 0 0 b9 (vS a0 g.length a1)) (sp 1 [(55,vI (↑(pF hs.length (q+1))))] ?_))))));obtain ⟨l3,e5⟩:=a4.row 0;refine sd (di 56 1 (pF hs.length (q+1)) e5.addr) (sd (dl 57 (e5.get (pF hs.length (q+1)) (by omega) 0 (by decide) _ _ (fun x hx=>by simp [hx]))) (sp 1 [(58,vI (↑j))] (sd (dsb 59 (g.getD (pF hs.length (q+1)) 0) (↑j)) ?_)));obtain ⟨l4,e6⟩:=a4.row 0;refine sd (di 60 1 (pF hs.length (q+1)) e6.addr) (sS (BB (T:=3) (x:=(.tmp 60)) (y:=(.tmp 59)) (rc:=fun i f=>AK ((g).getD i 0) f) 0 (pF hs.length (q+1)) 0 ((g.getD (pF hs.length (q+1)) 0)-↑j) (ty:=0) (gd:=none) (by kernel_rfl) rfl a4 e6 (by omega) (by decide) rfl rfl (by kernel_rfl) rfl rfl (by intro f hf;match f,hf with | 0,_=>rfl) (PU (PM.symm)) (fun g8 i3=>(pm (M':=((bX b9 #[vS a0 g.length a1] 29)::(bX b10 #[vS a2 l.length a3] 29)::(g8++(a6++F)))) (PW PM) (sn (sd (dlb 61 1 0 b10 (vS a2 l.length a3)) (sp 1 [(62,vI (↑(pT hs.length (q+1))))] ?_)))))));obtain ⟨j1,c4⟩:=a5.row 0;refine sd (di 63 1 (pT hs.length (q+1)) c4.addr) (sd (dl 64 (c4.get (pT hs.length (q+1)) (by omega) 0 (by decide) _ _ (fun x hx=>by simp [hx]))) (sp 1 [(65,vI (↑j))] (sd (dsb 66 (l.getD (pT hs.length (q+1)) 0) (↑j)) ?_)));obtain ⟨j2,c5⟩:=a5.row 0;refine sd (di 67 1 (pT hs.length (q+1)) c5.addr) (sS (BB (T:=3) (x:=(.tmp 67)) (y:=(.tmp 66)) (rc:=fun i f=>AK ((l).getD i 0) f) 0 (pT hs.length (q+1)) 0 ((l.getD (pT hs.length (q+1)) 0)-↑j) (ty:=0) (gd:=none) (by kernel_rfl) rfl a5 c5 (by omega) (by decide) rfl rfl (by kernel_rfl) rfl rfl (by intro f hf;match f,hf with | 0,_=>rfl) (PU (PU (PO _ _ _))) (fun e7 f7=>(pm (M':=((bX b9 #[vS a0 g.length a1] 29)::(bX b10 #[vS a2 l.length a3] 29)::(e7++(g8++F)))) (PW PM) (sn (sd (BG (v:=.func (.func 116) #[] #[vP b3 0,vP b9 0,vP b10 0,vP b15 0]) (x:=(.tmp 6)) (T:=146) (d:=69) (ty:=146) (gd:=none) (by kernel_rfl) rfl (by kernel_rfl) rfl (AZ hb15 rfl)) (sp 1 [(70,vI (↑p))] (sd (da 71 (↑p) (1)) (sp 1 [(72,vI (↑h))] (sd (dsb 73 (↑h) (1)) (EW 73 rfl (show (vI (↑h-1):Value)=vI (↑e) from congrArg (Value.int .i64) (by omega)) (sp 2 [(75,vI (↑j)),(74,vI (left))] (sd (dsb 76 (left) (↑j)) ?_)))))))))))));have d1:=hok.less (m:=q) (j:=j) f5 (by omega);have i1:=d1.at (pF hs.length (q+1));have i2:=d1.at (pT hs.length (q+1));have h9:(less (pF hs.length (q+1)) j g).length=g.length:=EZ;have i0:(less (pT hs.length (q+1)) j l).length=l.length:=EZ;have d9:=ih J0 (p+1) e (left-(j:Int)) b3 b9 b10 b15 _ _ _ hs (less (pF hs.length (q+1)) j g) (less (pT hs.length (q+1)) j l) _ _ hb3 hb15 hv_f i3 f7 d1 (by omega) (by omega);refine sS (JN (d:=(some 77)) (f:=(.tmp 69)) (fid:=116) (args:=#[(.tmp 71),(.tmp 73),(.tmp 76)]) (tys:=#[3,3,3]) (cv:=[vP b3 0,vP b9 0,vP b10 0,vP b15 0]) (F:=(F)) (ty:=147) (gd:=none) (by kernel_rfl) rfl rfl rfl (by kernel_rfl) rfl d9 (by simpa only [AA,CA,NA] using (PC _ (PC _ (PO _ _ _)))) (fun k0 h6 j8 a9 g1=>?_));obtain ⟨gu,d3,d2,b8,rfl,e1,d4,d5,d6⟩:=g1;replace hb3:=a9.blk _ _ hb3;replace hb15:=a9.blk _ _ hb15;replace hv_f:=hv_f.mono a9;rw [e1];clear e1;obtain ⟨b2,b4,d0,e9⟩:=d6.shape;subst d0;refine BC (M':=((bX b9 #[vS a0 g.length a1] 29)::(bX b10 #[vS a2 l.length a3] 29)::(d3++(d2++(b8++F))))) (fun w h=>by simpa only [AA,CA,NA] using h) (nm ?_);show Seq _ _ _ _ _ _ ((77,.tuple #[vS b2 ((JF hs.length q e left g l j).getD []).length b4,.bool ((JF hs.length q e left g l j).isSome)])::_) _ _;refine sp 5 [(16,.bool ((JF hs.length q e left g l j).isSome)),(15,vS b2 ((JF hs.length q e left g l j).getD []).length b4)] (sn (sd (dlb 80 0 0 b9 (vS a0 g.length a1)) (sp 1 [(81,vI (↑(pF hs.length (q+1))))] ?_)));obtain ⟨j3,c6⟩:=d4.row 0;refine sd (di 82 1 (pF hs.length (q+1)) (fun _=>c6.addr (by omega)) (n:=g.length)) (sd (dl 83 (c6.get (pF hs.length (q+1)) (by omega) 0 (by decide) _ _ (fun x hx=>by simp [hx]))) (sp 1 [(84,vI (↑j))] (sd (da 85 (((less (pF hs.length (q+1)) j g)).getD (pF hs.length (q+1)) 0) (↑j)) ?_)));obtain ⟨j4,c7⟩:=d4.row 0;refine sd (di 86 1 (pF hs.length (q+1)) (fun _=>c7.addr (by omega)) (n:=g.length)) (sS (BB (T:=3) (x:=(.tmp 86)) (y:=(.tmp 85)) (rc:=fun i f=>AK (((less (pF hs.length (q+1)) j g)).getD i 0) f) 0 (pF hs.length (q+1)) 0 ((((less (pF hs.length (q+1)) j g)).getD (pF hs.length (q+1)) 0)+↑j) (ty:=0) (gd:=none) (by kernel_rfl) rfl d4 c7 (by omega) (by decide) rfl rfl (by kernel_rfl) rfl rfl (by intro f hf;match f,hf with | 0,_=>rfl) (PU (PM.symm)) (fun a8 f8=>(pm (M':=((bX b9 #[vS a0 g.length a1] 29)::(bX b10 #[vS a2 l.length a3] 29)::(a8++(d2++(b8++F))))) (PW PM) (se (rq ?_))))));have c2:Own 3 1 AK (vS a0 g.length a1) g a8:=by have hq:=f8;rw [less_back] at hq;exact hq
  refine rr (sd (dlb 87 1 0 b10 (vS a2 l.length a3)) (sp 1 [(88,vI (↑(pT hs.length (q+1))))] ?_));obtain ⟨j5,c8⟩:=d5.row 0;refine sd (di 89 1 (pT hs.length (q+1)) (fun _=>c8.addr (by omega)) (n:=l.length)) (sd (dl 90 (c8.get (pT hs.length (q+1)) (by omega) 0 (by decide) _ _ (fun x hx=>by simp [hx]))) (sp 1 [(91,vI (↑j))] (sd (da 92 (((less (pT hs.length (q+1)) j l)).getD (pT hs.length (q+1)) 0) (↑j)) ?_)));obtain ⟨j6,c9⟩:=d5.row 0;refine sd (di 93 1 (pT hs.length (q+1)) (fun _=>c9.addr (by omega)) (n:=l.length)) (sS (BB (T:=3) (x:=(.tmp 93)) (y:=(.tmp 92)) (rc:=fun i f=>AK (((less (pT hs.length (q+1)) j l)).getD i 0) f) 0 (pT hs.length (q+1)) 0 ((((less (pT hs.length (q+1)) j l)).getD (pT hs.length (q+1)) 0)+↑j) (ty:=0) (gd:=none) (by kernel_rfl) rfl d5 c9 (by omega) (by decide) rfl rfl (by kernel_rfl) rfl rfl (by intro f hf;match f,hf with | 0,_=>rfl) (PU (PU (PO _ _ _))) (fun b1 f9=>(pm (M':=((bX b9 #[vS a0 g.length a1] 29)::(bX b10 #[vS a2 l.length a3] 29)::(b1++(a8++(b8++F))))) (PW PM) (se (rq ?_))))));have c3:Own 3 1 AK (vS a2 l.length a3) l b1:=by have hq:=f9;rw [less_back] at hq;exact hq
  refine rr (sp 1 [(94,.bool ((JF hs.length q e left g l j).isSome))] (se (rc 94 rfl (fun h5=>?_) (fun h5=>?_))))
  ·
   have f4:=h5;refine rqr (sp 4 [(98,.agg #[vI (↑(pF hs.length (q+1))),vI (↑(pT hs.length (q+1))),vI (↑j)])] (sS (sbs 99 88 1 #[vI (↑(pF hs.length (q+1))),vI (↑(pT hs.length (q+1))),vI (↑j)] (fun e8=>(sp 1 [(100,vS b2 ((JF hs.length q e left g l j).getD []).length b4)] ?_)))));have g0:Own 88 3 JD (vS (some ⟨e8,0,none⟩) 1 1) ([(⟨↑(pF hs.length (q+1)),↑(pT hs.length (q+1)),↑j⟩:Cart)]:List Cart) [(bX e8 #[vI (↑(pF hs.length (q+1))),vI (↑(pT hs.length (q+1))),vI (↑j)] 88)]:=Own.lit rfl rfl;refine sS (BA (d:=101) (x:=(.tmp 99)) (y:=(.tmp 100)) (T:=83) (T':=83) (E:=88) (E':=88) (sz:=3) (bs:=24) (z:=.agg #[vI (0),vI (0),vI (0)]) (cell:=JD) (xs:=([(⟨↑(pF hs.length (q+1)),↑(pT hs.length (q+1)),↑j⟩:Cart)]:List Cart)) (ys:=(JF hs.length q e left g l j).getD []) (Ms:=[(bX e8 #[vI (↑(pF hs.length (q+1))),vI (↑(pT hs.length (q+1))),vI (↑j)] 88)]) (ty:=83) (gd:=none) (by kernel_rfl) rfl (by kernel_rfl) (by kernel_rfl) (by kernel_rfl) (by kernel_rfl) (by kernel_rfl) (by decide) (by kernel_rfl) rfl rfl (g0) (PR _) (one_cartCell _) (d6.src (fun x hx=>by simp [hx])) (by first | omega | (have hz:((JF hs.length q e left g l j).getD []).length≤e:=grow_getD_len;simp only [LC,LN];omega)) (fun l5 b7 e2=>(pm (M':=((bX b9 #[vS a0 g.length a1] 29)::(bX b10 #[vS a2 l.length a3] 29)::(b7++(b1++(a8++(b8++F)))))) (PW PM) ?_)));obtain ⟨g5,g6,g7,j7⟩:=e2.shape;subst g7;refine sp 2 [(11,.bool (true)),(10,vS g5 ((([(⟨↑(pF hs.length (q+1)),↑(pT hs.length (q+1)),↑j⟩:Cart)]:List Cart))++((JF hs.length q e left g l j).getD [])).length g6)] (se (BH ((RB (RP (RP (RB (RP ?_))))))));have b0:CN hs.length (q+1) h left g l=_:=(congrArg (fun h=>CN hs.length (q+1) h left g l) hhe).trans (grow_hit g9 f6 f5 (by omega) h5);refine ppm (M':=((bX b9 #[vS a0 g.length a1] 29)::(bX b10 #[vS a2 l.length a3] 29)::(a8++(b1++(b7++(b8++F)))))) (PC _ (PC _ ((PV (PO _ _ _)).trans (PA _ (PO _ _ _))))) (BS (t:=10) (u:=11) ([(bX b9 #[vS a0 g.length a1] 29)]++([(bX b10 #[vS a2 l.length a3] 29)]++(a8++(b1++(b7))))) (by kernel_rfl) rfl rfl (by simp only [AA,NA,CA];exact (TK _ (TK _ (TA (TA (TA (TT (TR _) (TB _ _)) _) _) _)))) (IT hJ0 a9) ?_);exact ⟨_,a8,b1,b7,congrArg (fun b=>Value.tuple #[_,.bool b]) (show true=(CN hs.length (q+1) h left g l).isSome from by rw [b0];rfl),rfl,c2,c3,(show (([(⟨↑(pF hs.length (q+1)),↑(pT hs.length (q+1)),↑j⟩:Cart)]:List Cart))++((JF hs.length q e left g l j).getD [])=(CN hs.length (q+1) h left g l).getD [] from by rw [b0];rfl)▸e2⟩
  have f4:=h5;refine AO (NB (NX (rr (sp 1 [(52,vI (↑j))] (sd (da 53 (↑j) (1)) (sp 1 [(14,vI (↑j+1))] (ee ?_)))))));refine AN (most hs.length (q+1) g l+1-(j+1)) (by omega) ?_;intro a w hS hD hW;exact ⟨h6,j+1,a8,b1,(IT hJ0 a9),by omega,by omega,f6.next f5 h5,c2,c3,hS.sub (.consE 14 rfl rfl (.cons 0 rfl (.cons 1 rfl (.cons 2 rfl (.cons 4 rfl (.cons 5 rfl (.cons 6 rfl (.cons 12 rfl (.cons 13 rfl (.nil _)))))))))),hD,(hW.perm ((PU (PU (PV (PO _ _ _)))).trans (PA _ (PC _ (PC _ (PO _ _ _)))))).sub (TT (TR _) (TB _ _)),rfl⟩
 have f3:=h4;have h4:=leq_f h4;refine CB 0 ((EP (EP (EB (NX (rqr (sd (BG (v:=.func (.func 116) #[] #[vP b3 0,vP b9 0,vP b10 0,vP b15 0]) (x:=(.tmp 6)) (T:=146) (d:=102) (ty:=146) (gd:=none) (by kernel_rfl) rfl (by kernel_rfl) rfl (AZ hb15 rfl)) (sp 1 [(103,vI (↑p))] (sd (da 104 (↑p) (1)) (sp 2 [(106,vI (left)),(105,vI (↑h))] ?_))))))))));have e0:=ih J0 (p+1) h left b3 b9 b10 b15 _ _ _ hs g l _ _ hb3 hb15 hv_f a4 a5 hok (by omega) (by omega);refine sS (JN (d:=(some 107)) (f:=(.tmp 102)) (fid:=116) (args:=#[(.tmp 104),(.tmp 105),(.tmp 106)]) (tys:=#[3,3,3]) (cv:=[vP b3 0,vP b9 0,vP b10 0,vP b15 0]) (F:=(F)) (ty:=147) (gd:=none) (by kernel_rfl) rfl rfl rfl (by kernel_rfl) rfl e0 (by simpa only [AA,CA,NA] using (PR _)) (fun k1 k2 j9 b6 g2=>?_));obtain ⟨gu,d3,d2,b8,rfl,e1,d4,d5,d6⟩:=g2;replace hb3:=b6.blk _ _ hb3;replace hb15:=b6.blk _ _ hb15;rw [e1];clear e1;obtain ⟨b2,b4,d0,e9⟩:=d6.shape;subst d0;refine BC (M':=((bX b9 #[vS a0 g.length a1] 29)::(bX b10 #[vS a2 l.length a3] 29)::(d3++(d2++(b8++F))))) (fun w h=>by simpa only [AA,CA,NA] using h) (nm ?_);show Seq _ _ _ _ _ _ ((107,.tuple #[vS b2 ((CN hs.length q h left g l).getD []).length b4,.bool ((CN hs.length q h left g l).isSome)])::_) _ _;refine sp 4 [(11,.bool ((CN hs.length q h left g l).isSome)),(10,vS b2 ((CN hs.length q h left g l).getD []).length b4)] (se (BH ?_));have b0:CN hs.length (q+1) h left g l=CN hs.length q h left g l:=by rw [hhe];exact grow_miss g9 f6 (by omega)
 refine BS (t:=10) (u:=11) ([(bX b9 #[vS a0 g.length a1] 29)]++([(bX b10 #[vS a2 l.length a3] 29)]++(d3++(d2++(b8))))) (by kernel_rfl) rfl rfl (by simp only [AA,NA,CA];exact (TK _ (TK _ (TA (TA (TA (TR _) _) _) _)))) (IT hJ0 b6) ?_;exact ⟨_,d3,d2,b8,congrArg (fun b=>Value.tuple #[_,.bool b]) (show (CN hs.length q h left g l).isSome=(CN hs.length (q+1) h left g l).isSome from by rw [b0]),rfl,d4,d5,(show (CN hs.length q h left g l).getD []=(CN hs.length (q+1) h left g l).getD [] from by rw [b0])▸d6⟩
theorem div_all (m:Nat):DivAt m:=by
 induction m with
 | zero=>intro I p h left b3 b9 b10 b15 hv gv lv hs g l gM lM hb3 hb15 hv_f hgo hlo hok hpm hhp;exact div_of 0 (fun m h=>by omega) I p h left b3 b9 b10 b15 hv gv lv hs g l gM lM hb3 hb15 hv_f hgo hlo hok hpm hhp
 | succ m ih=>intro I p h left b3 b9 b10 b15 hv gv lv hs g l gM lM hb3 hb15 hv_f hgo hlo hok hpm hhp;exact div_of (m+1) (fun q h=>(show m=q by omega)▸ih) I p h left b3 b9 b10 b15 hv gv lv hs g l gM lM hb3 hb15 hv_f hgo hlo hok hpm hhp
noncomputable def NJ (p:List Nat):Code:=sub (AQ Tryz.f62) p
set_option maxHeartbeats 1000000 in
theorem Divide_ct (I:Imm) (a:Value) (h:List Int) (c:Value) (nd:List Int) (b:Int) (a_f:CJ I a h) (c_f:CJ I c nd):Ct Tryz.prog 62 #[a,c,vI b] I ([]) (fun v I' M'=>∃ u0:Value,∃ Ms0:Seg,v=.tuple #[u0,vI ((divE h nd b).2)]∧M'=Ms0∧Own 88 3 JD u0 ((divE h nd b).1) Ms0):=by
 obtain ⟨a7,a8,j6,j9,h0,j7,j8,g2⟩:=id a_f;subst h0;obtain ⟨d6,d7,k0,k3,h6,k1,k2,d8⟩:=id c_f;subst h6;refine fr (args:=[_,_,_]) (N:=98) Tryz.func62 (fun F=>?_);show Run _ _ (NJ []) _ _ [(0,vS a7 h.length a8),(1,vS d6 nd.length d7),(2,vI (b))] _ _;refine rnm (rqr ?_);refine sS (sb 3 29 #[vS a7 h.length a8] (fun b1=>(sp 2 [(7,vI (0)),(6,vN)] (se (rq (rqr (sd (dlb 19 0 0 b1 (vS a7 h.length a8)) (sp 2 [(21,vI (b)),(20,vS d6 nd.length d7)] (sd (dc 22 (fun I' hI=>(checkDivide_ct I' _ _ _ _ (b) (a_f.mono hI) (c_f.mono hI) :))) (sp 1 [(8,vI ((DW h nd b)))] (sn (sp 2 [(24,.bool (!(cmp .eql ((DW h nd b)) (0))))] (se (rc 24 rfl (fun h1=>?_) (fun h1=>?_)))))))))))))))
 ·
  have f2:=h1;have h1:=BK (BQ h1);refine rqr (sp 3 [(7,vI ((DW h nd b))),(6,vN)] (se (BH ((RP (BS (t:=6) (u:=7) ([]) (by kernel_rfl) rfl rfl (TC _ (TR _)) (IR _) ?_))))));exact ⟨_,_,(congrArg (fun n=>Value.tuple #[_,vI n]) (show DW h nd b=(divE h nd b).2 from (congrArg Prod.snd (divE_bad h1)).symm)),rfl,((show []=(divE h nd b).1 from (congrArg Prod.fst (divE_bad h1)).symm)▸Own.nil _ _ _)⟩
 have f2:=h1;have h1:=BL (BJ h1);refine AO (NX (rq ?_));have a3:=pool_of (h:=h) (nd:=nd) (b:=b) (by omega);have g7:=a3.few;have k7:=a3.same;have g8:=a3.bale;have i5:=a3.some;refine rdY (M:=((bX b1 #[vS a7 h.length a8] 29)::[])) (F0:=F) [(27,vI (↑(h.length))),(30,vI (↑(h.length)))] [2,6,7,5] [(2,28,.bs 3 h.length (List.replicate h.length (vI (0))).toArray),(6,9,.cl 29 #[vN]),(7,10,.cl 29 #[vN]),(5,31,.bs 3 h.length (List.replicate h.length (vI (0))).toArray)] 9 [(0,true),(1,true),(3,true),(4,true),(2,false),(6,false),(7,false),(8,false),(5,false)] (by simp only [AA,CA,NA,List.append_nil];exact PR _) (FW (alOk_mk (ops:=EO (NJ [1,1,0])) (i:=2) (d:=28) (x:=(.tmp 27)) (T:=29) (E:=3) (bs:=8) (n:=h.length) (z:=vI (0)) (zv:=vI (0)) (ty:=29) (by kernel_rfl) rfl (by kernel_rfl) (by kernel_rfl) (by kernel_rfl) (by kernel_rfl) (by kernel_rfl) rfl (by kernel_rfl) (by decide) rfl (by omega)) (FW (alOk_clL (ops:=EO (NJ [1,1,0])) (i:=6) (d:=9) (by kernel_rfl) rfl (by kernel_rfl) (by kernel_rfl)) (FW (alOk_clL (ops:=EO (NJ [1,1,0])) (i:=7) (d:=10) (by kernel_rfl) rfl (by kernel_rfl) (by kernel_rfl)) (FW (alOk_mk (ops:=EO (NJ [1,1,0])) (i:=5) (d:=31) (x:=(.tmp 30)) (T:=29) (E:=3) (bs:=8) (n:=h.length) (z:=vI (0)) (zv:=vI (0)) (ty:=29) (by kernel_rfl) rfl (by kernel_rfl) (by kernel_rfl) (by kernel_rfl) (by kernel_rfl) (by kernel_rfl) rfl (by kernel_rfl) (by decide) rfl (by omega)) GM)))) ?_;refine AH (dlb 26 0 0 b1 (vS a7 h.length a8)) ?_;refine AH (AP (d:=27) (v:=vI (↑(h.length))) (by kernel_rfl)) ?_;refine HZ (Rx:=((bX b1 #[vS a7 h.length a8] 29)::[])) (PR _) (dlb 29 0 0 b1 (vS a7 h.length a8)) ?_;refine AV (AP (d:=30) (v:=vI (↑(h.length))) (by kernel_rfl)) ?_;refine ofx_bs rfl (fun b3=>?_);refine ofx_ac rfl (fun b5=>?_);refine ofx_ac rfl (fun b7=>?_);refine DM (Mx:=fun FX=>((bX b7 #[vN] 29)::(bX b5 #[vN] 29)::(b3,Obj.cells (List.replicate h.length (vI (0))).toArray 3 (0,0))::(bX b1 #[vS a7 h.length a8] 29)::FX)) rfl (fun FX=>by simp only [AA,CA,NA,List.append_nil];exact PR _) (fun FX=>?_);refine id (ss 1 0 b5 [vS (some ⟨b3,0,none⟩) h.length h.length] [vS (some ⟨b3,0,none⟩) h.length h.length] (_::_::_::_::_) (cs:=[_]) rfl rfl ?_);refine FU (M1:=((bX b7 #[vN] 29)::(bX b5 #[vS (some ⟨b3,0,none⟩) h.length h.length] 29)::(b3,Obj.cells (List.replicate h.length (vI (0))).toArray 3 (0,0))::(bX b1 #[vS a7 h.length a8] 29)::[])) (by exact (PR _)) (.none (.part ((PC _ ((PC _ (PS _ _ _)).trans (PS _ _ _))).trans (PS _ _ _)) (.wait (by kernel_rfl) (.wait (by kernel_rfl) .nil)))) ?_;refine ofx_bs rfl (fun b9=>?_);refine FY (BC (M':=((b9,Obj.cells (List.replicate h.length (vI (0))).toArray 3 (0,0))::(bX b7 #[vN] 29)::(bX b5 #[vS (some ⟨b3,0,none⟩) h.length h.length] 29)::(b3,Obj.cells (List.replicate h.length (vI (0))).toArray 3 (0,0))::(bX b1 #[vS a7 h.length a8] 29)::F)) (fun w h=>by simpa only [AA,CA,NA,List.append_nil] using h) (nm ?_));have e5:Own 3 1 AK (vS (some ⟨b9,0,none⟩) h.length h.length) (List.replicate h.length (0:Int)) [(b9,Obj.cells (List.replicate h.length (vI (0))).toArray 3 (0,0))]:=Own.madeI;obtain ⟨mS12,hmS12⟩:∃ X:Seg,X=[(b9,Obj.cells (List.replicate h.length (vI (0))).toArray 3 (0,0))]:=⟨_,rfl⟩;rw [← hmS12] at e5;refine BC (I':=I) (M':=((mS12++(bX b7 #[vN] 29)::(bX b5 #[vS (some ⟨b3,0,none⟩) h.length h.length] 29)::(b3,Obj.cells (List.replicate h.length (vI (0))).toArray 3 (0,0))::(bX b1 #[vS a7 h.length a8] 29)::F))) (fun w h=>by rw [hmS12];exact h.perm (PR _)) (pm (M':=((bX b7 #[vN] 29)::(bX b5 #[vS (some ⟨b3,0,none⟩) h.length h.length] 29)::(b3,Obj.cells (List.replicate h.length (vI (0))).toArray 3 (0,0))::(bX b1 #[vS a7 h.length a8] 29)::(mS12++F))) (PW (PW (PW PM))) ?_);have e6:Own 3 1 AK (vS (some ⟨b3,0,none⟩) h.length h.length) (List.replicate h.length (0:Int)) [(b3,Obj.cells (List.replicate h.length (vI (0))).toArray 3 (0,0))]:=Own.madeI;obtain ⟨mS14,hmS14⟩:∃ X:Seg,X=[(b3,Obj.cells (List.replicate h.length (vI (0))).toArray 3 (0,0))]:=⟨_,rfl⟩;rw [← hmS14] at e6;refine BC (I':=I) (M':=((mS14++(bX b7 #[vN] 29)::(bX b5 #[vS (some ⟨b3,0,none⟩) h.length h.length] 29)::(bX b1 #[vS a7 h.length a8] 29)::(mS12++F)))) (fun w h=>by rw [hmS14];exact h.perm ((PC _ (PS _ _ _)).trans (PS _ _ _))) (pm (M':=((bX b7 #[vN] 29)::(bX b5 #[vS (some ⟨b3,0,none⟩) h.length h.length] 29)::(bX b1 #[vS a7 h.length a8] 29)::(mS14++(mS12++F)))) (PW (PW PM)) (sS (ss 0 0 b7 [vS (some ⟨b9,0,none⟩) h.length h.length] [vS (some ⟨b9,0,none⟩) h.length h.length] (_::_::_::_) (cs:=[_]) rfl rfl (sn (sp 2 [(12,vI (0)),(11,vI (0))] (se (rq (rqr (sd (dlb 32 2 0 b1 (vS a7 h.length a8)) (sp 2 [(34,vI (0)),(33,vI (↑(h.length)))] (se (rb 0 ?_))))))))))));refine rl (fun mz a w=>∃ k:Nat,∃ a1:Seg,∃ a0:Seg,(k≤h.length)∧(Own 3 1 AK (vS (some ⟨b3,0,none⟩) h.length h.length) (ER (CW h nd b) h.length k) a1)∧(Own 3 1 AK (vS (some ⟨b9,0,none⟩) h.length h.length) (ER (EL h nd b) h.length k) a0)∧Slots 98 [(11,vI (GQ (CW h nd b) k)),(12,vI (GQ (EL h nd b) k)),(34,vI ↑k),(1,vS d6 nd.length d7),(2,vI (b)),(3,vP b1 0),(6,vN),(7,vI (0)),(9,vP b5 0),(10,vP b7 0),(32,vS a7 h.length a8),(33,vI (↑(h.length)))] a∧a.defers=[]∧St I ((bX b7 #[(vS (some ⟨b9,0,none⟩) h.length h.length)] 29)::(bX b5 #[(vS (some ⟨b3,0,none⟩) h.length h.length)] 29)::(bX b1 #[vS a7 h.length a8] 29)::(a1++(a0++F))) w∧mz=h.length-k) ?_ ?_
 ·intro a w hS hD hW;exact ⟨_,0,mS14,mS12,Nat.zero_le _,(by have hq:=e6;rw [fill_zero (F:=CW h nd b)] at hq;exact hq),(by have hq:=e5;rw [fill_zero (F:=EL h nd b)] at hq;exact hq),hS.sub (.cons 11 rfl (.cons 12 rfl (.cons 34 rfl (.cons 1 rfl (.cons 2 rfl (.cons 3 rfl (.cons 6 rfl (.cons 7 rfl (.cons 9 rfl (.cons 10 rfl (.cons 32 rfl (.cons 33 rfl (.nil _))))))))))))),hD,hW,rfl⟩
 rintro mz a w ⟨k,a1,a0,hk,a4,a2,hS,hD,hW,rfl⟩
 refine AR hS hD hW ?_;clear hS hD hW a w;have e1:(ER (CW h nd b) h.length k).length=h.length:=HC;have e2:(ER (EL h nd b) h.length k).length=h.length:=HC;have k5:=sumTo_le (F:=CW h nd b) (c:=50) (fun i=>(a3.bound i).1) k;have k6:=sumTo_le (F:=EL h nd b) (c:=50) (fun i=>(a3.bound i).2) k;refine rqr (sp 1 [(35,.bool (cmp .lss (↑k) (↑(h.length))))] (se (rq (rc 35 rfl (fun h2=>?_) (fun h2=>?_)))))
 ·
  have f3:=h2;have h2:=CF h2;refine AO (NX (rq (rb 1 (rqr (sp 1 [(36,vI (↑k))] (sd (di 37 1 (k) g2.addr) (sd (dl 38 (CK g2 (k) (by omega))) (sp 2 [(14,vI (h.getD (k) 0)),(13,vI (↑k))] (se (rq (rqr ?_)))))))))));have k4:=a3.at (i:=k) (by omega);refine sp 3 [(41,vI (↑k)),(40,vS d6 nd.length d7),(39,vI (h.getD (k) 0))] (sd (di 42 1 (k) d8.addr) (sd (dl 43 (CK d8 (k) (by omega))) (sp 1 [(44,.bool (cmp .geq (h.getD (k) 0) (nd.getD (k) 0)))] (se (rc 44 rfl (fun h3=>?_) (fun h3=>?_))))))
  ·
   have f4:=h3;have h3:=geq_t h3;refine rd0 10 ?_;refine AD (dlb 45 1 0 b5 (vS (some ⟨b3,0,none⟩) h.length h.length)) (ox 4 [(49,vI (↑k)),(48,vS d6 nd.length d7),(47,vI (h.getD (k) 0)),(46,vI (↑k))] ?_);refine AD (di 50 1 (k) d8.addr) ?_;refine AD (dl 51 (CK d8 (k) (by omega))) ?_;refine AD (dsb 52 (h.getD (k) 0) (nd.getD (k) 0)) (ox 1 [(53,vI (b))] ?_);refine AD (det_quo (x:=(.tmp 52)) (y:=(.tmp 53)) (T:=3) (T':=3) (d:=54) (ty:=3) (gd:=none) (by kernel_rfl) rfl rfl rfl (by omega) (by omega)) ?_;refine AU ?_;obtain ⟨i7,c6⟩:=a4.row 0;refine sd (di 55 1 (k) (fun _=>c6.addr (by omega)) (n:=h.length)) (sS (BB (T:=3) (x:=(.tmp 55)) (y:=(.tmp 54)) (rc:=fun i f=>AK ((ER (CW h nd b) h.length k).getD i 0) f) 0 (k) 0 (((h.getD (k) 0)-(nd.getD (k) 0))/b) (ty:=0) (gd:=none) (by kernel_rfl) rfl a4 c6 (by omega) (by decide) rfl rfl (by kernel_rfl) rfl rfl (by intro f hf;match f,hf with | 0,_=>rfl) (PU (PU (PM.symm))) (fun d2 f8=>(pm (M':=((bX b7 #[vS (some ⟨b9,0,none⟩) h.length h.length] 29)::(bX b5 #[vS (some ⟨b3,0,none⟩) h.length h.length] 29)::(bX b1 #[vS a7 h.length a8] 29)::(d2++(a0++F)))) (PW (PW PM)) (se ?_)))));have e0:=div_give (b:=b) (k:=k) (h:=h) (nd:=nd) (by omega) (by omega);have c1:Own 3 1 AK (vS (some ⟨b3,0,none⟩) h.length h.length) (ER (CW h nd b) h.length (k+1)) d2:=by have hq:=f8;rw [e0.1] at hq;exact hq
   have c2:Own 3 1 AK (vS (some ⟨b9,0,none⟩) h.length h.length) (ER (EL h nd b) h.length (k+1)) a0:=by have hq:=a2;rw [e0.2] at hq;exact hq
   have e1:(ER (CW h nd b) h.length (k+1)).length=h.length:=HC;have e2:(ER (EL h nd b) h.length (k+1)).length=h.length:=HC;refine rd0' 13 [(0,true),(1,true),(2,true),(3,true),(4,true),(5,true),(6,true),(7,true),(8,true),(9,true),(10,true),(11,true),(12,false)] (ox 1 [(70,vI ((GQ (CW h nd b) k)))] ?_);refine AD (dlb 71 1 0 b5 (vS (some ⟨b3,0,none⟩) h.length h.length)) (ox 1 [(72,vI (↑k))] ?_);obtain ⟨i8,c7⟩:=c1.row 0;refine AD (di 73 1 (k) (fun _=>c7.addr (by omega)) (n:=h.length)) ?_;refine AD (dl 74 (c7.get (k) (by omega) 0 (by decide) _ _ (fun x hx=>by simp [hx]))) ?_;refine OFP.sub 74 (show (vI (((ER (CW h nd b) h.length (k+1))).getD (k) 0):Value)=vI (CW h nd b k) from congrArg (Value.int .i64) (fill_at (by omega))) ?_;have i0:=a3.bound k;refine AD (da 75 ((GQ (CW h nd b) k)) (CW h nd b k)) (ox 1 [(76,vI ((GQ (EL h nd b) k)))] ?_);refine AD (dlb 77 0 0 b7 (vS (some ⟨b9,0,none⟩) h.length h.length)) (ox 1 [(78,vI (↑k))] ?_);obtain ⟨i9,c8⟩:=c2.row 0;refine AD (di 79 1 (k) (fun _=>c8.addr (by omega)) (n:=h.length)) ?_;refine AD (dl 80 (c8.get (k) (by omega) 0 (by decide) _ _ (fun x hx=>by simp [hx]))) ?_;refine OFP.sub 80 (show (vI (((ER (EL h nd b) h.length (k+1))).getD (k) 0):Value)=vI (EL h nd b k) from congrArg (Value.int .i64) (fill_at (by omega))) ?_;refine AD (da 81 ((GQ (EL h nd b) k)) (EL h nd b k)) ?_;refine HT (stp_of_det (AP (d:=11) (v:=vI (((GQ (CW h nd b) k))+(CW h nd b k))) (by kernel_rfl)) (by kernel_rfl) (ofp_stay ?_));refine AU (sp 1 [(12,vI (((GQ (EL h nd b) k))+(EL h nd b k)))] (ee (NB (NX (rr (sd (da 82 (↑k) (1)) (sp 1 [(34,vI (↑k+1))] (ee ?_))))))));refine AN (h.length-(k+1)) (by omega) ?_;intro a w hS hD hW;exact ⟨k+1,d2,a0,by omega,c1,c2,hS.sub (.consE 11 rfl rfl (.consE 12 rfl rfl (.consE 34 rfl rfl (.cons 1 rfl (.cons 2 rfl (.cons 3 rfl (.cons 6 rfl (.cons 7 rfl (.cons 9 rfl (.cons 10 rfl (.cons 32 rfl (.cons 33 rfl (.nil _))))))))))))),hD,hW,rfl⟩
  have f4:=h3;have h3:=geq_f h3;refine rd0 13 ?_;refine AD (dlb 56 0 0 b7 (vS (some ⟨b9,0,none⟩) h.length h.length)) (ox 3 [(59,vI (↑k)),(58,vS d6 nd.length d7),(57,vI (↑k))] ?_);refine AD (di 60 1 (k) d8.addr) ?_;refine AD (dl 61 (CK d8 (k) (by omega))) (ox 1 [(62,vI (h.getD (k) 0))] ?_);refine AD (dsb 63 (nd.getD (k) 0) (h.getD (k) 0)) (ox 1 [(64,vI (b))] ?_);refine AD (da 65 ((nd.getD (k) 0)-(h.getD (k) 0)) (b)) ?_;refine AD (dsb 66 (((nd.getD (k) 0)-(h.getD (k) 0))+b) (1)) (ox 1 [(67,vI (b))] ?_);refine AD (det_quo (x:=(.tmp 66)) (y:=(.tmp 67)) (T:=3) (T':=3) (d:=68) (ty:=3) (gd:=none) (by kernel_rfl) rfl rfl rfl (by omega) (by omega)) ?_;refine AU ?_;obtain ⟨j0,c9⟩:=a2.row 0;refine sd (di 69 1 (k) (fun _=>c9.addr (by omega)) (n:=h.length)) (sS (BB (T:=3) (x:=(.tmp 69)) (y:=(.tmp 68)) (rc:=fun i f=>AK ((ER (EL h nd b) h.length k).getD i 0) f) 0 (k) 0 (((((nd.getD (k) 0)-(h.getD (k) 0))+b)-1)/b) (ty:=0) (gd:=none) (by kernel_rfl) rfl a2 c9 (by omega) (by decide) rfl rfl (by kernel_rfl) rfl rfl (by intro f hf;match f,hf with | 0,_=>rfl) (PU (PU (PU (PO _ _ _)))) (fun d3 f9=>(pm (M':=((bX b7 #[vS (some ⟨b9,0,none⟩) h.length h.length] 29)::(bX b5 #[vS (some ⟨b3,0,none⟩) h.length h.length] 29)::(bX b1 #[vS a7 h.length a8] 29)::(d3++(a1++F)))) (PW (PW PM)) (se ?_)))));have e0:=div_get (b:=b) (k:=k) (h:=h) (nd:=nd) (by omega) (by omega);have c3:Own 3 1 AK (vS (some ⟨b3,0,none⟩) h.length h.length) (ER (CW h nd b) h.length (k+1)) a1:=by have hq:=a4;rw [e0.2] at hq;exact hq
  have c4:Own 3 1 AK (vS (some ⟨b9,0,none⟩) h.length h.length) (ER (EL h nd b) h.length (k+1)) d3:=by have hq:=f9;rw [e0.1] at hq;exact hq
  have e1:(ER (CW h nd b) h.length (k+1)).length=h.length:=HC;have e2:(ER (EL h nd b) h.length (k+1)).length=h.length:=HC;refine rd0' 13 [(0,true),(1,true),(2,true),(3,true),(4,true),(5,true),(6,true),(7,true),(8,true),(9,true),(10,true),(11,true),(12,false)] (ox 1 [(70,vI ((GQ (CW h nd b) k)))] ?_);refine AD (dlb 71 1 0 b5 (vS (some ⟨b3,0,none⟩) h.length h.length)) (ox 1 [(72,vI (↑k))] ?_);obtain ⟨j1,d0⟩:=c3.row 0;refine AD (di 73 1 (k) (fun _=>d0.addr (by omega)) (n:=h.length)) ?_;refine AD (dl 74 (d0.get (k) (by omega) 0 (by decide) _ _ (fun x hx=>by simp [hx]))) ?_;refine OFP.sub 74 (show (vI (((ER (CW h nd b) h.length (k+1))).getD (k) 0):Value)=vI (CW h nd b k) from congrArg (Value.int .i64) (fill_at (by omega))) ?_;have i0:=a3.bound k;refine AD (da 75 ((GQ (CW h nd b) k)) (CW h nd b k)) (ox 1 [(76,vI ((GQ (EL h nd b) k)))] ?_);refine AD (dlb 77 0 0 b7 (vS (some ⟨b9,0,none⟩) h.length h.length)) (ox 1 [(78,vI (↑k))] ?_);obtain ⟨j2,d1⟩:=c4.row 0;refine AD (di 79 1 (k) (fun _=>d1.addr (by omega)) (n:=h.length)) ?_;refine AD (dl 80 (d1.get (k) (by omega) 0 (by decide) _ _ (fun x hx=>by simp [hx]))) ?_;refine OFP.sub 80 (show (vI (((ER (EL h nd b) h.length (k+1))).getD (k) 0):Value)=vI (EL h nd b k) from congrArg (Value.int .i64) (fill_at (by omega))) ?_;refine AD (da 81 ((GQ (EL h nd b) k)) (EL h nd b k)) ?_;refine HT (stp_of_det (AP (d:=11) (v:=vI (((GQ (CW h nd b) k))+(CW h nd b k))) (by kernel_rfl)) (by kernel_rfl) (ofp_stay ?_));refine AU (sp 1 [(12,vI (((GQ (EL h nd b) k))+(EL h nd b k)))] (ee (NB (NX (rr (sd (da 82 (↑k) (1)) (sp 1 [(34,vI (↑k+1))] (ee ?_))))))));refine AN (h.length-(k+1)) (by omega) ?_;intro a w hS hD hW;exact ⟨k+1,a1,d3,by omega,c3,c4,hS.sub (.consE 11 rfl rfl (.consE 12 rfl rfl (.consE 34 rfl rfl (.cons 1 rfl (.cons 2 rfl (.cons 3 rfl (.cons 6 rfl (.cons 7 rfl (.cons 9 rfl (.cons 10 rfl (.cons 32 rfl (.cons 33 rfl (.nil _))))))))))))),hD,hW.perm (PC _ (PC _ (PC _ (PO _ _ _)))),rfl⟩
 have f3:=h2;have h2:=CO h2;refine CB 0 ((EP (EP (EB (NX (rq (rq ?_)))))));have e7:k=h.length:=by omega
 have k8:GQ (CW h nd b) k=(FJ h nd b).sum:=by rw [e7];exact gives_sum
 have i6:GQ (EL h nd b) k=(FO h nd b).sum:=by rw [e7];exact gets_sum
 have i3:=a3.grow;have e3:Own 3 1 AK (vS (some ⟨b3,0,none⟩) h.length h.length) (FJ h nd b) a1:=by have hq:=a4;rw [e7,fill_done] at hq;exact hq
 have e4:Own 3 1 AK (vS (some ⟨b9,0,none⟩) h.length h.length) (FO h nd b) a0:=by have hq:=a2;rw [e7,fill_done] at hq;exact hq
 refine rr (sp 3 [(85,.bool (cmp .lss ((GQ (CW h nd b) k)) ((GQ (EL h nd b) k))))] (se (rc 85 rfl (fun h4=>?_) (fun h4=>?_))))
 ·
  have f5:=h4;have h4:=CF h4;refine rqr (sp 2 [(7,vI (11)),(6,vN)] (se (BH ((RP ?_)))));have g4:=divE_none (h:=h) (nd:=nd) (b:=b) (by omega) (by omega);refine BS (t:=6) (u:=7) ([]) (by kernel_rfl) rfl rfl (TC _ (TC _ (TC _ (TT (TT (TR _) (TB _ _)) (TB _ _))))) (IR _) ?_;exact ⟨_,_,(congrArg (fun n=>Value.tuple #[_,vI n]) (show 11=(divE h nd b).2 from (congrArg Prod.snd g4).symm)),rfl,((show []=(divE h nd b).1 from (congrArg Prod.fst g4).symm)▸Own.nil _ _ _)⟩
 have f5:=h4;have h4:=CO h4;refine AO (NX (rqr (sS (sal 15 146 #[.nilFunc] (fun b8=>(sn (sp 1 [(86,.func (.func 116) #[] #[vP b1 0,vP b5 0,vP b7 0,vP b8 0])] (sS (ss 0 0 b8 [.func (.func 116) #[] #[vP b1 0,vP b5 0,vP b7 0,vP b8 0]] [.func (.func 116) #[] #[vP b1 0,vP b5 0,vP b7 0,vP b8 0]] (_::_::_::_::_) (cs:=[_]) rfl rfl (se (rq ?_)))))))))));refine GW (b:=b1) (o:=Obj.cells #[vS a7 h.length a8] 29 (0,0)) (M0:=((bX b8 #[.func (.func 116) #[] #[vP b1 0,vP b5 0,vP b7 0,vP b8 0]] 146)::(bX b7 #[vS (some ⟨b9,0,none⟩) h.length h.length] 29)::(bX b5 #[vS (some ⟨b3,0,none⟩) h.length h.length] 29)::(a1++(a0++F)))) ((PC _ ((PC _ (PS _ _ _)).trans (PS _ _ _))).trans (PS _ _ _)) (fun j5 c5 a9=>?_);replace a_f:=a_f.mono c5;refine GW (b:=b8) (o:=Obj.cells #[.func (.func 116) #[] #[vP b1 0,vP b5 0,vP b7 0,vP b8 0]] 146 (0,0)) (M0:=((bX b7 #[vS (some ⟨b9,0,none⟩) h.length h.length] 29)::(bX b5 #[vS (some ⟨b3,0,none⟩) h.length h.length] 29)::(a1++(a0++F)))) (PR _) (fun g1 c0 b2=>?_);replace a_f:=a_f.mono c0;replace a9:=c0.blk _ _ a9;have i1:=first_some i5 NQ PL (NR g8.1) (PN g8.1) (show ¬ (FJ h nd b).sum<(FO h nd b).sum by omega);refine rr (sp 1 [(16,vI (0))] (se (rb 2 ?_)));refine rl (fun mz a w=>∃ J1:Imm,∃ u:Nat,∃ a5:Seg,∃ a6:Seg,(g1.le J1)∧(u≤h.length*h.length)∧(∀ j,j<u→CN h.length (h.length*h.length) j (FO h nd b).sum (FJ h nd b) (FO h nd b)=none)∧(Own 3 1 AK (vS (some ⟨b3,0,none⟩) h.length h.length) (FJ h nd b) a5)∧(Own 3 1 AK (vS (some ⟨b9,0,none⟩) h.length h.length) (FO h nd b) a6)∧Slots 98 [(16,vI ↑u),(12,vI ((GQ (EL h nd b) k))),(15,vP b8 0)] a∧a.defers=[]∧St J1 ((bX b7 #[(vS (some ⟨b9,0,none⟩) h.length h.length)] 29)::(bX b5 #[(vS (some ⟨b3,0,none⟩) h.length h.length)] 29)::(a5++(a6++F))) w∧mz=h.length*h.length-u) ?_ ?_
 ·intro a w hS hD hW;exact ⟨_,g1,0,a1,a0,IR _,Nat.zero_le _,(fun j hj=>by omega),e3,e4,hS.sub (.cons 16 rfl (.cons 12 rfl (.cons 15 rfl (.nil _)))),hD,hW,rfl⟩
 rintro mz a w ⟨J1,u,a5,a6,hJ1,hu,f7,b4,b6,hS,hD,hW,rfl⟩
 refine AR hS hD hW ?_;clear hS hD hW a w;replace a_f:=a_f.mono hJ1;replace a9:=hJ1.blk _ _ a9;replace b2:=hJ1.blk _ _ b2;refine rq (rb 3 (rqr (sd (BG (v:=.func (.func 116) #[] #[vP b1 0,vP b5 0,vP b7 0,vP b8 0]) (x:=(.tmp 15)) (T:=146) (d:=90) (ty:=146) (gd:=none) (by kernel_rfl) rfl (by kernel_rfl) rfl (AZ b2 rfl)) (sp 2 [(92,vI ((GQ (EL h nd b) k))),(91,vI (↑u))] (EW 92 rfl (show (vI ((GQ (EL h nd b) k)):Value)=vI ((FO h nd b).sum) from congrArg (Value.int .i64) i6) ?_)))));have k9:h.length*h.length≤16:=Nat.mul_le_mul g7 g7;have d9:=div_all (h.length*h.length) J1 0 u (FO h nd b).sum b1 b5 b7 b8 _ _ _ h (FJ h nd b) (FO h nd b) _ _ a9 b2 a_f b4 b6 i3 (by omega) (by omega);refine sS (JN (d:=(some 93)) (f:=(.tmp 90)) (fid:=116) (args:=#[(.const (vI 0)),(.tmp 91),(.tmp 92)]) (tys:=#[3,3,3]) (cv:=[vP b1 0,vP b5 0,vP b7 0,vP b8 0]) (F:=(F)) (ty:=147) (gd:=none) (by kernel_rfl) rfl rfl rfl (by kernel_rfl) rfl d9 (by simpa only [AA,CA,NA] using (PS _ _ _)) (fun j4 g9 j3 b0 g0=>?_));obtain ⟨gu,e8,e9,f0,rfl,g6,h7,h8,g3⟩:=g0;replace a9:=b0.blk _ _ a9;replace b2:=b0.blk _ _ b2;rw [g6];clear g6;obtain ⟨d4,d5,f1,h9⟩:=g3.shape;subst f1;refine BC (M':=((bX b5 #[vS (some ⟨b3,0,none⟩) h.length h.length] 29)::(bX b7 #[vS (some ⟨b9,0,none⟩) h.length h.length] 29)::(e8++(e9++(f0++F))))) (fun w h=>by simpa only [AA,CA,NA] using h) (nm ?_);show Seq _ _ _ _ _ _ ((93,.tuple #[vS d4 ((CN h.length (h.length*h.length) u (FO h nd b).sum (FJ h nd b) (FO h nd b)).getD []).length d5,.bool ((CN h.length (h.length*h.length) u (FO h nd b).sum (FJ h nd b) (FO h nd b)).isSome)])::_) _ _;refine sp 5 [(18,.bool ((CN h.length (h.length*h.length) u (FO h nd b).sum (FJ h nd b) (FO h nd b)).isSome)),(17,vS d4 ((CN h.length (h.length*h.length) u (FO h nd b).sum (FJ h nd b) (FO h nd b)).getD []).length d5)] (sn (sp 1 [(96,.bool ((CN h.length (h.length*h.length) u (FO h nd b).sum (FJ h nd b) (FO h nd b)).isSome))] (se (rc 96 rfl (fun h5=>?_) (fun h5=>?_)))))
 ·
  have f6:=h5;refine rqr (sp 3 [(7,vI (0)),(6,vS d4 ((CN h.length (h.length*h.length) u (FO h nd b).sum (FJ h nd b) (FO h nd b)).getD []).length d5)] (se (BH ((RB (RP (RP (RB ?_))))))));have g5:=divE_ok (h:=h) (nd:=nd) (b:=b) (by omega) (by omega);have i2:=divD_hit f7 hu h5;refine ppm (M':=((f0++(bX b5 #[vS (some ⟨b3,0,none⟩) h.length h.length] 29)::(bX b7 #[vS (some ⟨b9,0,none⟩) h.length h.length] 29)::(e8++(e9++F))))) (PU (PU (PV (PO _ _ _)))) (BS (t:=6) (u:=7) (f0) (by kernel_rfl) rfl rfl (TA (TC _ (TC _ (TT (TT (TR _) (TB _ _)) (TB _ _)))) _) (IT (IT (IT c5 c0) hJ1) b0) ?_);exact ⟨_,_,(congrArg (fun n=>Value.tuple #[_,vI n]) (show 0=(divE h nd b).2 from by rw [g5])),rfl,((show (CN h.length (h.length*h.length) u (FO h nd b).sum (FJ h nd b) (FO h nd b)).getD []=(divE h nd b).1 from by rw [g5,i2])▸g3)⟩
 have f6:=h5;refine AO (NB (NX (rr (sp 1 [(87,vI (↑u))] (sd (da 88 (↑u) (1)) (sp 1 [(16,vI (↑u+1))] (ee ?_)))))));have i4:=first_more i1 f7 h5;refine AN (h.length*h.length-(u+1)) (by omega) ?_;intro a w hS hD hW;exact ⟨g9,u+1,e8,e9,(IT hJ1 b0),i4,none_next f7 h5,h7,h8,hS.sub (.consE 16 rfl rfl (.cons 12 rfl (.cons 15 rfl (.nil _)))),hD,(hW.perm ((PU (PU (PV (PO _ _ _)))).trans (PA _ (PS _ _ _)))).sub (TT (TR _) (TB _ _)),rfl⟩
noncomputable def c_IdxKeep (p:List Nat):Code:=sub (AQ Tryz.f165) p
theorem IdxKeep_ct (I:Imm) (a:Value) (l:List Keep) (f_id:FuncId) (f_cv:List Value) (p:Keep→Bool) (a_f:HS I a l) (f_c:DO Tryz.prog f_id=true) (f_h:∀ J,I.le J→∀ x:Keep,CtV Tryz.prog f_id (.agg #[vI x.place,vI x.hour,vI x.who]::f_cv).toArray J (.bool (p x))):CtV Tryz.prog 165 #[a,.func (.func f_id) #[] f_cv.toArray] I (vI (NG p l)):=by
 obtain ⟨a0,a1,a7,b0,a6,a8,a9,a5⟩:=id a_f;subst a6;refine fr (args:=[_,_]) (N:=19) Tryz.func165 (fun F=>?_);show Run _ _ (c_IdxKeep []) _ _ [(0,vS a0 l.length a1),(1,.func (.func f_id) #[] f_cv.toArray)] _ _;refine rnm (rqr ?_);refine sp 1 [(4,vI (0))] (se (rq (rqr (sp 3 [(8,vI (0)),(7,vI (↑(l.length)))] (se (rb 0 ?_))))));refine rl (fun mz a w=>∃ k:Nat,(k≤l.length)∧(∀ j,j<k→p (l.getD j AJ)=false)∧Slots 19 [(8,vI ↑k),(0,vS a0 l.length a1),(1,.func (.func f_id) #[] f_cv.toArray),(7,vI (↑(l.length)))] a∧a.defers=[]∧St I (F) w∧mz=l.length-k) ?_ ?_
 ·intro a w hS hD hW;exact ⟨_,0,Nat.zero_le _,(fun j hj=>by omega),hS.sub (.cons 8 rfl (.cons 0 rfl (.cons 1 rfl (.cons 7 rfl (.nil _))))),hD,hW,rfl⟩
 rintro mz a w ⟨k,hk,a4,hS,hD,hW,rfl⟩
 refine AR hS hD hW ?_;clear hS hD hW a w;refine rqr (sp 1 [(9,.bool (cmp .lss (↑k) (↑(l.length))))] (se (rq (rc 9 rfl (fun h1=>?_) (fun h1=>?_)))))
 ·
  have a2:=h1;have h1:=CF h1;refine AO (NX (rq (rb 1 (rqr (sp 2 [(5,vI (↑k))] (sn (sp 3 [(13,vI (↑k)),(12,vS a0 l.length a1),(11,.func (.func f_id) #[] f_cv.toArray)] (sd (di 14 3 (k) a5.addr) (sd (BR (x:=(.tmp 14)) (T:=50) (n:=3) (vs:=[vI ((l.getD (k) AJ).place),vI ((l.getD (k) AJ).hour),vI ((l.getD (k) AJ).who)]) (d:=15) (ty:=50) (gd:=none) (by kernel_rfl) rfl (by kernel_rfl) (by kernel_rfl) rfl rfl (DQ (vals:=HY) (fun _=>rfl) a5 (k) (by omega))) (sd (NK (f:=(.tmp 11)) (fid:=f_id) (args:=#[(.tmp 15)]) (tys:=#[50]) (cv:=f_cv) (v:=.bool (p (l.getD (k) AJ))) (d:=16) (ty:=4) (gd:=none) (by kernel_rfl) rfl rfl rfl f_c rfl (fun I' hI=>f_h I' hI (l.getD (k) AJ))) (se (rc 16 rfl (fun h2=>?_) (fun h2=>?_)))))))))))))
  ·
   have a3:=h2;refine rqr (sp 2 [(4,vI (↑k))] (se (BH ((RB (RP (RP (RB (RP (AG (t:=4) [] (by kernel_rfl) rfl (TR _) (IR _) ?_))))))))));exact ⟨congrArg (Value.int .i64) (idxF_hit (d:=AJ) a4 (by omega) h2).symm,rfl⟩
  have a3:=h2;refine AO (NB (NX (rr (sd (da 18 (↑k) (1)) (sp 1 [(8,vI (↑k+1))] (ee ?_))))));refine AN (l.length-(k+1)) (by omega) ?_;intro a w hS hD hW;exact ⟨k+1,by omega,IH a4 h2,hS.sub (.consE 8 rfl rfl (.cons 0 rfl (.cons 1 rfl (.cons 7 rfl (.nil _))))),hD,hW,rfl⟩
 have a2:=h1;have h1:=CO h1;refine CB 0 ((EP (EP (EB (NX (rqr (sp 1 [(4,vI ((-1)))] (se (BH (AG (t:=4) [] (by kernel_rfl) rfl (TR _) (IR _) ?_))))))))));exact ⟨congrArg (Value.int .i64) (idxF_miss (d:=AJ) a4 (by omega)).symm,rfl⟩
noncomputable def c_ConKeep (p:List Nat):Code:=sub (AQ Tryz.f146) p
theorem ConKeep_ct (I:Imm) (a:Value) (l:List Keep) (f_id:FuncId) (f_cv:List Value) (p:Keep→Bool) (a_f:HS I a l) (f_c:DO Tryz.prog f_id=true) (f_h:∀ J,I.le J→∀ x:Keep,CtV Tryz.prog f_id (.agg #[vI x.place,vI x.hour,vI x.who]::f_cv).toArray J (.bool (p x))):CtV Tryz.prog 146 #[a,.func (.func f_id) #[] f_cv.toArray] I (.bool (l.any p)):=by
 obtain ⟨a0,a1,a3,a6,a2,a4,a5,a7⟩:=id a_f;subst a2;refine fr (args:=[_,_]) (N:=9) Tryz.func146 (fun F=>?_);show Run _ _ (c_ConKeep []) _ _ [(0,vS a0 l.length a1),(1,.func (.func f_id) #[] f_cv.toArray)] _ _;refine rnm (rqr ?_);refine sp 1 [(4,.bool (false))] (sn (sp 2 [(6,.func (.func f_id) #[] f_cv.toArray),(5,vS a0 l.length a1)] (sd (dc 7 (fun I' hI=>(IdxKeep_ct I' _ _ f_id (f_cv) (p) (a_f.mono hI) f_c (NW hI f_h) :))) (sp 2 [(4,.bool (cmp .geq ((NG p l)) (0)))] (se (BH (AG (t:=4) [] (by kernel_rfl) rfl (TR _) (IR _) ?_)))))));exact ⟨congrArg Value.bool idxF_any,rfl⟩
noncomputable def c_IdxSlip (p:List Nat):Code:=sub (AQ Tryz.f76) p
theorem OS (I:Imm) (a:Value) (l:List Slip) (f_id:FuncId) (f_cv:List Value) (p:Slip→Bool) (a_f:GH I a l) (f_c:DO Tryz.prog f_id=true) (f_h:∀ J,I.le J→∀ x:Slip,CtV Tryz.prog f_id (.agg #[vI x.num,vI x.hour,vI x.kind,vI x.place,vI x.to,vI x.sort,.bool x.soil,vI x.amt]::f_cv).toArray J (.bool (p x))):CtV Tryz.prog 76 #[a,.func (.func f_id) #[] f_cv.toArray] I (vI (NG p l)):=by
 obtain ⟨a0,a1,a7,b0,a6,a8,a9,a5⟩:=id a_f;subst a6;refine fr (args:=[_,_]) (N:=19) Tryz.func76 (fun F=>?_);show Run _ _ (c_IdxSlip []) _ _ [(0,vS a0 l.length a1),(1,.func (.func f_id) #[] f_cv.toArray)] _ _;refine rnm (rqr ?_);refine sp 1 [(4,vI (0))] (se (rq (rqr (sp 3 [(8,vI (0)),(7,vI (↑(l.length)))] (se (rb 0 ?_))))));refine rl (fun mz a w=>∃ k:Nat,(k≤l.length)∧(∀ j,j<k→p (l.getD j AB)=false)∧Slots 19 [(8,vI ↑k),(0,vS a0 l.length a1),(1,.func (.func f_id) #[] f_cv.toArray),(7,vI (↑(l.length)))] a∧a.defers=[]∧St I (F) w∧mz=l.length-k) ?_ ?_
 ·intro a w hS hD hW;exact ⟨_,0,Nat.zero_le _,(fun j hj=>by omega),hS.sub (.cons 8 rfl (.cons 0 rfl (.cons 1 rfl (.cons 7 rfl (.nil _))))),hD,hW,rfl⟩
 rintro mz a w ⟨k,hk,a4,hS,hD,hW,rfl⟩
 refine AR hS hD hW ?_;clear hS hD hW a w;refine rqr (sp 1 [(9,.bool (cmp .lss (↑k) (↑(l.length))))] (se (rq (rc 9 rfl (fun h1=>?_) (fun h1=>?_)))))
 ·
  have a2:=h1;have h1:=CF h1;refine AO (NX (rq (rb 1 (rqr (sp 2 [(5,vI (↑k))] (sn (sp 3 [(13,vI (↑k)),(12,vS a0 l.length a1),(11,.func (.func f_id) #[] f_cv.toArray)] (sd (di 14 8 (k) a5.addr) (sd (BR (x:=(.tmp 14)) (T:=28) (n:=8) (vs:=[vI ((l.getD (k) AB).num),vI ((l.getD (k) AB).hour),vI ((l.getD (k) AB).kind),vI ((l.getD (k) AB).place),vI ((l.getD (k) AB).to),vI ((l.getD (k) AB).sort),.bool ((l.getD (k) AB).soil),vI ((l.getD (k) AB).amt)]) (d:=15) (ty:=28) (gd:=none) (by kernel_rfl) rfl (by kernel_rfl) (by kernel_rfl) rfl rfl (DQ (vals:=DD) (fun _=>rfl) a5 (k) (by omega))) (sd (NK (f:=(.tmp 11)) (fid:=f_id) (args:=#[(.tmp 15)]) (tys:=#[28]) (cv:=f_cv) (v:=.bool (p (l.getD (k) AB))) (d:=16) (ty:=4) (gd:=none) (by kernel_rfl) rfl rfl rfl f_c rfl (fun I' hI=>f_h I' hI (l.getD (k) AB))) (se (rc 16 rfl (fun h2=>?_) (fun h2=>?_)))))))))))))
  ·
   have a3:=h2;refine rqr (sp 2 [(4,vI (↑k))] (se (BH ((RB (RP (RP (RB (RP (AG (t:=4) [] (by kernel_rfl) rfl (TR _) (IR _) ?_))))))))));exact ⟨congrArg (Value.int .i64) (idxF_hit (d:=AB) a4 (by omega) h2).symm,rfl⟩
  have a3:=h2;refine AO (NB (NX (rr (sd (da 18 (↑k) (1)) (sp 1 [(8,vI (↑k+1))] (ee ?_))))));refine AN (l.length-(k+1)) (by omega) ?_;intro a w hS hD hW;exact ⟨k+1,by omega,IH a4 h2,hS.sub (.consE 8 rfl rfl (.cons 0 rfl (.cons 1 rfl (.cons 7 rfl (.nil _))))),hD,hW,rfl⟩
 have a2:=h1;have h1:=CO h1;refine CB 0 ((EP (EP (EB (NX (rqr (sp 1 [(4,vI ((-1)))] (se (BH (AG (t:=4) [] (by kernel_rfl) rfl (TR _) (IR _) ?_))))))))));exact ⟨congrArg (Value.int .i64) (idxF_miss (d:=AB) a4 (by omega)).symm,rfl⟩
noncomputable def c_ConSlip (p:List Nat):Code:=sub (AQ Tryz.f91) p
theorem ConSlip_ct (I:Imm) (a:Value) (l:List Slip) (f_id:FuncId) (f_cv:List Value) (p:Slip→Bool) (a_f:GH I a l) (f_c:DO Tryz.prog f_id=true) (f_h:∀ J,I.le J→∀ x:Slip,CtV Tryz.prog f_id (.agg #[vI x.num,vI x.hour,vI x.kind,vI x.place,vI x.to,vI x.sort,.bool x.soil,vI x.amt]::f_cv).toArray J (.bool (p x))):CtV Tryz.prog 91 #[a,.func (.func f_id) #[] f_cv.toArray] I (.bool (l.any p)):=by
 obtain ⟨a0,a1,a3,a6,a2,a4,a5,a7⟩:=id a_f;subst a2;refine fr (args:=[_,_]) (N:=9) Tryz.func91 (fun F=>?_);show Run _ _ (c_ConSlip []) _ _ [(0,vS a0 l.length a1),(1,.func (.func f_id) #[] f_cv.toArray)] _ _;refine rnm (rqr ?_);refine sp 1 [(4,.bool (false))] (sn (sp 2 [(6,.func (.func f_id) #[] f_cv.toArray),(5,vS a0 l.length a1)] (sd (dc 7 (fun I' hI=>(OS I' _ _ f_id (f_cv) (p) (a_f.mono hI) f_c (NW hI f_h) :))) (sp 2 [(4,.bool (cmp .geq ((NG p l)) (0)))] (se (BH (AG (t:=4) [] (by kernel_rfl) rfl (TR _) (IR _) ?_)))))));exact ⟨congrArg Value.bool idxF_any,rfl⟩
noncomputable def c_checkStart (p:List Nat):Code:=sub (AQ Tryz.f102) p
theorem checkStart_ct (I:Imm) (l:Value) (L:Lin) (l_f:IsLin I l L) (hp:1≤L.places∧L.places≤4) (hs:1≤L.sorts∧L.sorts≤2):CtV Tryz.prog 102 #[l] I (vI (CU L)):=by
 obtain ⟨l1,l2,l3,g1,b2,d4,d6⟩:=id l_f;subst g1;obtain ⟨a0,a1,e7,f0,e4,d1,e8,e9,b3,d2⟩:=id b2;subst d1;obtain ⟨a2,a3,f1,f4,d3,f2,f3,f5⟩:=id d4;subst d3;obtain ⟨a4,a5,f6,f9,d5,f7,f8,g0⟩:=id d6;subst d5;refine fr (args:=[_]) (N:=38) Tryz.func102 (fun F=>?_);show Run _ _ (c_checkStart []) _ _ [(0,.agg #[vI (L.places),vI (L.sorts),vS a0 L.start.length a1,vS a2 L.keeps.length a3,vS a4 L.slips.length a5])] _ _;refine rnm (rqr ?_);refine sS (sb 1 26 #[vI (L.places),vI (L.sorts),vS a0 L.start.length a1,vS a2 L.keeps.length a3,vS a4 L.slips.length a5] (fun b1=>(sp 1 [(2,vI (0))] (se (rq (rqr (sp 1 [(7,vP b1 2)] (sd (dlb 8 0 2 b1 (vS a0 L.start.length a1)) (sp 2 [(10,vP b1 0),(9,vI (↑(L.start.length)))] (sd (dlb 11 0 0 b1 (vI (L.places))) (sp 1 [(12,.bool (!(cmp .eql (↑(L.start.length)) (L.places))))] (se (rc 12 rfl (fun h1=>?_) (fun h1=>?_))))))))))))))
 ·
  have c4:=h1;have h1:=BK (BQ h1);refine rqr (sp 1 [(2,vI (2))] (se (BH ((RP (AG (t:=2) [] (by kernel_rfl) rfl (TC _ (TR _)) (IR _) ?_))))));exact ⟨congrArg (Value.int .i64) (startErr_1 (by omega)).symm,rfl⟩
 have c4:=h1;have h1:=BL (BJ h1);refine AO (NX (rq (rqr (sp 1 [(13,vP b1 2)] (sd (dlb 14 0 2 b1 (vS a0 L.start.length a1)) (sp 2 [(16,vI (0)),(15,vI (↑(L.start.length)))] (se (rb 0 ?_))))))));refine rl (fun mz a w=>∃ k:Nat,(k≤L.start.length)∧(∀ r∈L.start.take k,(fun r=>decide ((r.length:Int)=L.sorts)) r=true)∧Slots 38 [(16,vI ↑k),(1,vP b1 0),(14,vS a0 L.start.length a1),(15,vI (↑(L.start.length)))] a∧a.defers=[]∧St I ((bX b1 #[vI (L.places),vI (L.sorts),vS a0 L.start.length a1,vS a2 L.keeps.length a3,vS a4 L.slips.length a5] 26)::F) w∧mz=L.start.length-k) ?_ ?_
 ·intro a w hS hD hW;exact ⟨_,0,Nat.zero_le _,(fun x h=>by simp at h),hS.sub (.cons 16 rfl (.cons 1 rfl (.cons 14 rfl (.cons 15 rfl (.nil _))))),hD,hW,rfl⟩
 rintro mz a w ⟨k,hk,ha,hS,hD,hW,rfl⟩
 refine AR hS hD hW ?_;clear hS hD hW a w;refine rqr (sp 1 [(17,.bool (cmp .lss (↑k) (↑(L.start.length))))] (se (rq (rc 17 rfl (fun h2=>?_) (fun h2=>?_)))))
 ·
  have c5:=h2;have h2:=CF h2;refine AO (NX (rq (rb 1 (rqr (sd (di 18 1 (k) b3.addr) ?_)))));have b6:=d2 (k) (by omega);obtain ⟨d7,d8,g2,g5,b5,g3,g4,g6⟩:=id b6;rw [b5] at b6;refine sd (BW (dl 19 (FB b3 (k) (by omega))) b5) (sp 1 [(4,vS d7 (L.start.getD (k) []).length d8)] (sn (sp 3 [(22,vP b1 1),(21,vI (↑((L.start.getD (k) []).length)))] (sd (dlb 23 0 1 b1 (vI (L.sorts))) (sp 1 [(24,.bool (!(cmp .eql (↑((L.start.getD (k) []).length)) (L.sorts))))] (se (rc 24 rfl (fun h3=>?_) (fun h3=>?_))))))))
  ·
   have c6:=h3;have h3:=BK (BQ h3);refine rqr (sp 1 [(2,vI (2))] (se (BH ((RB (RP (RP (RB (RP (AG (t:=2) [] (by kernel_rfl) rfl (TC _ (TR _)) (IR _) ?_))))))))));exact ⟨congrArg (Value.int .i64) (startErr_2 (k:=k) (by omega) (by omega) h3).symm,rfl⟩
  have c6:=h3;have h3:=BL (BJ h3);refine AO (NB (NX (rr (sd (da 25 (↑k) (1)) (sp 1 [(16,vI (↑k+1))] (ee ?_))))));refine AN (L.start.length-(k+1)) (by omega) ?_;intro a w hS hD hW;exact ⟨k+1,by omega,MA (d:=[]) ha (by omega) (decide_eq_true h3),hS.sub (.consE 16 rfl rfl (.cons 1 rfl (.cons 14 rfl (.cons 15 rfl (.nil _))))),hD,hW,rfl⟩
 have c5:=h2;have h2:=CO h2;refine CB 0 ((EP (EP (EB (NX (rq (rqr (sp 1 [(26,vP b1 2)] (sd (dlb 27 0 2 b1 (vS a0 L.start.length a1)) ?_)))))))));have d0:(L.start.all fun r=>decide ((r.length:Int)=L.sorts))=true:=QI ha (by omega);have h0:L.start.flatten.length≤1000000:=by have h1:=flat_small (xss:=L.start) (m:=2) (fun r hr=>by have:=of_decide_eq_true (List.all_eq_true.1 d0 r hr);omega);omega
 refine sS (sc (some 28) (Concat_ct _ _ _ b2 (by assumption) :) (.refl _) (fun g8 I4 g7 b0 e6=>?_));obtain ⟨u9,b7,e3,e2,b4⟩:=e6;rw [e3,e2];clear e3 e2;obtain ⟨d9,e0,e1,g9⟩:=b4.shape;subst e1;refine pm (M':=((bX b1 #[vI (L.places),vI (L.sorts),vS a0 L.start.length a1,vS a2 L.keeps.length a3,vS a4 L.slips.length a5] 26)::(b7++F))) PM (sfz (A:=((bX b1 #[vI (L.places),vI (L.sorts),vS a0 L.start.length a1,vS a2 L.keeps.length a3,vS a4 L.slips.length a5] 26)::F)) 0 b4 (PM.symm) (fun e5 a7 a9=>?_));obtain ⟨b8,c0,b9,c3,a8,c1,c2,a6⟩:=id a9;cases a8;refine sp 2 [(30,vI (0)),(29,vI (↑(L.start.flatten.length)))] (se (rb 2 ?_));refine rl (fun mz a w=>∃ m:Nat,(m≤L.start.flatten.length)∧(∀ x∈L.start.flatten.take m,inB x 0 50=true)∧Slots 38 [(30,vI ↑m),(28,vS d9 L.start.flatten.length e0),(29,vI (↑(L.start.flatten.length)))] a∧a.defers=[]∧St e5 ((bX b1 #[vI (L.places),vI (L.sorts),vS a0 L.start.length a1,vS a2 L.keeps.length a3,vS a4 L.slips.length a5] 26)::F) w∧mz=L.start.flatten.length-m) ?_ ?_
 ·intro a w hS hD hW;exact ⟨_,0,Nat.zero_le _,(fun x h=>by simp at h),hS.sub (.cons 30 rfl (.cons 28 rfl (.cons 29 rfl (.nil _)))),hD,hW,rfl⟩
 rintro mz a w ⟨m,hm,hb,hS,hD,hW,rfl⟩
 refine AR hS hD hW ?_;clear hS hD hW a w;refine rqr (sp 1 [(31,.bool (cmp .lss (↑m) (↑(L.start.flatten.length))))] (se (rq (rc 31 rfl (fun h4=>?_) (fun h4=>?_)))))
 ·
  have c7:=h4;have h4:=CF h4;refine AO (NX (rq (rb 3 (rqr (sd (di 32 1 (m) a6.addr) (sd (dl 33 (CK a6 (m) (by omega))) (sp 1 [(6,vI (L.start.flatten.getD (m) 0))] (sn (sp 1 [(34,vI (L.start.flatten.getD (m) 0))] (sd (dc 35 (fun I' hI=>(KF I' (L.start.flatten.getD (m) 0) (0) (50) :))) (sp 1 [(36,.bool (!(inB (L.start.flatten.getD (m) 0) 0 50)))] (se (rc 36 rfl (fun h5=>?_) (fun h5=>?_))))))))))))))
  ·
   have c9:=h5;have h5:=BQ h5;have c8:=GA h5;refine rqr (sp 1 [(2,vI (1))] (se (BH ((RB (RP (RP (RB (RP (AG (t:=2) [] (by kernel_rfl) rfl (TC _ (TR _)) (IT b0 a7) ?_))))))))));exact ⟨congrArg (Value.int .i64) (startErr_3 (k:=m) (by omega) d0 (by omega) h5).symm,rfl⟩
  have c9:=h5;have h5:=BJ h5;have c8:=CR h5;refine AO (NB (NX (rr (sd (da 37 (↑m) (1)) (sp 1 [(30,vI (↑m+1))] (ee ?_))))));refine AN (L.start.flatten.length-(m+1)) (by omega) ?_;intro a w hS hD hW;exact ⟨m+1,by omega,MA (d:=0) hb (by omega) h5,hS.sub (.consE 30 rfl rfl (.cons 28 rfl (.cons 29 rfl (.nil _)))),hD,hW,rfl⟩
 have c7:=h4;have h4:=CO h4;refine CB 2 ((EP (EP (EB (NX (rqr (sp 1 [(2,vI (0))] (se (BH (AG (t:=2) [] (by kernel_rfl) rfl (TC _ (TR _)) (IT b0 a7) ?_))))))))));exact ⟨congrArg (Value.int .i64) (startErr_4 (by omega) d0 (QI hb (by omega))).symm,rfl⟩
noncomputable def c_checkKeeps1 (p:List Nat):Code:=sub (AQ Tryz.f147) p
theorem cK1_ct (I:Imm) (x k:Keep) (b:Nat) (hb:I.blk b=some (Obj.cells #[vI k.place,vI k.hour,vI k.who] 50 (0,0))):CtV Tryz.prog 147 #[.agg #[vI x.place,vI x.hour,vI x.who],vP b 0] I (.bool (decide (x.place=k.place)&&decide (x.hour=k.hour))):=by
 refine fr (args:=[_,_]) (N:=16) Tryz.func147 (fun F=>?_);show Run _ _ (c_checkKeeps1 []) _ _ [(0,.agg #[vI (x.place),vI (x.hour),vI (x.who)]),(1,vP b 0)] _ _;refine rnm (rqr ?_);refine sS (sb 2 50 #[vI (x.place),vI (x.hour),vI (x.who)] (fun b1=>(sp 1 [(3,.bool (false))] (se (rq ?_)))));refine CC (fun a w=>Slots 16 [(3,.bool ((cmp .eql (x.place) (k.place))&&(cmp .eql (x.hour) (k.hour))))] a∧a.defers=[]∧St I ((bX b1 #[vI (x.place),vI (x.hour),vI (x.who)] 50)::F) w) ?_ ?_
 ·
  refine rr (sp 1 [(4,vP b1 0)] (sd (dlb 5 0 0 b1 (vI (x.place))) (sd (BF (x:=(.tmp 1)) (T:=50) (k:=0) (o:=0) (d:=6) (ty:=0) (gd:=none) (by kernel_rfl) rfl (by kernel_rfl) rfl) (sd (BG (v:=vI (k.place)) (x:=(.tmp 6)) (T:=3) (d:=7) (ty:=3) (gd:=none) (by kernel_rfl) rfl (by kernel_rfl) rfl (AZ hb rfl)) (sp 2 [(9,.bool (cmp .eql (x.place) (k.place)))] ?_)))));refine BE 9 rfl (fun h1=>?_) (fun h1=>?_)
  ·
   have a0:=h1;have a0:=BL a0;refine sp 1 [(10,vP b1 1)] (sd (dlb 11 0 1 b1 (vI (x.hour))) (sd (BF (x:=(.tmp 1)) (T:=50) (k:=1) (o:=1) (d:=12) (ty:=0) (gd:=(some (5,true))) (by kernel_rfl) (by kernel_rfl) (by kernel_rfl) rfl) (sd (BG (v:=vI (k.hour)) (x:=(.tmp 12)) (T:=3) (d:=13) (ty:=3) (gd:=(some (5,true))) (by kernel_rfl) (by kernel_rfl) (by kernel_rfl) rfl (AZ hb rfl)) (sp 3 [(3,.bool (cmp .eql (x.hour) (k.hour)))] (ee ?_)))));refine AL (fun a w hS hD hW=>⟨hS.sub (.consE 3 rfl (congrArg Value.bool (by simp only [h1,kA,kB,kC,kD,kE,kF,kG,kH,kI,kJ])) (.nil _)),hD,hW⟩)
  have a0:=h1;have a0:=BK a0;refine sp 7 [(3,.bool (false))] (ee ?_);refine AL (fun a w hS hD hW=>⟨hS.sub (.consE 3 rfl (congrArg Value.bool (by simp only [h1,kA,kB,kC,kD,kE,kF,kG,kH,kI,kJ])) (.nil _)),hD,hW⟩)
 rintro a w ⟨hS,hD,hW⟩
 refine AR hS hD hW ?_;clear hS hD hW a w;refine BH (AG (t:=3) [] (by kernel_rfl) rfl (TC _ (TR _)) (IR _) ?_);exact ⟨congrArg Value.bool (by simp only [MW]),rfl⟩
noncomputable def c_checkKeeps (p:List Nat):Code:=sub (AQ Tryz.f103) p
theorem checkKeeps_ct (I:Imm) (l:Value) (L:Lin) (l_f:IsLin I l L) (hp:1≤L.places∧L.places≤4):CtV Tryz.prog 103 #[l] I (vI (CT L)):=by
 obtain ⟨l1,l2,l3,e4,c3,a5,c6⟩:=id l_f;subst e4;obtain ⟨a3,a4,c9,d2,c7,c2,d0,d1,d3,d4⟩:=id c3;subst c2;obtain ⟨a0,a1,d5,d8,c4,d6,d7,a6⟩:=id a5;subst c4;obtain ⟨a7,a8,d9,e2,c5,e0,e1,e3⟩:=id c6;subst c5;refine fr (args:=[_]) (N:=42) Tryz.func103 (fun F=>?_);show Run _ _ (c_checkKeeps []) _ _ [(0,.agg #[vI (L.places),vI (L.sorts),vS a3 L.start.length a4,vS a0 L.keeps.length a1,vS a7 L.slips.length a8])] _ _;refine rnm (rqr ?_);refine sS (sb 1 26 #[vI (L.places),vI (L.sorts),vS a3 L.start.length a4,vS a0 L.keeps.length a1,vS a7 L.slips.length a8] (fun b1=>(sp 1 [(2,vI (0))] (se (rq (rqr (sp 1 [(5,vP b1 3)] (sd (dlb 6 0 3 b1 (vS a0 L.keeps.length a1)) (sp 2 [(8,.bool (cmp .gtr (↑(L.keeps.length)) (4)))] (se (rc 8 rfl (fun h1=>?_) (fun h1=>?_))))))))))))
 ·
  have b4:=h1;have h1:=JW h1;refine rqr (sp 1 [(2,vI (6))] (se (BH ((RP (AG (t:=2) [] (by kernel_rfl) rfl (TC _ (TR _)) (IR _) ?_))))));exact ⟨congrArg (Value.int .i64) (NT (by omega)).symm,rfl⟩
 have b4:=h1;have h1:=MN h1;refine AO (NX (rq (rqr (sp 1 [(9,vP b1 3)] (sd (dlb 10 0 3 b1 (vS a0 L.keeps.length a1)) (sp 2 [(12,vI (0)),(11,vI (↑(L.keeps.length)))] (se (rb 0 ?_))))))));refine rl (fun mz a w=>∃ J0:Imm,∃ k:Nat,(I.le J0)∧(k≤L.keeps.length)∧(FD (EU L) k=0)∧Slots 42 [(12,vI ↑k),(1,vP b1 0),(10,vS a0 L.keeps.length a1),(11,vI (↑(L.keeps.length)))] a∧a.defers=[]∧St J0 ((bX b1 #[vI (L.places),vI (L.sorts),vS a3 L.start.length a4,vS a0 L.keeps.length a1,vS a7 L.slips.length a8] 26)::F) w∧mz=L.keeps.length-k) ?_ ?_
 ·intro a w hS hD hW;exact ⟨_,I,0,IR _,Nat.zero_le _,rfl,hS.sub (.cons 12 rfl (.cons 1 rfl (.cons 10 rfl (.cons 11 rfl (.nil _))))),hD,hW,rfl⟩
 rintro mz a w ⟨J0,k,hJ0,hk,hz,hS,hD,hW,rfl⟩
 refine AR hS hD hW ?_;clear hS hD hW a w;replace a5:=a5.mono hJ0;replace a6:=a6.mono hJ0;refine rqr (sp 1 [(13,.bool (cmp .lss (↑k) (↑(L.keeps.length))))] (se (rq (rc 13 rfl (fun h2=>?_) (fun h2=>?_)))))
 ·
  have b5:=h2;have h2:=CF h2;refine AO (NX (rq (rb 1 (rqr (sp 1 [(14,vI (↑k))] (sd (di 15 3 (k) a6.addr) (sd (BR (x:=(.tmp 15)) (T:=50) (n:=3) (vs:=[vI ((L.keeps.getD (k) AJ).place),vI ((L.keeps.getD (k) AJ).hour),vI ((L.keeps.getD (k) AJ).who)]) (d:=16) (ty:=50) (gd:=none) (by kernel_rfl) rfl (by kernel_rfl) (by kernel_rfl) rfl rfl (DQ (vals:=HY) (fun _=>rfl) a6 (k) (by omega))) (sS (sal 4 50 #[vI (0),vI (0),vI (0)] (fun b3=>(sp 1 [(3,vI (↑k))] (sS (ss 0 0 b3 [vI ((L.keeps.getD (k) AJ).place),vI ((L.keeps.getD (k) AJ).hour),vI ((L.keeps.getD (k) AJ).who)] [vI ((L.keeps.getD (k) AJ).place),vI ((L.keeps.getD (k) AJ).hour),vI ((L.keeps.getD (k) AJ).who)] (_::_::_) (cs:=[_,_,_]) rfl rfl (se (rb 2 (rqr (sp 1 [(18,vP b3 0)] (sd (dlb 19 0 0 b3 (vI ((L.keeps.getD (k) AJ).place))) (sp 1 [(20,vP b1 0)] (sd (dlb 21 1 0 b1 (vI (L.places))) (sd (dsb 22 (L.places) (1)) (sd (dc 23 (fun I' hI=>(KF I' ((L.keeps.getD (k) AJ).place) (0) (L.places-1) :))) (sp 2 [(17,.bool (!(inB ((L.keeps.getD (k) AJ).place) 0 (L.places-1))))] (se (rc 17 rfl (fun h3=>?_) (fun h3=>?_))))))))))))))))))))))))))
  ·
   have b7:=h3;have h3:=BQ h3;have b6:=GA h3;refine rqr (sp 1 [(2,vI (3))] (se (BH ((RB (RB (RP (RP (RB (RP (AG (t:=2) [] (by kernel_rfl) rfl (TC _ (TC _ (TR _))) hJ0 ?_)))))))))));exact ⟨congrArg (Value.int .i64) (FP (by omega) hz (by omega) (keepErr_3 h3) (by decide)).symm,rfl⟩
  have b7:=h3;have h3:=BJ h3;have b6:=CR h3;refine rq (rqr (sp 1 [(26,vP b3 1)] (sd (dlb 27 0 1 b3 (vI ((L.keeps.getD (k) AJ).hour))) (sd (dc 28 (fun I' hI=>(KF I' ((L.keeps.getD (k) AJ).hour) (0) (200) :))) (sp 2 [(25,.bool (!(inB ((L.keeps.getD (k) AJ).hour) 0 200)))] (se (rc 25 rfl (fun h4=>?_) (fun h4=>?_))))))))
  ·
   have b0:=h4;have h4:=BQ h4;have b8:=GA h4;refine AO (NX ?_);refine run_re 25 rfl (congrArg Value.bool b0) (rct 25 rfl (rqr (sp 1 [(2,vI (1))] (se (BH ((RB (RB (RP (RP (RB (RP (AG (t:=2) [] (by kernel_rfl) rfl (TC _ (TC _ (TR _))) hJ0 ?_)))))))))))));exact ⟨congrArg (Value.int .i64) (FP (by omega) hz (by omega) (keepErr_1 h3 h4) (by decide)).symm,rfl⟩
  have b0:=h4;have h4:=BJ h4;have b8:=CR h4;refine rr (sp 1 [(30,vP b3 2)] (sd (dlb 31 0 2 b3 (vI ((L.keeps.getD (k) AJ).who))) (sd (dc 32 (fun I' hI=>(KF I' ((L.keeps.getD (k) AJ).who) (1) (9) :))) (sp 2 [(25,.bool (!(inB ((L.keeps.getD (k) AJ).who) 1 9)))] (se (rc 25 rfl (fun h5=>?_) (fun h5=>?_)))))))
  ·
   have c0:=h5;have h5:=BQ h5;have b9:=GA h5;refine rqr (sp 1 [(2,vI (1))] (se (BH ((RB (RB (RP (RP (RB (RP (AG (t:=2) [] (by kernel_rfl) rfl (TC _ (TC _ (TR _))) hJ0 ?_)))))))))));exact ⟨congrArg (Value.int .i64) (FP (by omega) hz (by omega) (keepErr_1b h3 h4 h5) (by decide)).symm,rfl⟩
  have c0:=h5;have h5:=BJ h5;have b9:=CR h5;refine rqr (sp 1 [(35,vP b1 3)] (sd (dlb 36 1 3 b1 (vS a0 L.keeps.length a1)) (sp 1 [(37,vI (↑k))] ?_)));have a2:=a5.cutHi (k) (by omega);obtain ⟨e5,e7,e6,f0,b2,e8,e9,f1⟩:=id a2;rw [b2] at a2;refine sd (BW (GR (x:=(.tmp 36)) (lo:=none) (hi:=(some (.tmp 37))) (T:=23) (e:=50) (sz:=3) (0) (k) (d:=38) (ty:=23) (gd:=none) (by kernel_rfl) rfl (by kernel_rfl) (by kernel_rfl) rfl (.inl ⟨rfl,rfl⟩) (.inr ⟨_,.i64,rfl,rfl⟩) (by omega) (by omega)) b2) (sp 1 [(39,.func (.func 147) #[] #[vP b3 0])] ?_);refine QQ (b:=b3) (o:=Obj.cells #[vI ((L.keeps.getD (k) AJ).place),vI ((L.keeps.getD (k) AJ).hour),vI ((L.keeps.getD (k) AJ).who)] 50 (0,0)) (M0:=((bX b1 #[vI (L.places),vI (L.sorts),vS a3 L.start.length a4,vS a0 L.keeps.length a1,vS a7 L.slips.length a8] 26)::F)) (PR _) (fun I6 a9 c8=>?_);replace a2:=a2.mono a9;refine sd (dc 40 (fun I' hI=>(ConKeep_ct I' _ _ 147 ([vP b3 0]) (fun x=>decide (x.place=(L.keeps.getD (k) AJ).place)&&decide (x.hour=(L.keeps.getD (k) AJ).hour)) (a2.mono hI) (by kernel_rfl) (fun J hJ x=>cK1_ct J x (L.keeps.getD (k) AJ) b3 ((IT hI hJ).blk _ _ c8)) :))) (sp 1 [(34,.bool ((L.keeps.take (k)).any (fun x=>decide (x.place=(L.keeps.getD (k) AJ).place)&&decide (x.hour=(L.keeps.getD (k) AJ).hour))))] (se (rc 34 rfl (fun h6=>?_) (fun h6=>?_))))
  ·
   have c1:=h6;refine rqr (sp 1 [(2,vI (4))] (se (BH ((RB (RB (RP (RP (RB (RP (AG (t:=2) [] (by kernel_rfl) rfl (TC _ (TR _)) (IT hJ0 a9) ?_)))))))))));exact ⟨congrArg (Value.int .i64) (FP (by omega) hz (by omega) (keepErr_4 h3 h4 h5 h6) (by decide)).symm,rfl⟩
  have c1:=h6;refine AO (NB (NB (NX (rr (sd (da 41 (↑k) (1)) (sp 1 [(12,vI (↑k+1))] (ee ?_)))))));refine AN (L.keeps.length-(k+1)) (by omega) ?_;intro a w hS hD hW;exact ⟨I6,k+1,(IT hJ0 a9),by omega,KE hz (keepErr_ok h3 h4 h5 h6),hS.sub (.consE 12 rfl rfl (.cons 1 rfl (.cons 10 rfl (.cons 11 rfl (.nil _))))),hD,hW,rfl⟩
 have b5:=h2;have h2:=CO h2;refine CB 0 ((EP (EP (EB (NX (rqr (sp 1 [(2,vI (0))] (se (BH (AG (t:=2) [] (by kernel_rfl) rfl (TC _ (TR _)) hJ0 ?_))))))))));exact ⟨congrArg (Value.int .i64) (NU (by omega) hz (by omega)).symm,rfl⟩
end Go.Proofs.YtgcemienebmdeaaGreat

/- A part of the proof of the laws of this seat. -/
import Derived.Test.YtgcemienebmdeaaGreatDoorLinenKnownP1
import Derived.Below
import Derived.Laws.Strings
import Derived.Test.YtgcemienebmdeaaGreatDoorProg
set_option linter.unusedVariables false
set_option linter.unusedSimpArgs false
namespace Go.Sl
open Go
section
variable {ρ:Option Nat} {P:Program} [Jud P] {N:Nat} {ops:Array Oper} {Q:Exit→Act→GW→Prop} {ds:List Deferred} {i:Nat} {l:Sl} {I:Imm} {R M:Seg}
def okAt (N:Nat) (ops:Array Oper) (l:Sl) (i:Nat):Option (Option Tmp × Op × TypeId):=
  match EL ops N i with
  | some (dst,op,ty,gd)=>match EK ops l gd with
    | some true=>some (dst,op,ty)
    | _=>none
  | none=>none
theorem GQ {dst:Option Tmp} {op:Op} {ty:TypeId} (h:okAt N ops l i=some (dst,op,ty)):∃ gd,EL ops N i=some (dst,op,ty,gd)∧EK ops l gd=some true:=by
  unfold okAt at h
  split at h
  · split at h
    · rename_i h1 _ h2;cases h;exact ⟨_,h1,h2⟩
    · cases h
  · cases h
inductive Ar | add | sub | mul
def arAt (b:Ar) (N:Nat) (ops:Array Oper) (l:Sl) (i:Nat):Option (Nat × Int × Int):=
  match okAt N ops l i with
  | some (some d,.binOp o _ x y _,_)=>match BK l x,BK l y with
    | some (.int .i64 a),some (.int .i64 c)=>match b,o with
      | .add,.add=>some (d,a,c)
      | .sub,.sub=>some (d,a,c)
      | .mul,.mul=>some (d,a,c)
      | _,_=>none
    | _,_=>none
  | _=>none
theorem arAt_spec {b : Ar} {d : Nat} {a c : Int} (h : arAt b N ops l i = some (d, a, c)) : ∃ x y T T' ty gd, EL ops N i = some (some d, .binOp (match b with | .add => .add | .sub => .sub | .mul => .mul) T x y T', ty, gd) ∧ EK ops l gd = some true ∧
    BK l x=some (.int .i64 a)∧BK l y=some (.int .i64 c):=by
  unfold arAt at h
  split at h
  · rename_i d' o T x y T' ty ho
    obtain ⟨gd,h1,h2⟩:=GQ ho
    split at h
    · rename_i a' c' hx hy
      split at h <;> cases h <;> exact ⟨x,y,T,T',ty,gd,h1,h2,hx,hy⟩
    · cases h
  · cases h
theorem da (d:Nat) (a c:Int) (hr:-9223372036854775808≤a+c∧a+c≤9223372036854775807:=by omega) (h:arAt .add N ops l i=some (d,a,c):=by kernel_rfl):Det P N ops i l I R d (.int .i64 (a+c)):=by
  obtain ⟨x,y,T,T',ty,gd,h1,h2,h3,h4⟩:=arAt_spec h;exact det_add h1 h2 h3 h4 hr
theorem dsb (d:Nat) (a c:Int) (hr:-9223372036854775808≤a-c∧a-c≤9223372036854775807:=by omega) (h:arAt .sub N ops l i=some (d,a,c):=by kernel_rfl):Det P N ops i l I R d (.int .i64 (a-c)):=by
  obtain ⟨x,y,T,T',ty,gd,h1,h2,h3,h4⟩:=arAt_spec h;exact det_sub h1 h2 h3 h4 hr
theorem dmu (d:Nat) (a c:Int) (hr:-9223372036854775808≤a*c∧a*c≤9223372036854775807:=by omega) (h:arAt .mul N ops l i=some (d,a,c):=by kernel_rfl):Det P N ops i l I R d (.int .i64 (a*c)):=by
  obtain ⟨x,y,T,T',ty,gd,h1,h2,h3,h4⟩:=arAt_spec h;exact det_mul h1 h2 h3 h4 hr
def cmAt (N:Nat) (ops:Array Oper) (l:Sl) (i:Nat):Option (Nat × BinOp × Int × Int):=
  match okAt N ops l i with
  | some (some d,.binOp o _ x y _,_)=>match BK l x,BK l y with
    | some (.int .i64 a),some (.int .i64 c)=>bif isCmp o then some (d,o,a,c) else none
    | _,_=>none
  | _=>none
theorem dcm (d:Nat) (o:BinOp) (a c:Int) (v:Bool) (hb:cmp o a c=v) (h:cmAt N ops l i=some (d,o,a,c):=by kernel_rfl):Det P N ops i l I R d (.bool v):=by
  unfold cmAt at h
  split at h
  · rename_i d' o' T x y T' ty ho
    obtain ⟨gd,h1,h2⟩:=GQ ho
    split at h
    · rename_i a' c' hx hy
      cases hc:isCmp o' with
      | false=>rw [hc] at h;cases h
      | true=>rw [hc] at h;cases h;exact det_cmp' h1 h2 hx hy hc hb
    · cases h
  · cases h
def ixAt (P:Program) (N:Nat) (ops:Array Oper) (l:Sl) (i:Nat):Option (Nat × Nat × Option Addr × Nat × Int):=
  match okAt N ops l i with
  | some (some d,.indexAddr T x y,_)=>match HU P T with
    | some e=>match DR P e,BK l x,BK l y with
      | some sz,some (.slice a n _),some (.int _ j)=>some (d,sz,a,n,j)
      | _,_,_=>none
    | none=>none
  | _=>none
theorem diI (d sz : Nat) (j : Int) {n b off : Nat} {a : Option Addr} (ha : 0 < n → a = some ⟨b, off, none⟩) (hj : 0 ≤ j ∧ j < n := by omega) (h : ixAt P N ops l i = some (d, sz, a, n, j) := by kernel_rfl) :
    Det P N ops i l I R d (.pointer (some ⟨b,off+j.toNat*sz,none⟩)):=by
  unfold ixAt at h
  split at h
  · rename_i d' T x y ty ho
    obtain ⟨gd,h1,h2⟩:=GQ ho
    split at h
    · rename_i e he
      split at h
      · rename_i sz' a' n' c' k' j' hs hx hy
        cases h;exact det_indexAddr h1 h2 he hs hx hy ha hj.1 hj.2
      · cases h
    · cases h
  · cases h
theorem di (d sz : Nat) (j : Nat) {n b off : Nat} {a : Option Addr} (ha : 0 < n → a = some ⟨b, off, none⟩) (hj : j < n := by omega) (h : ixAt P N ops l i = some (d, sz, a, n, (j : Int)) := by kernel_rfl) :
    Det P N ops i l I R d (.pointer (some ⟨b,off+j*sz,none⟩)):=by
  have:=diI (I:=I) (R:=R) d sz (j:Int) ha (by omega) h
  rwa [Int.toNat_natCast] at this
def iaAt (P:Program) (N:Nat) (ops:Array Oper) (l:Sl) (i:Nat):Option (Nat × Nat × Nat × Nat × Nat × Int):=
  match okAt N ops l i with
  | some (some d,.indexAddr T x y,_)=>match tyArr P T with
    | some (n,e)=>match DR P e,BK l x,BK l y with
      | some sz,some (.pointer (some ⟨b,off,none⟩)),some (.int _ j)=>some (d,sz,n,b,off,j)
      | _,_,_=>none
    | none=>none
  | _=>none
def ldAt (P:Program) (N:Nat) (ops:Array Oper) (l:Sl) (i:Nat):Option (Nat × Nat × Nat):=
  match okAt N ops l i with
  | some (some d,.load T x,_)=>match EJ P T,BK l x with
    | some false,some (.pointer (some ⟨b,off,none⟩))=>some (d,b,off)
    | _,_=>none
  | _=>none
theorem dl (d:Nat) {b off:Nat} {v:Value} (hs:Sees I R ⟨b,off,none⟩ v) (h:ldAt P N ops l i=some (d,b,off):=by kernel_rfl):Det P N ops i l I R d v:=by
  unfold ldAt at h
  split at h
  · rename_i d' T x ty ho
    obtain ⟨gd,h1,h2⟩:=GQ ho
    split at h
    · rename_i b' off' hT hx
      cases h;exact OY h1 h2 hT hx hs
    · cases h
  · cases h
def cellAt (R:Seg) (k off:Nat):Option (Nat × Value):=
  match R[k]? with
  | some (b,.cells cs _ _)=>match cs[off]? with
    | some v=>some (b,v)
    | none=>none
  | _=>none
theorem dlb (d k off b:Nat) (v:Value) (h:ldAt P N ops l i=some (d,b,off):=by kernel_rfl) (hc:cellAt R k off=some (b,v):=by kernel_rfl):Det P N ops i l I R d v:=by
  refine dl d ?_ h;unfold cellAt at hc
  split at hc
  · rename_i b' cs T fz hk
    split at hc
    · rename_i v' hv
      cases hc;exact sees_at k hk hv
    · cases hc
  · cases hc
def lnAt (P:Program) (N:Nat) (ops:Array Oper) (l:Sl) (i:Nat):Option (Nat × Nat × Nat × Nat):=
  match okAt N ops l i with
  | some (some d,.load T x,_)=>match EJ P T,DR P T,BK l x with
    | some true,some n,some (.pointer (some ⟨b,off,none⟩))=>some (d,n,b,off)
    | _,_,_=>none
  | _=>none
theorem dn (d:Nat) {b off:Nat} {vs:List Value} (hs:SeesN I R b off vs) (h:lnAt P N ops l i=some (d,vs.length,b,off):=by kernel_rfl):Det P N ops i l I R d (.agg vs.toArray):=by
  unfold lnAt at h
  split at h
  · rename_i d' T x ty ho
    obtain ⟨gd,h1,h2⟩:=GQ ho
    split at h
    · rename_i n' b' off' hT hn hx
      cases h;exact GP h1 h2 hT hn hx rfl hs
    · cases h
  · cases h
def rowAt (R:Seg) (k off n:Nat):Option (Nat × List Value):=
  match R[k]? with
  | some (b,.cells cs _ _)=>some (b,(cs.toList.drop off).take n)
  | _=>none
theorem dnb (d k off b:Nat) (vs:List Value) (h:lnAt P N ops l i=some (d,vs.length,b,off):=by kernel_rfl) (hc:rowAt R k off vs.length=some (b,vs):=by kernel_rfl):Det P N ops i l I R d (.agg vs.toArray):=by
  refine dn d ?_ h;unfold rowAt at hc
  split at hc
  · rename_i b' cs T fz hk
    have h1:b'=b:=congrArg (fun x=>(x.getD (0,[])).1) hc;have h2:(cs.toList.drop off).take vs.length=vs:=congrArg (fun x=>(x.getD (0,[])).2) hc;subst h1;exact seesN_at (n:=vs.length) k hk h2
  · cases hc
def clAt (P:Program) (N:Nat) (ops:Array Oper) (l:Sl) (i:Nat):Option (Option Tmp × FuncId × Array Value):=
  match okAt N ops l i with
  | some (d,.call { callee:=.value f,args:=args,argTypes:=_ },_)=>match BK l f,NT l args.toList with
    | some (.func (.func fid) ⟨fs⟩ cv),some vals=>bif CX P fid&&fs.isEmpty then some (d,fid,(vals++cv.toList).toArray) else none
    | _,_=>none
  | _=>none
theorem clAt_spec {P : Program} {d : Option Tmp} {fid : FuncId} {argv : Array Value} (h : clAt P N ops l i = some (d, fid, argv)) : ∃ f args tys ty gd vals cv, EL ops N i = some (d, .call { callee := .value f, args := args, argTypes := tys }, ty, gd) ∧ EK ops l gd = some true ∧
    BK l f=some (.func (.func fid) #[] (cv:List Value).toArray)∧NT l args.toList=some vals∧CX P fid=true∧(vals++cv).toArray=argv:=by
  unfold clAt at h
  split at h
  · rename_i d' f args tys ty ho
    obtain ⟨gd,h1,h2⟩:=GQ ho
    split at h
    · rename_i fid' fs cv vals hf hv
      cases hc:CX P fid'&&fs.isEmpty with
      | false=>rw [hc] at h;cases h
      | true=>
        rw [hc] at h;cases h;rw [Bool.and_eq_true,List.isEmpty_iff] at hc;obtain ⟨hc,rfl⟩:=hc;exact ⟨f,args,tys,ty,gd,vals,cv.toList,h1,h2,by simpa using hf,hv,hc,rfl⟩
    · cases h
  · cases h
theorem dc (d:Nat) {fid:FuncId} {argv:Array Value} {v:Value} (ct:∀ I',I.le I'→CtV P fid argv I' v) (h:clAt P N ops l i=some (some d,fid,argv):=by kernel_rfl):Det P N ops i l I R d v:=by
  obtain ⟨f,args,tys,ty,gd,vals,cv,h1,h2,h3,h4,h5,h6⟩:=clAt_spec h;exact NH h1 h2 h3 h4 h5 h6 ct
theorem sc (d : Option Tmp) {K : Sl → Imm → Seg → Prop} {fid : FuncId} {argv : Array Value} {pre F : Seg} {post : Value → Imm → Seg → Prop} (ct : Ct P fid argv I pre post) (hM : M.Perm (pre ++ F))
    (hk:∀ v I' M',I.le I'→post v I' M'→K (ups d v l) I' (M'++F)) (h:clAt P N ops l i=some (d,fid,argv):=by kernel_rfl):Stp P N ops i l I M K:=by
  obtain ⟨f,args,tys,ty,gd,vals,cv,h1,h2,h3,h4,h5,h6⟩:=clAt_spec h;exact KR h1 h2 h3 h4 h5 h6 ct hM hk
def bxAt (N:Nat) (ops:Array Oper) (l:Sl) (i:Nat):Option (Nat × TypeId × Array Value):=
  match okAt N ops l i with
  | some (some d,.box T x,_)=>match BK l x with
    | some v=>some (d,T,v.cells)
    | none=>none
  | _=>none
theorem sb (d T:Nat) (cs:Array Value) {K:Sl→Imm→Seg→Prop} (hk:∀ b,K ((d,.pointer (some ⟨b,0,none⟩))::l) I ((b,.cells cs T (0,0))::M)) (h:bxAt N ops l i=some (d,T,cs):=by kernel_rfl):Stp P N ops i l I M K:=by
  unfold bxAt at h
  split at h
  · rename_i d' T' x ty ho
    obtain ⟨gd,h1,h2⟩:=GQ ho
    split at h
    · rename_i v hx
      cases h;exact stp_box h1 h2 hx rfl hk
    · cases h
  · cases h
def alAt (P:Program) (N:Nat) (ops:Array Oper) (l:Sl) (i:Nat):Option (Nat × TypeId × Array Value):=
  match okAt N ops l i with
  | some (some d,.alloc T,_)=>match HK P T with
    | some v=>some (d,T,v.cells)
    | none=>none
  | _=>none
theorem sal (d T:Nat) (cs:Array Value) {K:Sl→Imm→Seg→Prop} (hk:∀ b,K ((d,.pointer (some ⟨b,0,none⟩))::l) I ((b,.cells cs T (0,0))::M)) (h:alAt P N ops l i=some (d,T,cs):=by kernel_rfl):Stp P N ops i l I M K:=by
  unfold alAt at h
  split at h
  · rename_i d' T' ty ho
    obtain ⟨gd,h1,h2⟩:=GQ ho
    split at h
    · rename_i v hx
      cases h;exact stp_alloc h1 h2 hx rfl hk
    · cases h
  · cases h
def stAt (P:Program) (N:Nat) (ops:Array Oper) (l:Sl) (i:Nat):Option (Nat × Nat × List Value):=
  match okAt N ops l i with
  | some (none,.store T x y,_)=>match BK l x,BK l y,DR P T with
    | some (.pointer (some ⟨b,off,none⟩)),some v,some n=>bif Nat.beq v.cells.toList.length n&&v.cells.toList.all CS then some (b,off,v.cells.toList) else none
    | _,_,_=>none
  | _=>none
theorem ss (k off b : Nat) (vs cs' : List Value) (M' : Seg) {cs : List Value} {S : TypeId} {K : Sl → Imm → Seg → Prop} (hk : M[k]? = some (b, Obj.cells cs.toArray S (0, 0))) (hM : M.set k (b, Obj.cells cs'.toArray S (0, 0)) = M') (hK : K l I M')
    (h:stAt P N ops l i=some (b,off,vs):=by kernel_rfl) (hs:(KC cs.toArray off vs).toList=cs':=by kernel_rfl) (hle:Nat.ble (off+vs.length) cs.length=true:=by kernel_rfl):Stp P N ops i l I M K:=by
  unfold stAt at h
  split at h
  · rename_i T' x y ty ho
    obtain ⟨gd,h1,h2⟩:=GQ ho
    split at h
    · rename_i b' off' v n hx hy hn
      cases hc:Nat.beq v.cells.toList.length n&&v.cells.toList.all CS with
      | false=>rw [hc] at h;cases h
      | true=>
        rw [hc] at h;cases h;rw [Bool.and_eq_true] at hc;exact stp_store k h1 h2 hx hy hn rfl (Nat.eq_of_beq_eq_true hc.1) hc.2 hk (Nat.le_of_ble_eq_true hle) hs hM hK
    · cases h
  · cases h
def bsAt (P:Program) (N:Nat) (ops:Array Oper) (l:Sl) (i:Nat):Option (Nat × TypeId × Nat × Array Value):=
  match okAt N ops l i with
  | some (some d,.buildSlice T n parts,_)=>match HU P T,NT l (parts.toList.map (·.2)) with
    | some e,some _=>match DR P e,HK P e with
      | some sz, some z => bif Nat.ble (n * sz) 16777216 then
          match Instr.fill (fun i=>some (i*sz,sz)) ((Array.range (n*sz)).map (fun k=>(if n*sz=0 then #[] else z.cells)[k%(if n*sz=0 then (#[]:Array Value) else z.cells).size]!)) (parts.toList.map fun x=>(x.1,rho l x.2)) with
          | some cs=>some (d,e,n,cs)
          | none=>none
        else none
      | _,_=>none
    | _,_=>none
  | _=>none
theorem sbs (d e n:Nat) (cs:Array Value) {K:Sl→Imm→Seg→Prop} (hk:∀ b,K ((d,.slice (some ⟨b,0,none⟩) n n)::l) I ((b,.cells cs e (0,0))::M)) (h:bsAt P N ops l i=some (d,e,n,cs):=by kernel_rfl):Stp P N ops i l I M K:=by
  unfold bsAt at h
  split at h
  · rename_i d' T n' parts ty ho
    obtain ⟨gd,h1,h2⟩:=GQ ho
    split at h
    · rename_i e' vs he hv
      split at h
      · rename_i sz z hs hz
        cases hc:Nat.ble (n'*sz) 16777216 with
        | false=>rw [hc] at h;cases h
        | true=>
          rw [hc] at h;simp only [cond_true] at h
          split at h
          · rename_i cs' hf
            cases h;exact stp_buildSlice h1 h2 he hs hz (parts_knownS (by rw [hv];rfl)) rfl (Nat.le_of_ble_eq_true hc) hf hk
          · cases h
      · cases h
    · cases h
  · cases h
end
abbrev sB (l:List UInt8):ByteArray:=⟨l.toArray⟩
abbrev sV (l:List UInt8):Value:=.string ⟨l.toArray⟩
theorem sB_append (a b:List UInt8):sB a++sB b=sB (a++b):=by
  apply ByteArray.ext
  simp [sB]
theorem KB (a:List UInt8):(sB a).size=a.length:=by simp [sB,ByteArray.size]
section
variable {ρ:Option Nat} {P:Program} [Jud P] {N:Nat} {ops:Array Oper} {i:Nat} {l:Sl} {I:Imm} {R M:Seg} {d:Nat} {ty:TypeId} {gd:Option (Nat × Bool)}
theorem det_cat {x y : Operand} {T T' : TypeId} {a b : List UInt8} (hop : EL ops N i = some (some d, .binOp .add T x y T', ty, gd)) (hg : EK ops l gd = some true)
    (hx:BK l x=some (sV a)) (hy:BK l y=some (sV b)) (hl:a.length+b.length≤9223372036854775807):Det P N ops i l I R d (sV (a++b)):=
  FT hop hg (HO hx hy) fun I' M'=>by
    show wpL P ((do eqGuard .add T x y (rho l x) (rho l y);binOp .add T (rho l x) (rho l y)) >>= fun x=>pure (Next.value x)) _ I' M';rw [AU hx,AU hy];refine CB ?_;show wpL P (Op.stringOp .add (sB a) (sB b)) _ I' M';unfold Op.stringOp;simp only;rw [if_neg (by rw [KB,KB];show ¬ ((_:Int)>9223372036854775807);omega),sB_append];exact ⟨rfl,rfl⟩
theorem sB_eq (a b:List UInt8):((sB a).toList == (sB b).toList)=decide (a=b):=by
  rw [ByteArray.toList_eq,ByteArray.toList_eq];show (a == b)=_
  by_cases h:a=b <;> simp [h]
theorem det_eqlS {x y : Operand} {T T' : TypeId} {a b : List UInt8} (hop : EL ops N i = some (some d, .binOp .eql T x y T', ty, gd)) (hg : EK ops l gd = some true)
    (hx:BK l x=some (sV a)) (hy:BK l y=some (sV b)):Det P N ops i l I R d (.bool (decide (a=b))):=
  FT hop hg (HO hx hy) fun I' M'=>by
    show wpL P ((do eqGuard .eql T x y (rho l x) (rho l y);binOp .eql T (rho l x) (rho l y)) >>= fun x=>pure (Next.value x)) _ I' M';rw [AU hx,AU hy];refine CB ?_;show wpL P (Op.stringOp .eql (sB a) (sB b)) _ I' M';unfold Op.stringOp;simp only;rw [sB_eq];exact ⟨rfl,rfl⟩
end
def KE (x:List UInt8) (_:Nat):Value:=sV x
abbrev IsStrs:=IsSl 1 KE ([]:List UInt8)
theorem strs_get {I:Imm} {a:Option Addr} {b o n:Nat} {xs:List (List UInt8)} (h:Row 1 I a b o n (fun i f=>KE (xs.getD i []) f)) {M:Seg} (i:Nat) (hi:i<n):Sees I M ⟨b,o+i*1,none⟩ (sV (xs.getD i [])):=(h.get i hi 0 (by decide)).sees
theorem ME (ys:List (List UInt8)):∀ c∈BX 1 KE ys,CS c=true:=one_enc (fun _ _ _=>rfl) ys
theorem sB_extract (l:List UInt8) (L H:Nat):(sB l).extract L H=sB ((l.drop L).take (H-L)):=by
  apply ByteArray.ext
  simp [sB,ByteArray.data_extract]
theorem sB_get (l:List UInt8) (i:Nat):(sB l)[i]?=l[i]?:=by
  by_cases h:i<l.length
  · rw [getElem?_pos (sB l) i (by rw [KB];exact h),List.getElem?_eq_getElem h]
    rfl
  · rw [getElem?_neg (sB l) i (by rw [KB];exact h),List.getElem?_eq_none (by omega)]
section
variable {ρ:Option Nat} {P:Program} [Jud P] {N:Nat} {ops:Array Oper} {i:Nat} {l:Sl} {I:Imm} {R M:Seg} {d:Nat} {ty:TypeId} {gd:Option (Nat × Bool)}
def byteAt (s:List UInt8) (j:Nat):Int:=((s.getD j 0).toNat:Int)
theorem det_indexS {x y : Operand} {T : TypeId} {s : List UInt8} {k : IntKind} (j : Nat) (hop : EL ops N i = some (some d, .index T x y, ty, gd)) (hg : EK ops l gd = some true)
    (hT:P.underlying T=some .string) (hx:BK l x=some (sV s)) (hy:BK l y=some (.int k (j:Int))) (hj:j<s.length):Det P N ops i l I R d (.int .u8 (byteAt s j)):=
  FT hop hg (HO hx hy) fun I' M'=>by
    show wpL P (Instr.index T (rho l x) (rho l y) >>= fun x=>pure (Next.value x)) _ I' M';rw [AU hx,AU hy];refine CB ?_;unfold Instr.index;show wpL P (underlying T >>= _) _ I' M';rw [AD,AJ hT];simp only [if_pos (Int.natCast_nonneg j),Int.toNat_natCast];have e:(({ data:=s.toArray }:ByteArray)[j]?)=some s[j]:=by rw [show ({ data:=s.toArray }:ByteArray)=sB s from rfl,sB_get,List.getElem?_eq_getElem hj]
    rw [e];have e2:byteAt s j=(s[j].toNat:Int):=by simp [byteAt,List.getD_eq_getElem?_getD,List.getElem?_eq_getElem hj]
    rw [e2];exact ⟨rfl,rfl⟩
theorem det_sliceS {x : Operand} {lo hi : Option Operand} {T : TypeId} {s : List UInt8} (L H : Nat) (hop : EL ops N i = some (some d, .slice T x lo hi none, ty, gd)) (hg : EK ops l gd = some true)
    (hT:P.underlying T=some .string) (hx:BK l x=some (sV s))
    (hlo:(lo=none∧L=0)∨∃ y k,lo=some y∧BK l y=some (.int k (L:Int)))
    (hhi:(hi=none∧H=s.length)∨∃ y k,hi=some y∧BK l y=some (.int k (H:Int)))
    (hL:L≤H) (hH:H≤s.length):Det P N ops i l I R d (sV ((s.drop L).take (H-L))):=
  FT hop hg (by
    intro z hz
    simp only [Op.operands] at hz
    simp only [Array.mem_append] at hz
    rcases hz with ((hz | hz) | hz) | hz
    · exact JX hx z hz
    · rcases hlo with ⟨rfl,_⟩ | ⟨y,k,rfl,hy⟩
      · simp at hz
      · simp at hz;subst hz;exact DG hy
    · rcases hhi with ⟨rfl,_⟩ | ⟨y,k,rfl,hy⟩
      · simp at hz
      · simp at hz;subst hz;exact DG hy
    · simp at hz) fun I' M'=>by
    show wpL P (Instr.sliceAt T (rho l x) (lo.map (rho l)) (hi.map (rho l)) none >>= fun x=>pure (Next.value x)) _ I' M';rw [AU hx];refine CB ?_;unfold Instr.sliceAt;rw [AD,AJ hT];show wpL P (Instr.slice T _ _ _ _) _ I' M';unfold Instr.slice;rw [AD,AJ hT];have hv:sV ((s.drop L).take (H-L))=.string ((sB s).extract L H):=by rw [sB_extract]
    rw [hv];simp only [Option.isSome_none,Bool.false_eq_true,if_false];show wpL P (Instr.sliceBounds false (sB s).size (sB s).size _ _ none >>= fun x=>pure (Value.string ((sB s).extract x.1 x.2.1))) _ I' M';rw [AD];unfold Instr.sliceBounds;have hs:(sB s).size=s.length:=KB s;have hcap:(H:Int)≤((sB s).size:Int):=by omega
    rcases hhi with ⟨rfl,rfl⟩ | ⟨y,k,rfl,hy⟩
    · rcases hlo with ⟨rfl,rfl⟩ | ⟨z,k',rfl,hz⟩
      · simp only [Option.map_none,AD,CL]
        rw [hs]
        first | exact ⟨rfl,rfl⟩ | exact ⟨trivial,trivial⟩ | exact ⟨rfl,trivial⟩ | exact ⟨trivial,rfl⟩
      · simp only [Option.map_none,Option.map_some,AD,CL]
        refine EO (AU hz) ⟨by omega,by omega⟩ ?_;simp only [Int.toNat_natCast];rw [hs]
        first | exact ⟨rfl,rfl⟩ | exact ⟨trivial,trivial⟩ | exact ⟨rfl,trivial⟩ | exact ⟨trivial,rfl⟩
    · rcases hlo with ⟨rfl,rfl⟩ | ⟨z,k',rfl,hz⟩
      · simp only [Option.map_none,Option.map_some,AD,CL]
        refine EO (AU hy) ⟨by omega,hcap⟩ ?_;simp only [Int.toNat_natCast]
        first | exact ⟨rfl,rfl⟩ | exact ⟨trivial,trivial⟩ | exact ⟨rfl,trivial⟩ | exact ⟨trivial,rfl⟩
      · simp only [Option.map_none,Option.map_some,AD,CL]
        refine EO (AU hy) ⟨by omega,hcap⟩ ?_;refine EO (AU hz) ⟨by omega,by omega⟩ ?_;simp only [Int.toNat_natCast]
        first | exact ⟨rfl,rfl⟩ | exact ⟨trivial,trivial⟩ | exact ⟨rfl,trivial⟩ | exact ⟨trivial,rfl⟩
end
section
variable {ρ:Option Nat} {P:Program} [Jud P] {N:Nat} {ops:Array Oper} {i:Nat} {l:Sl} {I:Imm} {R M:Seg} {d:Nat} {ty:TypeId} {gd:Option (Nat × Bool)}
end
section
variable {P:Program} {N:Nat} {fn:Func} {I I₀:Imm} {post:Value→Imm→Seg→Prop} {F M:Seg} {l:Sl}
end
section
variable {ρ:Option Nat} {P:Program} [Jud P] {N:Nat} {ops:Array Oper} {i:Nat} {l:Sl} {I:Imm} {R M:Seg} {d:Nat} {ty:TypeId} {gd:Option (Nat × Bool)} {K:Sl→Imm→Seg→Prop}
end
end Go.Sl
namespace Go.Sh
open Go Go.Sl
theorem goTrack_inv {n:Nat} {fin:List Int→Int}:∀ (t met:List Int),met.Nodup→goTrack n fin t met=0→(∀ c∈t,0≤c∧c<n)∧(met++t).Nodup∧fin (met++t)=0:=by
  intro t
  induction t with
  | nil=>intro met hn h;exact ⟨fun _ h=>by simp at h,by simpa using hn,by simpa [goTrack] using h⟩
  | cons c r ih=>
    intro met hn h;simp only [goTrack] at h
    split at h
    · rename_i h1
      split at h
      · cases h
      · rename_i h2
        have hn':(met++[c]).Nodup:=List.nodup_append.2 ⟨hn,by simp,fun a ha b hb=>by simp at hb;subst hb;intro e;subst e;exact h2 ha⟩;obtain ⟨g1,g2,g3⟩:=ih (met++[c]) hn' h;have:=EI h1;rw [List.append_assoc] at g2 g3;refine ⟨fun x hx=>?_,g2,g3⟩;rcases List.mem_cons.1 hx with e | hx
        · subst e;omega
        · exact g1 x hx
    · cases h
theorem goTracks_inv {cs : List Car} {fin : List Int → Int} : ∀ (ts : List (List Int)) (rm met : List Int), met.Nodup → PG cs fin ts rm met = 0 →
    OkAll cs ts∧(met++ts.flatten).Nodup∧fin (met++ts.flatten)=0∧∀ k,k<ts.length→lenOf cs (ts.getD k [])≤rm.getD k 0:=by
  intro ts
  induction ts with
  | nil=>intro rm met hn h;exact ⟨OkAll.nil,by simpa using hn,by simpa [PG] using h,fun k hk=>by simp at hk⟩
  | cons t r ih=>
    intro rm met hn h;simp only [PG] at h;obtain ⟨g1,g2,g3⟩:=goTrack_inv t met hn h
    split at g3
    · cases g3
    · rename_i hl
      obtain ⟨k1,k2,k3,k4⟩:=ih rm.tail (met++t) g2 g3;rw [List.append_assoc] at k2 k3;refine ⟨fun x hx=>?_,by simpa using k2,by simpa using k3,fun k hk=>?_⟩
      · rcases List.mem_cons.1 hx with e | hx
        · subst e;exact g1
        · exact k1 x hx
      · cases k with
        | zero=>
          simp only [List.getD_cons_zero];have:rm.headD 0=rm.getD 0 0:=by cases rm <;> rfl
          omega
        | succ k=>
          have:=k4 k (by simpa using hk);simp only [List.getD_cons_succ];have e:rm.tail.getD k 0=rm.getD (k+1) 0:=by cases rm <;> rfl
          omega
structure Fine (Y:Yard):Prop where
  cars:Y.cars.length≤5
  carOk:∀ c∈Y.cars,carErr c=0
  room1:0<Y.room.length
  room3:Y.room.length≤3
  roomOk:∀ n∈Y.room,inB n 0 20=true
  len:Y.tracks.length=Y.room.length
  ok:OkAll Y.cars Y.tracks
  nodup:Y.tracks.flatten.Nodup
  fits:∀ k,k<Y.tracks.length→lenOf Y.cars (Y.tracks.getD k [])≤Y.room.getD k 0
  all:Y.cars.length≤Y.tracks.flatten.length
  groups:groupsErr Y=0
theorem Valid.fine {Y:Yard} (h:Valid Y):Fine Y:=by
  unfold Valid checkErr at h
  split at h
  · cases h
  rename_i h1
  split at h
  · rename_i h2
    split at h
    · cases h
    rename_i h3
    split at h
    · cases h
    rename_i h4
    split at h
    · rename_i h5
      unfold tracksErr at h
      split at h
      · rename_i h6
        obtain ⟨g1,g2,g3,g4⟩:=goTracks_inv _ _ [] (by simp) h;simp only [List.nil_append] at g2 g3
        split at g3
        · cases g3
        · rename_i h7
          exact ⟨by omega,fun c hc=>of_decide_eq_true (List.all_eq_true.1 h2 c hc),by omega,by omega,fun n hn=>List.all_eq_true.1 h5 n hn,h6,g1,g2,g4,by omega,g3⟩
      · cases h
    · cases h
  · cases h
theorem range_bound {l:List Int} {n:Nat} (hn:l.Nodup) (h:∀ c∈l,0≤c∧c<n):l.length≤n:=by
  have hs:l ⊆ (List.range n).map (fun k:Nat=>(k:Int)):=fun c hc=>by
    have:=h c hc;exact List.mem_map.2 ⟨c.toNat,List.mem_range.2 (by omega),by omega⟩
  have:=hn.length_le_of_subset hs
  simpa using this
theorem flatten_ok {cs:List Car} {ts:List (List Int)} (h:OkAll cs ts):Ok cs ts.flatten:=fun c hc=>by
  obtain ⟨t,ht,hc⟩:=List.mem_flatten.1 hc;exact h t ht c hc
theorem Fine.sum {Y:Yard} (h:Fine Y):Y.tracks.flatten.length≤5:=Nat.le_trans (range_bound h.nodup (flatten_ok h.ok)) h.cars
structure MayOk (Y:Yard) (s:Shift):Prop where
  frm:0≤s.frm∧s.frm<Y.tracks.length
  to:0≤s.to∧s.to<Y.tracks.length
  ne:s.frm≠s.to
  many:1≤s.many∧s.many≤(Y.tracks.getD s.frm.toNat []).length
  free:QP Y.cars (trk Y s.frm) (cutAt Y s)=false
  fits:lenOf Y.cars ((trk Y s.frm).drop (cutAt Y s).toNat)+lenOf Y.cars (trk Y s.to)≤Y.room.getD s.to.toNat 0
theorem mayOk {Y:Yard} {s:Shift} (h:mayErr Y s=0):MayOk Y s:=by
  unfold mayErr at h
  split at h
  · rename_i h1
    split at h
    · rename_i h2
      split at h
      · cases h
      rename_i h3
      split at h
      · cases h
      rename_i h4
      split at h
      · cases h
      rename_i h5
      split at h
      · cases h
      rename_i h6
      have:=EI h1;have:=EI h2;simp only [Bool.or_eq_true,not_or,Bool.not_eq_true,decide_eq_true_eq,Int.not_lt] at h6;exact ⟨by omega,by omega,h3,⟨by omega,by have:=h5;unfold trk at this;omega⟩,h6.1,h6.2⟩
    · cases h
  · cases h
theorem okAll_set {cs:List Car} {ts:List (List Int)} (h:OkAll cs ts) (i:Nat) {x:List Int} (hx:Ok cs x):OkAll cs (ts.set i x):=fun t ht=>by
  rcases List.mem_or_eq_of_mem_set ht with ht | e
  · exact h t ht
  · subst e;exact hx
theorem OkAll.trk {Y:Yard} (h:OkAll Y.cars Y.tracks) {i:Int} (hi:0≤i∧i<Y.tracks.length):Ok Y.cars (trk Y i):=h.at i.toNat (by omega)
theorem GoodY.moved {Y:Yard} {s:Shift} (h:GoodY Y) (hm:mayErr Y s=0):GoodY (moved Y s):=by
  have m:=mayOk hm;refine ⟨?_,h.small,by simp only [Go.Sh.moved,List.length_set];exact h.len,?_⟩
  · exact okAll_set (okAll_set h.ok _ ((h.ok.trk m.to).append ((h.ok.trk m.frm).drop _))) _ ((h.ok.trk m.frm).take _)
  · rw [(PP m.frm m.to m.ne).length_eq];exact h.sum
end Go.Sh
namespace Go.Sl
open Go
inductive SK where
  | i (k:IntKind)
  | b
  | s
  deriving DecidableEq
def skV:Value→Option SK
  | .int k _=>some (.i k)
  | .bool _=>some .b
  | .string _=>some .s
  | _=>none
def scE:Value→Value→Bool
  | .int _ a,.int _ b=>a == b
  | .bool a,.bool b=>a == b
  | .string a,.string b=>a == b
  | _,_=>false
def FQ (rec:TypeId→Option (Nat × List (Nat × SK))) (sz:Nat):List Field→Option (List (Nat × SK))
  | []=>some []
  | f::r=>if f.name="_" then none else match rec f.type,FQ rec sz r with
    | some (sf,L),some M=>if f.offset+sf≤sz then some (L.map (fun x=>(f.offset+x.1,x.2))++M) else none
    | _,_=>none
def LY (P:Program):Nat→TypeId→Option (Nat × List (Nat × SK))
  | 0,_=>none
  | n+1,t=>
    match P.underlying t,DR P t with
    | some (.int k),some 1=>some (1,[(0,.i k)])
    | some .bool,some 1=>some (1,[(0,.b)])
    | some .string,some 1=>some (1,[(0,.s)])
    | some (.array len e),some sz=>match LY P n e with
      | some (se,L)=>if len*se=sz then some (sz,(List.range len).flatMap fun i=>L.map fun x=>(i*se+x.1,x.2)) else none
      | none=>none
    | some (.struct fs),some sz=>if P.stoodInHeld t then none else match FQ (LY P n) sz fs.toList with
      | some L=>some (sz,L)
      | none=>none
    | _,_=>none
def okC (xs:Array Value) (L:List (Nat × SK)):Bool:=L.all fun x=>match xs[x.1]? with
  | some v=>decide (skV v=some x.2)
  | none=>false
def eqC (xs ys:Array Value) (L:List (Nat × SK)):Bool:=L.all fun x=>match xs[x.1]?,ys[x.1]? with
  | some a,some b=>scE a b
  | _,_=>false
def CellsOf (P:Program) (t:TypeId) (v:Value) (xs:Array Value):Prop:=(EJ P t=some true∧v=.agg xs)∨(EJ P t=some false∧xs=#[v])
section
variable {P:Program} {I:Imm} {M:Seg}
theorem flat_size {n:Nat} {t:TypeId} {sz:Nat} {L:List (Nat × SK)} (h:LY P n t=some (sz,L)):DR P t=some sz:=by
  cases n with
  | zero=>cases h
  | succ n=>
    unfold LY at h
    split at h
    · cases h;assumption
    · cases h;assumption
    · cases h;assumption
    · split at h
      · split at h
        · cases h;assumption
        · cases h
      · cases h
    · split at h
      · cases h
      · split at h
        · cases h;assumption
        · cases h
    · cases h
theorem flat_agg {n:Nat} {t:TypeId} {sz:Nat} {L:List (Nat × SK)} (h:LY P n t=some (sz,L)):EJ P t=some true∨(EJ P t=some false∧sz=1):=by
  cases n with
  | zero=>cases h
  | succ n=>
    unfold LY at h;unfold EJ
    split at h <;> rename_i hu hs <;> first | (cases h;done) | (rw [hu];first | exact .inl rfl | (cases h;exact .inr ⟨rfl,rfl⟩))
theorem LU {n : Nat} {t : TypeId} {sz off : Nat} {L : List (Nat × SK)} {cs : Array Value} {Q : Value → Seg → Prop} (h : LY P n t = some (sz, L)) (hle : off + sz ≤ cs.size)
    (hq:∀ v,CellsOf P t v (cs.extract off (off+sz))→Q v M):wpL P (part t cs off) Q I M:=by
  unfold part;rcases flat_agg h with ha | ⟨ha,rfl⟩
  · rw [AD,KG ha]
    simp only [if_true];rw [AD,BL (flat_size h)];exact hq _ (.inl ⟨ha,rfl⟩)
  · rw [AD,KG ha]
    have hlt:off<cs.size:=by omega
    simp only [Bool.false_eq_true,if_false,Array.getElem?_eq_getElem hlt];refine hq _ (.inr ⟨ha,?_⟩)
    apply Array.ext
    · simp;omega
    · intro i h1 h2
      have:i=0:=by simp at h2;omega
      subst this;simp
theorem okC_map {xs : Array Value} {L : List (Nat × SK)} {off sz : Nat} (hle : off + sz ≤ xs.size) (hL : ∀ x ∈ L, x.1 < sz) :
    okC xs (L.map fun x=>(off+x.1,x.2))=okC (xs.extract off (off+sz)) L:=by
  induction L with
  | nil=>rfl
  | cons x L ih=>
    have hx:=hL x List.mem_cons_self;have ih':=ih (fun y hy=>hL y (List.mem_cons_of_mem _ hy));have e:(xs.extract off (off+sz))[x.1]?=xs[off+x.1]?:=by
      rw [Array.getElem?_extract];rw [if_pos (by omega)]
    simp only [okC,List.map_cons,List.all_cons,e] at ih' ⊢;rw [ih']
theorem eqC_map {xs ys : Array Value} {L : List (Nat × SK)} {off sz : Nat} (hx : off + sz ≤ xs.size) (hy : off + sz ≤ ys.size) (hL : ∀ x ∈ L, x.1 < sz) :
    eqC xs ys (L.map fun x=>(off+x.1,x.2))=eqC (xs.extract off (off+sz)) (ys.extract off (off+sz)) L:=by
  induction L with
  | nil=>rfl
  | cons x L ih=>
    have hx':=hL x List.mem_cons_self;have ih':=ih (fun y hy=>hL y (List.mem_cons_of_mem _ hy));have e:(xs.extract off (off+sz))[x.1]?=xs[off+x.1]?:=by
      rw [Array.getElem?_extract,if_pos (by omega)]
    have e':(ys.extract off (off+sz))[x.1]?=ys[off+x.1]?:=by
      rw [Array.getElem?_extract,if_pos (by omega)]
    simp only [eqC,List.map_cons,List.all_cons,e,e'] at ih' ⊢;rw [ih']
theorem okC_append {xs:Array Value} {A B:List (Nat × SK)}:okC xs (A++B)=(okC xs A&&okC xs B):=by simp [okC]
theorem eqC_append {xs ys:Array Value} {A B:List (Nat × SK)}:eqC xs ys (A++B)=(eqC xs ys A&&eqC xs ys B):=by simp [eqC]
theorem flat_lt:∀ (n:Nat) (t:TypeId) (sz:Nat) (L:List (Nat × SK)),LY P n t=some (sz,L)→∀ x∈L,x.1<sz:=by
  intro n
  induction n with
  | zero=>intro t sz L h;cases h
  | succ n ih=>
    intro t sz L h x hx;unfold LY at h
    split at h
    · cases h;simp at hx;subst hx;simp
    · cases h;simp at hx;subst hx;simp
    · cases h;simp at hx;subst hx;simp
    · rename_i len e sz' hu hs
      split at h
      · rename_i se Le he
        split at h
        · cases h
          obtain ⟨i,hi,hx⟩:=List.mem_flatMap.1 hx;obtain ⟨y,hy,rfl⟩:=List.mem_map.1 hx;have h1:=ih _ _ _ he y hy;have h2:=List.mem_range.1 hi;have:i*se+se≤len*se:=by rw [← Nat.succ_mul];exact Nat.mul_le_mul_right _ h2
          simp only;omega
        · cases h
      · cases h
    · split at h
      · cases h
      · split at h
        · rename_i fs sz' hu hs _ L' hf
          cases h;have key:∀ (fs:List Field) (L:List (Nat × SK)),FQ (LY P n) sz fs=some L→∀ x∈L,x.1<sz:=by
            intro fs
            induction fs with
            | nil=>intro L hL x hx;simp only [FQ,Option.some.injEq] at hL;subst hL;simp at hx
            | cons f fs ihf=>
              intro L hL x hx;simp only [FQ] at hL
              split at hL
              · cases hL
              · split at hL
                · rename_i sf Lf Mf h1 h2
                  split at hL
                  · rename_i hle
                    cases hL;rcases List.mem_append.1 hx with hx | hx
                    · obtain ⟨y,hy,rfl⟩:=List.mem_map.1 hx
                      have:=ih _ _ _ h1 y hy;simp only;omega
                    · exact ihf _ h2 x hx
                  · cases hL
                · cases hL
          exact key _ _ hf x hx
        · cases h
    · cases h
theorem wpL_equalF : ∀ (n : Nat) (t : TypeId) (sz : Nat) (L : List (Nat × SK)), LY P n t = some (sz, L) → ∀ (d : Nat), n ≤ d → ∀ (v u : Value) (xs ys : Array Value), CellsOf P t v xs → CellsOf P t u ys → xs.size = sz → ys.size = sz →
    okC xs L=true→okC ys L=true→∀ (Q:Bool→Seg→Prop),Q (eqC xs ys L) M→wpL P (Op.equalIn d t v u) Q I M:=by
  intro n
  induction n with
  | zero=>intro t sz L h;cases h
  | succ n ih=>
    intro t sz L h d hd v u xs ys hv hu hxs hys okx oky Q hq;obtain ⟨d,rfl⟩:∃ d',d=d'+1:=⟨d-1,by omega⟩;have hfl:=h;unfold LY at h
    split at h
    · rename_i k hun hs
      cases h;have ha:EJ P t=some false:=by unfold EJ;rw [hun]
      rcases hv with ⟨hv,_⟩ | ⟨_,rfl⟩
      · rw [ha] at hv;cases hv
      rcases hu with ⟨hu,_⟩ | ⟨_,rfl⟩
      · rw [ha] at hu;cases hu
      have h1:skV v=some (.i k):=by simpa [okC] using okx
      have h2:skV u=some (.i k):=by simpa [okC] using oky
      cases v <;> simp [skV] at h1
      cases u <;> simp [skV] at h2
      subst h1;subst h2;unfold Op.equalIn;rw [AD,AJ hun];simp only [if_true];simp [eqC,scE] at hq;exact hq
    · rename_i hun hs
      cases h;have ha:EJ P t=some false:=by unfold EJ;rw [hun]
      rcases hv with ⟨hv,_⟩ | ⟨_,rfl⟩
      · rw [ha] at hv;cases hv
      rcases hu with ⟨hu,_⟩ | ⟨_,rfl⟩
      · rw [ha] at hu;cases hu
      have h1:skV v=some .b:=by simpa [okC] using okx
      have h2:skV u=some .b:=by simpa [okC] using oky
      cases v <;> simp [skV] at h1
      cases u <;> simp [skV] at h2
      unfold Op.equalIn;rw [AD,AJ hun];simp [eqC,scE] at hq;exact hq
    · rename_i hun hs
      cases h;have ha:EJ P t=some false:=by unfold EJ;rw [hun]
      rcases hv with ⟨hv,_⟩ | ⟨_,rfl⟩
      · rw [ha] at hv;cases hv
      rcases hu with ⟨hu,_⟩ | ⟨_,rfl⟩
      · rw [ha] at hu;cases hu
      have h1:skV v=some .s:=by simpa [okC] using okx
      have h2:skV u=some .s:=by simpa [okC] using oky
      cases v <;> simp [skV] at h1
      cases u <;> simp [skV] at h2
      unfold Op.equalIn;rw [AD,AJ hun];simp [eqC,scE] at hq;exact hq
    · rename_i len e sz' hun hs
      split at h
      · rename_i se Le he
        split at h
        · rename_i hsz
          cases h;have ha:EJ P t=some true:=by unfold EJ;rw [hun]
          rcases hv with ⟨_,rfl⟩ | ⟨hv,_⟩
          case inr=>rw [ha] at hv;cases hv
          rcases hu with ⟨_,rfl⟩ | ⟨hu,_⟩
          case inr=>rw [ha] at hu;cases hu
          unfold Op.equalIn;rw [AD,AJ hun];simp only;rw [AD,BL (flat_size he)]
          have key : ∀ (m j : Nat) (Q : Bool → Seg → Prop), j + m = len → okC xs ((List.range' j m).flatMap fun i => Le.map fun x => (i * se + x.1, x.2)) = true → okC ys ((List.range' j m).flatMap fun i => Le.map fun x => (i * se + x.1, x.2)) = true →
              Q (eqC xs ys ((List.range' j m).flatMap fun i=>Le.map fun x=>(i*se+x.1,x.2))) M→wpL P (do
                for i in List.range' j m do
                  if !(← Op.equalIn d e (← part e xs (i*se)) (← part e ys (i*se))) then return false
                pure true:Sem Bool) Q I M:=by
            intro m
            induction m with
            | zero=>intro j Q _ _ _ hq;simpa [eqC,CL] using hq
            | succ m ihm=>
              intro j Q hj ok1 ok2 hq;rw [List.range'_succ,List.flatMap_cons] at ok1 ok2 hq;rw [okC_append,Bool.and_eq_true] at ok1 ok2;rw [eqC_append] at hq;have hle:j*se+se≤len*se:=by rw [← Nat.succ_mul];exact Nat.mul_le_mul_right _ (by omega)
              have hlt:=flat_lt n e se Le he;rw [okC_map (sz:=se) (by omega) hlt] at ok1 ok2;rw [eqC_map (sz:=se) (by omega) (by omega) hlt] at hq;rw [List.range'_succ];have next:=fun hq=>ihm (j+1) Q (by omega) ok1.2 ok2.2 hq
              simp only [List.forIn_cons] at next ⊢;rw [AD,AD,AD];refine LU he (by omega) fun a ca=>?_
              rw [AD];refine LU he (by omega) fun b cb=>?_
              rw [AD];refine ih e se Le he d (by omega) a b _ _ ca cb (by simp;omega) (by simp;omega) ok1.1 ok2.1 _ ?_;cases hb:eqC (xs.extract (j*se) (j*se+se)) (ys.extract (j*se) (j*se+se)) Le with
              | false=>rw [hb] at hq;exact hq
              | true=>
                rw [hb,Bool.true_and] at hq;have:=next hq;rw [AD] at this;exact this
          rw [Std.Legacy.Range.forIn_eq_forIn_range'];have:=key len 0 Q (by omega) (by rwa [← List.range_eq_range']) (by rwa [← List.range_eq_range']) (by rwa [← List.range_eq_range'])
          simpa using this
        · cases h
      · cases h
    · rename_i fs sz' hun hs
      split at h
      · cases h
      · rename_i hst
        split at h
        · rename_i L' hf
          cases h;have ha:EJ P t=some true:=by unfold EJ;rw [hun]
          rcases hv with ⟨_,rfl⟩ | ⟨hv,_⟩
          case inr=>rw [ha] at hv;cases hv
          rcases hu with ⟨_,rfl⟩ | ⟨hu,_⟩
          case inr=>rw [ha] at hu;cases hu
          unfold Op.equalIn;rw [AD,AJ hun];show wpL P (program >>= _) Q I M;rw [AD];show wpL P _ Q I M;simp only [hst,Bool.false_eq_true,if_false]
          have key : ∀ (fs : List Field) (L : List (Nat × SK)), FQ (LY P n) sz fs = some L → okC xs L = true → okC ys L = true → Q (eqC xs ys L) M → wpL P (do
              for f in fs do
                if f.name≠"_" then
                  if !(← Op.equalIn d f.type (← part f.type xs f.offset) (← part f.type ys f.offset)) then return false
              pure true:Sem Bool) Q I M:=by
            intro fs
            induction fs with
            | nil=>intro L hL _ _ hq;simp only [FQ,Option.some.injEq] at hL;subst hL;exact hq
            | cons f fs ihf=>
              intro L hL ok1 ok2 hq;simp only [FQ] at hL
              split at hL
              · cases hL
              · rename_i hne
                split at hL
                · rename_i sf Lf Mf h1 h2
                  split at hL
                  · rename_i hle
                    cases hL;have hlt:=flat_lt n f.type sf Lf h1;rw [okC_append,okC_map (sz:=sf) (by omega) hlt,Bool.and_eq_true] at ok1 ok2;rw [eqC_append,eqC_map (sz:=sf) (by omega) (by omega) hlt] at hq;have next:=fun hq=>ihf Mf h2 ok1.2 ok2.2 hq
                    simp only [List.forIn_cons] at next ⊢;rw [AD,AD];simp only [ne_eq,hne,not_false_eq_true,if_true];rw [AD];refine LU h1 (by omega) fun a ca=>?_
                    rw [AD];refine LU h1 (by omega) fun b cb=>?_
                    rw [AD];refine ih f.type sf Lf h1 d (by omega) a b _ _ ca cb (by simp;omega) (by simp;omega) ok1.1 ok2.1 _ ?_;cases hb:eqC (xs.extract f.offset (f.offset+sf)) (ys.extract f.offset (f.offset+sf)) Lf with
                    | false=>rw [hb] at hq;exact hq
                    | true=>
                      rw [hb,Bool.true_and] at hq;have:=next hq;rw [AD] at this;exact this
                  · cases hL
                · cases hL
          have:=key fs.toList _ hf okx oky hq;simp only [Array.forIn_toList] at this;exact this
        · cases h
    · cases h
theorem wpL_checkF : ∀ (n : Nat) (t : TypeId) (sz : Nat) (L : List (Nat × SK)), LY P n t = some (sz, L) → ∀ (d : Nat), n ≤ d → ∀ (em : Bool) (v : Value) (xs : Array Value), CellsOf P t v xs → xs.size = sz →
    ∀ (Q:Unit→Seg→Prop),Q () M→wpL P (Instr.checkKey em d t v) Q I M:=by
  intro n
  induction n with
  | zero=>intro t sz L h;cases h
  | succ n ih=>
    intro t sz L h d hd em v xs hv hxs Q hq;obtain ⟨d,rfl⟩:∃ d',d=d'+1:=⟨d-1,by omega⟩;unfold LY at h
    split at h
    · rename_i k hun hs
      unfold Instr.checkKey;rw [AD,AJ hun];exact hq
    · rename_i hun hs
      unfold Instr.checkKey;rw [AD,AJ hun];exact hq
    · rename_i hun hs
      unfold Instr.checkKey;rw [AD,AJ hun];exact hq
    · rename_i len e sz' hun hs
      split at h
      · rename_i se Le he
        split at h
        · rename_i hsz
          cases h;have ha:EJ P t=some true:=by unfold EJ;rw [hun]
          rcases hv with ⟨_,rfl⟩ | ⟨hv,_⟩
          case inr=>rw [ha] at hv;cases hv
          unfold Instr.checkKey;rw [AD,AJ hun];simp only
          have key : ∀ (m j : Nat) (Q : Unit → Seg → Prop), j + m = len → Q () M → wpL P (do
                for i in List.range' j m do Instr.checkKey em d e (← part e xs (i*(← sizeOf e))):Sem Unit) Q I M:=by
            intro m
            induction m with
            | zero=>intro j Q _ hq;simpa [CL] using hq
            | succ m ihm=>
              intro j Q hj hq;have hle:j*se+se≤len*se:=by rw [← Nat.succ_mul];exact Nat.mul_le_mul_right _ (by omega)
              rw [List.range'_succ];have next:=ihm (j+1) Q (by omega) hq;simp only [List.forIn_cons] at next ⊢;rw [AD,AD,AD,BL (flat_size he),AD];refine LU he (by omega) fun a ca=>?_
              rw [AD];refine ih e se Le he d (by omega) em a _ ca (by simp;omega) _ ?_;rw [AD] at next;exact next
          rw [Std.Legacy.Range.forIn_eq_forIn_range'];have:=key len 0 Q (by omega) hq
          simpa using this
        · cases h
      · cases h
    · rename_i fs sz' hun hs
      split at h
      · cases h
      · split at h
        · rename_i L' hf
          cases h;have ha:EJ P t=some true:=by unfold EJ;rw [hun]
          rcases hv with ⟨_,rfl⟩ | ⟨hv,_⟩
          case inr=>rw [ha] at hv;cases hv
          unfold Instr.checkKey;rw [AD,AJ hun];simp only
          have key : ∀ (fs : List Field) (L : List (Nat × SK)), FQ (LY P n) sz fs = some L → Q () M → wpL P (do
              for f in fs do
                if f.name≠"_" then Instr.checkKey em d f.type (← part f.type xs f.offset):Sem Unit) Q I M:=by
            intro fs
            induction fs with
            | nil=>intro L hL hq;exact hq
            | cons f fs ihf=>
              intro L hL hq;simp only [FQ] at hL
              split at hL
              · cases hL
              · rename_i hne
                split at hL
                · rename_i sf Lf Mf h1 h2
                  split at hL
                  · rename_i hle
                    have next:=ihf Mf h2 hq;simp only [List.forIn_cons] at next ⊢;simp only [ne_eq,hne,not_false_eq_true,if_true];rw [AD,AD,AD];refine LU h1 (by omega) fun a ca=>?_
                    rw [AD];refine ih f.type sf Lf h1 d (by omega) em a _ ca (by simp;omega) _ ?_;rw [AD] at next;exact next
                  · cases hL
                · cases hL
          have:=key fs.toList _ hf hq;simp only [Array.forIn_toList] at this;exact this
        · cases h
    · cases h
theorem keyOk_flat {κ : Type} [DecidableEq κ] {kt : TypeId} {n sz : Nat} {L : List (Nat × SK)} (hflat : LY P n kt = some (sz, L)) (hn : n ≤ 10000) (hagg : EJ P kt = some true) (cells : κ → Array Value) (hsz : ∀ k, (cells k).size = sz)
    (hok:∀ k,okC (cells k) L=true) (heq:∀ a b,eqC (cells a) (cells b) L=decide (a=b)):KeyOk P kt (fun k=>.agg (cells k)) where
  inj:=fun a b e=>by
    simp only [Value.agg.injEq] at e;have h1:=heq a a;have h2:=heq a b;rw [← e,h1] at h2
    simpa using h2
  check:=fun em k Q I M hq=>wpL_checkF n kt sz L hflat 10000 hn em _ _ (.inl ⟨hagg,rfl⟩) (hsz k) Q hq
  find:=fun k es kvs Q I M hes hq=>by
    unfold Instr.findKey;obtain ⟨td,htd,hfn⟩:∃ td,P.underlying kt=some td∧∀ (x y:Value),Instr.sameNow td (.agg x.cells) y=none:=by
      unfold EJ at hagg
      split at hagg
      · rename_i h;exact ⟨_,h,fun _ _=>rfl⟩
      · rename_i h;exact ⟨_,h,fun _ _=>rfl⟩
      · cases hagg
      · cases hagg
    rw [AD,AJ htd]
    have ask : ∀ (es : List MapEntry) (kvs : List (κ × Value)) (i : Nat) (Q : Option (Nat × Value) → Seg → Prop), es.map (fun e => (e.key, e.val)) = kvs.map (NS fun k => .agg (cells k)) → Q (EU k kvs i) M →
        wpL P (Instr.findAsking kt (.agg (cells k)) es i) Q I M:=by
      intro es
      induction es with
      | nil=>
        intro kvs i Q h hq;cases kvs with
        | nil=>exact hq
        | cons x r=>simp at h
      | cons e es ih=>
        intro kvs i Q h hq;cases kvs with
        | nil=>simp at h
        | cons x r=>
          simp only [List.map_cons,List.cons.injEq,NS,Prod.mk.injEq] at h;obtain ⟨⟨h1,h2⟩,h3⟩:=h;unfold Instr.findAsking;rw [AD];unfold Op.equal;rw [h1];refine wpL_equalF n kt sz L hflat _ (by show n≤10000;exact hn) _ _ _ _ (.inl ⟨hagg,rfl⟩) (.inl ⟨hagg,rfl⟩) (hsz _) (hsz _) (hok _) (hok _) _ ?_;rw [heq];simp only [EU] at hq
          by_cases hx:x.1=k
          · rw [if_pos hx] at hq
            rw [if_pos (by simp [hx]),h2];exact hq
          · rw [if_neg hx] at hq
            rw [if_neg (by simpa using Ne.symm hx)];exact ih r (i+1) Q h3 hq
    cases es with
    | nil=>
      cases kvs with
      | nil=>exact hq
      | cons x r=>simp at hes
    | cons e es=>
      have h1:Instr.findNow td (.agg (cells k)) (e::es) 0=none:=by
        have:=hfn (.agg (cells k)) e.key;have h2:(Value.agg (cells k)).cells=cells k:=rfl;rw [h2] at this;simp only [Instr.findNow,this]
      simp only [h1];exact ask (e::es) kvs 0 Q hes hq
end
end Go.Sl
namespace Go.Sh
open Go Go.Sl
def mk3 (f t j:Nat):Shift:=⟨f,t,j⟩
def drawsFT (Y:Yard) (f t k:Nat):List Shift:=((List.range' k ((Y.tracks.getD f []).length-k)).map fun j=>mk3 f t (j+1)).filter fun s=>decide (mayErr Y s=0)
def drawsF (Y:Yard) (f t:Nat):List Shift:=(List.range' t (Y.tracks.length-t)).flatMap fun t=>drawsFT Y f t 0
def drawsY (Y:Yard) (f:Nat):List Shift:=(List.range' f (Y.tracks.length-f)).flatMap fun f=>drawsF Y f 0
def draws (Y:Yard):List Shift:=drawsY Y 0
theorem PN {Y:Yard} {s:Shift} (h:s∈draws Y):mayErr Y s=0:=by
  simp only [draws,drawsY,drawsF,drawsFT,List.mem_flatMap,List.mem_filter,decide_eq_true_eq] at h;obtain ⟨_,_,_,_,_,h⟩:=h;exact h
theorem flatMap_le {α β:Type} {f:α→List β} {c:Nat}:∀ (l:List α),(∀ x∈l,(f x).length≤c)→(l.flatMap f).length≤l.length*c:=by
  intro l
  induction l with
  | nil=>intro _;simp
  | cons x l ih=>
    intro h;rw [List.flatMap_cons,List.length_append,List.length_cons,Nat.succ_mul];have:=h x List.mem_cons_self;have:=ih fun y hy=>h y (List.mem_cons_of_mem _ hy)
    omega
theorem drawsFT_le {Y:Yard} (h:GoodY Y) (f t:Nat):(drawsFT Y f t 0).length≤5:=by
  unfold drawsFT;refine Nat.le_trans (List.length_filter_le _ _) ?_;rw [List.length_map,List.length_range',Nat.sub_zero]
  by_cases hf:f<Y.tracks.length
  · have:=KW (BJ (d:=[]) hf);have:=h.sum;omega
  · simp [List.getD,List.getElem?_eq_none (Nat.le_of_not_lt hf)]
theorem draws_le {Y:Yard} (h:GoodY Y) (h3:Y.tracks.length≤3):(draws Y).length≤45:=by
  have h1:∀ f,(drawsF Y f 0).length≤15:=fun f=>by
    have:=flatMap_le (f:=fun t=>drawsFT Y f t 0) (c:=5) (List.range' 0 (Y.tracks.length-0)) fun t _=>drawsFT_le h f t
    rw [List.length_range'] at this;unfold drawsF;omega
  have:=flatMap_le (f:=fun f=>drawsF Y f 0) (c:=15) (List.range' 0 (Y.tracks.length-0)) fun f _=>h1 f
  rw [List.length_range'] at this;unfold draws drawsY;omega
theorem GoodY.draws {Y:Yard} (h:GoodY Y) (hv:Valid Y):(draws Y).length≤1000000:=by
  have:=draws_le h (by have:=hv.fine.room3;have:=hv.fine.len;omega);omega
def putP (p:List Int) (c i k:Nat):List Int:=(p.set (2*c) i).set (2*c+1) k
def goPT (i:Nat):Nat→List Int→List Int→List Int
  | _,[],p=>p
  | k,c::r,p=>goPT i (k+1) r (putP p c.toNat i k)
def goP:Nat→List (List Int)→List Int→List Int
  | _,[],p=>p
  | i,t::ts,p=>goP (i+1) ts (goPT i 0 t p)
def zero10:List Int:=[0,0,0,0,0,0,0,0,0,0]
abbrev KY:={ l:List Int // l.length=10 }
theorem putP_length (p:List Int) (c i k:Nat):(putP p c i k).length=p.length:=by simp [putP]
theorem goPT_length (i:Nat):∀ (t:List Int) (k:Nat) (p:List Int),(goPT i k t p).length=p.length:=by
  intro t
  induction t with
  | nil=>intro k p;rfl
  | cons c r ih=>intro k p;rw [goPT,ih,putP_length]
theorem goP_length:∀ (ts:List (List Int)) (i:Nat) (p:List Int),(goP i ts p).length=p.length:=by
  intro ts
  induction ts with
  | nil=>intro i p;rfl
  | cons t ts ih=>intro i p;rw [goP,ih,goPT_length]
def placeOf (Y:Yard):KY:=⟨goP 0 Y.tracks zero10,by rw [goP_length];rfl⟩
structure Kin (A Y:Yard):Prop where
  cars:Y.cars=A.cars
  room:Y.room=A.room
  len:Y.tracks.length=A.tracks.length
  perm:Y.tracks.flatten.Perm A.tracks.flatten
theorem Kin.refl (A:Yard):Kin A A:=⟨rfl,rfl,rfl,List.Perm.refl _⟩
theorem Kin.trans {A B C:Yard} (h:Kin A B) (k:Kin B C):Kin A C:=⟨k.cars.trans h.cars,k.room.trans h.room,k.len.trans h.len,k.perm.trans h.perm⟩
theorem Kin.symm {A B:Yard} (h:Kin A B):Kin B A:=⟨h.cars.symm,h.room.symm,h.len.symm,h.perm.symm⟩
theorem kin_moved {Y:Yard} {s:Shift} (h:mayErr Y s=0):Kin Y (moved Y s):=by
  have m:=mayOk h;exact ⟨rfl,rfl,by simp [moved],PP m.frm m.to m.ne⟩
theorem Kin.moved {A Y:Yard} {s:Shift} (k:Kin A Y) (h:mayErr Y s=0):Kin A (moved Y s):=k.trans (kin_moved h)
def plain (goal:Yard→Bool):Nat→Yard→Option (List Shift)
  | 0,Y=>if goal Y then some [] else none
  | d+1,Y=>if goal Y then some [] else (draws Y).findSome? fun s=>(plain goal d (moved Y s)).map (s::·)
def GrpFrom (cs:List Car) (ts:List (List Int)) (met:List Int):Prop:=
  ∀ i k,i<ts.length→k<(ts.getD i []).length→0<grp cs ((ts.getD i []).getD k 0) →
    (grp cs ((ts.getD i []).getD k 0)∈met∨∃ c∈(ts.take i).flatten++(ts.getD i []).take k,grp cs c=grp cs ((ts.getD i []).getD k 0))→QP cs (ts.getD i []) ↑k=true
theorem GrpFrom.cons {cs : List Car} {t : List Int} {ts : List (List Int)} {met : List Int} :
    GrpFrom cs (t::ts) met↔(∀ k,k<t.length→0<grp cs (t.getD k 0)→(grp cs (t.getD k 0)∈met∨∃ c∈t.take k,grp cs c=grp cs (t.getD k 0))→QP cs t ↑k=true)∧GrpFrom cs ts (met++t.map (grp cs)):=by
  constructor
  · intro h
    refine ⟨fun k hk h0 hm=>h 0 k (by simp) hk h0 (by simpa using hm),fun i k hi hk h0 hm=>?_⟩;refine h (i+1) k (by simpa using hi) (by simpa using hk) (by simpa using h0) ?_;simp only [List.getD_cons_succ,List.take_succ_cons,List.flatten_cons];rcases hm with hm | ⟨c,hc,e⟩
    · rcases List.mem_append.1 hm with hm | hm
      · exact .inl hm
      · obtain ⟨c,hc,e⟩:=List.mem_map.1 hm
        exact .inr ⟨c,by simp [hc],e⟩
    · refine .inr ⟨c,?_,e⟩
      rw [List.append_assoc];exact List.mem_append_right _ hc
  · rintro ⟨h1,h2⟩ i k hi hk h0 hm
    cases i with
    | zero=>exact h1 k (by simpa using hk) (by simpa using h0) (by simpa using hm)
    | succ i=>
      simp only [List.getD_cons_succ,List.take_succ_cons,List.flatten_cons] at hk h0 hm ⊢;refine h2 i k (by simpa using hi) hk h0 ?_;rcases hm with hm | ⟨c,hc,e⟩
      · exact .inl (List.mem_append_left _ hm)
      · rw [List.append_assoc] at hc
        rcases List.mem_append.1 hc with hc | hc
        · exact .inl (List.mem_append_right _ (List.mem_map.2 ⟨c,hc,e⟩))
        · exact .inr ⟨c,hc,e⟩
def visit (s:List KY × List Yard) (z:Yard):List KY × List Yard:=if placeOf z∈s.1 then s else (s.1++[placeOf z],s.2++[z])
def nexts (x:Yard):List Yard:=(draws x).map (moved x)
def visitAll:List Yard→List KY × List Yard→List KY × List Yard
  | [],s=>s
  | z::r,s=>visitAll r (visit s z)
def roundM (now:List Yard) (met:List KY):List KY × List Yard:=visitAll (now.flatMap nexts) (met,[])
def reachM:Nat→List KY→List Yard→List KY
  | 0,met,_=>met
  | d+1,met,now=>reachM d (roundM now met).1 (roundM now met).2
def reach (Y:Yard) (d:Nat):Int:=((reachM d [placeOf Y] [Y]).length:Int)
theorem kin_tracks {A Y Z:Yard} (ky:Kin A Y) (kz:Kin A Z) (h:Y.tracks=Z.tracks):Y=Z:=by
  rcases Y with ⟨a,b,c⟩;rcases Z with ⟨a',b',c'⟩
  have h1:=ky.cars;have h2:=kz.cars;have h3:=ky.room;have h4:=kz.room;simp only at h1 h2 h3 h4 h;rw [h1,h2,h3,h4,h]
theorem nexts_kin {A x:Yard} (k:Kin A x):∀ y∈nexts x,Kin A y:=fun y hy=>by
  obtain ⟨s,hs,rfl⟩:=List.mem_map.1 hy;exact k.moved (PN hs)
theorem flat_kin {A:Yard} {now:List Yard} (h:∀ y∈now,Kin A y):∀ y∈now.flatMap nexts,Kin A y:=fun y hy=>by
  obtain ⟨x,hx,hy⟩:=List.mem_flatMap.1 hy;exact nexts_kin (h x hx) y hy
def FM (x:Int):List Int→List (List Int)
  | []=>[[x]]
  | y::r=>(x::y::r)::(FM x r).map (y::·)
def perms:List Int→List (List Int)
  | []=>[[]]
  | x::r=>(perms r).flatMap (FM x)
theorem mem_insertAll {x:Int}:∀ (a b:List Int),a++x::b∈FM x (a++b):=by
  intro a
  induction a with
  | nil=>intro b;cases b <;> simp [FM]
  | cons y a ih=>intro b;simp only [List.cons_append,FM];exact List.mem_cons_of_mem _ (List.mem_map_of_mem (ih b))
theorem mem_perms:∀ {l m:List Int},m.Perm l→m∈perms l:=by
  intro l
  induction l with
  | nil=>intro m h;rw [List.perm_nil.1 h];simp [perms]
  | cons x l ih=>
    intro m h;obtain ⟨a,b,rfl⟩:=List.append_of_mem (h.mem_iff.2 List.mem_cons_self);have:(a++b).Perm l:=(List.perm_cons x).1 (List.perm_middle.symm.trans h);exact List.mem_flatMap.2 ⟨a++b,ih this,mem_insertAll a b⟩
theorem SX (x:Int) (l:List Int):(FM x l).length=l.length+1:=by
  induction l with
  | nil=>rfl
  | cons y l ih=>simp [FM,ih]
theorem insertAll_perm {x:Int}:∀ {l m:List Int},m∈FM x l→m.Perm (x::l):=by
  intro l
  induction l with
  | nil=>intro m h;simp [FM] at h;subst h;exact List.Perm.refl _
  | cons y l ih=>
    intro m h;simp only [FM,List.mem_cons,List.mem_map] at h;rcases h with rfl | ⟨m',h,rfl⟩
    · exact List.Perm.refl _
    · exact (List.Perm.cons y (ih h)).trans (List.Perm.swap x y l)
theorem perms_perm:∀ {l m:List Int},m∈perms l→m.Perm l:=by
  intro l
  induction l with
  | nil=>intro m h;simp [perms] at h;subst h;exact List.Perm.refl _
  | cons x l ih=>
    intro m h;obtain ⟨m',h1,h2⟩:=List.mem_flatMap.1 h;exact (insertAll_perm h2).trans (List.Perm.cons x (ih h1))
def fact:Nat→Nat
  | 0=>1
  | n+1=>(n+1)*fact n
theorem perms_length:∀ (l:List Int),(perms l).length=fact l.length:=by
  intro l
  induction l with
  | nil=>rfl
  | cons x l ih=>
    simp only [perms,List.length_flatMap];have e:∀ m∈perms l,(FM x m).length=l.length+1:=fun m hm=>by rw [SX,(perms_perm hm).length_eq]
    have:((perms l).map fun m=>(FM x m).length)=(perms l).map fun _=>l.length+1:=List.map_congr_left e
    rw [this,List.map_const',List.sum_replicate_nat,ih,List.length_cons,fact,Nat.mul_comm]
def cut3 (n:Nat) (l:List Int) (a b:Nat):List (List Int):=if n=1 then [l] else if n=2 then [l.take a,l.drop a] else [l.take a,(l.drop a).take b,(l.drop a).drop b]
theorem cut3_of {ts:List (List Int)} (h:1≤ts.length∧ts.length≤3):ts=cut3 ts.length ts.flatten (ts.getD 0 []).length (ts.getD 1 []).length:=by
  match ts,h with
  | [a],_=>simp [cut3]
  | [a,b],_=>simp [cut3]
  | [a,b,c],_=>simp [cut3]
def allCuts (n m:Nat) (l:List Int):List (List (List Int)):=(perms l).flatMap fun p=>(List.range (m+1)).flatMap fun a=>(List.range (m+1)).map fun b=>cut3 n p a b
theorem allCuts_length (n m:Nat) (l:List Int):(allCuts n m l).length=fact l.length*((m+1)*(m+1)):=by
  simp only [allCuts,List.length_flatMap,List.length_map,List.length_range,List.map_const',List.sum_replicate_nat];rw [perms_length]
theorem kin_mem {A Y:Yard} (f:Fine A) (k:Kin A Y) {m:Nat} (hm:A.tracks.flatten.length≤m):Y.tracks∈allCuts A.tracks.length m A.tracks.flatten:=by
  have hl:1≤Y.tracks.length∧Y.tracks.length≤3:=by rw [k.len,f.len];have:=f.room1;have:=f.room3;omega
  have e:=cut3_of hl;have hb:∀ i,(Y.tracks.getD i []).length≤m:=fun i=>by
    by_cases hi:i<Y.tracks.length
    · have:=KW (BJ (d:=[]) hi)
      have:=k.perm.length_eq;omega
    · simp [List.getD,List.getElem?_eq_none (Nat.le_of_not_lt hi)]
  rw [e,k.len];refine List.mem_flatMap.2 ⟨_,mem_perms k.perm,List.mem_flatMap.2 ⟨_,List.mem_range.2 (Nat.lt_succ_of_le (hb 0)),List.mem_map.2 ⟨_,List.mem_range.2 (Nat.lt_succ_of_le (hb 1)),rfl⟩⟩⟩
end Go.Sh
namespace Go.Sl
open Go
theorem run_scope {ρ:Option Nat} {P:Program} [Jud P] {N:Nat} {Q:Exit→Act→GW→Prop} {ds:List Deferred} {l:Sl} {I:Imm} {M:Seg} {c x:Code} (hc:c=.scope x) (h:Run (ρ:=ρ) P N x (Exit.noGoto Q) ds l I M):Run (ρ:=ρ) P N c Q ds l I M:=by
  subst hc;exact fun a w hS hD hW=>wpc_scope (h a w hS hD hW)
theorem pst_ret_scope {N:Nat} {Q:Exit→Act→GW→Prop} {ds:List Deferred} {l:Sl} {I:Imm} {M:Seg} (h:Pst N Q .ret ds l I M):Pst N (Exit.noGoto Q) .ret ds l I M:=h
theorem DL {α : Type} {E : TypeId} {sz : Nat} {cell : α → Nat → Value} {ρ : Option Nat} {P : Program} [Jud P] {N : Nat} {c : Code} {Q : Exit → Act → GW → Prop} {ds : List Deferred} {l : Sl} {I : Imm} {M A B Ms : Seg} {v : Value} {xs : List α} (dflt : α)
    (h:Own E sz cell v xs Ms) (hl:xs.length≤140737488355328) (hM:M.Perm (Ms++A)) (hA:A.Perm B)
    (next:∀ J,I.le J→IsSl sz cell dflt J v xs→Run (ρ:=ρ) P N c Q ds l J B):Run (ρ:=ρ) P N c Q ds l I M:=St.own_freeze dflt h hl hM hA next
theorem DA {ρ : Option Nat} {P : Program} [Jud P] {N : Nat} {Q : Exit → Act → GW → Prop} {ds : List Deferred} {l : Sl} {I : Imm} {M M0 : Seg} {c : Code} {b : Nat} {o : Obj} (hM : M.Perm ((b, o) :: M0))
    (next:∀ J,I.le J→J.blk b=some o→Run (ρ:=ρ) P N c Q ds l J M0):Run (ρ:=ρ) P N c Q ds l I M:=fun a w hS hD hW=>
  have st:=hW.perm hM
  next (I.add b o) (Imm.le_add (st.disj b o List.mem_cons_self)) (Imm.add_same I b o) a w hS hD st.freeze
theorem QD {ρ : Option Nat} {P : Program} [Jud P] {N : Nat} {ops : Array Oper} {i : Nat} {Q : Exit → Act → GW → Prop} {ds : List Deferred} {l : Sl} {I : Imm} {M M0 : Seg} {b : Nat} {o : Obj} (hM : M.Perm ((b, o) :: M0))
    (next:∀ J,I.le J→J.blk b=some o→Seq (ρ:=ρ) P N ops Q ds i l J M0):Seq (ρ:=ρ) P N ops Q ds i l I M:=fun a w hS hD hW=>
  have st:=hW.perm hM
  next (I.add b o) (Imm.le_add (st.disj b o List.mem_cons_self)) (Imm.add_same I b o) a w hS hD st.freeze
theorem DX {I:Imm} {M:Seg} {b off n:Nat} {cs:Array Value} {T:TypeId} {fz:Nat × Nat} {vs:List Value} (h:I.blk b=some (Obj.cells cs T fz)) (hv:(cs.toList.drop off).take n=vs):SeesN I M b off vs:=fun k v hk=>by
  refine ⟨rfl,cs,T,fz,.inr h,?_⟩;rw [← hv,List.getElem?_take] at hk
  split at hk
  · rw [List.getElem?_drop] at hk;simpa using hk
  · cases hk
theorem AR {I:Imm} {M:Seg} {b off:Nat} {cs:Array Value} {T:TypeId} {fz:Nat × Nat} {v:Value} (h:I.blk b=some (Obj.cells cs T fz)) (hc:cs[off]?=some v):Sees I M ⟨b,off,none⟩ v:=⟨rfl,cs,T,fz,.inr h,hc⟩
section
variable {P:Program} [Jud P] {N:Nat} {ops:Array Oper} {i:Nat} {l:Sl} {I:Imm} {R M:Seg} {ty:TypeId} {gd:Option (Nat × Bool)} {K:Sl→Imm→Seg→Prop} {d:Nat}
end
def Yt (P:Program) [Jud P] (L:Nat) (args:Array Value) (I:Imm) (pre:Seg) (post:Value→Imm→Seg→Prop):Prop:=
  ∀ F w,St I (pre++F) w→SemTo P (Instr.yield L args) w fun n w'=>∃ f tmps assign body,n=.round L f tmps assign body∧RoundJ P L f tmps assign body w' (RQ I post F)
section
variable {P:Program} {I:Imm} {M0:Seg} {l:Nat} {r:Loop}
theorem MJ {M:Seg} {Q:Loop→Seg→Prop} (h:(l,.loop r)∈M) (hq:Q r M):wpL P (Instr.getLoop l) Q I M:=⟨_,.inl h,rfl,hq⟩
theorem OO {o:Obj} (ho:MS o=false) {Q:Unit→Seg→Prop} (hq:Q () ((l,o)::M0)):wpL P (setObj l o) Q I ((l,.loop r)::M0):=⟨ho,0,_,rfl,rfl,hq⟩
theorem MI {Q:Option Code→Seg→Prop} (hb:r.state≠.busy) (hq:Q r.pending ((l,.loop { r with state:=.exhausted })::M0)):wpL P (Instr.endLoop l) Q I ((l,.loop r)::M0):=by
  unfold Instr.endLoop;rw [AD];refine MJ List.mem_cons_self ?_;have:(r.state == LoopState.busy)=false:=by simpa using hb
  simp only [this,Bool.false_eq_true,if_false];show wpL P (setObj l _ >>= fun _=>pure r.pending) _ _ _;rw [AD];exact OO rfl hq
theorem SS {Q:Value→Seg→Prop} (jump:Option Code) (hq:Q (.bool jump.isNone) ((l,.loop { r with state:=if jump.isNone then .ready else .done,pending:=jump })::M0)):wpL P (Instr.endRound l jump) Q I ((l,.loop r)::M0):=by
  unfold Instr.endRound;rw [AD];refine MJ List.mem_cons_self ?_;rw [AD];exact OO rfl hq
theorem OC {Q:Unit→Seg→Prop} (hr:r.state=.ready) (hq:Q () ((l,.loop { r with state:=.busy })::M0)):wpL P (Instr.beginRound l) Q I ((l,.loop r)::M0):=by
  unfold Instr.beginRound;rw [AD];refine MJ List.mem_cons_self ?_;rw [AD];refine OO rfl ?_;rw [hr];exact hq
theorem wpL_yield {M : Seg} {args : Array Value} {Q : Next → Seg → Prop} (h : (l, .loop r) ∈ M) (hs : args.size = r.params.size) (hq : Q (.round l r.fn ((r.params.zip args).foldl (fun tmps (t, a) => tmps.setIfInBounds t a) r.tmps) r.assign r.body) M) :
    wpL P (Instr.yield l args) Q I M:=by
  unfold Instr.yield;rw [AD];refine MJ h ?_;rw [if_neg (by simp [hs])];exact hq
theorem TE {D:Nat} {Q:List Deferred→Seg→Prop} (hq:Q [] ((D,.deferred none)::M0)):wpL P (Instr.takeDeferred D) Q I ((D,.deferred (some []))::M0):=
  ⟨_,.inl List.mem_cons_self,rfl,rfl,0,_,rfl,rfl,hq⟩
end
section
variable {ρ:Option Nat} {P:Program} [Jud P] {N:Nat} {ops:Array Oper} {i:Nat} {l:Sl} {I:Imm} {R M:Seg} {ty:TypeId} {gd:Option (Nat × Bool)} {K:Sl→Imm→Seg→Prop} {Q:Exit→Act→GW→Prop} {ds:List Deferred}
theorem yield_to {P : Program} {f : Operand} {L : Nat} {args : Array Operand} {tys : Array TypeId} {vals : List Value} {ρ : Operand → Value} {w : GW} {K : Next → GW → Prop} (hf : ρ f = .func (.yield L) #[] #[]) (hvals : args.toList.map ρ = vals) (h : SemTo P (Instr.yield L vals.toArray) w K) :
    SemTo P (IJ ρ (.call { callee:=.value f,args,argTypes:=tys }) ty) w K:=by
  have e:args.map ρ=vals.toArray:=by apply Array.ext';simp [hvals]
  show SemTo P (do let d ← resolve ρ { callee:=.value f,args,argTypes:=tys } ty;invoke d.target d.args:Sem Next) w K;unfold resolve;simp only [e,hf,Deferred.ofValue];show SemTo P (Instr.yield L (#[]++vals.toArray) ) w K;rw [Array.empty_append];exact h
theorem stp_yield {d : Option Tmp} {f : Operand} {L : Nat} {args : Array Operand} {tys : Array TypeId} {vals : List Value} {pre F : Seg} {post : Value → Imm → Seg → Prop}
    (hop:EL ops N i=some (d,.call { callee:=.value f,args,argTypes:=tys },ty,gd)) (hg:EK ops l gd=some true) (hf:BK l f=some (.func (.yield L) #[] #[])) (hv:NT l args.toList=some vals)
    (yt:Yt P L vals.toArray I pre post) (hM:M.Perm (pre++F))
    (h:∀ v I' M',I.le I'→post v I' M'→K (ups d v l) I' (M'++F)):Stp P N ops i l I M K:=by
  obtain ⟨o,ho,rfl,he,rfl,rfl,hN,hs⟩:=FN hop;obtain ⟨h1,h2⟩:=HF hv;refine ⟨o,ho,hN,hs,hg,?_,fun w st=>?_⟩
  · rw [he]
    intro x hx;simp only [Op.operands,Call.operands] at hx;rcases Array.mem_append.1 hx with hx | hx
    · simp at hx;subst hx;exact DG hf
    · exact h1 x (by simpa using hx)
  · rw [FL,he]
    refine yield_to (AU hf) h2 ((yt F w (st.perm hM)).mono ?_)
    rintro n w' ⟨f',tmps,assign,body,rfl,hr⟩
    exact resN_round (RoundJ.mono hr fun v w' ⟨I',M',hle,hp,st'⟩=>⟨I',M'++F,hle,st',h v I' M' hle hp⟩)
def mark (D:Nat):Deferred:={ target:=.collected D,args:=#[] }
def RoundQ (I:Imm) (post:Option Code→Imm→Seg→Prop) (F:Seg):Exit→Act→GW→Prop
  | .normal,_,w=>∃ I' M',I.le I'∧post none I' M'∧St I' (M'++F) w
  | .ret,_,w=>∃ I' M',I.le I'∧post (some .ret) I' M'∧St I' (M'++F) w
  | .exit id,_,w=>∃ I' M',I.le I'∧post (some (.exit id)) I' M'∧St I' (M'++F) w
  | .goto t,_,w=>∃ I' M',I.le I'∧post (some (.goto t)) I' M'∧St I' (M'++F) w
  | _,_,_=>False
def putAll:List (Tmp × Value)→Sl→Sl
  | [],l=>l
  | (t,v)::r,l=>putAll r ((t,v)::l)
theorem slots_fold {N : Nat} {dfs : List Deferred} : ∀ (xs : List (Tmp × Value)) (l : Sl) (tm : Array Value), Slots N l { tmps := tm, defers := dfs } → (∀ x ∈ xs, x.1 < N) →
    Slots N (putAll xs l) { tmps:=xs.foldl (fun t (x:Tmp × Value)=>t.setIfInBounds x.1 x.2) tm,defers:=dfs }:=by
  intro xs
  induction xs with
  | nil=>intro l tm h _;exact h
  | cons x xs ih=>
    intro l tm h hN;obtain ⟨t,v⟩:=x;exact ih _ _ (h.put (hN (t,v) List.mem_cons_self) v) (fun y hy=>hN y (List.mem_cons_of_mem _ hy))
theorem perm3 {A B C:Seg} {x y:Nat × Obj}:((A++(x::y::B))++C).Perm (x::(A++(B++(y::C)))):=by
  rw [List.append_assoc];refine List.perm_middle.trans (.cons x (List.Perm.append_left A ?_));exact List.perm_middle.symm
theorem perm4 {A C:Seg} {x y:Nat × Obj}:(A++(x::y::C)).Perm (x::(A++(y::C))):=List.perm_middle
def Hk (K:Sl→Imm→Seg→Prop) (l:Sl) (I:Imm) (M:Seg):Prop:=∀ w,St I M w→∃ J M',I.le J∧St J M' w∧K l J M'
theorem RA {K:Sl→Imm→Seg→Prop} {l:Sl} {I:Imm} {M:Seg} (h:K l I M):Hk K l I M:=fun _ st=>⟨I,M,Imm.le.refl I,st,h⟩
theorem hk_mem {K:Sl→Imm→Seg→Prop} {l:Sl} {I:Imm} {M M':Seg} (s:∀ w,St I M w→St I M' w) (next:Hk K l I M'):Hk K l I M:=fun w st=>next w (s w st)
theorem LH {α : Type} {E : TypeId} {sz : Nat} {cell : α → Nat → Value} {K : Sl → Imm → Seg → Prop} {l : Sl} {I : Imm} {M A B Ms : Seg} {v : Value} {xs : List α} (dflt : α)
    (h:Own E sz cell v xs Ms) (hl:xs.length≤140737488355328) (hM:M.Perm (Ms++A)) (hA:A.Perm B) (next:∀ J,I.le J→IsSl sz cell dflt J v xs→Hk K l J B):Hk K l I M:=fun w st=>by
  obtain ⟨J,h1,h2,h3⟩:=h.freeze dflt hl (st.perm hM);obtain ⟨J2,M',g1,g2,g3⟩:=next J h1 h2 w (h3.perm hA);exact ⟨J2,M',h1.trans g1,g2,g3⟩
theorem stp_hk {K:Sl→Imm→Seg→Prop} (h:Stp P N ops i l I M (Hk K)):Stp P N ops i l I M K:=by
  obtain ⟨o,h1,h2,h3,h4,h5,h6⟩:=h;refine ⟨o,h1,h2,h3,h4,h5,fun w st=>(h6 w st).mono fun v w' ⟨I',M',g1,g2,g3⟩=>?_⟩;obtain ⟨J,M2,k1,k2,k3⟩:=g3 w' g2;exact ⟨J,M2,g1.trans k1,k2,k3⟩
theorem PQ {S : Seg} {Kfin : Sl → Imm → Seg → Prop} {rest : List (Nat × Bool)}
    (h:Stp P N ops i l I (R++S) (Hk fun l' I' M'=>∃ S',M'.Perm (R++S')∧OFP P N ops R Kfin rest l' I' S')):OFP P N ops R Kfin ((i,false)::rest) l I S:=stp_hk h
theorem FO {I₀:Imm} {post:Option Code→Imm→Seg→Prop} {F M':Seg} (hle:I₀.le I) (hp:post none I M') (hs:(M'++F).Sublist M):Pst N (RoundQ I₀ post F) .normal [] l I M:=fun _ _ _ _ hW=>⟨I,M',hle,hp,hW.sub hs⟩
theorem MF {I₀:Imm} {post:Option Code→Imm→Seg→Prop} {F M':Seg} (hle:I₀.le I) (hp:post (some .ret) I M') (hs:(M'++F).Sublist M):Pst N (RoundQ I₀ post F) .ret [] l I M:=fun _ _ _ _ hW=>⟨I,M',hle,hp,hW.sub hs⟩
def RetQM (P:Program) (fn:Func) (I:Imm) (post:Value→Imm→Seg→Prop) (F:Seg):Exit→Act→GW→Prop:=bodyQM P fn (RQ I post F)
theorem fnMA_of_run {f : FuncId} {fn : Func} {args : List Value} {pre : Seg} {post : Value → Imm → Seg → Prop} (hf : P.funcs[f]? = some fn) (hb : fn.body.isSome = true)
    (hN:fn.ntmps=N) (hle:args.length≤N)
    (h:∀ F,Run (ρ:=none) P N (LB fn) (RetQM P fn I post F) [] (FE 0 args) I (pre++F)):CtA P f args.toArray I pre post:=by
  intro F w st;have hbody:fn.body=some (LB fn):=by
    cases hx:fn.body with
    | none=>rw [hx] at hb;cases hb
    | some c=>simp [LB,hx]
  refine calls_of_marks hf hbody (h F _ w ⟨?_,fun t v hv=>?_⟩ rfl st)
  · simp;omega
  obtain ⟨_,h2⟩:=MD args 0 t v hv;rw [Nat.sub_zero] at h2;have hlt:t<args.length:=(List.getElem?_eq_some_iff.1 h2).1;rw [Array.getElem?_append_left (by simpa using hlt)]
  simpa using h2
theorem JP {P : Program} {f : FuncId} {fn : Func} {args : List Value} {pre : Seg} {post : Value → Imm → Seg → Prop} (hf : P.funcs[f]? = some fn) (hb : fn.body.isSome = true)
    (hN:fn.ntmps=N) (hle:args.length≤N)
    (h:∀ [Jud P] (F:Seg),Run (ρ:=none) P N (LB fn) (RetQM P fn I post F) [] (FE 0 args) I (pre++F)):Ct P f args.toArray I pre post:=
  ⟨fnMA_of_run hf hb hN hle h⟩
section
variable {fn:Func} {I₀:Imm} {post:Value→Imm→Seg→Prop} {F:Seg}
def TG (Ds:List Nat):Seg:=Ds.map fun D=>(D,.deferred (some []))
theorem leaves_marks {P:Program} {tm:Array Value} {R:Value→GW→Prop} {M:Seg}:∀ (Ds:List Nat) (w:GW),St I (TG Ds++M) w→(∀ w',St I M w'→SemTo P (results fn tm) w' R)→LvM P fn tm R (Ds.map mark) w:=by
  intro Ds
  induction Ds with
  | nil=>intro w st h;exact h w st
  | cons D Ds ih=>
    intro w st h;refine ⟨D,rfl,(IX _ (fun calls M'=>calls=[]∧M'=(D,.deferred none)::(TG Ds++M)) I _ w (TE ⟨rfl,rfl⟩) st).mono ?_⟩
    rintro calls w' ⟨M',⟨rfl,rfl⟩,st'⟩
    exact ⟨rfl,ih w' st'.drop h⟩
theorem EC {P:Program} (Ds:List Nat) {e:Exit} (he:e=.ret∨e=.normal) (hM:M.Perm (TG Ds++R)) (h:Pst N (RetQ P fn I₀ post F) e [] l I R):Pst N (RetQM P fn I₀ post F) e (Ds.map mark) l I M:=fun a w hS hD hW=>by
  have key:LvM P fn a.tmps (RQ I₀ post F) a.defers w:=by
    rw [hD];refine leaves_marks (M:=R) Ds w (hW.perm hM) fun w' st=>?_
    have:=h { tmps:=a.tmps,defers:=[] } w' ⟨hS.size,hS.get⟩ rfl st;rcases he with rfl | rfl
    · exact this.2
    · exact this.2
  rcases he with rfl | rfl
  · exact key
  · exact key
end
end
end Go.Sl
namespace Go.Sh
open Go Go.Sl
section
variable {P:Program} [Jud P] {N:Nat} {ops:Array Oper} {i:Nat} {l:Sl} {I:Imm} {R M:Seg} {ty:TypeId} {gd:Option (Nat × Bool)} {K:Sl→Imm→Seg→Prop} {d:Nat}
end
theorem Asc.nodup {l:List Int} (h:Asc l):l.Nodup:=h.imp fun hab=>by omega
end Go.Sh
namespace Go.Sl
open Go
section
variable {P:Program} [Jud P] {N:Nat} {ops:Array Oper} {i:Nat} {l:Sl} {I:Imm} {R M:Seg} {ty:TypeId} {gd:Option (Nat × Bool)} {K:Sl→Imm→Seg→Prop} {d:Nat}
variable {κ:Type} [DecidableEq κ] {enc:κ→Value}
theorem stp_builtin {b : Builtin} {args : Array Operand} {tys : Array TypeId} {vals : List Value} {dst : Option Tmp}
    (hop:EL ops N i=some (dst,.call { callee:=.builtin b,args,argTypes:=tys },ty,gd)) (hg:EK ops l gd=some true) (hk:∀ x∈args,known l x) (hvals:args.toList.map (rho l)=vals)
    (h:∀ (cs:Array Bool),wpL P (builtin b tys ty cs vals.toArray) (fun n M'=>∃ v,(n=.value v∨(n=.skip∧v=undef))∧K (ups dst v l) I M') I M):Stp P N ops i l I M K:=
  CI hop hg (by simpa [Op.operands,Call.operands] using hk) (by
    have e:args.map (rho l)=vals.toArray:=by
      apply Array.ext'
      simp [hvals]
    show wpL P (do let d ← resolve (rho l) { callee:=.builtin b,args,argTypes:=tys } ty;invoke d.target d.args) _ I M
    unfold resolve
    simp only [e]
    exact h _)
theorem stp_appendN {x y : Operand} {T T' E bs n : Nat} {z : Value} (hop : EL ops N i = some (some d, .call { callee := .builtin .append, args := #[x, y], argTypes := #[T, T'] }, ty, gd)) (hg : EK ops l gd = some true)
    (hT:HU P T=some E) (hsz:DR P E=some 1) (hz:HK P E=some z) (hzc:z.cells.size=1) (hb:JD P E=some bs) (hbs:1≤bs∧bs≤256) (hT':tyI64 P T'=true)
    (hx:BK l x=some (.slice none 0 0)) (hy:BK l y=some (.int .i64 (n:Int))) (hn:0<n∧n≤1000000)
    (next:∀ b nc zs,n≤nc→zs.length=nc→K ((d,.slice (some ⟨b,0,none⟩) n nc)::l) I ((b,Obj.cells (List.toArray zs) E (0,0))::M)):Stp P N ops i l I M K:=by
  refine stp_builtin (vals:=[.slice none 0 0,.int .i64 n]) hop hg (HO hx hy) (by simp [AU hx,AU hy]) fun cs=>?_
  have hinfo:∃ inf,P.info? E=some inf∧inf.bytes=bs:=by
    unfold JD at hb;cases hi:P.info? E with
    | none=>rw [hi] at hb;cases hb
    | some inf=>rw [hi] at hb;exact ⟨inf,rfl,by simpa using hb⟩
  obtain ⟨inf,hinf,hbytes⟩:=hinfo;show wpL P (Builtin.append_ #[T,T'] ty #[.slice none 0 0,.int .i64 n] >>= fun x=>pure (Next.value x)) _ I M;refine CB ?_;unfold Builtin.append_;simp only [List.getElem?_toArray,List.getElem?_cons_zero,List.getElem?_cons_succ,AD,AJ (CT hT),BL hsz,AJ (DD hT'),CL];simp only [if_true,asInt];rw [AD];have hw:IntKind.i64.wrap (n:Int)=(n:Int):=QL ⟨by omega,by omega⟩;show wpL P (pure (n:Int)) _ I M;rw [CL];simp only [hw];rw [if_neg (show ¬ (n:Int)<0 by omega)];rw [AD,CF hinf];have hbig:¬ ((n:Int)*(inf.bytes:Int)>2 ^ 48):=by
    have h1:n*inf.bytes≤1000000*256:=Nat.mul_le_mul hn.2 (by omega);have h2:((n*inf.bytes:Nat):Int)≤((1000000*256:Nat):Int):=Int.ofNat_le.2 h1;rw [Int.natCast_mul] at h2;omega
  rw [if_neg hbig];rw [AD,CL];simp only [Int.toNat_natCast,Nat.zero_add,Bool.not_true,Bool.false_eq_true,if_false];rw [if_neg (show ¬ n≤0 by omega)];simp only [true_or,and_true]
  rw [if_neg (show ¬ ((n : Int) > IntKind.i64.max) by have : IntKind.i64.max = 9223372036854775807 := rfl
                                                      omega)]
  rw [AD,CF hinf]
  rw [AD,CF hinf,if_neg (show ¬ (Builtin.nextslicecap n 0*inf.bytes>2 ^ 48) from fun h=>by
    have h1:Builtin.nextslicecap n 0≤2*n+1000:=JZ (by omega)
    have h2:Builtin.nextslicecap n 0*inf.bytes≤(2*n+1000)*256:=Nat.mul_le_mul h1 (by omega)
    omega)]
  rw [AD];show (if (Question.appendCap n 0 E).forced then _ else ∀ t,_);rw [if_neg (by simp [Question.forced])];intro t;show wpL P (typeInfo E >>= _) _ I _;rw [AD,CF hinf,AD];have hask:∀ (n:Nat) (Q:Unit→Seg→Prop),Q () M→wpL P (askRoom n) Q I M:=fun n Q hq=>by
    unfold askRoom
    split
    · exact ⟨trivial,hq⟩
    · exact hq
  refine hask _ _ ?_;rw [AD];show wpL P (_ >>= _) _ I M;rw [AD];rw [if_neg (show ¬ n*1=0 by omega)];rw [AD,DI hz,CL,AD,DI hz,AD];intro b;have hcap:n≤Question.cut (.appendCap n 0 E) t:=by simp [Question.cut]
  generalize Question.cut (.appendCap n 0 E) t=nc at hcap
  refine ⟨_,.inl rfl,?_⟩
  have:=next b nc ((#[]:Array Value)++Builtin.zeroCells z.cells n++Builtin.zeroCells z.cells (nc-n)).toList hcap (by
    simp only [Array.length_toList,Array.size_append,JF,hzc,List.size_toArray,List.length_nil];omega)
  rw [Array.toArray_toList] at this;exact this
end
theorem Own.empty {E:TypeId} {b nc:Nat} {zs:List Value} (h:zs.length=nc):Own E 1 AK (.slice (some ⟨b,0,none⟩) 0 nc) ([]:List Int) [(b,Obj.cells zs.toArray E (0,0))]:=
  .inr ⟨b,nc,zs,rfl,Nat.zero_le _,rfl,by simpa [BX] using h⟩
end Go.Sl
namespace Go.Sh
open Go Go.Sl
section
variable {xs ys:List Int} {k:Nat}
end
theorem flat_take {xss:List (List Int)} {k:Nat} (h:k<xss.length):(xss.take (k+1)).flatten=(xss.take k).flatten++xss.getD k []:=by
  rw [BO (d:=[]) h];simp
theorem flat_succ {xss:List (List Int)} {k:Nat} (h:k<xss.length):(((xss.take (k+1)).flatten.length:Nat):Int)=↑(xss.take k).flatten.length+↑(xss.getD k []).length:=by
  rw [flat_take h,List.length_append];omega
theorem flat_le (xss:List (List Int)) (k:Nat) (h:k<xss.length):(xss.take k).flatten.length+(xss.getD k []).length≤xss.flatten.length:=by
  rw [← List.length_append,← flat_take h];have:xss.flatten=(xss.take (k+1)).flatten++(xss.drop (k+1)).flatten:=by rw [← List.flatten_append,List.take_append_drop]
  rw [this,List.length_append];omega
def stepB (cs:List Car) (t:List Int) (k:Nat) (acc:List (List Int)):List (List Int):=
  if QP cs t ↑k then acc.set (acc.length-1) (acc.getD (acc.length-1) []++[t.getD k 0]) else acc++[[t.getD k 0]]
def blocksTo (cs:List Car) (t:List Int):Nat→List (List Int)
  | 0=>[]
  | k+1=>stepB cs t k (blocksTo cs t k)
def TG (cs:List Car) (t:List Int):List (List Int):=blocksTo cs t t.length
section
variable {bl:List (List Int)} {rec:List Int→List Int→List (List Int)} {begun us:List Int} {k:Nat}
end
end Go.Sh
namespace Go.Sl
open Go
section
variable {ρ:Option Nat} {P:Program} [Jud P] {N:Nat} {ds:List Deferred} {l:Sl} {I:Imm} {M A B eM:Seg} {Q:Exit→Act→GW→Prop} {E:TypeId} {vs:List Value} {xss:List (List Int)}
end
end Go.Sl
namespace Go.Sh
open Go Go.Sl
end Go.Sh
namespace Go.Sl
open Go
section
variable {P:Program} [Jud P] {N:Nat} {ops:Array Oper} {i:Nat} {l:Sl} {I:Imm} {M:Seg} {ty:TypeId} {gd:Option (Nat × Bool)} {K:Sl→Imm→Seg→Prop} {κ:Type} [DecidableEq κ] {enc:κ→Value}
theorem JS {x y u : Operand} {T kt et r cl : Nat} {es : Array MapEntry} {kvs : List (κ × Value)} {k : κ} {v : Value} (n : Nat) (hop : EL ops N i = some (none, .insert T x y u, ty, gd)) (hg : EK ops l gd = some true)
    (hT:RL P T=some (kt,et)) (hK:KeyOk P kt enc) (hx:BK l x=some (.map (some r))) (hy:BK l y=some (enc k)) (hu:BK l u=some v) (hn:M[n]?=some (r,Obj.map es cl)) (his:MapIs enc es kvs)
    (h:∀ es' cl',MapIs enc es' (upd k v kvs)→K l I (M.set n (r,Obj.map es' cl'))):Stp P N ops i l I M K:=
  CI hop hg (known3 hx hy hu) (by
    show wpL P (Instr.mapUpdate T (rho l x) (rho l y) (rho l u) >>= fun _=>pure Next.skip) _ I M
    rw [AU hx,AU hy,AU hu,AD]
    unfold Instr.mapUpdate
    rw [AD,AJ (JT hT)]
    show wpL P (Sem.getObj r _) _ I M
    refine ⟨_,.inl (List.mem_of_getElem? hn),rfl,?_⟩
    show wpL P (Instr.checkKey _ _ _ _ >>= _) _ I _
    rw [AD]
    refine hK.check _ _ _ _ _ ?_
    rw [AD]
    refine hK.find k es.toList kvs _ _ _ his ?_
    have hf:=NI k v kvs 0
    cases hkv:EU k kvs 0 with
    | none=>
      rw [hkv] at hf
      simp only at hf
      show wpL P (Sem.setObj r _ _) _ I M
      refine FC n rfl hn rfl ?_
      refine ⟨undef,.inr ⟨rfl,rfl⟩,h _ _ ?_⟩
      rw [hf.1]
      exact NM his k v cl
    | some p=>
      obtain ⟨j,w⟩:=p
      rw [hkv] at hf
      simp only [Nat.sub_zero] at hf
      obtain ⟨_,h1,_,h2⟩:=hf
      have hold:((es[j]?).map (·.key)).getD (enc k)=enc k:=by
        have:=congrArg (fun l=>(l[j]?).map Prod.fst) his
        simp only [List.getElem?_map,Array.getElem?_toList,Option.map_map] at this
        cases he:es[j]? with
        | none=>rfl
        | some e=>
          rw [he] at this
          cases hq:kvs[j]? with
          | none=>rw [hq] at this;simp at this
          | some q=>
            rw [hq] at this h2
            simp [NS] at this h2
            simp [this,h2]
      have key:∀ key,key=enc k→wpL P (Sem.setObj r (.map (es.modify j fun e=>{ e with key,val:=v }) cl) (Sem.pure ())) (fun _ M'=>wpL P (pure Next.skip) (fun n M'=>∃ v,(n=.value v∨(n=.skip∧v=undef))∧K (ups none v l) I M') I M') I M:=fun key hkey=>by
        refine FC n rfl hn rfl ?_
        refine ⟨undef,.inr ⟨rfl,rfl⟩,h _ _ ?_⟩
        rw [h1]
        exact PL his j k v key hkey
      show wpL P (Instr.keyThatStays (((es[j]?).map (·.key)).getD (enc k)) (enc k) >>= _) _ I M
      rw [AD,hold]
      unfold Instr.keyThatStays
      split
      · exact key _ rfl
      · rw [AD]
        show (if (Question.extern "map.whichKeyStays" 2).forced then _ else ∀ t,_)
        split
        · refine key _ ?_;split <;> rfl
        · intro t;refine key _ ?_;split <;> rfl)
end
end Go.Sl
namespace Go.Sh
open Go Go.Sl
def YardH (T:TypeId) (I:Imm) (v:Value) (Y:Yard):Prop:=
  ∃ b v1 v2 v3,v=.pointer (some ⟨b,0,none⟩)∧I.blk b=some (Obj.cells #[v1,v2,v3] T (0,0))∧IsCars I v1 Y.cars∧DB I v2 Y.room∧IsRows I v3 Y.tracks
def YardsH (T:TypeId) (I:Imm) (vs:List Value) (zs:List Yard):Prop:=vs.length=zs.length∧∀ i,i<zs.length→YardH T I (vs.getD i undef) (zs.getD i noYard)
theorem YardsH.nil (T:TypeId) (I:Imm):YardsH T I [] []:=⟨rfl,fun i hi=>by simp at hi⟩
structure VisOk (A:Yard) (s:List KY × List Yard):Prop where
  met:∃ m:List Yard,s.1=m.map placeOf∧(∀ y∈m,Kin A y)∧(m.map Yard.tracks).Nodup
  kin:∀ y∈s.2,Kin A y
  le:s.2.length≤s.1.length
theorem VisOk.count {A:Yard} {s:List KY × List Yard} (h:VisOk A s) (f:Fine A):s.1.length≤5000∧s.2.length≤5000:=by
  obtain ⟨m,e,hk,hn⟩:=h.met;have hs:m.map Yard.tracks ⊆ allCuts A.tracks.length 5 A.tracks.flatten:=fun t ht=>by
    obtain ⟨y,hy,rfl⟩:=List.mem_map.1 ht;exact kin_mem f (hk y hy) f.sum
  have:=hn.length_le_of_subset hs;rw [List.length_map,allCuts_length] at this;have hf:fact A.tracks.flatten.length≤120:=by
    match A.tracks.flatten.length,f.sum with
    | 0,_ | 1,_ | 2,_ | 3,_ | 4,_ | 5,_=>decide
  have h2:fact A.tracks.flatten.length*((5+1)*(5+1))≤120*36:=Nat.mul_le_mul_right 36 hf;have h3:s.1.length=m.length:=by rw [e,List.length_map]
  have:=h.le;omega
theorem VisOk.visit {A:Yard} {s:List KY × List Yard} {z:Yard} (h:VisOk A s) (f:Fine A) (hz:Kin A z):VisOk A (visit s z):=by
  obtain ⟨m,e,hk,hn⟩:=h.met;have hle:=h.le;unfold Go.Sh.visit
  split
  · exact h
  · rename_i hm
    refine ⟨⟨m++[z],by simp [e],fun y hy=>?_,?_⟩,fun y hy=>?_,by simp only [List.length_append,List.length_cons,List.length_nil];omega⟩
    · rcases List.mem_append.1 hy with hy | hy
      · exact hk y hy
      · simp at hy;subst hy;exact hz
    · rw [List.map_append]
      refine List.nodup_append.2 ⟨hn,by simp,fun a ha b hb=>?_⟩;simp at hb;subst hb;intro e2;obtain ⟨y,hy,rfl⟩:=List.mem_map.1 ha;have:=kin_tracks (hk y hy) hz e2;subst this;exact hm (e▸List.mem_map_of_mem hy)
    · rcases List.mem_append.1 hy with hy | hy
      · exact h.kin y hy
      · simp at hy;subst hy;exact hz
theorem VisOk.visitAll {A:Yard} (f:Fine A):∀ (zs:List Yard) (s:List KY × List Yard),VisOk A s→(∀ z∈zs,Kin A z)→VisOk A (visitAll zs s):=by
  intro zs
  induction zs with
  | nil=>intro s h _;exact h
  | cons z r ih=>intro s h hk;exact ih _ (h.visit f (hk z List.mem_cons_self)) (fun y hy=>hk y (List.mem_cons_of_mem _ hy))
theorem VisOk.fresh {A:Yard} {s:List KY × List Yard} (h:VisOk A s):VisOk A (s.1,[]):=⟨h.met,fun y hy=>by simp at hy,Nat.zero_le _⟩
theorem VisOk.start (A:Yard):VisOk A ([placeOf A],[A]):=⟨⟨[A],rfl,fun y hy=>by simp at hy;subst hy;exact Kin.refl _,by simp⟩,fun y hy=>by simp at hy;subst hy;exact Kin.refl _,by simp⟩
def visJ (met:List KY) (now:List Yard) (j:Nat):List KY × List Yard:=visitAll ((now.take j).flatMap nexts) (met,[])
def visX (s:List KY × List Yard) (x:Yard) (xs:List Shift):List KY × List Yard:=visitAll (xs.map (moved x)) s
theorem VisOk.j {A:Yard} (f:Fine A) {met:List KY} {now:List Yard} (h:VisOk A (met,now)) (j:Nat):VisOk A (visJ met now j):=
  VisOk.visitAll f _ _ h.fresh (flat_kin fun y hy=>h.kin y (List.mem_of_mem_take hy))
theorem VisOk.x {A:Yard} (f:Fine A) {s:List KY × List Yard} {x:Yard} (h:VisOk A s) (hx:Kin A x) {xs:List Shift} (hp:xs <+: draws x):VisOk A (visX s x xs):=
  VisOk.visitAll f _ _ h fun y hy=>by
    obtain ⟨d,hd,rfl⟩:=List.mem_map.1 hy;exact hx.moved (PN (hp.subset hd))
end Go.Sh
namespace Go.Sl
open Go
theorem IsRows.split {I:Imm} {v:Value} {xss:List (List Int)} (h:IsRows I v xss):∃ vs:List Value,IsVals I v vs∧RowsV I vs xss:=by
  obtain ⟨a,c,b,o,f,h1,h2,h3,h4,h5⟩:=h;have hl:((List.range xss.length).map f).length=xss.length:=by simp
  have hg:∀ i,i<xss.length→((List.range xss.length).map f).getD i undef=f i:=fun i hi=>by simp [List.getD,hi]
  refine ⟨(List.range xss.length).map f,⟨a,c,b,o,by rw [hl];exact h1,by rw [hl];exact h2,by rw [hl];exact h3,?_⟩,hl,fun i hi=>by rw [hg i hi];exact h5 i hi⟩;rw [hl];refine ⟨h4.addr,fun i hi g hg2=>?_⟩;have:=h4.get i hi g hg2;show ICell I _ (((List.range xss.length).map f).getD i undef);rw [hg i hi];exact this
theorem RowsV.take {I:Imm} {vs:List Value} {xss:List (List Int)} (h:RowsV I vs xss) (k:Nat):RowsV I (vs.take k) (xss.take k):=by
  refine ⟨by simp [h.1],fun i hi=>?_⟩;have hi2:i<k∧i<xss.length:=by rw [List.length_take] at hi;omega
  have:=h.2 i hi2.2;simp only [List.getD] at this ⊢;rw [List.getElem?_take_of_lt hi2.1,List.getElem?_take_of_lt hi2.1];exact this
theorem RowsV.drop {I:Imm} {vs:List Value} {xss:List (List Int)} (h:RowsV I vs xss) (k:Nat):RowsV I (vs.drop k) (xss.drop k):=by
  refine ⟨by simp [h.1],fun i hi=>?_⟩;have hi2:k+i<xss.length:=by simp at hi;omega
  have:=h.2 (k+i) hi2;simp only [List.getD] at this ⊢;rw [List.getElem?_drop,List.getElem?_drop];exact this
theorem RowsV.append {I:Imm} {vs ws:List Value} {xss yss:List (List Int)} (h:RowsV I vs xss) (k:RowsV I ws yss):RowsV I (vs++ws) (xss++yss):=by
  have h1:=h.1;refine ⟨by simp [h.1,k.1],fun i hi=>?_⟩;simp only [List.length_append] at hi
  by_cases e:i<xss.length
  · have:=h.2 i e
    simp only [List.getD] at this ⊢;rw [List.getElem?_append_left (by omega),List.getElem?_append_left e];exact this
  · have:=k.2 (i-xss.length) (by omega)
    simp only [List.getD] at this ⊢;rw [List.getElem?_append_right (by omega),List.getElem?_append_right (by omega),h1];exact this
end Go.Sl
namespace Go.Sh
open Go Go.Sl
section
variable {xs ys:List Int} {k:Nat}
end
section
variable {o l:List Int} {k:Nat}
end
section
variable {α β:Type}
variable {f:α→β→β} {d:α} {bl:List α} {rec:List α→List β} {k:Nat}
end
end Go.Sh
namespace Go.Sl
open Go
section
variable {P:Program} [Jud P] {N:Nat} {ops:Array Oper} {i:Nat} {l:Sl} {I:Imm} {R M:Seg} {ty:TypeId} {gd:Option (Nat × Bool)} {K:Sl→Imm→Seg→Prop} {d:Nat}
theorem QG {x : Operand} {T E bs n : Nat} {z zv : Value} (hop : EL ops N i = some (some d, .makeSlice T x x, ty, gd)) (hg : EK ops l gd = some true)
    (hT:HU P T=some E) (hsz:DR P E=some 1) (hz:HK P E=some z) (hzc:z.cells=#[zv]) (hb:JD P E=some bs) (hbs:1≤bs∧bs≤256)
    (hx:BK l x=some (.int .i64 (n:Int))) (hn:n≤1000000)
    (next:∀ b,K ((d,.slice (some ⟨b,0,none⟩) n n)::l) I ((b,Obj.cells (List.replicate n zv).toArray E (0,0))::M)):Stp P N ops i l I M K:=by
  have hinfo:∃ inf,P.info? E=some inf∧inf.bytes=bs:=by
    unfold JD at hb;cases hi:P.info? E with
    | none=>rw [hi] at hb;cases hb
    | some inf=>rw [hi] at hb;exact ⟨inf,rfl,by simpa using hb⟩
  obtain ⟨inf,hinf,hbytes⟩:=hinfo;refine CI hop hg (HO hx hx) ?_;show wpL P (Instr.makeSlice T (rho l x) (rho l x) >>= fun x=>pure (Next.value x)) _ I M;refine CB ?_;rw [AU hx];have hw:IntKind.i64.wrap (n:Int)=(n:Int):=QL ⟨by omega,by omega⟩;have hbig:¬ ((inf.bytes:Int)*(n:Int)>2 ^ 48):=by
    have h1:inf.bytes*n≤256*1000000:=Nat.mul_le_mul (by omega) hn;have h2:((inf.bytes*n:Nat):Int)≤((256*1000000:Nat):Int):=Int.ofNat_le.2 h1;rw [Int.natCast_mul] at h2;omega
  unfold Instr.makeSlice;rw [AD,AJ (CT hT)];show wpL P (pure (n:Int) >>= _) _ I M;rw [AD,CL];show wpL P (pure (n:Int) >>= _) _ I M;rw [AD,CL,AD,CF hinf];simp only [hw];have hc:(decide ((n:Int)<0)||decide ((inf.bytes:Int)*(n:Int)>2 ^ 48)||decide ((n:Int)<0)||decide ((n:Int)>(n:Int)))=false:=by
    rw [decide_eq_false (show ¬ (n:Int)<0 by omega),decide_eq_false hbig,decide_eq_false (show ¬ (n:Int)>n by omega)];rfl
  rw [if_neg (by rw [hc];simp)];rw [AD];have hask:∀ (n:Nat) (Q:Unit→Seg→Prop),Q () M→wpL P (askRoom n) Q I M:=fun n Q hq=>by
    unfold askRoom
    split
    · exact ⟨trivial,hq⟩
    · exact hq
  refine hask _ _ ?_;rw [AD,BL hsz];simp only [Int.toNat_natCast,Nat.mul_one]
  by_cases h0:n=0
  · rw [if_pos h0,AD,CL,AD]
    intro b;refine ⟨_,.inl rfl,?_⟩;have e:(Array.range n).map (fun k=>(#[]:Array Value)[k%(#[]:Array Value).size]!)=(List.replicate n zv).toArray:=by subst h0;simp
    rw [e];exact next b
  rw [if_neg h0,AD,DI hz,AD,CL,AD];intro b;refine ⟨_,.inl rfl,?_⟩;have e:(Array.range n).map (fun k=>z.cells[k%z.cells.size]!)=(List.replicate n zv).toArray:=by
    rw [hzc]
    apply Array.ext
    · simp
    · intro i h1 h2
      simp [Nat.mod_one]
  rw [e];exact next b
end
structure Lent (I J:Imm) (Ms:Seg):Prop where
  free:∀ b o,(b,o)∈Ms→I.blk b=none
  held:∀ b o,(b,o)∈Ms→J.blk b=some o
  own:∀ b o,(b,o)∈Ms→¬ I.pub b
  nodup:(Ms.map Prod.fst).Nodup
theorem Lent.mono {I J K:Imm} {Ms:Seg} (h:Lent I J Ms) (le:J.le K):Lent I K Ms:=⟨h.free,fun b o hm=>le.blk _ _ (h.held b o hm),h.own,h.nodup⟩
theorem Own.lend {α : Type} {E : TypeId} {sz : Nat} {cell : α → Nat → Value} {v : Value} {xs : List α} {Ms M : Seg} {I : Imm} {w : GW} (dflt : α) (h : Own E sz cell v xs Ms) (hl : xs.length ≤ 140737488355328) (st : St I (Ms ++ M) w) :
    ∃ J,I.le J∧IsSl sz cell dflt J v xs∧Lent I J Ms∧St J M w:=by
  rcases h with ⟨rfl,rfl,rfl⟩ | ⟨b,c,sp,rfl,h,rfl,hc⟩
  · exact ⟨I,Imm.le.refl I,⟨none,0,0,0,rfl,Nat.le_refl _,by simp,⟨fun h=>by simp at h,fun i hi=>by simp at hi⟩⟩,⟨fun _ _ h=>by simp at h,fun _ _ h=>by simp at h,fun _ _ h=>by simp at h,by simp⟩,st⟩
  · have hb:I.blk b=none:=st.disj b (Obj.cells (BX sz cell xs++sp).toArray E (0,0)) (by simp)
    refine ⟨I.add b _,Imm.le_add hb,⟨_,c,b,0,rfl,h,hl,⟨fun _=>rfl,fun i hi f hf=>⟨rfl,_,E,(0,0),Imm.add_same I b _,?_⟩⟩⟩,⟨fun b' o hm=>?_,fun b' o hm=>?_,fun b' o hm=>?_,by simp⟩,St.freeze st⟩
    · have hlt : i * sz + f < (BX sz cell xs).length := by
        rw [BG];have:i*sz+sz≤xs.length*sz:=by rw [← Nat.succ_mul];exact Nat.mul_le_mul_right _ hi
        omega
      simp only [List.getElem?_toArray,Nat.zero_add];rw [List.getElem?_append_left hlt];exact TI sz cell dflt xs i f hi hf
    · have:=List.mem_singleton.1 hm;cases this;exact hb
    · have:=List.mem_singleton.1 hm;cases this;exact Imm.add_same I b _
    · have:=List.mem_singleton.1 hm;cases this;exact st.own b (Obj.cells (BX sz cell xs++sp).toArray E (0,0)) (by simp)
theorem St.thaw {I J:Imm} {M Ms:Seg} {w:GW} (h:Lent I J Ms) (le:I.le J) (st:St J M w):∃ K,I.le K∧St K (Ms++M) w:=by
  have hk:∀ b,b∈Ms.map Prod.fst→∃ o,(b,o)∈Ms:=fun b hb=>by
    obtain ⟨⟨c,o⟩,hm,e⟩:=List.mem_map.1 hb;cases e;exact ⟨o,hm⟩
  refine ⟨{ J with blk:=fun b=>if b∈Ms.map Prod.fst then none else J.blk b },⟨le.os,le.tape,le.output,le.pub,le.gh,fun b o hb=>?_⟩,⟨st.os,st.tape,st.output,st.pub,st.gh,fun b o hb=>?_,fun b o hm=>?_,fun b o hm=>?_,?_,fun b o hm=>?_⟩⟩
  · show (if b∈Ms.map Prod.fst then none else J.blk b)=some o
    rw [if_neg]
    · exact le.blk b o hb
    · intro hm
      obtain ⟨o2,h2⟩:=hk b hm;rw [h.free b o2 h2] at hb;cases hb
  · change (if b∈Ms.map Prod.fst then none else J.blk b)=some o at hb
    split at hb
    · cases hb
    · exact st.imm b o hb
  · rcases List.mem_append.1 hm with hm | hm
    · exact st.imm b o (h.held b o hm)
    · exact st.mem b o hm
  · show ¬ J.pub b
    rcases List.mem_append.1 hm with hm | hm
    · rw [le.pub];exact h.own b o hm
    · exact st.own b o hm
  · rw [List.map_append]
    refine List.nodup_append.2 ⟨h.nodup,st.nodup,fun a ha b hb e=>?_⟩;subst e;obtain ⟨o,ho⟩:=hk a ha;obtain ⟨⟨c,o2⟩,hm,e⟩:=List.mem_map.1 hb;cases e;have:=st.disj _ _ hm;rw [h.held _ _ ho] at this;cases this
  · show (if b∈Ms.map Prod.fst then none else J.blk b)=none
    rcases List.mem_append.1 hm with hm | hm
    · rw [if_pos (List.mem_map_of_mem (f:=Prod.fst) hm)]
    · split
      · rfl
      · exact st.disj b o hm
section
variable {ρ:Option Nat} {P:Program} [Jud P] {N:Nat} {ds:List Deferred} {l:Sl} {I:Imm} {M A B Ms:Seg} {Q:Exit→Act→GW→Prop} {c:Code}
end
theorem ct_own {α : Type} {E : TypeId} {sz : Nat} {cell : α → Nat → Value} {v : Value} {xs : List α} {Ms : Seg} {I : Imm} {P : Program} {f : FuncId} {args : Array Value} {u : Value} (dflt : α) (h : Own E sz cell v xs Ms) (hl : xs.length ≤ 140737488355328)
    (ct:∀ J,I.le J→IsSl sz cell dflt J v xs→CtV P f args J u):Ct P f args I Ms (fun r _ M'=>r=u∧M'=Ms):=by
  refine ⟨fun F w st=>?_⟩;obtain ⟨J,h1,h2,h3,h4⟩:=h.lend dflt hl st;refine ((ct J h1 h2).all F w h4).mono fun r w' ⟨I',M',hle,⟨hr,hm⟩,st'⟩=>?_
  subst hm;obtain ⟨K,k1,k2⟩:=St.thaw (h3.mono hle) (h1.trans hle) (by simpa using st');exact ⟨K,Ms,k1,⟨hr,rfl⟩,k2⟩
theorem encL_split {α : Type} (sz : Nat) (cell : α → Nat → Value) (dflt : α) (xs : List α) (j : Nat) (h : j < xs.length) :
    BX sz cell xs=BX sz cell (xs.take j)++((List.range sz).map (cell (xs.getD j dflt))++BX sz cell (xs.drop (j+1))):=by
  have e:xs=xs.take j++xs.getD j dflt::xs.drop (j+1):=by
    have:xs.drop j=xs.getD j dflt::xs.drop (j+1):=by
      rw [List.drop_eq_getElem_cons h];simp [List.getD,h]
    rw [← this,List.take_append_drop]
  conv=>lhs;rw [e]
  simp only [BX,List.flatMap_append,List.flatMap_cons]
theorem encL_setAll {α : Type} (sz : Nat) (cell : α → Nat → Value) (z : α) (xs : List α) (j : Nat) (h : j < xs.length) :
    BX sz cell (xs.set j z)=BX sz cell (xs.take j)++((List.range sz).map (cell z)++BX sz cell (xs.drop (j+1))):=by
  rw [List.set_eq_take_append_cons_drop,if_pos h];simp only [BX,List.flatMap_append,List.flatMap_cons]
section
variable {ρ:Option Nat} {P:Program} [Jud P] {N:Nat} {ops:Array Oper} {i:Nat} {l:Sl} {I:Imm} {M:Seg} {ty:TypeId} {gd:Option (Nat × Bool)} {K:Sl→Imm→Seg→Prop}
theorem GH {α : Type} {T : TypeId} {x y : Operand} {v : Value} {E sz : Nat} {cell : α → Nat → Value} {a : Option Addr} {n c b : Nat} {xs : List α} {Ms R : Seg} {rc : Nat → Nat → Value} (dflt : α) (j : Nat) (z : α)
    (hop:EL ops N i=some (none,.store T x y,ty,gd)) (hg:EK ops l gd=some true) (own:Own E sz cell (.slice a n c) xs Ms) (row:ORow sz Ms a b xs.length rc) (hj:j<xs.length)
    (hx:BK l x=some (.pointer (some ⟨b,0+j*sz,none⟩))) (hy:BK l y=some v) (hsz:DR P T=some sz) (hv:v.cells.toList=(List.range sz).map (cell z)) (hone:∀ w∈(List.range sz).map (cell z),CS w=true)
    (hM:M.Perm (Ms++R)) (next:∀ Ms',Own E sz cell (.slice a n c) (xs.set j z) Ms'→K l I (Ms'++R)):Stp P N ops i l I M K:=by
  have ha:=row.addr (by omega);rcases own with ⟨hv',rfl,rfl⟩ | ⟨b',c',sp,hv',hcap,rfl,hlen⟩
  · simp at hj
  · simp only [Value.slice.injEq] at hv'
    obtain ⟨rfl,rfl,rfl⟩:=hv';simp only [Option.some.injEq,Addr.mk.injEq,and_true] at ha;subst ha;refine KD hop hg (HO hx hy) hM ?_;show wpL P (Instr.storeAt T (rho l x) (rho l y) >>= fun _=>pure Next.skip) _ I _;rw [AU hx,AU hy,AD];show wpL P (storeVar T ⟨b',0+j*sz,none⟩ v) _ I _;unfold storeVar;rw [AD,BL hsz];have hl:v.cells.size=sz:=by rw [← Array.length_toList,hv];simp
    rw [if_neg (by simp [hl])];show wpL P (storeCells ⟨b',0+j*sz,none⟩ v.cells.toList) _ I _;rw [hv];have hs:=encL_split sz cell dflt xs j hj;have hA:(BX sz cell (xs.take j)).length=j*sz:=by rw [BG,List.length_take,Nat.min_eq_left (by omega)]
    refine FR (T:=E) (k:=0) ((List.range sz).map (cell z)) 0 _ (BX sz cell xs++sp).toArray _ (by simp) ?_ hone ?_
    · rw [hs]
      simp only [List.size_toArray,List.length_append,List.length_map,List.length_range,hA];omega
    · refine ⟨undef,_,.inr ⟨rfl,rfl⟩,List.Sublist.refl _,?_⟩
      have e2:KC (BX sz cell xs++sp).toArray (0+j*sz+0) ((List.range sz).map (cell z))=(BX sz cell (xs.set j z)++sp).toArray:=by
        apply Array.ext'
        have:=JN ((List.range sz).map (cell z)) (BX sz cell (xs.take j)) ((List.range sz).map (cell (xs.getD j dflt))++BX sz cell (xs.drop (j+1))++sp) (by simp);rw [hA] at this;rw [hs,encL_setAll sz cell z xs j hj,show 0+j*sz+0=j*sz by omega,List.append_assoc,this];simp
      rw [e2];exact next _ (.inr ⟨b',c,sp,by simp,by simpa using hcap,rfl,by rw [← hlen,List.length_append,List.length_append,BG,BG,List.length_set]⟩)
end
abbrev EqS (R:Seg):Seg→Prop:=fun X=>X=R
inductive FpOk (ops:Array Oper) (i:Nat) (M:Seg):List (Nat × (Seg→Prop))→Prop
  | nil:FpOk ops i M []
  | wait {k:Nat} {pr:Seg→Prop} {fp:List (Nat × (Seg→Prop))}:wt ops i k=true→FpOk ops i M fp→FpOk ops i M ((k,pr)::fp)
  | none {k:Nat} {fp:List (Nat × (Seg→Prop))}:FpOk ops i M fp→FpOk ops i M ((k,EqS [])::fp)
  | part {k:Nat} {R Sx:Seg} {fp:List (Nat × (Seg→Prop))}:M.Perm (R++Sx)→FpOk ops i M fp→FpOk ops i M ((k,EqS R)::fp)
  | other {k:Nat} {pr:Seg→Prop} {R Sx:Seg} {fp:List (Nat × (Seg→Prop))}:pr R→M.Perm (R++Sx)→FpOk ops i M fp→FpOk ops i M ((k,pr)::fp)
theorem FpOk.all {ops:Array Oper} {i:Nat} {M:Seg} {fp:List (Nat × (Seg→Prop))} (h:FpOk ops i M fp):∀ p∈fp,wt ops i p.1=true∨∃ Rx Sx,p.2 Rx∧M.Perm (Rx++Sx):=by
  induction h with
  | nil=>intro p hp;simp at hp
  | wait h _ ih=>
    intro p hp;rcases List.mem_cons.1 hp with rfl | hp
    · exact .inl h
    · exact ih p hp
  | none _ ih=>
    intro p hp;rcases List.mem_cons.1 hp with rfl | hp
    · exact .inr ⟨[],M,rfl,List.Perm.refl _⟩
    · exact ih p hp
  | part h _ ih=>
    intro p hp;rcases List.mem_cons.1 hp with rfl | hp
    · exact .inr ⟨_,_,rfl,h⟩
    · exact ih p hp
  | other h h2 _ ih=>
    intro p hp;rcases List.mem_cons.1 hp with rfl | hp
    · exact .inr ⟨_,_,h,h2⟩
    · exact ih p hp
section
variable {P:Program} [Jud P] {N:Nat} {ops:Array Oper} {als:List Nat} {al:List (Nat × Nat × Fresh)} {L0:Sl} {F0:Seg} {Kf:Sl→Imm→Seg→Prop} {fp:List (Nat × (Seg→Prop))} {rest:List (Nat × Bool)} {i d:Nat} {v:Value} {l:Sl} {I:Imm} {M M':Seg}
def lkB (d:Nat) (v:Value) (L0:Sl):Prop:=match look d L0 with | some u=>v=u | none=>True
theorem lkOk {L0:Sl} {d:Nat} {v:Value} (h:lkB d v L0):∀ u,look d L0=some u→v=u:=fun u hu=>by
  unfold lkB at h;rw [hu] at h;exact h
theorem AG (h:Det P N ops i l I M d v) (next:OFPX P N ops als F0 Kf al L0 ((i,EqS M)::fp) rest ((d,v)::l) I M) (hL:lkB d v L0:=by first | exact trivial | exact rfl):OFPX P N ops als F0 Kf al L0 fp ((i,true)::rest) l I M:=⟨d,v,EqS M,M,[],fun _ e=>e▸h,rfl,by simp,lkOk hL,next⟩
theorem BH (h:Det P N ops i l I [] d v) (next:OFPX P N ops als F0 Kf al L0 ((i,EqS [])::fp) rest ((d,v)::l) I M) (hL:lkB d v L0:=by first | exact trivial | exact rfl):OFPX P N ops als F0 Kf al L0 fp ((i,true)::rest) l I M:=⟨d,v,EqS [],[],M,fun _ e=>e▸h,rfl,by simp,lkOk hL,next⟩
theorem PT {Rx Sx:Seg} (hp:M.Perm (Rx++Sx)) (h:Det P N ops i l I Rx d v) (next:OFPX P N ops als F0 Kf al L0 ((i,EqS Rx)::fp) rest ((d,v)::l) I M) (hL:lkB d v L0:=by first | exact trivial | exact rfl):OFPX P N ops als F0 Kf al L0 fp ((i,true)::rest) l I M:=⟨d,v,EqS Rx,Rx,Sx,fun _ e=>e▸h,rfl,hp,lkOk hL,next⟩
theorem JM (pr:Seg→Prop) {Rx Sx:Seg} (hq:pr Rx) (hp:M.Perm (Rx++Sx)) (h:∀ X,pr X→Det P N ops i l I X d v) (next:OFPX P N ops als F0 Kf al L0 ((i,pr)::fp) rest ((d,v)::l) I M) (hL:lkB d v L0:=by first | exact trivial | exact rfl):OFPX P N ops als F0 Kf al L0 fp ((i,true)::rest) l I M:=⟨d,v,pr,Rx,Sx,h,hq,hp,lkOk hL,next⟩
theorem ofx_ac {T:TypeId} {cs:Array Value} (ha:CC al i=some (d,.cl T cs)) (next:∀ b,OFPX P N ops als F0 Kf al L0 fp rest ((d,.pointer (some ⟨b,0,none⟩))::l) I ((b,Obj.cells cs T (0,0))::M)):OFPX P N ops als F0 Kf al L0 fp ((i,false)::rest) l I M:=by
  unfold OFPX;rw [ha];exact next
theorem ofx_bs {T:TypeId} {n:Nat} {cs:Array Value} (ha:CC al i=some (d,.bs T n cs)) (next:∀ b,OFPX P N ops als F0 Kf al L0 fp rest ((d,.slice (some ⟨b,0,none⟩) n n)::l) I ((b,Obj.cells cs T (0,0))::M)):OFPX P N ops als F0 Kf al L0 fp ((i,false)::rest) l I M:=by
  unfold OFPX;rw [ha];exact next
def dsB (ops:Array Oper) (i:Nat) (L0:Sl):Bool:=match DW ops i with | some d=>(look d L0).isNone | none=>true
theorem dsB_nil (ops:Array Oper) (i:Nat):dsB ops i []=true:=by unfold dsB;split <;> rfl
theorem dsB_spec {L0:Sl} (h:dsB ops i L0=true):∀ d,DW ops i=some d→look d L0=none:=fun d hd=>by
  unfold dsB at h;rw [hd] at h;simpa using h
def knB (ops:Array Oper) (als:List Nat) (al:List (Nat × Nat × Fresh)) (rest:List (Nat × Bool)):Bool:=als.all fun j=>(CC al j).isSome||rest.any fun x=>!x.2&&(wt ops j x.1&&!(isAl als x.1))
theorem knB_spec (h:knB ops als al rest=true):Known ops als al rest:=fun j hj=>by
  obtain ⟨k,hk,e⟩:=List.any_eq_true.1 (show (als.any fun k=>Nat.beq k j)=true from hj);obtain rfl:=Nat.eq_of_beq_eq_true e;have:=List.all_eq_true.1 h k hk;simp only [Bool.or_eq_true,List.any_eq_true,Bool.and_eq_true,Bool.not_eq_true'] at this;rcases this with h1 | ⟨⟨a,b⟩,h2,h3,h4,h5⟩
  · exact .inl (Option.isSome_iff_exists.1 h1)
  · simp only at h3 h4 h5
    subst h3;exact .inr ⟨a,h2,h4,h5⟩
theorem EZ {Mx : Seg → Seg} (ha : CC al i = none) (hp : ∀ F, (Mx F).Perm (M ++ F))
    (h:∀ F,Stp P N ops i l I (Mx F) fun l' I' M'=>∃ M1 al' L0',M'.Perm (M1++F)∧FpOk ops i M1 fp∧Ext P N ops als al L0 al' L0' l'∧knB ops als al' rest=true∧OFPX P N ops als F0 Kf al' L0' fp rest l' I' M1) (hS:dsB ops i L0=true:=by first | exact dsB_nil _ _ | kernel_rfl):OFPX P N ops als F0 Kf al L0 fp ((i,false)::rest) l I M:=by
  unfold OFPX;rw [ha];refine ⟨dsB_spec hS,?_⟩;exact fun F _=>Stp.perm (hp F).symm (Stp.mono (h F) fun l' I' M' ⟨M1,al',L0',a,b,e,k,c⟩=>⟨M1,al',L0',a,b.all,e,knB_spec k,c⟩)
theorem HJ {F M1:Seg} (hp:M'.Perm (M1++F)) (hf:FpOk ops i M1 fp) (next:OFPX P N ops als F0 Kf al L0 fp rest l I M1) (hk:knB ops als al rest=true:=by kernel_rfl):∃ M1 al' L0',M'.Perm (M1++F)∧FpOk ops i M1 fp∧Ext P N ops als al L0 al' L0' l∧knB ops als al' rest=true∧OFPX P N ops als F0 Kf al' L0' fp rest l I M1:=⟨M1,al,L0,hp,hf,.inl ⟨rfl,rfl⟩,hk,next⟩
def asB (als:List Nat) (al:List (Nat × Nat × Fresh)):Bool:=al.all fun x=>isAl als x.1
theorem alFind_in:∀ (al:List (Nat × Nat × Fresh)) {i d:Nat} {E:Fresh},CC al i=some (d,E)→(i,d,E)∈al:=by
  intro al
  induction al with
  | nil=>intro i d E h;cases h
  | cons x r ih=>
    intro i d E h;unfold CC at h;cases hb:Nat.beq x.1 i with
    | true=>
      rw [hb] at h;simp only [cond_true,Option.some.injEq] at h;have e:=Nat.eq_of_beq_eq_true hb;rcases x with ⟨x1,x2⟩
      simp only at h e;subst h e;exact List.mem_cons_self
    | false=>
      rw [hb] at h;exact List.mem_cons_of_mem _ (ih h)
theorem asB_spec (h:asB als al=true):∀ i d E,CC al i=some (d,E)→isAl als i=true:=fun i d E hi=>List.all_eq_true.1 h _ (alFind_in al hi)
theorem GM (h:Kf l I M):OFPX P N ops als F0 Kf al L0 fp [] l I M:=h
def noLooks (ops:Array Oper) (i:Nat):Bool:=match ops[i]? with | some o=>(o.looksAt ops).isEmpty | none=>false
theorem SL (h2:noLooks ops i=true) (t:Nat):EA ops i t=false:=by
  unfold noLooks at h2;unfold EA;cases ho:ops[i]? with
  | none=>rfl
  | some o=>
    rw [ho] at h2;simp only [List.isEmpty_iff] at h2;simp [h2]
def supB (ops:Array Oper) (i:Nat) (L0:Sl):Bool:=match ops[i]? with
  | some o=>(o.looksAt ops).all fun t=>(look t L0).isSome&&(List.range ops.size).all fun k=>!(dstB ops k t)||wt ops i k
  | none=>false
theorem supB_spec {L0:Sl} (h:supB ops i L0=true):∀ t,EA ops i t=true→∃ u,look t L0=some u∧∀ k,DW ops k=some t→wt ops i k=true:=fun t ht=>by
  unfold supB at h;unfold EA at ht;cases ho:ops[i]? with
  | none=>rw [ho] at h;cases h
  | some o=>
    rw [ho] at h ht;simp only [List.all_eq_true,Bool.and_eq_true,List.any_eq_true,Bool.or_eq_true,Bool.not_eq_true'] at h ht;obtain ⟨u,hu,e⟩:=ht;obtain rfl:=Nat.eq_of_beq_eq_true e;obtain ⟨h1,h2⟩:=h u hu;obtain ⟨v,hv⟩:=Option.isSome_iff_exists.1 h1;refine ⟨v,hv,fun k hk=>?_⟩;rcases h2 k (List.mem_range.2 (SA hk)) with h3 | h3
    · rw [QR hk] at h3;cases h3
    · exact h3
theorem alOk_cl {T:TypeId} {cs:Array Value} (h1:DW ops i=some d) (h2:noLooks ops i=true) (h3:alAt P N ops [] i=some (d,T,cs)):AlOk P N ops [] i d (.cl T cs):=
  ⟨h1,rfl,(fun t ht=>by rw [SL h2] at ht;cases ht),fun I M=>sal d T cs (fun b=>⟨b,rfl,rfl,rfl⟩) h3⟩
theorem alOk_bsL {L0:Sl} {T:TypeId} {n:Nat} {cs:Array Value} (h1:DW ops i=some d) (h0:look d L0=none) (h2:supB ops i L0=true) (h3:bsAt P N ops L0 i=some (d,T,n,cs)):AlOk P N ops L0 i d (.bs T n cs):=
  ⟨h1,h0,supB_spec h2,fun I M=>sbs d T n cs (fun b=>⟨b,rfl,rfl,rfl⟩) h3⟩
theorem JH:∀ i d E,CC [] i=some (d,E)→AlOk P N ops L0 i d E:=fun _ _ _ h=>by cases h
theorem OI {E:Fresh} (h:AlOk P N ops L0 i d E) (r:∀ i d E,CC al i=some (d,E)→AlOk P N ops L0 i d E):∀ i' d' E',CC ((i,d,E)::al) i'=some (d',E')→AlOk P N ops L0 i' d' E':=fun i' d' E' h'=>by
  unfold CC at h';cases hb:Nat.beq i i' with
  | true=>
    have e:=Nat.eq_of_beq_eq_true hb;rw [hb] at h';simp only [cond_true,Option.some.injEq,Prod.mk.injEq] at h';obtain ⟨rfl,rfl⟩:=h';exact e▸h
  | false=>
    rw [hb] at h';exact r i' d' E' h'
end
def alInjS (ops:Array Oper) (als:List Nat):Bool:=als.all fun i=>als.all fun j=>Nat.beq i j||!(match DW ops i,DW ops j with | some a,some b=>Nat.beq a b | _,_=>false)
theorem alInjS_spec {ops:Array Oper} {als:List Nat} (h:alInjS ops als=true):∀ i j d,isAl als i=true→isAl als j=true→DW ops i=some d→DW ops j=some d→i=j:=fun i j d hi hj h1 h2=>by
  obtain ⟨k,hk,e⟩:=List.any_eq_true.1 (show (als.any fun k=>Nat.beq k i)=true from hi);obtain rfl:=Nat.eq_of_beq_eq_true e;obtain ⟨k',hk',e'⟩:=List.any_eq_true.1 (show (als.any fun k=>Nat.beq k j)=true from hj);obtain rfl:=Nat.eq_of_beq_eq_true e';have:=List.all_eq_true.1 (List.all_eq_true.1 h _ hk) _ hk';rw [h1,h2] at this;simp only [Nat.beq_refl,Bool.not_true,Bool.or_false] at this;exact Nat.eq_of_beq_eq_true this
section
variable {ρ:Option Nat} {P:Program} [Jud P] {N:Nat} {Q:Exit→Act→GW→Prop} {ds:List Deferred} {C:List Nat→Code} {p:List Nat} {l:Sl} {I:Imm} {M0 M F0:Seg}
theorem rdX (al : List (Nat × Nat × Fresh)) (n0 : Nat) (order : List (Nat × Bool)) (hM : M0.Perm (M ++ F0)) (hA : ∀ i d E, CC al i = some (d, E) → AlOk P N (FY (C p)) [] i d E) (h : OFPX P N (FY (C p)) (al.map Prod.fst) F0 (fun l I M => Seq (ρ := ρ) P N (FY (C p)) Q ds n0 l I (M ++ F0)) al [] [] order l I M) (hI : (alInjS (FY (C p)) (al.map Prod.fst) && (asB (al.map Prod.fst) al && knB (FY (C p)) (al.map Prod.fst) al order)) = true := by kernel_rfl)
    (hm:P.follows .mixedOrders=true:=by kernel_rfl) (hc:OJ (C p)=true:=by kernel_rfl) (hok:okAllX (al.map Prod.fst) (FY (C p)) n0 order=true:=by kernel_rfl):Run (ρ:=ρ) P N (C p) Q ds l I M0:=by
  obtain ⟨id,hid⟩:=IM hc;simp only [Bool.and_eq_true] at hI;exact fun a w hS hD hW=>run_drawX _ al n0 order hm hid hok hA (asB_spec hI.2.1) (knB_spec hI.2.2) (alInjS_spec hI.1) (fun _ _ h=>by cases h) h a w hS hD (hW.perm hM)
def regB (ops:Array Oper) (L0:Sl):Bool:=L0.all fun x=>(List.range ops.size).any fun k=>dstB ops k x.1
theorem look_mem:∀ (L:Sl) {t:Nat} {u:Value},look t L=some u→∃ x∈L,x.1=t:=by
  intro L
  induction L with
  | nil=>intro t u h;cases h
  | cons x r ih=>
    intro t u h;rcases x with ⟨k,v⟩
    unfold look at h;cases hb:Nat.beq k t with
    | true=>exact ⟨_,List.mem_cons_self,Nat.eq_of_beq_eq_true hb⟩
    | false=>
      rw [hb] at h;obtain ⟨y,hy,e⟩:=ih h;exact ⟨y,List.mem_cons_of_mem _ hy,e⟩
theorem regB_spec {ops:Array Oper} {L0:Sl} (h:regB ops L0=true):∀ t u,look t L0=some u→∃ k,DW ops k=some t:=fun t u ht=>by
  obtain ⟨x,hx,rfl⟩:=look_mem L0 ht;obtain ⟨k,_,hk⟩:=List.any_eq_true.1 (List.all_eq_true.1 h x hx);refine ⟨k,?_⟩;unfold dstB at hk;unfold DW;cases ho:ops[k]? with
  | none=>rw [ho] at hk;cases hk
  | some o=>
    rw [ho] at hk;simp only at hk;cases hd:o.dst with
    | none=>rw [hd] at hk;cases hk
    | some d=>
      rw [hd] at hk;simp only at hk;rw [Nat.eq_of_beq_eq_true hk] at hd
      simpa using hd
theorem rdY (L0 : Sl) (als : List Nat) (al : List (Nat × Nat × Fresh)) (n0 : Nat) (order : List (Nat × Bool)) (hM : M0.Perm (M ++ F0)) (hA : ∀ i d E, CC al i = some (d, E) → AlOk P N (FY (C p)) L0 i d E) (h : OFPX P N (FY (C p)) als F0 (fun l I M => Seq (ρ := ρ) P N (FY (C p)) Q ds n0 l I (M ++ F0)) al L0 [] order l I M) (hI : (alInjS (FY (C p)) als && (asB als al && knB (FY (C p)) als al order)) = true := by kernel_rfl)
    (hm:P.follows .mixedOrders=true:=by kernel_rfl) (hc:OJ (C p)=true:=by kernel_rfl) (hok:okAllX als (FY (C p)) n0 order=true:=by kernel_rfl) (hr:regB (FY (C p)) L0=true:=by kernel_rfl):Run (ρ:=ρ) P N (C p) Q ds l I M0:=by
  obtain ⟨id,hid⟩:=IM hc;simp only [Bool.and_eq_true] at hI;exact fun a w hS hD hW=>run_drawX _ al n0 order hm hid hok hA (asB_spec hI.2.1) (knB_spec hI.2.2) (alInjS_spec hI.1) (fun t u ht=>.inl (regB_spec hr t u ht)) h a w hS hD (hW.perm hM)
end
end Go.Sl
namespace Go.Sh
open Go Go.Sl
def Rev {α:Type} (d:α) (xs zs:List α) (k:Nat):Prop:=zs.length=xs.length∧∀ p,p<xs.length→zs.getD p d=if p<k∨xs.length-k≤p then xs.getD (xs.length-1-p) d else xs.getD p d
theorem Rev.start {α:Type} (d:α) (xs:List α):Rev d xs xs 0:=⟨rfl,fun p hp=>by rw [if_neg (by omega)]⟩
end Go.Sh
namespace Go.Sl
open Go
end Go.Sl
namespace Go.Sh
open Go Go.Sl
section
variable {α:Type} {c:α→α→Int}
theorem insB_perm (x:α):∀ l:List α,(insB c x l).Perm (x::l):=by
  intro l
  induction l with
  | nil=>exact .refl _
  | cons y r ih=>
    simp only [insB]
    split
    · exact .refl _
    · exact (List.Perm.cons y ih).trans (.swap x y r)
theorem insB_at (d x:α):∀ (l:List α) (j:Nat),j≤l.length→(∀ z∈l.drop j,c x z<0)→(j=0∨¬ c x (l.getD (j-1) d)<0)→insB c x l=l.take j++x::l.drop j:=by
  intro l
  induction l with
  | nil=>intro j hj _ _;simp at hj;subst hj;rfl
  | cons y r ih=>
    intro j hj hd hs;cases j with
    | zero=>
      simp only [insB];simp only [List.drop_zero] at hd;rw [if_pos ⟨hd y (by simp),fun z hz=>hd z (by simp [hz])⟩];rfl
    | succ j=>
      have hs:¬ c x ((y::r).getD j d)<0:=by
        rcases hs with hs | hs
        · omega
        · exact hs
      simp only [insB];rw [if_neg]
      · rw [ih j (by simpa using hj) (by simpa using hd) ?_]
        · simp
        · cases j with
          | zero=>exact .inl rfl
          | succ j=>exact .inr (by simpa [List.getD] using hs)
      · rintro ⟨h1,h2⟩
        cases j with
        | zero=>exact hs (by simpa [List.getD] using h1)
        | succ j=>
          have hj2:j<r.length:=by simp at hj;omega
          exact hs (by simpa [List.getD,hj2] using h2 _ (List.getElem_mem hj2))
def AF (c:α→α→Int) (l:List α):List α:=l.foldl (fun p x=>insB c x p) []
theorem isort_perm_aux:∀ (l p:List α),(l.foldl (fun p x=>insB c x p) p).Perm (p++l):=by
  intro l
  induction l with
  | nil=>intro p;rw [List.append_nil];exact .refl _
  | cons x r ih=>
    intro p;exact (ih _).trans (((insB_perm x p).append_right r).trans (List.perm_middle.symm))
theorem DM (l:List α):(AF c l).Perm l:=isort_perm_aux l []
theorem isort_snoc (l:List α) (x:α):AF c (l++[x])=insB c x (AF c l):=by simp [AF]
theorem isort_take {l:List α} {k:Nat} {d:α} (hk:k<l.length):AF c (l.take (k+1))=insB c (l.getD k d) (AF c (l.take k)):=by
  rw [BO (d:=d) hk,isort_snoc]
structure Strict (c:α→α→Int) (l:List α):Prop where
  tri:∀ a∈l,∀ b∈l,a≠b→(c a b<0∨c b a<0)
  irr:∀ a∈l,¬ c a a<0
  trans:∀ a∈l,∀ b∈l,∀ d∈l,c a b<0→c b d<0→c a d<0
theorem Strict.perm {l l':List α} (h:Strict c l) (p:l'.Perm l):Strict c l':=
  ⟨fun a ha b hb=>h.tri a (p.subset ha) b (p.subset hb),fun a ha=>h.irr a (p.subset ha),fun a ha b hb d hd=>h.trans a (p.subset ha) b (p.subset hb) d (p.subset hd)⟩
theorem Strict.sub {l l':List α} (h:Strict c l) (p:∀ x∈l',x∈l):Strict c l':=
  ⟨fun a ha b hb=>h.tri a (p a ha) b (p b hb),fun a ha=>h.irr a (p a ha),fun a ha b hb d hd=>h.trans a (p a ha) b (p b hb) d (p d hd)⟩
abbrev Asc' (c:α→α→Int) (l:List α):Prop:=l.Pairwise fun a b=>c a b<0
theorem insB_sorted {x:α}:∀ {p:List α},Strict c (x::p)→x∉p→Asc' c p→Asc' c (insB c x p):=by
  intro p
  induction p with
  | nil=>intro _ _ _;simp [insB]
  | cons y r ih=>
    intro hs hx hp;simp only [insB];have hp':=List.pairwise_cons.1 hp
    split
    · rename_i h
      refine List.pairwise_cons.2 ⟨fun z hz=>?_,hp⟩;rcases List.mem_cons.1 hz with rfl | hz
      · exact h.1
      · exact h.2 z hz
    · rename_i h
      refine List.pairwise_cons.2 ⟨fun z hz=>?_,ih (hs.sub fun z hz=>?_) (fun hh=>hx (by simp [hh])) hp'.2⟩
      · have hz2:=(insB_perm x r).subset hz
        rcases List.mem_cons.1 hz2 with rfl | hz2
        · -- y comes ahead of x
          rcases hs.tri y (by simp) z (by simp) (fun e=>hx (by simp [e])) with h1 | h1
          · exact h1
          · exfalso
            refine h ⟨h1,fun w hw=>?_⟩;exact hs.trans z (by simp) y (by simp) w (by simp [hw]) h1 (hp'.1 w hw)
        · exact hp'.1 z hz2
      · rcases List.mem_cons.1 hz with rfl | hz
        · simp
        · simp [hz]
theorem SY:∀ (l p:List α),Strict c (p++l)→(p++l).Nodup→Asc' c p→Asc' c (l.foldl (fun p x=>insB c x p) p):=by
  intro l
  induction l with
  | nil=>intro p _ _ h;exact h
  | cons x r ih=>
    intro p hs hn hp;have hq:(insB c x p++r).Perm (p++x::r):=((insB_perm x p).append_right r).trans List.perm_middle.symm;refine ih _ (hs.perm hq) (hq.nodup_iff.2 hn) (insB_sorted (hs.sub fun z hz=>?_) ?_ hp)
    · rcases List.mem_cons.1 hz with rfl | hz <;> simp_all
    · have:=(List.perm_middle (l₁:=p) (l₂:=r) (a:=x)).nodup_iff.1 hn
      exact fun hh=>(List.nodup_cons.1 this).1 (by simp [hh])
theorem SH {l:List α} (hs:Strict c l) (hn:l.Nodup):Asc' c (AF c l):=SY l [] (by simpa using hs) (by simpa using hn) List.Pairwise.nil
theorem asc_unique:∀ {l l':List α},Strict c l→l.Perm l'→Asc' c l→Asc' c l'→l=l':=by
  intro l
  induction l with
  | nil=>intro l' _ p _ _;exact (List.nil_perm.1 p).symm
  | cons x r ih=>
    intro l' hs p h1 h2;cases l' with
    | nil=>exact (List.perm_nil.1 p)
    | cons y s=>
      have h1':=List.pairwise_cons.1 h1;have h2':=List.pairwise_cons.1 h2;have e:x=y:=by
        have hx:x∈y::s:=p.subset (by simp);have hy:y∈x::r:=p.symm.subset (by simp);rcases List.mem_cons.1 hx with e | hx
        · exact e
        rcases List.mem_cons.1 hy with e | hy
        · exact e.symm
        exfalso
        exact hs.irr x (by simp) (hs.trans x (by simp) y (by simp [hy]) x (by simp) (h1'.1 y hy) (h2'.1 x hx))
      subst e;rw [ih (hs.sub fun z hz=>by simp [hz]) (List.Perm.cons_inv p) h1'.2 h2'.2]
end
def sortS (l:List Slip):List Slip:=AF AC l
end Go.Sh
namespace Go.Sl
open Go
section
variable {ρ:Option Nat} {P:Program} [Jud P] {N:Nat} {ops:Array Oper} {Q:Exit→Act→GW→Prop} {ds:List Deferred} {i:Nat} {l:Sl} {I I₀:Imm} {R M F:Seg} {fn:Func} {post:Value→Imm→Seg→Prop}
theorem rt1 {P : Program} (t : Nat) {v : Value} (hv : look t l = some v) (hle : I₀.le I) (hp : post v I []) (hr : fn.results = #[.tmp t] := by kernel_rfl) (hs : ([] ++ F).Sublist M := by exact TR _) :
    Pst N (RetQ P fn I₀ post F) .ret [] l I M:=NO [] hr hv hs hle hp
theorem GU {P : Program} (t : Nat) {v : Value} (M' : Seg) (hv : look t l = some v) (hs : (M' ++ F).Sublist M) (hle : I₀.le I) (hp : post v I M') (hr : fn.results = #[.tmp t] := by kernel_rfl) :
    Pst N (RetQ P fn I₀ post F) .ret [] l I M:=NO M' hr hv hs hle hp
theorem rt2 {P : Program} (t u : Nat) {v x : Value} (hv : look t l = some v) (hx : look u l = some x) (hle : I₀.le I) (hp : post (.tuple #[v, x]) I []) (hr : fn.results = #[.tmp t, .tmp u] := by kernel_rfl) (hs : ([] ++ F).Sublist M := by exact TR _) :
    Pst N (RetQ P fn I₀ post F) .ret [] l I M:=EE [] hr hv hx hs hle hp
theorem rt2s {P : Program} (t u : Nat) {v x : Value} (M' : Seg) (hv : look t l = some v) (hx : look u l = some x) (hs : (M' ++ F).Sublist M) (hle : I₀.le I) (hp : post (.tuple #[v, x]) I M') (hr : fn.results = #[.tmp t, .tmp u] := by kernel_rfl) :
    Pst N (RetQ P fn I₀ post F) .ret [] l I M:=EE M' hr hv hx hs hle hp
theorem dpv (d:Nat) (v:Value) (h:pvAt P N ops l i=some (d,v):=by kernel_rfl):Det P N ops i l I R d v:=det_pv h
theorem dld (d x : Nat) (T : TypeId) {b off : Nat} (v : Value) (hx : look x l = some (.pointer (some ⟨b, off, none⟩))) (hs : Sees I R ⟨b, off, none⟩ v) (hop : EL ops N i = some (some d, .load T (.tmp x), T, none) := by kernel_rfl) (hT : EJ P T = some false := by kernel_rfl) :
    Det P N ops i l I R d v:=OY hop rfl hT hx hs
theorem dfa (d x : Nat) (T : TypeId) (k o : Nat) (ty : TypeId) {b off : Nat} (hx : look x l = some (.pointer (some ⟨b, off, none⟩))) (hop : EL ops N i = some (some d, .fieldAddr T (.tmp x) k, ty, none) := by kernel_rfl) (hT : tyOff P T k = some o := by kernel_rfl) :
    Det P N ops i l I R d (.pointer (some ⟨b,off+o,none⟩)):=LW hop rfl hT hx
theorem dct (d : Nat) (x y : Operand) (T : TypeId) {a b : List UInt8} (hx : BK l x = some (sV a)) (hy : BK l y = some (sV b)) (hl : a.length + b.length ≤ 9223372036854775807 := by first | omega | (simp only [List.length_append, List.length_cons, List.length_nil]; omega))
    (hop:EL ops N i=some (some d,.binOp .add T x y T,T,none):=by kernel_rfl):Det P N ops i l I R d (sV (a++b)):=det_cat hop rfl hx hy hl
theorem sap {α : Type} {d : Nat} (x y : Nat) (T E sz bs : Nat) (z : Value) (cell : α → Nat → Value) {v u : Value} (xs ys : List α) (Ms : Seg) {Rest : Seg} {K : Sl → Imm → Seg → Prop}
    (hx:look x l=some v) (hy:look y l=some u) (own:Own E sz cell v xs Ms) (hM:M.Perm (Ms++Rest)) (hone:∀ c∈BX sz cell ys,CS c=true) (hsrc:Src I (Ms++Rest) u ys.length (BX sz cell ys))
    (next:∀ v' Ms',Own E sz cell v' (xs++ys) Ms'→K ((d,v')::l) I (Ms'++Rest))
    (hneed:xs.length+ys.length≤274877906944:=by first | omega | (simp only [List.length_cons,List.length_nil];omega) | (simp only [List.length_cons,List.length_nil,List.length_append];omega) | (simp only [List.length_cons,List.length_nil,List.length_append,List.length_take,List.length_drop];omega) | (simp only [List.length_cons,List.length_nil,List.length_append,List.length_take,List.length_map];omega))
    (hop:EL ops N i=some (some d,.call { callee:=.builtin .append,args:=#[.tmp x,.tmp y],argTypes:=#[T,T] },T,none):=by kernel_rfl)
    (hT:HU P T=some E:=by kernel_rfl) (hsz:DR P E=some sz:=by kernel_rfl) (hz:HK P E=some z:=by kernel_rfl) (hzc:z.cells.size=sz:=by kernel_rfl) (hb:JD P E=some bs:=by kernel_rfl) (hbs:1≤bs∧bs≤256:=by decide):Stp P N ops i l I M K:=
  LP hop rfl hT hsz hz hzc hb hbs hT hx hy own hM hone hsrc hneed next
theorem snm (vs:List Value) (b:Nat) (T:TypeId) (h:(b,Obj.cells vs.toArray T (0,0))∈M:=by simp):SeesN I M b 0 vs:=DC (n:=vs.length) h (by simp)
theorem FpOk.wt {M:Seg} {k:Nat} {pr:Seg→Prop} {fp:List (Nat × (Seg→Prop))} (f:FpOk ops i M fp) (h:Go.Sl.wt ops i k=true:=by kernel_rfl):FpOk ops i M ((k,pr)::fp):=.wait h f
theorem kk:(∀ b,(true&&b)=b)∧(∀ b,(false&&b)=false)∧(∀ b,(b&&true)=b)∧(∀ b,(b&&false)=false)∧(∀ b,(true||b)=true)∧(∀ b,(false||b)=b)∧(∀ b,(b||true)=true)∧(∀ b,(b||false)=b)∧(∀ a b:Bool,(bif true then a else b)=a)∧(∀ a b:Bool,(bif false then a else b)=b):=
  ⟨kA,kB,kC,kD,kE,kF,kG,kH,kI,kJ⟩
theorem sun (n:Nat) {l' l:Sl} (h2:Sub (l'.drop n) l) (h:pickL l (l'.take n) true=some (l'.take n):=by kernel_rfl):Sub l' l:=by
  intro t v ht;rw [← List.take_append_drop n l',JY] at ht;cases hq:look t (l'.take n) with
  | none=>rw [hq] at ht;exact h2 t v ht
  | some u=>rw [hq] at ht;cases ht;exact NN h hq
theorem dln (d x : Nat) (T : TypeId) (vs : List Value) {b off : Nat} (hx : look x l = some (.pointer (some ⟨b, off, none⟩))) (hs : SeesN I R b off vs) (hop : EL ops N i = some (some d, .load T (.tmp x), T, none) := by kernel_rfl) (hT : EJ P T = some true := by kernel_rfl) (hn : DR P T = some vs.length := by kernel_rfl) :
    Det P N ops i l I R d (.agg vs.toArray):=GP hop rfl hT hn hx rfl hs
theorem rmA {c:Code} {M':Seg} (next:Run (ρ:=ρ) P N c Q ds l I M') (h:∀ w,St I M w→St I M' w:=by intro w h;simpa only [List.append_assoc,List.cons_append,List.nil_append] using h):Run (ρ:=ρ) P N c Q ds l I M:=run_mem h next
abbrev SD (N:Nat) (l:Sl) (I:Imm) (M:Seg) (a:Act) (w:GW) (p:Prop):Prop:=Slots N l a∧a.defers=[]∧St I M w∧p
abbrev SE (N:Nat) (l:Sl) (I:Imm) (M:Seg) (a:Act) (w:GW):Prop:=Slots N l a∧a.defers=[]∧St I M w
noncomputable def cod (f:Func) (p:List Nat):Code:=sub (LB f) p
end
end Go.Sl
namespace Go.Sh
open Go Go.Sl
abbrev AY (s:Slip):Array Value:=#[vI s.num,vI s.hour,vI s.kind,vI s.place,vI s.to,vI s.sort,.bool s.soil,vI s.amt]
abbrev ET (s:Slip):List Value:=[vI s.num,vI s.hour,vI s.kind,vI s.place,vI s.to,vI s.sort,.bool s.soil,vI s.amt]
abbrev EW (x:Event):Array Value:=#[vI x.slip.num,vI x.slip.hour,vI x.slip.kind,vI x.slip.place,vI x.slip.to,vI x.slip.sort,.bool x.slip.soil,vI x.slip.amt,vI x.gap,.bool x.below]
abbrev evntL (x:Event):List Value:=[vI x.slip.num,vI x.slip.hour,vI x.slip.kind,vI x.slip.place,vI x.slip.to,vI x.slip.sort,.bool x.slip.soil,vI x.slip.amt,vI x.gap,.bool x.below]
abbrev keepA (k:Keep):Array Value:=#[vI k.place,vI k.hour,vI k.who]
abbrev PH (k:Keep):List Value:=[vI k.place,vI k.hour,vI k.who]
abbrev AQ (L:Lin) (a b c:Value):Array Value:=#[vI L.places,vI L.sorts,a,b,c]
abbrev DE (L:Lin) (a b c:Value):List Value:=[vI L.places,vI L.sorts,a,b,c]
abbrev AZ:Array Value:=#[vI 0,vI 0,vN,vN,vN]
abbrev GN:List Value:=[vI 0,vI 0,vN,vN,vN]
abbrev zSlpA:Array Value:=#[vI 0,vI 0,vI 0,vI 0,vI 0,vI 0,.bool false,vI 0]
end Go.Sh
namespace Go.Proofs.YtgcemienebmdeaaGreatDoor
open Go Go.Sl Go.Sh
set_option maxRecDepth 100000
noncomputable def c_EqualInts_ct:=cod Tryz.f16
theorem IH (I:Imm) (a:Value) (xs:List Int) (b:Value) (ys:List Int) (a_f:DB I a xs) (b_f:DB I b ys):CtV Tryz.prog 16 #[a,b] I (.bool (decide (xs=ys))):=by
 obtain ⟨a0,a1,b1,b4,rfl,b2,b3,a7⟩:=id a_f;obtain ⟨a2,a3,b5,b8,rfl,b6,b7,a8⟩:=id b_f;refine fr (args:=[_,_]) (N:=26) Tryz.func16 (fun F=>?_);show Run _ _ (c_EqualInts_ct []) _ _ [(0,_),(1,_)] _ _;refine rnm (rqr ?_);refine sp 1 [(4,.bool false)] (se (rq (rqr (sp 5 [(10,.bool (!(cmp .eql (↑(xs.length)) (↑(ys.length)))))] (se (rc 10 rfl (fun h1=>?_) (fun h1=>?_)))))))
 ·
  have a4:=h1;have h1:=BV (BM h1);refine rqr (sp 1 [(4,.bool false)] (se (BB (RP (rt1 4 rfl (IR _) ?_)))));exact ⟨by rw [decide_eq_false (fun e=>h1 (by rw [e]))],rfl⟩
 have a4:=h1;have h1:=BQ (BE h1);refine AM (NX (rq (rqr (sp 1 [(5,vI 0)] (se (rb 0 ?_))))));refine rl (fun mz a w=>∃ k:Nat,(k≤xs.length)∧(xs.length=ys.length)∧(xs.take k=ys.take k)∧SD 26 [(5,vI ↑k),(0,vS a0 xs.length a1),(1,vS a2 ys.length a3)] I F a w (mz=xs.length-k)) ?_ ?_
 ·intro a w hS hD hW;exact ⟨_,0,Nat.zero_le _,by omega,rfl,hS.sub su,hD,hW,rfl⟩
 rintro mz a w ⟨k,hk,hl,ht,hS,hD,hW,rfl⟩
 refine AW hS hD hW ?_;clear hS hD hW a w;refine rq (rqr (sp 4 [(14,.bool (cmp .lss ↑k (↑(xs.length))))] (se (rc 14 rfl (fun h2=>?_) (fun h2=>?_)))))
 ·
  have a5:=h2;have h2:=CQ h2;refine AM (NX (rq (rb 1 (rq ?_))));refine rd0 8 (ox 2 [(18,vI ↑k),(17,vS a0 xs.length a1)] ?_);refine AE (di 19 1 k a7.addr) ?_;refine AE (dl 20 (EM a7 k (by omega))) (ox 2 [(22,vI ↑k),(21,vS a2 ys.length a3)] ?_);refine AE (di 23 1 k a8.addr) ?_;refine AE (dl 24 (EM a8 k (by omega))) ?_;refine BT (sp 1 [(25,.bool (!(cmp .eql (xs.getD k 0) (ys.getD k 0))))] (se (rc 25 rfl (fun h3=>?_) (fun h3=>?_))))
  ·
   have a6:=h3;have h3:=BV (BM h3);refine rqr (sp 1 [(4,.bool false)] (se (BB (RB (RP (RP (RB (RP (rt1 4 rfl (IR _) ?_)))))))));exact ⟨by rw [decide_eq_false (LZ hl h3)],rfl⟩
  have a6:=h3;have h3:=BQ (BE h3);refine AM (NB (NX (rr (sp 1 [(15,vI ↑k)] (sd (da 16 ↑k 1) (sp 1 [(5,vI (↑k+1))] (ee ?_)))))));refine AN (xs.length-(k+1)) (by omega) ?_;intro a w hS hD hW;exact ⟨k+1,by omega,hl,GX (d:=0) hl ht (by omega) h3,hS.sub su,hD,hW,rfl⟩
 have a5:=h2;have h2:=CU h2;refine CH 0 (EP (EP (EB (NX (rqr (sp 1 [(4,.bool true)] (se (BB (rt1 4 rfl (IR _) ?_)))))))));exact ⟨by rw [decide_eq_true (JO hl ht (by omega))],rfl⟩
noncomputable def SU:=cod Tryz.f62
theorem slicesEqual_ct (I:Imm) (a:Value) (xs:List Int) (b:Value) (ys:List Int) (a_f:DB I a xs) (b_f:DB I b ys):CtV Tryz.prog 62 #[a,b] I (.bool (decide (xs=ys))):=by
 obtain ⟨a0,a1,b1,b4,rfl,b2,b3,a7⟩:=id a_f;obtain ⟨a2,a3,b5,b8,rfl,b6,b7,a8⟩:=id b_f;refine fr (args:=[_,_]) (N:=26) Tryz.func62 (fun F=>?_);show Run _ _ (SU []) _ _ [(0,_),(1,_)] _ _;refine rnm (rqr ?_);refine sp 1 [(4,.bool false)] (se (rq (rqr (sp 5 [(10,.bool (!(cmp .eql (↑(xs.length)) (↑(ys.length)))))] (se (rc 10 rfl (fun h1=>?_) (fun h1=>?_)))))))
 ·
  have a4:=h1;have h1:=BV (BM h1);refine rqr (sp 1 [(4,.bool false)] (se (BB (RP (rt1 4 rfl (IR _) ?_)))));exact ⟨by rw [decide_eq_false (fun e=>h1 (by rw [e]))],rfl⟩
 have a4:=h1;have h1:=BQ (BE h1);refine AM (NX (rq (rqr (sp 3 [(13,vI 0),(12,vI (↑(xs.length)))] (se (rb 0 ?_))))));refine rl (fun mz a w=>∃ k:Nat,(k≤xs.length)∧(xs.length=ys.length)∧(xs.take k=ys.take k)∧SD 26 [(13,vI ↑k),(0,vS a0 xs.length a1),(1,vS a2 ys.length a3),(12,vI (↑(xs.length)))] I F a w (mz=xs.length-k)) ?_ ?_
 ·intro a w hS hD hW;exact ⟨_,0,Nat.zero_le _,by omega,rfl,hS.sub su,hD,hW,rfl⟩
 rintro mz a w ⟨k,hk,hl,ht,hS,hD,hW,rfl⟩
 refine AW hS hD hW ?_;clear hS hD hW a w;refine rqr (sp 1 [(14,.bool (cmp .lss ↑k (↑(xs.length))))] (se (rq (rc 14 rfl (fun h2=>?_) (fun h2=>?_)))))
 ·
  have a5:=h2;have h2:=CQ h2;refine AM (NX (rq (rb 1 (rqr (sp 2 [(5,vI ↑k)] (se (rq ?_)))))));refine rd0 8 (ox 2 [(17,vI ↑k),(16,vS a0 xs.length a1)] ?_);refine AE (di 18 1 k a7.addr) ?_;refine AE (dl 19 (EM a7 k (by omega))) (ox 2 [(21,vI ↑k),(20,vS a2 ys.length a3)] ?_);refine AE (di 22 1 k a8.addr) ?_;refine AE (dl 23 (EM a8 k (by omega))) ?_;refine BT (sp 1 [(24,.bool (!(cmp .eql (xs.getD k 0) (ys.getD k 0))))] (se (rc 24 rfl (fun h3=>?_) (fun h3=>?_))))
  ·
   have a6:=h3;have h3:=BV (BM h3);refine rqr (sp 1 [(4,.bool false)] (se (BB (RB (RP (RP (RB (RP (rt1 4 rfl (IR _) ?_)))))))));exact ⟨by rw [decide_eq_false (LZ hl h3)],rfl⟩
  have a6:=h3;have h3:=BQ (BE h3);refine AM (NB (NX (rr (sd (da 25 ↑k 1) (sp 1 [(13,vI (↑k+1))] (ee ?_))))));refine AN (xs.length-(k+1)) (by omega) ?_;intro a w hS hD hW;exact ⟨k+1,by omega,hl,GX (d:=0) hl ht (by omega) h3,hS.sub su,hD,hW,rfl⟩
 have a5:=h2;have h2:=CU h2;refine CH 0 (EP (EP (EB (NX (rqr (sp 1 [(4,.bool true)] (se (BB (rt1 4 rfl (IR _) ?_)))))))));exact ⟨by rw [decide_eq_true (JO hl ht (by omega))],rfl⟩
noncomputable def c_EqualRows_ct:=cod Tryz.f17
theorem MO (I:Imm) (a:Value) (xs:List (List Int)) (b:Value) (ys:List (List Int)) (a_f:IsRows I a xs) (b_f:IsRows I b ys):CtV Tryz.prog 17 #[a,b] I (.bool (decide (xs=ys))):=by
 obtain ⟨a4,a5,d3,d6,b4,rfl,d4,d5,b1,b5⟩:=id a_f;obtain ⟨a6,a7,d7,e0,b7,rfl,d8,d9,b2,b8⟩:=id b_f;refine fr (args:=[_,_]) (N:=27) Tryz.func17 (fun F=>?_);show Run _ _ (c_EqualRows_ct []) _ _ [(0,_),(1,_)] _ _;refine rnm (rqr ?_);refine sp 1 [(4,.bool false)] (se (rq (rqr (sp 5 [(10,.bool (!(cmp .eql (↑(xs.length)) (↑(ys.length)))))] (se (rc 10 rfl (fun h1=>?_) (fun h1=>?_)))))))
 ·
  have a8:=h1;have h1:=BV (BM h1);refine rqr (sp 1 [(4,.bool false)] (se (BB (RP (rt1 4 rfl (IR _) ?_)))));exact ⟨by rw [decide_eq_false (fun e=>h1 (by rw [e]))],rfl⟩
 have a8:=h1;have h1:=BQ (BE h1);refine AM (NX (rq (rqr (sp 1 [(5,vI 0)] (se (rb 0 ?_))))));refine rl (fun mz a w=>∃ k:Nat,(k≤xs.length)∧(xs.length=ys.length)∧(xs.take k=ys.take k)∧SD 27 [(5,vI ↑k),(0,vS a4 xs.length a5),(1,vS a6 ys.length a7)] I F a w (mz=xs.length-k)) ?_ ?_
 ·intro a w hS hD hW;exact ⟨_,0,Nat.zero_le _,by omega,rfl,hS.sub su,hD,hW,rfl⟩
 rintro mz a w ⟨k,hk,hl,ht,hS,hD,hW,rfl⟩
 refine AW hS hD hW ?_;clear hS hD hW a w;refine rq (rqr (sp 4 [(14,.bool (cmp .lss ↑k (↑(xs.length))))] (se (rc 14 rfl (fun h2=>?_) (fun h2=>?_)))))
 ·
  have a9:=h2;have h2:=CQ h2;refine AM (NX (rq (rb 1 (rq ?_))));refine rd0 8 (ox 2 [(18,vI ↑k),(17,vS a4 xs.length a5)] ?_);refine AE (di 19 1 k b1.addr) ?_;have a0:=b5 k (by omega);obtain ⟨b9,c1,c0,c4,a2,c2,c3,c5⟩:=id a0;rw [a2] at a0;refine AE (JG (dl 20 (IF b1 k (by omega))) a2) (ox 2 [(22,vI ↑k),(21,vS a6 ys.length a7)] ?_);refine AE (di 23 1 k b2.addr) ?_;have a1:=b8 k (by omega);obtain ⟨c6,c8,c7,d1,a3,c9,d0,d2⟩:=id a1;rw [a3] at a1;refine AE (JG (dl 24 (IF b2 k (by omega))) a3) ?_;refine BT (sd (dc 25 (fun I' hI=>(IH I' _ _ _ _ (a0.mono hI) (a1.mono hI) :))) (sp 1 [(26,.bool (!(decide ((xs.getD k [])=(ys.getD k [])))))] (se (rc 26 rfl (fun h3=>?_) (fun h3=>?_)))))
  ·
   have b0:=h3;have h3:=QQ (BM h3);refine rqr (sp 1 [(4,.bool false)] (se (BB (RB (RP (RP (RB (RP (rt1 4 rfl (IR _) ?_)))))))));exact ⟨by rw [decide_eq_false (LZ hl h3)],rfl⟩
  have b0:=h3;have h3:=NR (BE h3);refine AM (NB (NX (rr (sp 1 [(15,vI ↑k)] (sd (da 16 ↑k 1) (sp 1 [(5,vI (↑k+1))] (ee ?_)))))));refine AN (xs.length-(k+1)) (by omega) ?_;intro a w hS hD hW;exact ⟨k+1,by omega,hl,GX (d:=[]) hl ht (by omega) h3,hS.sub su,hD,hW,rfl⟩
 have a9:=h2;have h2:=CU h2;refine CH 0 (EP (EP (EB (NX (rqr (sp 1 [(4,.bool true)] (se (BB (rt1 4 rfl (IR _) ?_)))))))));exact ⟨by rw [decide_eq_true (JO hl ht (by omega))],rfl⟩
noncomputable def c_Index_ct:=cod Tryz.f100
theorem Index_ct (I:Imm) (a:Value) (xs:List Int) (n:Int) (a_f:DB I a xs):CtV Tryz.prog 100 #[a,vI n] I (vI (seat xs n)):=by
 obtain ⟨a0,a1,a6,a9,rfl,a7,a8,a4⟩:=id a_f;refine fr (args:=[_,_]) (N:=19) Tryz.func100 (fun F=>?_);show Run _ _ (c_Index_ct []) _ _ [(0,_),(1,_)] _ _;refine rnm (rqr ?_);refine sp 1 [(4,vI 0)] (se (rq (rqr (sp 3 [(8,vI 0),(7,vI (↑(xs.length)))] (se (rb 0 ?_))))));refine rl (fun mz a w=>∃ k:Nat,(k≤xs.length)∧(n∉xs.take k)∧SD 19 [(8,vI ↑k),(0,vS a0 xs.length a1),(1,vI n),(7,vI (↑(xs.length)))] I F a w (mz=xs.length-k)) ?_ ?_
 ·intro a w hS hD hW;exact ⟨_,0,Nat.zero_le _,by simp,hS.sub su,hD,hW,rfl⟩
 rintro mz a w ⟨k,hk,hn,hS,hD,hW,rfl⟩
 refine AW hS hD hW ?_;clear hS hD hW a w;refine rqr (sp 1 [(9,.bool (cmp .lss ↑k (↑(xs.length))))] (se (rq (rc 9 rfl (fun h1=>?_) (fun h1=>?_)))))
 ·
  have a2:=h1;have h1:=CQ h1;refine AM (NX (rq (rb 1 (rqr (sp 2 [(5,vI ↑k)] (sn (sp 3 [(13,vI ↑k),(12,vS a0 xs.length a1),(11,vI n)] (sd (di 14 1 k a4.addr) (sd (dl 15 (EM a4 k (by omega))) (sp 1 [(16,.bool (cmp .eql n (xs.getD k 0)))] (se (rc 16 rfl (fun h2=>?_) (fun h2=>?_)))))))))))))
  ·
   have a3:=h2;have h2:=BQ h2;refine rqr (sp 2 [(4,vI ↑k)] (se (BB (RB (RP (RP (RB (RP (rt1 4 rfl (IR _) ?_)))))))));exact ⟨by rw [seat_hit hn (by omega) h2.symm],rfl⟩
  have a3:=h2;have h2:=BV h2;refine AM (NB (NX (rr (sd (da 18 ↑k 1) (sp 1 [(8,vI (↑k+1))] (ee ?_))))));refine AN (xs.length-(k+1)) (by omega) ?_;intro a w hS hD hW;exact ⟨k+1,by omega,not_take_succ hn (by omega) (fun e=>h2 e.symm),hS.sub su,hD,hW,rfl⟩
 have a2:=h1;have h1:=CU h1;refine CH 0 (EP (EP (EB (NX (rqr (sp 1 [(4,vI (-1))] (se (BB (rt1 4 rfl (IR _) ?_)))))))));exact ⟨by rw [seat_miss hn (by omega)],rfl⟩
noncomputable def c_Contains:=cod Tryz.f58
theorem OD (I:Imm) (a:Value) (xs:List Int) (n:Int) (a_f:DB I a xs):CtV Tryz.prog 58 #[a,vI n] I (.bool (decide (n∈xs))):=by
 obtain ⟨a0,a1,a3,a6,rfl,a4,a5,a7⟩:=id a_f;refine fr (args:=[_,_]) (N:=9) Tryz.func58 (fun F=>?_);show Run _ _ (c_Contains []) _ _ [(0,_),(1,_)] _ _;refine rnm (rqr ?_);refine sp 1 [(4,.bool false)] (sn (sp 2 [(6,vI n),(5,vS a0 xs.length a1)] (sd (dc 7 (fun I' hI=>(Index_ct I' _ _ n (a_f.mono hI) :))) (sp 2 [(4,.bool (cmp .geq (seat xs n) 0))] (se (BB (rt1 4 rfl (IR _) ?_)))))));exact ⟨by rw [seat_neg],rfl⟩
noncomputable def c_CloneInts_ct:=cod Tryz.f57
theorem RT (I:Imm) (a:Value) (xs:List Int) (a_f:DB I a xs) (hl:xs.length≤1000000):Ct Tryz.prog 57 #[a] I ([]) (fun v I' M'=>∃ u:Value,∃ Ms:Seg,v=u∧M'=Ms∧Own 3 1 AK u xs Ms):=by
 obtain ⟨a0,a1,b2,b5,rfl,b3,b4,a6⟩:=id a_f;refine fr (args:=[_]) (N:=8) Tryz.func57 (fun F=>?_);show Run _ _ (c_CloneInts_ct []) _ _ [(0,_)] _ _;refine rnm (rqr ?_);refine sp 1 [(2,vN)] (se (rq (rqr (sp 1 [(3,vS a0 xs.length a1)] (sd (OX (e:=3) (x:=(.tmp 3)) (y:=(.const vN)) (T:=33) (T':=33) (d:=4) (ty:=4) (gd:=none) (by kernel_rfl) rfl (by kernel_rfl) rfl rfl) (se (rc 4 rfl (fun h1=>?_) (fun h1=>?_))))))))
 ·
  have a2:=h1;refine rqr (sp 1 [(2,vN)] (se (BB (RP ?_))));obtain rfl:=a6.nil h1;refine NO (t:=2) ([]) (by kernel_rfl) rfl (TR _) (IR _) ?_;exact ⟨_,_,rfl,rfl,Own.nil _ _ _⟩
 have a2:=h1;refine AM (NX (rqr (sS (sbs 5 3 0 #[] (fun b1=>(sp 1 [(6,vS a0 xs.length a1)] ?_))))));have a7:Own 3 1 AK (vS (some ⟨b1,0,none⟩) 0 0) ([]:List Int) [(bX b1 #[] 3)]:=Own.lit rfl rfl;refine sS (sap (d:=7) 5 6 33 3 1 8 (vI 0) AK ([]:List Int) xs [(bX b1 #[] 3)] rfl rfl a7 (PR _) (HE _) a_f.src (fun v4 a4 a3=>?_));rw [NA] at a3;refine nm ?_;obtain ⟨a8,a9,rfl,b6⟩:=a3.shape;refine sp 1 [(2,vS a8 xs.length a9)] (se (BB (GU 2 a4 rfl (TA (TR _) _) (IR _) ?_)));exact ⟨_,_,rfl,rfl,a3⟩
noncomputable def c_Grow:=cod Tryz.f130
theorem Grow_ct (I:Imm) (n:Nat) (hn:n≤1000000):Ct Tryz.prog 130 #[vN,vI ↑n] I [] (fun v I' M'=>∃ Ms,M'=Ms∧Own 3 1 AK v ([]:List Int) Ms):=by
 refine fr (args:=[_,_]) (N:=27) Tryz.func130 (fun F=>?_);show Run _ _ (c_Grow []) _ _ [(0,_),(1,_)] _ _;refine rnm (rqr ?_);refine sp 1 [(4,vN)] (se (rq (rqr (sp 2 [(6,.bool (cmp .lss ↑n 0))] (se (rc 6 rfl (fun h1=>?_) (fun h1=>?_)))))))
 ·
  have a0:=h1;have h1:=CQ h1
  exfalso;omega
 have a0:=h1;have h1:=CU h1;refine AM (NX (rq (rqr (sp 5 [(12,vI 0),(10,vI 0),(8,vI ↑n)] (sd (dsb 13 0 0) (sd (dsb 14 ↑n (0-0)) (CM 14 rfl (show (vI (↑n-(0-0)):Value)=vI ↑n from congrArg (Value.int .i64) (by omega)) (sp 1 [(1,vI ↑n)] (sn (sp 2 [(16,.bool (cmp .gtr ↑n 0))] (se (rc 16 rfl (fun h2=>?_) (fun h2=>?_)))))))))))))
 ·
  have a1:=h2;have h2:=SW h2;refine rr (sp 3 [(19,vI 0),(17,vN)] (sd (JG (HN (x:=.tmp 17) (lo:=none) (hi:=some (.tmp 19)) (T:=33) (e:=3) (sz:=1) 0 0 (d:=20) (ty:=33) (gd:=none) (by kernel_rfl) rfl (by kernel_rfl) (by kernel_rfl) rfl (.inl ⟨rfl,rfl⟩) (.inr ⟨_,.i64,rfl,rfl⟩) (Nat.le_refl _) (Nat.le_refl _)) (show _=Value.slice none 0 0 from rfl)) (sp 1 [(21,vI ↑n)] (sS (stp_appendN (x:=.tmp 20) (y:=.tmp 21) (T:=33) (T':=3) (E:=3) (bs:=8) (n:=n) (z:=vI 0) (d:=22) (ty:=33) (gd:=none) (by kernel_rfl) rfl (by kernel_rfl) (by kernel_rfl) (by kernel_rfl) rfl (by kernel_rfl) (by decide) (by kernel_rfl) rfl rfl ⟨by omega,hn⟩ (fun gb nc zs a4 a3=>?_))))));show Seq _ _ _ _ _ _ ((22,vS (some ⟨gb,0,none⟩) n nc)::_) _ _;refine sp 2 [(24,vI 0)] (sd (JG (HN (x:=.tmp 22) (lo:=none) (hi:=some (.tmp 24)) (T:=33) (e:=3) (sz:=1) 0 0 (d:=25) (ty:=33) (gd:=none) (by kernel_rfl) rfl (by kernel_rfl) (by kernel_rfl) rfl (.inl ⟨rfl,rfl⟩) (.inr ⟨_,.i64,rfl,rfl⟩) (Nat.le_refl _) (Nat.zero_le _)) (show _=Value.slice (some ⟨gb,0,none⟩) 0 nc by simp [GY])) ?_);have a2:Own 3 1 AK (vS (some ⟨gb,0,none⟩) 0 nc) ([]:List Int) [(gb,Obj.cells (List.toArray zs) 3 (0,0))]:=Own.empty a3;refine BA (M':=([(gb,Obj.cells (List.toArray zs) 3 (0,0))]++F)) (fun w h=>h) (sp 1 [(0,vS (some ⟨gb,0,none⟩) 0 nc)] (sn (sp 2 [(4,vS (some ⟨gb,0,none⟩) 0 nc)] (se (BB (GU 4 ([(gb,Obj.cells (List.toArray zs) 3 (0,0))]) rfl (TK _ (TR _)) (IR _) ?_))))));exact ⟨_,rfl,a2⟩
 have a1:=h2;have h2:=gtr_f h2;refine AM (NX (rqr (sp 2 [(4,vN)] (se (BB (GU 4 ([]) rfl (TR _) (IR _) ?_))))));exact ⟨[],rfl,Own.nil _ _ _⟩
noncomputable def c_Concat:=cod Tryz.f86
theorem Concat_ct (I:Imm) (s:Value) (xss:List (List Int)) (s_f:IsRows I s xss) (hl:xss.flatten.length≤1000000):Ct Tryz.prog 86 #[s] I ([]) (fun v I' M'=>∃ u:Value,∃ Ms:Seg,v=u∧M'=Ms∧Own 3 1 AK u xss.flatten Ms):=by
 obtain ⟨b1,b2,f3,f6,e9,rfl,f4,f5,a6,b3⟩:=id s_f;refine fr (args:=[_]) (N:=36) Tryz.func86 (fun F=>?_);show Run _ _ (c_Concat []) _ _ [(0,_)] _ _;refine rnm (rqr ?_);refine sp 1 [(2,vN)] (sn (sp 1 [(3,vI 0)] (se (rq (rqr (sp 3 [(11,vI 0),(10,vI (↑(xss.length))),(9,vS b1 xss.length b2)] (se (rb 0 ?_))))))));refine rl (fun mz a w=>∃ k:Nat,(k≤xss.length)∧SD 36 [(3,vI (↑(xss.take k).flatten.length)),(11,vI ↑k),(0,vS b1 xss.length b2),(2,vN),(9,vS b1 xss.length b2),(10,vI (↑(xss.length)))] I F a w (mz=xss.length-k)) ?_ ?_
 ·intro a w hS hD hW;exact ⟨_,0,Nat.zero_le _,hS.sub su,hD,hW,rfl⟩
 rintro mz a w ⟨k,hk,hS,hD,hW,rfl⟩
 refine AW hS hD hW ?_;refine rqr (sp 1 [(12,.bool (cmp .lss ↑k (↑(xss.length))))] (se (rq (rc 12 rfl (fun h1=>?_) (fun h1=>?_)))))
 ·
  have c1:=h1;have h1:=CQ h1;refine AM (NX (rq (rb 1 (rqr (sd (di 13 1 k a6.addr) ?_)))));have b6:=b3 k (by omega);obtain ⟨c5,c6,d7,e0,b5,d8,d9,e1⟩:=id b6;rw [b5] at b6;refine sd (JG (dl 14 (IF a6 k (by omega))) b5) (sp 1 [(5,vS c5 (xss.getD k []).length c6)] (sn (sp 3 [(17,vI (↑((xss.getD k []).length))),(15,vI (↑(xss.take k).flatten.length))] (sd (da 18 (↑(xss.take k).flatten.length) (↑((xss.getD k []).length)) (hr:=by have hq:=flat_le xss k (by omega);omega)) (sp 1 [(3,vI ((↑(xss.take k).flatten.length)+(↑((xss.getD k []).length))))] (sn (sp 2 [(20,.bool (cmp .lss ((↑(xss.take k).flatten.length)+(↑((xss.getD k []).length))) 0))] (se (rc 20 rfl (fun h2=>?_) (fun h2=>?_))))))))))
  ·
   have c2:=h2;have h2:=CQ h2
   exfalso;omega
  have c2:=h2;have h2:=CU h2;refine AM (NB (NX (rr (sd (da 22 ↑k 1) (sp 1 [(11,vI (↑k+1))] (ee ?_))))));refine AN (xss.length-(k+1)) (by omega) ?_;intro a w hS hD hW;exact ⟨k+1,by omega,hS.sub (.consE 3 rfl (congrArg (Value.int .i64) (flat_succ (by omega)).symm) su),hD,hW,rfl⟩
 have c1:=h1;have h1:=CU h1;refine CH 0 (EP (EP (EB (NX (rqr (sp 1 [(23,vI (↑(xss.take k).flatten.length))] ?_))))));have d4:(xss.take k).flatten=xss.flatten:=by rw [LR (by omega)]
 rw [d4];have c4:=Grow_ct I xss.flatten.length hl;refine sS (KR (d:=(some 24)) (f:=(.func 130)) (fid:=130) (args:=#[(.const vN),(.tmp 23)]) (tys:=#[33,3]) (cv:=[]) (F:=(F)) (ty:=33) (gd:=none) (by kernel_rfl) rfl rfl rfl (by kernel_rfl) rfl c4 (PR _) (fun f2 I2 f1 a7 d5=>?_));obtain ⟨d3,c8,b4⟩:=d5;replace a6:=a6.mono a7;replace b3:=fun i hi=>(b3 i hi).mono a7
 rw [c8];clear c8;obtain ⟨a9,b0,rfl,e7⟩:=b4.shape;refine nm ?_;show Seq _ _ _ _ _ _ ((24,vS a9 ([]:List Int).length b0)::_) _ _;refine sp 1 [(6,vS a9 ([]:List Int).length b0)] (se (rq (rqr (sp 3 [(27,vI 0),(26,vI (↑(xss.length))),(25,vS b1 xss.length b2)] (se (rb 2 ?_))))));refine rl (fun mz a w=>∃ J1:Imm,∃ j:Nat,∃ a4:Value,∃ a0:Seg,(I2.le J1)∧(j≤xss.length)∧(Own 3 1 AK a4 ((xss.take j).flatten) a0)∧SD 36 [(6,a4),(27,vI ↑j),(2,vN),(25,vS b1 xss.length b2),(26,vI (↑(xss.length)))] J1 (a0++F) a w (mz=xss.length-j)) ?_ ?_
 ·intro a w hS hD hW;exact ⟨_,I2,0,vS a9 ([]:List Int).length b0,d3,IR _,Nat.zero_le _,b4,hS.sub su,hD,hW,rfl⟩
 rintro mz a w ⟨J1,j,a4,a0,hJ1,hj,a3,hS,hD,hW,rfl⟩
 refine AW hS hD hW ?_;replace a6:=a6.mono hJ1;replace b3:=fun i hi=>(b3 i hi).mono hJ1
 obtain ⟨a1,a2,rfl,c0⟩:=a3.shape;refine rqr (sp 1 [(28,.bool (cmp .lss ↑j (↑(xss.length))))] (se (rq (rc 28 rfl (fun h3=>?_) (fun h3=>?_)))))
 ·
  have c3:=h3;have h3:=CQ h3;refine AM (NX (rq (rb 3 (rqr (sd (di 29 1 j a6.addr) ?_)))));have a8:=b3 j (by omega);obtain ⟨b7,b8,e2,e5,b9,e3,e4,e6⟩:=id a8;rw [b9] at a8;refine sd (JG (dl 30 (IF a6 j (by omega))) b9) (sp 1 [(8,vS b7 (xss.getD j []).length b8)] (se (rr (sp 2 [(32,vS b7 (xss.getD j []).length b8),(31,vS a1 ((xss.take j).flatten).length a2)] (sS (LP (d:=33) (x:=(.tmp 31)) (y:=(.tmp 32)) (T:=33) (T':=33) (E:=3) (E':=3) (sz:=1) (bs:=8) (z:=vI 0) (cell:=AK) (xs:=(xss.take j).flatten) (ys:=xss.getD j []) (Ms:=a0) (ty:=33) (gd:=none) (by kernel_rfl) rfl (by kernel_rfl) (by kernel_rfl) (by kernel_rfl) (by kernel_rfl) (by kernel_rfl) (by decide) (by kernel_rfl) rfl rfl a3 (PR _) (HE _) a8.src (by first | omega | (have hq:=flat_le xss j (by omega);omega)) (fun v9 d2 c9=>(nm ?_))))))));obtain ⟨d0,d1,rfl,f0⟩:=c9.shape;refine sp 1 [(6,vS d0 (((xss.take j).flatten)++(xss.getD j [])).length d1)] (ee (NB (NX (rr (sd (da 34 ↑j 1) (sp 1 [(27,vI (↑j+1))] (ee ?_)))))));refine AN (xss.length-(j+1)) (by omega) ?_;intro a w hS hD hW;exact ⟨J1,j+1,vS d0 (((xss.take j).flatten)++(xss.getD j [])).length d1,d2,hJ1,by omega,((flat_take (xss:=xss) (k:=j) (by omega)).symm▸c9),hS.sub su,hD,hW,rfl⟩
 have c3:=h3;have h3:=CU h3;refine CH 2 (EP (EP (EB (NX (rqr (sp 2 [(2,vS a1 ((xss.take j).flatten).length a2)] (se (BB (GU 2 a0 rfl (TA (TR _) _) (IT a7 hJ1) ?_)))))))));exact ⟨_,_,rfl,rfl,((show (xss.take j).flatten=xss.flatten from by rw [LR (by omega)])▸a3)⟩
end Go.Proofs.YtgcemienebmdeaaGreatDoor
namespace Go.Sh
open Go Go.Sl
def DU (h nd:List Int) (b:Int):Int:=
  if h.length=0 then 7 else if 4<h.length then 6 else if nd.length≠h.length then 2
  else if ¬ (∀ i,i<h.length→inB (h.getD i 0) 0 50=true∧inB (nd.getD i 0) 0 50=true) then 1
  else if inB b 1 10=false then 1 else 0
def CO (h nd:List Int) (b:Int) (i:Nat):Int:=if nd.getD i 0≤h.getD i 0 then (h.getD i 0-nd.getD i 0)/b else 0
def ER (h nd:List Int) (b:Int) (i:Nat):Int:=if nd.getD i 0≤h.getD i 0 then 0 else (nd.getD i 0-h.getD i 0+b-1)/b
def FZ (h nd:List Int) (b:Int):List Int:=(List.range h.length).map (CO h nd b)
def GF (h nd:List Int) (b:Int):List Int:=(List.range h.length).map (ER h nd b)
def pF (n m:Nat):Nat:=(n*n-m)/n
def pT (n m:Nat):Nat:=(n*n-m)%n
def most (n m:Nat) (g l:List Int):Nat:=(min (g.getD (pF n m) 0) (l.getD (pT n m) 0)).toNat
def less (k:Nat) (b:Nat) (l:List Int):List Int:=l.set k (l.getD k 0-(b:Int))
def DN (n:Nat):Nat→List Int→List Int→List (List Cart)
  | 0,_,l=>if (∀ x∈l,x≤0) then [[]] else []
  | m+1,g,l=>((List.range (most n (m+1) g l)).flatMap fun b=>(DN n m (less (pF n (m+1)) (b+1) g) (less (pT n (m+1)) (b+1) l)).map (fun r=>⟨(pF n (m+1):Int),(pT n (m+1):Int),(b:Int)+1⟩::r))++DN n m g l
def CJ (n:Nat):Nat→Nat→Int→List Int→List Int→Option (List Cart)
  | _,0,left,_,_=>if left=0 then some [] else none
  | 0,_+1,_,_,_=>none
  | m+1,h+1,left,g,l=>
    if left<(h:Int)+1 then none
    else match (List.range (most n (m+1) g l)).findSome? (fun b=>(CJ n m h (left-(b+1:Nat)) (less (pF n (m+1)) (b+1) g) (less (pT n (m+1)) (b+1) l)).map (fun r=>(⟨(pF n (m+1):Int),(pT n (m+1):Int),(b:Int)+1⟩:Cart)::r)) with
      | some x=>some x
      | none=>CJ n m (h+1) left g l
theorem PJ {k b:Nat} {l:List Int} (hb:(b:Int)+1≤l.getD k 0):(less k (b+1) l).sum=l.sum-(b+1:Nat):=by
  have hk:k<l.length:=by
    rcases Nat.lt_or_ge k l.length with h | h
    · exact h
    · simp [List.getD,List.getElem?_eq_none h] at hb;omega
  unfold less
  induction l generalizing k with
  | nil=>simp at hk
  | cons x r ih=>
    cases k with
    | zero=>simp [List.getD];omega
    | succ k=>
      have e:(x::r).getD (k+1) 0=r.getD k 0:=by simp [List.getD]
      rw [e] at hb ⊢;have:=ih hb (by simpa using hk);simp only [List.set_cons_succ,List.sum_cons];omega
theorem HC {k b:Nat} {l:List Int} (h:∀ x∈l,0≤x) (hb:(b:Int)≤l.getD k 0):∀ x∈less k b l,0≤x:=fun x hx=>by
  rcases List.mem_or_eq_of_mem_set hx with h1 | rfl
  · exact h x h1
  · omega
theorem most_lt {n m b:Nat} {g l:List Int} (h:b<most n m g l):(b:Int)+1≤g.getD (pF n m) 0∧(b:Int)+1≤l.getD (pT n m) 0:=by
  unfold most at h;omega
theorem LQ:∀ {l:List Int},(∀ x∈l,0≤x)→0≤l.sum:=by
  intro l
  induction l with
  | nil=>intro _;simp
  | cons x r ih=>intro h;have:=ih (fun y hy=>h y (by simp [hy]));have:=h x (by simp);simp;omega
theorem MH:∀ {l:List Int},(∀ x∈l,0≤x)→(l.sum=0↔∀ x∈l,x≤0):=by
  intro l
  induction l with
  | nil=>intro _;simp
  | cons x r ih=>
    intro h;have h1:=LQ (l:=r) (fun y hy=>h y (by simp [hy]));have h2:=h x (by simp);have:=ih (fun y hy=>h y (by simp [hy]));simp only [List.sum_cons,List.mem_cons,forall_eq_or_imp]
    constructor
    · intro e;exact ⟨by omega,this.1 (by omega)⟩
    · rintro ⟨e1,e2⟩;have:=this.2 e2;omega
theorem lists_sum {n:Nat}:∀ (m:Nat) (g l:List Int),(∀ x∈l,0≤x)→∀ z∈DN n m g l,(z.map Cart.bales).sum=l.sum∧(∀ c∈z,1≤c.bales):=by
  intro m
  induction m with
  | zero=>
    intro g l h z hz;simp only [DN] at hz
    split at hz
    · rename_i h0
      simp at hz;subst hz;exact ⟨((MH h).2 h0).symm,fun _ hc=>by simp at hc⟩
    · simp at hz
  | succ m ih=>
    intro g l h z hz;simp only [DN,List.mem_append,List.mem_flatMap,List.mem_range,List.mem_map] at hz;rcases hz with ⟨b,hb,r,hr,rfl⟩ | hz
    · obtain ⟨_,h2⟩:=most_lt hb
      obtain ⟨e1,e2⟩:=ih _ _ (HC h (by omega)) r hr;rw [PJ h2] at e1;refine ⟨by simp only [List.map_cons,List.sum_cons,e1];omega,fun c hc=>?_⟩;rcases List.mem_cons.1 hc with rfl | hc
      · show (1:Int)≤(b:Int)+1;omega
      · exact e2 c hc
    · exact ih _ _ h z hz
theorem lists_len {n m:Nat} {g l:List Int} (h:∀ x∈l,0≤x) {z:List Cart} (hz:z∈DN n m g l):(z.length:Int)≤l.sum:=by
  obtain ⟨h1,h2⟩:=lists_sum m g l h z hz;rw [← h1];clear h1 hz
  induction z with
  | nil=>simp
  | cons c r ih=>have:=ih (fun c hc=>h2 c (by simp [hc]));have:=h2 c (by simp);simp;omega
theorem head_flat {α β:Type} (f:α→List β):∀ (l:List α),(l.flatMap f).head?=l.findSome? (fun a=>(f a).head?):=by
  intro l
  induction l with
  | nil=>rfl
  | cons a r ih=>
    simp only [List.flatMap_cons,List.head?_append,List.findSome?_cons,ih];cases (f a).head? <;> rfl
theorem findSome_congrD {α β:Type} {f g:α→Option β}:∀ {l:List α},(∀ a∈l,f a=g a)→l.findSome? f=l.findSome? g:=by
  intro l
  induction l with
  | nil=>intro _;rfl
  | cons a r ih=>intro h;simp only [List.findSome?_cons,h a (by simp),ih (fun b hb=>h b (by simp [hb]))]
theorem lists_nil {n:Nat}:∀ (m:Nat) (g l:List Int),((DN n m g l).filter fun z=>decide (z.length=0))=if (∀ x∈l,x≤0) then [[]] else []:=by
  intro m
  induction m with
  | zero=>intro g l;simp only [DN];split <;> simp
  | succ m ih=>
    intro g l;simp only [DN,List.filter_append,ih];have:(List.filter (fun z:List Cart=>decide (z.length=0)) ((List.range (most n (m+1) g l)).flatMap fun b=>(DN n m (less (pF n (m+1)) (b+1) g) (less (pT n (m+1)) (b+1) l)).map (fun r=>⟨(pF n (m+1):Int),(pT n (m+1):Int),(b:Int)+1⟩::r)))=[]:=by
      refine List.filter_eq_nil_iff.2 fun z hz=>?_
      simp only [List.mem_flatMap,List.mem_map] at hz;obtain ⟨b,_,r,_,rfl⟩:=hz;simp
    rw [this,List.nil_append]
theorem grow_head {n:Nat}:∀ (m h:Nat) (g l:List Int),(∀ x∈l,0≤x)→CJ n m h l.sum g l=((DN n m g l).filter fun z=>decide (z.length=h)).head?:=by
  intro m
  induction m with
  | zero=>
    intro h g l hl;cases h with
    | zero=>
      rw [lists_nil];simp only [CJ]
      by_cases e:l.sum=0
      · rw [if_pos e,if_pos ((MH hl).1 e)];rfl
      · rw [if_neg e,if_neg (fun x=>e ((MH hl).2 x))];rfl
    | succ h=>
      simp only [CJ,DN]
      split <;> simp
  | succ m ih=>
    intro h g l hl;cases h with
    | zero=>
      rw [lists_nil];simp only [CJ]
      by_cases e:l.sum=0
      · rw [if_pos e,if_pos ((MH hl).1 e)];rfl
      · rw [if_neg e,if_neg (fun x=>e ((MH hl).2 x))];rfl
    | succ h=>
      by_cases hs:l.sum<(h:Int)+1
      · rw [CJ,if_pos hs,eq_comm,List.head?_eq_none_iff,List.filter_eq_nil_iff]
        intro z hz;have:=lists_len hl hz;simp;omega
      · rw [CJ,if_neg hs,ih (h+1) g l hl]
        have e1 : (List.range (most n (m + 1) g l)).findSome? (fun b => (CJ n m h (l.sum - (b + 1 : Nat)) (less (pF n (m + 1)) (b + 1) g) (less (pT n (m + 1)) (b + 1) l)).map (fun r => (⟨(pF n (m + 1) : Int), (pT n (m + 1) : Int), (b : Int) + 1⟩ : Cart) :: r))
           =(((List.range (most n (m+1) g l)).flatMap fun b=>(DN n m (less (pF n (m+1)) (b+1) g) (less (pT n (m+1)) (b+1) l)).map (fun r=>⟨(pF n (m+1):Int),(pT n (m+1):Int),(b:Int)+1⟩::r)).filter fun z:List Cart=>decide (z.length=h+1)).head?:=by
          rw [List.filter_flatMap,head_flat];refine findSome_congrD ?_;intro b hb;obtain ⟨_,h2⟩:=most_lt (List.mem_range.1 hb);have h3:=ih h (less (pF n (m+1)) (b+1) g) (less (pT n (m+1)) (b+1) l) (HC hl (by omega));rw [PJ h2] at h3;rw [h3];simp only [List.filter_map,List.head?_map]
          congr 2
          refine List.filter_congr fun z _=>?_
          simp
        rw [e1];simp only [DN,List.filter_append,List.head?_append];cases (List.filter (fun z:List Cart=>decide (z.length=h+1)) ((List.range (most n (m+1) g l)).flatMap fun b=>(DN n m (less (pF n (m+1)) (b+1) g) (less (pT n (m+1)) (b+1) l)).map (fun r=>⟨(pF n (m+1):Int),(pT n (m+1):Int),(b:Int)+1⟩::r))).head? <;> rfl
theorem lists_short {n:Nat}:∀ (m:Nat) (g l:List Int),∀ z∈DN n m g l,z.length≤m:=by
  intro m
  induction m with
  | zero=>intro g l z hz;simp only [DN] at hz;split at hz <;> simp at hz;subst hz;simp
  | succ m ih=>
    intro g l z hz;simp only [DN,List.mem_append,List.mem_flatMap,List.mem_map] at hz;rcases hz with ⟨b,_,r,hr,rfl⟩ | hz
    · have:=ih _ _ r hr;simp;omega
    · have:=ih _ _ z hz;omega
def bestL:List (List Cart)→List Cart→List Cart
  | [],b=>b
  | x::r,b=>bestL r (if x.length<b.length then x else b)
theorem bestL_first:∀ (tl:List (List Cart)) (b:List Cart),∃ A B,b::tl=A++bestL tl b::B∧(∀ a∈A,(bestL tl b).length<a.length)∧(∀ c∈B,(bestL tl b).length≤c.length):=by
  intro tl
  induction tl with
  | nil=>intro b;exact ⟨[],[],rfl,by simp,by simp⟩
  | cons x r ih=>
    intro b;simp only [bestL]
    by_cases h:x.length<b.length
    · rw [if_pos h]
      obtain ⟨A,B,e,h1,h2⟩:=ih x;have h3:(bestL r x).length≤x.length:=by
        cases A with
        | nil=>simp only [List.nil_append,List.cons.injEq] at e;rw [← e.1];omega
        | cons a A=>simp only [List.cons_append,List.cons.injEq] at e;have:=h1 a (by simp);rw [← e.1] at this;omega
      refine ⟨b::A,B,by rw [e];rfl,fun a ha=>?_,h2⟩;rcases List.mem_cons.1 ha with rfl | ha
      · omega
      · exact h1 a ha
    · rw [if_neg h]
      obtain ⟨A,B,e,h1,h2⟩:=ih b;cases A with
      | nil=>
        simp only [List.nil_append,List.cons.injEq] at e;refine ⟨[],x::B,by rw [← e.1,e.2];rfl,by simp,fun c hc=>?_⟩;rcases List.mem_cons.1 hc with rfl | hc
        · rw [← e.1];omega
        · exact h2 c hc
      | cons a A=>
        simp only [List.cons_append,List.cons.injEq] at e;obtain ⟨e1,e2⟩:=e;subst e1;refine ⟨b::x::A,B,congrArg (fun z=>b::x::z) e2,fun c hc=>?_,h2⟩;have:=h1 b (by simp);rcases List.mem_cons.1 hc with rfl | hc
        · exact this
        · rcases List.mem_cons.1 hc with rfl | hc
          · omega
          · exact h1 c (by simp [hc])
theorem KU {β:Type} {f:Nat→Option β} {k:Nat} {r:β} (h:∀ j,j<k→f j=none) (hk:f k=some r):∀ {N:Nat},k<N→(List.range N).findSome? f=some r:=by
  intro N
  induction N with
  | zero=>intro h;omega
  | succ N ih=>
    intro hN;rw [List.range_succ,List.findSome?_append]
    by_cases e:k=N
    · subst e
      have:(List.range k).findSome? f=none:=List.findSome?_eq_none_iff.2 (fun j hj=>h j (List.mem_range.1 hj));rw [this];simp [hk]
    · rw [ih (by omega)];rfl
theorem HB {β:Type} {f:Nat→Option β} {N:Nat} (h:∀ j,j<N→f j=none):(List.range N).findSome? f=none:=List.findSome?_eq_none_iff.2 (fun j hj=>h j (List.mem_range.1 hj))
def firstD (n:Nat) (g l:List Int):Option (List Cart):=(List.range (n*n+1)).findSome? fun h=>CJ n (n*n) h l.sum g l
theorem firstD_best {n:Nat} {g l:List Int} (hl:∀ x∈l,0≤x):firstD n g l=(match DN n (n*n) g l with | []=>none | x::r=>some (bestL r x)):=by
  unfold firstD;have hc:∀ h,CJ n (n*n) h l.sum g l=((DN n (n*n) g l).filter fun z=>decide (z.length=h)).head?:=fun h=>grow_head _ h g l hl
  have hs:=lists_short (n:=n) (n*n) g l;cases hL:DN n (n*n) g l with
  | nil=>exact HB fun j _=>by rw [hc,hL];rfl
  | cons x r=>
    obtain ⟨A,B,e,h1,h2⟩:=bestL_first r x;have hm:bestL r x∈DN n (n*n) g l:=by rw [hL,e];simp
    refine KU (k:=(bestL r x).length) (fun j hj=>?_) ?_ (by have:=hs _ hm;omega)
    · rw [hc,hL,e,List.head?_eq_none_iff,List.filter_eq_nil_iff]
      intro z hz;simp only [List.mem_append,List.mem_cons] at hz;rcases hz with hz | rfl | hz
      · have:=h1 z hz;simp;omega
      · simp;omega
      · have:=h2 z hz;simp;omega
    · rw [hc,hL,e,List.filter_append]
      have:A.filter (fun z=>decide (z.length=(bestL r x).length))=[]:=List.filter_eq_nil_iff.2 fun z hz=>by have:=h1 z hz;simp;omega
      rw [this];simp
theorem pair_step {n m:Nat} (hm:m+1≤n*n):pF n (m+1)<n∧pT n (m+1)<n∧((pT n (m+1)+1<n∧pF n m=pF n (m+1)∧pT n m=pT n (m+1)+1)∨(pT n (m+1)+1=n∧pF n m=pF n (m+1)+1∧pT n m=0)):=by
  have hn:0<n:=by cases n with | zero=>simp at hm | succ n=>omega
  unfold pF pT;have e:n*n-m=(n*n-(m+1))+1:=by omega
  rw [e]
  generalize hp:n*n-(m+1)=p
  have h1:p<n*n:=by omega
  have h2:p/n<n:=(Nat.div_lt_iff_lt_mul hn).2 h1;have h3:p%n<n:=Nat.mod_lt _ hn;have h4:=Nat.div_add_mod p n;refine ⟨h2,h3,?_⟩
  by_cases h:p%n+1<n
  · refine .inl ⟨h,?_,?_⟩
    · rw [show p+1=(p%n+1)+n*(p/n) by omega,Nat.add_mul_div_left _ _ hn,Nat.div_eq_of_lt h];omega
    · rw [show p+1=(p%n+1)+n*(p/n) by omega,Nat.add_mul_mod_self_left,Nat.mod_eq_of_lt h]
  · refine .inr ⟨by omega,?_,?_⟩
    · rw [show p+1=0+n*(p/n+1) by rw [Nat.mul_add];omega,Nat.add_mul_div_left _ _ hn];simp
    · rw [show p+1=0+n*(p/n+1) by rw [Nat.mul_add];omega,Nat.add_mul_mod_self_left];simp
theorem less_zero (k:Nat) (l:List Int):less k 0 l=l:=by
  unfold less
  apply List.ext_getElem?
  intro i;rw [List.getElem?_set]
  split
  · rename_i e;subst e
    split
    · rename_i hk;simp [List.getD,hk]
    · rename_i hk;rw [List.getElem?_eq_none (by omega)]
  · rfl
theorem less_at {k b:Nat} {l:List Int} (hk:k<l.length):(less k b l).getD k 0=l.getD k 0-b:=by simp [less,List.getD,hk]
theorem less_ne {k j b:Nat} {l:List Int} (h:k≠j):(less k b l).getD j 0=l.getD j 0:=by simp [less,List.getD,List.getElem?_set_ne h]
theorem FI {k b:Nat} {l:List Int}:(less k b l).length=l.length:=by simp [less]
theorem drop_sum {f:Nat} {g:List Int} (hf:f<g.length):(g.drop f).sum=g.getD f 0+(g.drop (f+1)).sum:=by
  rw [List.drop_eq_getElem_cons hf,List.sum_cons];simp [List.getD,hf]
theorem drop_less {f b:Nat} {g:List Int}:(less f b g).drop (f+1)=g.drop (f+1):=by
  unfold less;rw [List.drop_set_of_lt (by omega)]
theorem lists_feas {n : Nat} : ∀ (m : Nat) (g l : List Int), m ≤ n * n → g.length = n → l.length = n → (∀ x ∈ g, 0 ≤ x) → (∀ x ∈ l, 0 ≤ x) → l.sum ≤ (g.drop (pF n m)).sum →
    (g.getD (pF n m) 0=0∨∀ c,c<pT n m→l.getD c 0=0)→DN n m g l≠[]:=by
  intro m
  induction m with
  | zero=>
    intro g l _ hg hl hg0 hl0 hs _;have hf:n≤pF n 0:=by
      unfold pF;rcases Nat.eq_zero_or_pos n with rfl | h
      · simp
      · rw [Nat.sub_zero,Nat.mul_div_cancel _ h];exact Nat.le_refl _
    rw [List.drop_of_length_le (by omega)] at hs;have h1:=LQ hl0;simp only [List.sum_nil] at hs;simp only [DN];rw [if_pos ((MH hl0).1 (by omega))];simp
  | succ m ih=>
    intro g l hm hg hl hg0 hl0 hs hc;obtain ⟨hf,ht,hst⟩:=pair_step hm
    generalize hF:pF n (m+1)=f at *
    generalize hT:pT n (m+1)=t at *
    have hgf:0≤g.getD f 0:=hg0 _ (BJ (by omega));have hlt:0≤l.getD t 0:=hl0 _ (BJ (by omega))
    generalize hb:most n (m+1) g l=b
    have hb2:(b:Int)=min (g.getD f 0) (l.getD t 0):=by rw [← hb];unfold most;rw [hF,hT];omega
    have hne:DN n m (less f b g) (less t b l)≠[]→DN n (m+1) g l≠[]:=by
      intro h;simp only [DN];cases b with
      | zero=>
        rw [less_zero,less_zero] at h;simp only [hb,List.range_zero,List.flatMap_nil,List.nil_append];exact h
      | succ b=>
        obtain ⟨z,hz⟩:=List.exists_mem_of_ne_nil _ h;intro e;have:=List.append_eq_nil_iff.1 e;have hm2:=List.flatMap_eq_nil_iff.1 this.1 b (by rw [hb];simp);rw [hF,hT] at hm2;rw [List.map_eq_nil_iff] at hm2;rw [hm2] at hz;simp at hz
    refine hne (ih _ _ (by omega) (by rw [FI];exact hg) (by rw [FI];exact hl) (HC hg0 (by omega)) (HC hl0 (by omega)) ?_ ?_)
    all_goals (
      have e1:(less t b l).sum=l.sum-b:=by
        cases b with
        | zero=>rw [less_zero];simp
        | succ b=>exact PJ (by omega)
      have e2:(less f b g).getD f 0=g.getD f 0-b:=less_at (by omega)
      have e3:(less t b l).getD t 0=l.getD t 0-b:=less_at (by omega)
      have e4:((less f b g).drop f).sum=(g.drop f).sum-b:=by
        rw [drop_sum (by rw [FI];omega),drop_sum (show f<g.length by omega),e2,drop_less];omega
      have e5:∀ c,c<t→(less t b l).getD c 0=l.getD c 0:=fun c hc=>less_ne (by omega))
    · rcases hst with ⟨h1,h2,h3⟩ | ⟨h1,h2,h3⟩
      · rw [h2,e1,e4];omega
      · rw [h2]
        have e6:=drop_sum (g:=less f b g) (f:=f) (by rw [FI];omega)
        by_cases h0:(less f b g).getD f 0=0
        · rw [e1];omega
        · have hz : ∀ x ∈ less t b l, x ≤ 0 := fun x hx => by
            obtain ⟨i,hi,rfl⟩:=List.mem_iff_getElem.1 hx;have e7:(less t b l)[i]=(less t b l).getD i 0:=by simp [List.getD,hi]
            rw [e7];rw [FI] at hi
            by_cases e:i=t
            · subst e;omega
            · have:i<t:=by omega
              rw [e5 i this];rcases hc with hc | hc
              · omega
              · rw [hc i this];exact Int.le_refl _
          have h7:=(MH (HC hl0 (by omega))).2 hz;rw [h7];exact LQ fun x hx=>HC hg0 (by omega) x (List.mem_of_mem_drop hx)
    · rcases hst with ⟨h1,h2,h3⟩ | ⟨h1,h2,h3⟩
      · rw [h2,h3]
        by_cases h0:(less f b g).getD f 0=0
        · exact .inl h0
        · refine .inr fun c hcc=>?_
          by_cases e:c=t
          · subst e;omega
          · rw [e5 c (by omega)]
            rcases hc with hc | hc
            · omega
            · exact hc c (by omega)
      · rw [h3];exact .inr fun c hc=>by omega
theorem lists_give {n:Nat}:∀ (m:Nat) (g l:List Int),(∀ x∈g,0≤x)→∀ z∈DN n m g l,(z.map Cart.bales).sum≤g.sum:=by
  intro m
  induction m with
  | zero=>
    intro g l h z hz;simp only [DN] at hz
    split at hz
    · simp at hz;subst hz;exact LQ h
    · simp at hz
  | succ m ih=>
    intro g l h z hz;simp only [DN,List.mem_append,List.mem_flatMap,List.mem_range,List.mem_map] at hz;rcases hz with ⟨b,hb,r,hr,rfl⟩ | hz
    · obtain ⟨h1,_⟩:=most_lt hb
      have e1:=ih _ _ (HC h (by omega)) r hr;rw [PJ h1] at e1;simp only [List.map_cons,List.sum_cons];omega
    · exact ih _ _ h z hz
theorem lists_none {n:Nat} (hn:0<n) {g l:List Int} (hg:g.length=n) (hl:l.length=n) (g0:∀ x∈g,0≤x) (l0:∀ x∈l,0≤x):DN n (n*n) g l=[]↔g.sum<l.sum:=by
  constructor
  · intro h
    refine Int.lt_of_not_ge fun hs=>lists_feas (n*n) g l (Nat.le_refl _) hg hl g0 l0 ?_ (.inr fun c hc=>?_) h
    · have:pF n (n*n)=0:=by unfold pF;simp
      rw [this,List.drop_zero];exact hs
    · have:pT n (n*n)=0:=by unfold pT;simp
      omega
  · intro h
    cases hL:DN n (n*n) g l with
    | nil=>rfl
    | cons z r=>
      have hz:z∈DN n (n*n) g l:=by rw [hL];simp
      have h1:=(lists_sum _ _ _ l0 z hz).1;have h2:=lists_give _ _ _ g0 z hz;omega
structure Pool (h nd:List Int) (b:Int):Prop where
  some:0<h.length
  few:h.length≤4
  same:nd.length=h.length
  each:∀ i,i<h.length→inB (h.getD i 0) 0 50=true∧inB (nd.getD i 0) 0 50=true
  bale:1≤b∧b≤10
theorem pool_of {h nd:List Int} {b:Int} (e:DU h nd b=0):Pool h nd b:=by
  unfold DU at e
  split at e
  · cases e
  split at e
  · cases e
  split at e
  · cases e
  split at e
  · cases e
  split at e
  · cases e
  rename_i h1 h2 h3 h4 h5
  exact ⟨by omega,by omega,by omega,Classical.not_not.1 h4,by simpa [inB] using h5⟩
section
variable {h nd:List Int} {b:Int}
theorem PF:(FZ h nd b).length=h.length:=by simp [FZ]
theorem SF:(GF h nd b).length=h.length:=by simp [GF]
theorem PE (hb:1≤b) (i:Nat):0≤CO h nd b i:=by
  unfold CO;split
  · exact Int.ediv_nonneg (by omega) (by omega)
  · exact Int.le_refl _
theorem SC (hb:1≤b) (i:Nat):0≤ER h nd b i:=by
  unfold ER;split
  · exact Int.le_refl _
  · exact Int.ediv_nonneg (by omega) (by omega)
theorem givesM_nonneg (hb:1≤b):∀ x∈FZ h nd b,0≤x:=fun x hx=>by
  obtain ⟨i,_,rfl⟩:=List.mem_map.1 hx;exact PE hb i
theorem getsM_nonneg (hb:1≤b):∀ x∈GF h nd b,0≤x:=fun x hx=>by
  obtain ⟨i,_,rfl⟩:=List.mem_map.1 hx;exact SC hb i
theorem giveOf_le (hb:1≤b) {m:Int} {i:Nat} (hm:0≤m) (h1:h.getD i 0≤m) (h2:0≤nd.getD i 0):CO h nd b i≤m:=by
  unfold CO;split
  · rename_i e
    have:=Int.ediv_le_self (a:=h.getD i 0-nd.getD i 0) b (by omega);omega
  · exact hm
theorem getOf_le (hb:1≤b) {m:Int} {i:Nat} (hm:0≤m) (h1:nd.getD i 0≤m) (h2:0≤h.getD i 0):ER h nd b i≤m:=by
  unfold ER;split
  · exact hm
  · rename_i e
    refine Int.ediv_le_of_le_mul (by omega) ?_;have h4:(nd.getD i 0-h.getD i 0-1)*1≤(nd.getD i 0-h.getD i 0-1)*b:=Int.mul_le_mul_of_nonneg_left hb (by omega);have h6:(nd.getD i 0-h.getD i 0-1)*b=(nd.getD i 0-h.getD i 0)*b-b:=by rw [Int.sub_mul];omega
    have h7:(nd.getD i 0-h.getD i 0)*b≤m*b:=Int.mul_le_mul_of_nonneg_right (by omega) (by omega);omega
end
def NV (h nd:List Int) (b:Int):List Cart × Int:=
  if DU h nd b≠0 then ([],DU h nd b) else if (FZ h nd b).sum<(GF h nd b).sum then ([],11) else ((firstD h.length (FZ h nd b) (GF h nd b)).getD [],0)
section
variable {h nd:List Int} {b:Int}
theorem poolErr_1 (h0:h.length=0):DU h nd b=7:=if_pos h0
theorem poolErr_2 (h1:4<h.length):DU h nd b=6:=by unfold DU;rw [if_neg (by omega),if_pos h1]
theorem poolErr_3 (h0:¬ h.length=0) (h1:¬ 4<h.length) (h2:nd.length≠h.length):DU h nd b=2:=by unfold DU;rw [if_neg h0,if_neg h1,if_pos h2]
theorem poolErr_4 (h0:¬ h.length=0) (h1:¬ 4<h.length) (h2:nd.length=h.length) {i:Nat} (hi:i<h.length) (hb:(!inB (h.getD i 0) 0 50||!inB (nd.getD i 0) 0 50)=true):DU h nd b=1:=by
  unfold DU;rw [if_neg h0,if_neg h1,if_neg (by omega),if_pos];intro ha;obtain ⟨a1,a2⟩:=ha i hi;rw [a1,a2] at hb;cases hb
theorem poolErr_5 (h0:¬ h.length=0) (h1:¬ 4<h.length) (h2:nd.length=h.length) (ha:∀ i,i<h.length→inB (h.getD i 0) 0 50=true∧inB (nd.getD i 0) 0 50=true) (hb:inB b 1 10=false):DU h nd b=1:=by
  unfold DU;rw [if_neg h0,if_neg h1,if_neg (by omega),if_neg (fun x=>x ha),if_pos hb]
theorem poolErr_6 (h0:¬ h.length=0) (h1:¬ 4<h.length) (h2:nd.length=h.length) (ha:∀ i,i<h.length→inB (h.getD i 0) 0 50=true∧inB (nd.getD i 0) 0 50=true) (hb:inB b 1 10=true):DU h nd b=0:=by
  unfold DU;rw [if_neg h0,if_neg h1,if_neg (by omega),if_neg (fun x=>x ha),if_neg (by rw [hb];decide)]
theorem OT {p:Nat→Prop} {k:Nat} (h:∀ i,i<k→p i) (hk:p k):∀ i,i<k+1→p i:=fun i hi=>by
  by_cases e:i=k
  · subst e;exact hk
  · exact h i (by omega)
end
end Go.Sh
namespace Go.Proofs.YtgcemienebmdeaaGreatDoor
open Go Go.Sl Go.Sh
set_option maxRecDepth 100000
noncomputable def cIn (p:List Nat):Code:=sub (LB Tryz.f38) p
theorem MB (I:Imm) (n:Int) (lo:Int) (hi:Int):CtV Tryz.prog 38 #[vI n,vI lo,vI hi] I (.bool (inB n lo hi)):=by
 refine fr (args:=[_,_,_]) (N:=15) Tryz.func38 (fun F=>?_);show Run _ _ (cIn []) _ _ [(0,vI n),(1,vI lo),(2,vI hi)] _ _;refine rnm (rqr ?_);refine sp 1 [(6,.bool false)] (se (rq ?_));refine DS (fun a w=>SE 15 [(6,.bool ((cmp .leq lo n)&&(cmp .leq n hi)))] I F a w) ?_ ?_
 ·
  refine rr (sp 4 [(10,.bool (cmp .leq lo n))] ?_);refine BU 10 rfl (fun h1=>?_) (fun h1=>?_)
  ·
   have a0:=h1;have a0:=leq_t a0;refine sp 5 [(6,.bool (cmp .leq n hi))] (ee ?_);refine AO (fun a w hS hD hW=>⟨hS.sub (.consE 6 rfl (congrArg Value.bool (by simp only [h1,kk])) (.nil _)),hD,hW⟩)
  have a0:=h1;have a0:=leq_f a0;refine sp 5 [(6,.bool false)] (ee ?_);refine AO (fun a w hS hD hW=>⟨hS.sub (.consE 6 rfl (congrArg Value.bool (by simp only [h1,kk])) (.nil _)),hD,hW⟩)
 rintro a w ⟨hS,hD,hW⟩
 refine AW hS hD hW ?_;refine BB (rt1 6 rfl (IR _) ?_);exact ⟨by simp [inB,cmp],rfl⟩
noncomputable def c_checkDivide:=cod Tryz.f64
theorem checkDivide_ct (I:Imm) (a:Value) (h:List Int) (c:Value) (nd:List Int) (b:Int) (a_f:DB I a h) (c_f:DB I c nd):CtV Tryz.prog 64 #[a,c,vI b] I (vI (DU h nd b)):=by
 obtain ⟨a4,a5,c1,c4,rfl,c2,c3,b7⟩:=id a_f;obtain ⟨a6,a7,c5,c8,rfl,c6,c7,b8⟩:=id c_f;refine fr (args:=[_,_,_]) (N:=45) Tryz.func64 (fun F=>?_);show Run _ _ (c_checkDivide []) _ _ [(0,_),(1,_),(2,_)] _ _;refine rnm (rqr ?_);refine sp 1 [(6,vI 0)] (se (rq (rb 0 (rqr (sp 4 [(8,.bool (cmp .eql (↑(h.length)) 0))] (se (rc 8 rfl (fun h1=>?_) (fun h1=>?_))))))))
 ·
  have a8:=h1;have h1:=BQ h1;refine rqr (sp 1 [(6,vI 7)] (se (BB (RB (RP (rt1 6 rfl (IR _) ?_))))));exact ⟨congrArg (Value.int .i64) (poolErr_1 (by omega)).symm,rfl⟩
 have a8:=h1;have h1:=BV h1;refine rqr (sp 4 [(12,.bool (cmp .gtr (↑(h.length)) 4))] (se (rc 12 rfl (fun h2=>?_) (fun h2=>?_))))
 ·
  have a9:=h2;have h2:=SW h2;refine rqr (sp 1 [(6,vI 6)] (se (BB (RB (RP (rt1 6 rfl (IR _) ?_))))));exact ⟨congrArg (Value.int .i64) (poolErr_2 (by omega)).symm,rfl⟩
 have a9:=h2;have h2:=gtr_f h2;refine rqr (sp 6 [(16,.bool (!(cmp .eql (↑(nd.length)) (↑(h.length)))))] (se (rc 16 rfl (fun h3=>?_) (fun h3=>?_))))
 ·
  have b0:=h3;have h3:=BV (BM h3);refine rqr (sp 1 [(6,vI 2)] (se (BB (RB (RP (rt1 6 rfl (IR _) ?_))))));exact ⟨congrArg (Value.int .i64) (poolErr_3 (by omega) (by omega) (by omega)).symm,rfl⟩
 have b0:=h3;have h3:=BQ (BE h3);refine AM (NB (NX (rq (rqr (sp 3 [(24,vI 0),(23,vI (↑(h.length)))] (se (rb 1 ?_)))))));refine rl (fun mz a w=>∃ k:Nat,(k≤h.length)∧(∀ i,i<k→inB (h.getD i 0) 0 50=true∧inB (nd.getD i 0) 0 50=true)∧SD 45 [(24,vI ↑k),(0,vS a4 h.length a5),(1,vS a6 nd.length a7),(2,vI b),(23,vI (↑(h.length)))] I F a w (mz=h.length-k)) ?_ ?_
 ·intro a w hS hD hW;exact ⟨_,0,Nat.zero_le _,(fun i hi=>by omega),hS.sub su,hD,hW,rfl⟩
 rintro mz a w ⟨k,hk,ha,hS,hD,hW,rfl⟩
 refine AW hS hD hW ?_;clear hS hD hW a w;refine rqr (sp 1 [(25,.bool (cmp .lss ↑k (↑(h.length))))] (se (rq (rc 25 rfl (fun h4=>?_) (fun h4=>?_)))))
 ·
  have b1:=h4;have h4:=CQ h4;refine AM (NX (rq (rb 2 (rqr (sp 2 [(7,vI ↑k)] (se (rq ?_)))))));refine DS (fun a w=>SE 45 [(0,vS a4 h.length a5),(1,vS a6 nd.length a7),(2,vI b),(23,vI (↑(h.length))),(24,vI ↑k),(40,.bool ((!(inB (h.getD k 0) 0 50))||(!(inB (nd.getD k 0) 0 50))))] I F a w) ?_ ?_
  ·
   refine rr (sp 2 [(28,vI ↑k),(27,vS a4 h.length a5)] (sd (di 29 1 k b7.addr) (sd (dl 30 (EM b7 k (by omega))) (sd (dc 31 (fun I' hI=>(MB I' (h.getD k 0) 0 50 :))) (sp 2 [(33,.bool (!(inB (h.getD k 0) 0 50)))] ?_)))));refine BU 33 rfl (fun h5=>?_) (fun h5=>?_)
   ·
    have a0:=h5;have a0:=BM a0;have a3:=MR a0;refine sp 7 [(40,.bool true)] (ee ?_);refine AO (fun a w hS hD hW=>⟨hS.sub (sun 5 (.consE 40 rfl (congrArg Value.bool (by simp only [h5,kk])) (.nil _))),hD,hW⟩)
   have a0:=h5;have a0:=BE a0;have a3:=EI a0;refine sp 2 [(35,vI ↑k),(34,vS a6 nd.length a7)] (sd (di 36 1 k b8.addr) (sd (dl 37 (EM b8 k (by omega))) (sd (dc 38 (fun I' hI=>(MB I' (nd.getD k 0) 0 50 :))) (sp 2 [(40,.bool (!(inB (nd.getD k 0) 0 50)))] (ee ?_)))));refine AO (fun a w hS hD hW=>⟨hS.sub (sun 5 (.consE 40 rfl (congrArg Value.bool (by simp only [h5,kk])) (.nil _))),hD,hW⟩)
  rintro a w ⟨hS,hD,hW⟩
  refine AW hS hD hW ?_;clear hS hD hW a w;refine rc 40 rfl (fun h6=>?_) (fun h6=>?_)
  ·
   have b4:=h6;refine rqr (sp 1 [(6,vI 1)] (se (BB (RB (RP (RP (RB (RP (rt1 6 rfl (IR _) ?_)))))))));exact ⟨congrArg (Value.int .i64) (poolErr_4 (by omega) (by omega) (by omega) (i:=k) (by omega) h6).symm,rfl⟩
  have b4:=h6;obtain ⟨a1,a2⟩:=or_f h6;have a1:=BE a1;have b2:=EI a1;have a2:=BE a2;have b3:=EI a2;refine AM (NB (NX (rr (sd (da 41 ↑k 1) (sp 1 [(24,vI (↑k+1))] (ee ?_))))));refine AN (h.length-(k+1)) (by omega) ?_;intro a w hS hD hW;exact ⟨k+1,by omega,OT ha ⟨a1,a2⟩,hS.sub su,hD,hW,rfl⟩
 have b1:=h4;have h4:=CU h4;refine CH 1 (EP (EP (EB (NX (rq (rqr (sp 1 [(42,vI b)] (sd (dc 43 (fun I' hI=>(MB I' b 1 10 :))) (sp 1 [(44,.bool (!(inB b 1 10)))] (se (rc 44 rfl (fun h7=>?_) (fun h7=>?_))))))))))))
 ·
  have b6:=h7;have h7:=BM h7;have b5:=MR h7;refine rqr (sp 1 [(6,vI 1)] (se (BB (RP (rt1 6 rfl (IR _) ?_)))));exact ⟨congrArg (Value.int .i64) (poolErr_5 (by omega) (by omega) (by omega) (fun i hi=>ha i (by omega)) h7).symm,rfl⟩
 have b6:=h7;have h7:=BE h7;have b5:=EI h7;refine AM (NX (rqr (sp 1 [(6,vI 0)] (se (BB (rt1 6 rfl (IR _) ?_))))));exact ⟨congrArg (Value.int .i64) (poolErr_6 (by omega) (by omega) (by omega) (fun i hi=>ha i (by omega)) h7).symm,rfl⟩
end Go.Proofs.YtgcemienebmdeaaGreatDoor
namespace Go.Sh
open Go Go.Sl
section
variable {α:Type} {c:α→α→Int} {l zs:List α} {i j m:Nat} {d:α}
def InsI (c:α→α→Int) (l zs:List α) (i:Nat):Prop:=zs=AF c (l.take i)++l.drop i
def InsAt (c:α→α→Int) (d:α) (l zs:List α) (i j:Nat):Prop:=
  j≤i∧i<l.length∧zs=(AF c (l.take i)).take j++l.getD i d::((AF c (l.take i)).drop j++l.drop (i+1))∧∀ z∈(AF c (l.take i)).drop j,c (l.getD i d) z<0
theorem ES (h:i≤l.length):(AF c (l.take i)).length=i:=by rw [(DM _).length_eq,List.length_take];omega
theorem InsI.start:InsI c l l 1:=by
  unfold InsI;cases l with
  | nil=>rfl
  | cons x r=>rfl
theorem InsI.len (h:InsI c l zs i):zs.length=l.length:=by
  rw [h,List.length_append,(DM _).length_eq,List.length_take,List.length_drop];omega
theorem InsI.into (h:InsI c l zs i) (hi:i<l.length):InsAt c d l zs i i:=by
  have hl:=ES (c:=c) (Nat.le_of_lt hi);refine ⟨Nat.le_refl _,hi,?_,?_⟩
  · rw [h,List.take_of_length_le (l:=AF c (l.take i)) (by omega),List.drop_of_length_le (l:=AF c (l.take i)) (by omega),List.drop_eq_getElem_cons hi]
    simp [List.getD,hi]
  · rw [List.drop_of_length_le (by omega)];intro z hz;cases hz
theorem InsI.done (h:InsI c l zs i) (hi:l.length≤i):zs=AF c l:=by
  rw [h,List.take_of_length_le hi,List.drop_of_length_le hi,List.append_nil]
theorem swapG {l:List α} {i j:Nat} {d:α} (hi:i<l.length) (hj:j<l.length):((l.set i (l.getD j d)).set j (l.getD i d)).Perm l:=by
  have e1:l.getD i d=l[i]:=by simp [List.getD,hi]
  have e2:l.getD j d=l[j]:=by simp [List.getD,hj]
  rw [e1,e2];exact List.set_set_perm hi hj
theorem InsAt.len (h:InsAt c d l zs i j):zs.length=l.length:=by
  obtain ⟨h1,h2,h3,_⟩:=h;have hl:=ES (c:=c) (Nat.le_of_lt h2);rw [h3];simp only [List.length_append,List.length_cons,List.length_take,List.length_drop,hl];omega
theorem InsAt.at_j (h:InsAt c d l zs i j):zs.getD j d=l.getD i d:=by
  obtain ⟨h1,h2,h3,_⟩:=h;have hl:=ES (c:=c) (Nat.le_of_lt h2);rw [h3,List.getD_eq_getElem?_getD,List.getElem?_append_right (by rw [List.length_take];omega)];rw [show j-((AF c (l.take i)).take j).length=0 by rw [List.length_take];omega];rfl
theorem InsAt.at_m (h:InsAt c d l zs i j) (hm:m<j):zs.getD m d=(AF c (l.take i)).getD m d:=by
  obtain ⟨h1,h2,h3,_⟩:=h;have hl:=ES (c:=c) (Nat.le_of_lt h2);rw [h3,List.getD_eq_getElem?_getD,List.getElem?_append_left (by rw [List.length_take];omega),List.getElem?_take_of_lt hm,← List.getD_eq_getElem?_getD]
theorem InsAt.step (h:InsAt c d l zs i j) (hm:m+1=j) (hlt:c (zs.getD j d) (zs.getD m d)<0):InsAt c d l ((zs.set j (zs.getD m d)).set m (zs.getD j d)) i m:=by
  rw [h.at_j,h.at_m (m:=m) (by omega)] at hlt ⊢;obtain ⟨h1,h2,h3,h4⟩:=h;have hl:=ES (c:=c) (Nat.le_of_lt h2);unfold InsAt
  generalize AF c (l.take i)=q at h3 h4 hl hlt ⊢
  generalize l.getD i d=x at h3 h4 hlt ⊢
  have hmq:m<q.length:=by omega
  have hd:q.drop m=q.getD m d::q.drop (m+1):=by rw [List.drop_eq_getElem_cons hmq];simp [List.getD,hmq]
  refine ⟨by omega,h2,?_,?_⟩
  · subst hm
    rw [BO (d:=d) hmq] at h3;rw [h3,List.set_append_right _ _ (by simp;omega),show m+1-(q.take m++[q.getD m d]).length=0 by simp;omega,List.set_cons_zero,List.append_assoc,List.set_append_right _ _ (by simp;omega),show m-(q.take m).length=0 by simp;omega,List.singleton_append,List.set_cons_zero,hd];rfl
  · rw [hd]
    intro z hz;rcases List.mem_cons.1 hz with rfl | hz
    · exact hlt
    · rw [hm] at hz;exact h4 z hz
theorem InsAt.done (h:InsAt c d l zs i j) (hs:j=0∨¬ c (zs.getD j d) (zs.getD (j-1) d)<0):InsI c l zs (i+1):=by
  rcases Nat.eq_zero_or_pos j with h0 | h0
  · obtain ⟨h1,h2,h3,h4⟩:=h
    unfold InsI;rw [isort_take (d:=d) h2,insB_at d _ _ j (by rw [ES (Nat.le_of_lt h2)];exact h1) h4 (.inl h0),h3];simp
  · rw [h.at_j,h.at_m (m:=j-1) (by omega)] at hs
    obtain ⟨h1,h2,h3,h4⟩:=h;unfold InsI;rw [isort_take (d:=d) h2,insB_at d _ _ j (by rw [ES (Nat.le_of_lt h2)];exact h1) h4 hs,h3];simp
theorem InsAt.done2 {u:Nat} (h:InsAt c d l zs i j) (hu:u=0) (hb:(cmp .gtr (j:Int) (u:Int)&&cmp .lss (c (zs.getD j d) (zs.getD ((j:Int)-1).toNat d)) 0)=false):InsI c l zs (i+1):=by
  subst hu;refine h.done ?_;rcases Nat.eq_zero_or_pos j with h0 | h0
  · exact .inl h0
  · refine .inr ?_
    rw [show ((j:Int)-1).toNat=j-1 by omega] at hb;simp only [cmp,Bool.and_eq_false_iff,decide_eq_false_iff_not] at hb;rcases hb with hb | hb
    · omega
    · omega
end
def RX (s:Slip):Prop:=-1000000≤s.hour∧s.hour≤1000000∧-1000000≤s.num∧s.num≤1000000
def cmpZ (x y:Int):Int:=x-y
theorem less_cmpZ {x y:Int}:cmp .lss x y=cmp .lss (cmpZ x y) 0:=by
  show decide (x<y)=decide (x-y<0);exact decide_eq_decide.2 (by omega)
theorem u8_id {m:Nat} (h:m<256):IntKind.u8.wrap (m:Int)=m:=by
  have h1:IntKind.u8.signed=false:=rfl;have h2:IntKind.u8.bits=8:=rfl;simp only [IntKind.wrap,h1,h2,Bool.false_and,Bool.false_eq_true,if_false];omega
theorem u64_id {m:Nat} (h:m<1000000):IntKind.u64.wrap (m:Int)=m:=by
  have h1:IntKind.u64.signed=false:=rfl;have h2:IntKind.u64.bits=64:=rfl;simp only [IntKind.wrap,h1,h2,Bool.false_and,Bool.false_eq_true,if_false];omega
theorem byteAt_range {s:List UInt8} {j:Nat}:0≤byteAt s j∧byteAt s j≤255:=by
  unfold byteAt;have:=(s.getD j 0).toNat_lt;omega
end Go.Sh

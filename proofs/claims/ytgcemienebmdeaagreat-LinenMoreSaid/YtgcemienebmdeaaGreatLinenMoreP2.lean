/- A part of the proof of the laws of this seat. -/
import Derived.Test.YtgcemienebmdeaaGreatLinenMoreP1
import Derived.Below
import Derived.Laws.Strings
import Derived.Test.YtgcemienebmdeaaGreatProg
set_option linter.unusedVariables false
set_option linter.unusedSimpArgs false
namespace Go.Sl
open Go
section
variable {ρ:Option Nat} {P:Program} [Jud P] {N:Nat} {ops:Array Oper} {Q:Exit→Act→GW→Prop} {ds:List Deferred} {i:Nat} {l:Sl} {I:Imm} {R M:Seg}
def okAt (N:Nat) (ops:Array Oper) (l:Sl) (i:Nat):Option (Option Tmp × Op × TypeId):=
  match FJ ops N i with
  | some (dst,op,ty,gd)=>match FH ops l gd with
    | some true=>some (dst,op,ty)
    | _=>none
  | none=>none
theorem GF {dst:Option Tmp} {op:Op} {ty:TypeId} (h:okAt N ops l i=some (dst,op,ty)):∃ gd,FJ ops N i=some (dst,op,ty,gd)∧FH ops l gd=some true:=by
  unfold okAt at h
  split at h
  · split at h
    · rename_i h1 _ h2;cases h;exact ⟨_,h1,h2⟩
    · cases h
  · cases h
inductive Ar | add | sub | mul
def arAt (b:Ar) (N:Nat) (ops:Array Oper) (l:Sl) (i:Nat):Option (Nat × Int × Int):=
  match okAt N ops l i with
  | some (some d,.binOp o _ x y _,_)=>match CE l x,CE l y with
    | some (.int .i64 a),some (.int .i64 c)=>match b,o with
      | .add,.add=>some (d,a,c)
      | .sub,.sub=>some (d,a,c)
      | .mul,.mul=>some (d,a,c)
      | _,_=>none
    | _,_=>none
  | _=>none
theorem arAt_spec {b : Ar} {d : Nat} {a c : Int} (h : arAt b N ops l i = some (d, a, c)) : ∃ x y T T' ty gd, FJ ops N i = some (some d, .binOp (match b with | .add => .add | .sub => .sub | .mul => .mul) T x y T', ty, gd) ∧ FH ops l gd = some true ∧
    CE l x=some (.int .i64 a)∧CE l y=some (.int .i64 c):=by
  unfold arAt at h
  split at h
  · rename_i d' o T x y T' ty ho
    obtain ⟨gd,h1,h2⟩:=GF ho
    split at h
    · rename_i a' c' hx hy
      split at h <;> cases h <;> exact ⟨x,y,T,T',ty,gd,h1,h2,hx,hy⟩
    · cases h
  · cases h
theorem da (d:Nat) (a c:Int) (hr:-9223372036854775808≤a+c∧a+c≤9223372036854775807:=by omega) (h:arAt .add N ops l i=some (d,a,c):=by kernel_rfl):Det P N ops i l I R d (.int .i64 (a+c)):=by
  obtain ⟨x,y,T,T',ty,gd,h1,h2,h3,h4⟩:=arAt_spec h;exact det_add h1 h2 h3 h4 hr
theorem dsb (d:Nat) (a c:Int) (hr:-9223372036854775808≤a-c∧a-c≤9223372036854775807:=by omega) (h:arAt .sub N ops l i=some (d,a,c):=by kernel_rfl):Det P N ops i l I R d (.int .i64 (a-c)):=by
  obtain ⟨x,y,T,T',ty,gd,h1,h2,h3,h4⟩:=arAt_spec h;exact det_sub h1 h2 h3 h4 hr
theorem dmu (d:Nat) (a c:Int) (hr:-9223372036854775808≤a*c∧a*c≤9223372036854775807:=by omega) (h:arAt .mul N ops l i=some (d,a,c):=by kernel_rfl):Det P N ops i l I R d (.int .i64 (a*c)):=by
  obtain ⟨x,y,T,T',ty,gd,h1,h2,h3,h4⟩:=arAt_spec h;exact det_mul h1 h2 h3 h4 hr
def cmAt (N:Nat) (ops:Array Oper) (l:Sl) (i:Nat):Option (Nat × BinOp × Int × Int):=
  match okAt N ops l i with
  | some (some d,.binOp o _ x y _,_)=>match CE l x,CE l y with
    | some (.int .i64 a),some (.int .i64 c)=>bif isCmp o then some (d,o,a,c) else none
    | _,_=>none
  | _=>none
theorem dcm (d:Nat) (o:BinOp) (a c:Int) (v:Bool) (hb:cmp o a c=v) (h:cmAt N ops l i=some (d,o,a,c):=by kernel_rfl):Det P N ops i l I R d (.bool v):=by
  unfold cmAt at h
  split at h
  · rename_i d' o' T x y T' ty ho
    obtain ⟨gd,h1,h2⟩:=GF ho
    split at h
    · rename_i a' c' hx hy
      cases hc:isCmp o' with
      | false=>rw [hc] at h;cases h
      | true=>rw [hc] at h;cases h;exact det_cmp' h1 h2 hx hy hc hb
    · cases h
  · cases h
def ixAt (P:Program) (N:Nat) (ops:Array Oper) (l:Sl) (i:Nat):Option (Nat × Nat × Option Addr × Nat × Int):=
  match okAt N ops l i with
  | some (some d,.indexAddr T x y,_)=>match JA P T with
    | some e=>match EG P e,CE l x,CE l y with
      | some sz,some (.slice a n _),some (.int _ j)=>some (d,sz,a,n,j)
      | _,_,_=>none
    | none=>none
  | _=>none
theorem diI (d sz : Nat) (j : Int) {n b off : Nat} {a : Option Addr} (ha : 0 < n → a = some ⟨b, off, none⟩) (hj : 0 ≤ j ∧ j < n := by omega) (h : ixAt P N ops l i = some (d, sz, a, n, j) := by kernel_rfl) :
    Det P N ops i l I R d (.pointer (some ⟨b,off+j.toNat*sz,none⟩)):=by
  unfold ixAt at h
  split at h
  · rename_i d' T x y ty ho
    obtain ⟨gd,h1,h2⟩:=GF ho
    split at h
    · rename_i e he
      split at h
      · rename_i sz' a' n' c' k' j' hs hx hy
        cases h;exact det_indexAddr h1 h2 he hs hx hy ha hj.1 hj.2
      · cases h
    · cases h
  · cases h
theorem di (d sz : Nat) (j : Nat) {n b off : Nat} {a : Option Addr} (ha : 0 < n → a = some ⟨b, off, none⟩) (hj : j < n := by omega) (h : ixAt P N ops l i = some (d, sz, a, n, (j : Int)) := by kernel_rfl) :
    Det P N ops i l I R d (.pointer (some ⟨b,off+j*sz,none⟩)):=by
  have:=diI (I:=I) (R:=R) d sz (j:Int) ha (by omega) h
  rwa [Int.toNat_natCast] at this
def iaAt (P:Program) (N:Nat) (ops:Array Oper) (l:Sl) (i:Nat):Option (Nat × Nat × Nat × Nat × Nat × Int):=
  match okAt N ops l i with
  | some (some d,.indexAddr T x y,_)=>match tyArr P T with
    | some (n,e)=>match EG P e,CE l x,CE l y with
      | some sz,some (.pointer (some ⟨b,off,none⟩)),some (.int _ j)=>some (d,sz,n,b,off,j)
      | _,_,_=>none
    | none=>none
  | _=>none
def ldAt (P:Program) (N:Nat) (ops:Array Oper) (l:Sl) (i:Nat):Option (Nat × Nat × Nat):=
  match okAt N ops l i with
  | some (some d,.load T x,_)=>match EF P T,CE l x with
    | some false,some (.pointer (some ⟨b,off,none⟩))=>some (d,b,off)
    | _,_=>none
  | _=>none
theorem dl (d:Nat) {b off:Nat} {v:Value} (hs:Sees I R ⟨b,off,none⟩ v) (h:ldAt P N ops l i=some (d,b,off):=by kernel_rfl):Det P N ops i l I R d v:=by
  unfold ldAt at h
  split at h
  · rename_i d' T x ty ho
    obtain ⟨gd,h1,h2⟩:=GF ho
    split at h
    · rename_i b' off' hT hx
      cases h;exact RZ h1 h2 hT hx hs
    · cases h
  · cases h
def cellAt (R:Seg) (k off:Nat):Option (Nat × Value):=
  match R[k]? with
  | some (b,.cells cs _ _)=>match cs[off]? with
    | some v=>some (b,v)
    | none=>none
  | _=>none
theorem dlb (d k off b:Nat) (v:Value) (h:ldAt P N ops l i=some (d,b,off):=by kernel_rfl) (hc:cellAt R k off=some (b,v):=by kernel_rfl):Det P N ops i l I R d v:=by
  refine dl d ?_ h;unfold cellAt at hc
  split at hc
  · rename_i b' cs T fz hk
    split at hc
    · rename_i v' hv
      cases hc;exact sees_at k hk hv
    · cases hc
  · cases hc
def lnAt (P:Program) (N:Nat) (ops:Array Oper) (l:Sl) (i:Nat):Option (Nat × Nat × Nat × Nat):=
  match okAt N ops l i with
  | some (some d,.load T x,_)=>match EF P T,EG P T,CE l x with
    | some true,some n,some (.pointer (some ⟨b,off,none⟩))=>some (d,n,b,off)
    | _,_,_=>none
  | _=>none
theorem dn (d:Nat) {b off:Nat} {vs:List Value} (hs:SeesN I R b off vs) (h:lnAt P N ops l i=some (d,vs.length,b,off):=by kernel_rfl):Det P N ops i l I R d (.agg vs.toArray):=by
  unfold lnAt at h
  split at h
  · rename_i d' T x ty ho
    obtain ⟨gd,h1,h2⟩:=GF ho
    split at h
    · rename_i n' b' off' hT hn hx
      cases h;exact KG h1 h2 hT hn hx rfl hs
    · cases h
  · cases h
def rowAt (R:Seg) (k off n:Nat):Option (Nat × List Value):=
  match R[k]? with
  | some (b,.cells cs _ _)=>some (b,(cs.toList.drop off).take n)
  | _=>none
theorem dnb (d k off b:Nat) (vs:List Value) (h:lnAt P N ops l i=some (d,vs.length,b,off):=by kernel_rfl) (hc:rowAt R k off vs.length=some (b,vs):=by kernel_rfl):Det P N ops i l I R d (.agg vs.toArray):=by
  refine dn d ?_ h;unfold rowAt at hc
  split at hc
  · rename_i b' cs T fz hk
    have h1:b'=b:=congrArg (fun x=>(x.getD (0,[])).1) hc;have h2:(cs.toList.drop off).take vs.length=vs:=congrArg (fun x=>(x.getD (0,[])).2) hc;subst h1;exact seesN_at (n:=vs.length) k hk h2
  · cases hc
def clAt (P:Program) (N:Nat) (ops:Array Oper) (l:Sl) (i:Nat):Option (Option Tmp × FuncId × Array Value):=
  match okAt N ops l i with
  | some (d,.call { callee:=.value f,args:=args,argTypes:=_ },_)=>match CE l f,NW l args.toList with
    | some (.func (.func fid) ⟨fs⟩ cv),some vals=>bif DF P fid&&fs.isEmpty then some (d,fid,(vals++cv.toList).toArray) else none
    | _,_=>none
  | _=>none
theorem clAt_spec {P : Program} {d : Option Tmp} {fid : FuncId} {argv : Array Value} (h : clAt P N ops l i = some (d, fid, argv)) : ∃ f args tys ty gd vals cv, FJ ops N i = some (d, .call { callee := .value f, args := args, argTypes := tys }, ty, gd) ∧ FH ops l gd = some true ∧
    CE l f=some (.func (.func fid) #[] (cv:List Value).toArray)∧NW l args.toList=some vals∧DF P fid=true∧(vals++cv).toArray=argv:=by
  unfold clAt at h
  split at h
  · rename_i d' f args tys ty ho
    obtain ⟨gd,h1,h2⟩:=GF ho
    split at h
    · rename_i fid' fs cv vals hf hv
      cases hc:DF P fid'&&fs.isEmpty with
      | false=>rw [hc] at h;cases h
      | true=>
        rw [hc] at h;cases h;rw [Bool.and_eq_true,List.isEmpty_iff] at hc;obtain ⟨hc,rfl⟩:=hc;exact ⟨f,args,tys,ty,gd,vals,cv.toList,h1,h2,by simpa using hf,hv,hc,rfl⟩
    · cases h
  · cases h
theorem dc (d:Nat) {fid:FuncId} {argv:Array Value} {v:Value} (ct:∀ I',I.le I'→CtV P fid argv I' v) (h:clAt P N ops l i=some (some d,fid,argv):=by kernel_rfl):Det P N ops i l I R d v:=by
  obtain ⟨f,args,tys,ty,gd,vals,cv,h1,h2,h3,h4,h5,h6⟩:=clAt_spec h;exact OI h1 h2 h3 h4 h5 h6 ct
theorem sc (d : Option Tmp) {K : Sl → Imm → Seg → Prop} {fid : FuncId} {argv : Array Value} {pre F : Seg} {post : Value → Imm → Seg → Prop} (ct : Ct P fid argv I pre post) (hM : M.Perm (pre ++ F))
    (hk:∀ v I' M',I.le I'→post v I' M'→K (ups d v l) I' (M'++F)) (h:clAt P N ops l i=some (d,fid,argv):=by kernel_rfl):Stp P N ops i l I M K:=by
  obtain ⟨f,args,tys,ty,gd,vals,cv,h1,h2,h3,h4,h5,h6⟩:=clAt_spec h;exact JU h1 h2 h3 h4 h5 h6 ct hM hk
def bxAt (N:Nat) (ops:Array Oper) (l:Sl) (i:Nat):Option (Nat × TypeId × Array Value):=
  match okAt N ops l i with
  | some (some d,.box T x,_)=>match CE l x with
    | some v=>some (d,T,v.cells)
    | none=>none
  | _=>none
theorem sb (d T:Nat) (cs:Array Value) {K:Sl→Imm→Seg→Prop} (hk:∀ b,K ((d,.pointer (some ⟨b,0,none⟩))::l) I ((b,.cells cs T (0,0))::M)) (h:bxAt N ops l i=some (d,T,cs):=by kernel_rfl):Stp P N ops i l I M K:=by
  unfold bxAt at h
  split at h
  · rename_i d' T' x ty ho
    obtain ⟨gd,h1,h2⟩:=GF ho
    split at h
    · rename_i v hx
      cases h;exact stp_box h1 h2 hx rfl hk
    · cases h
  · cases h
def alAt (P:Program) (N:Nat) (ops:Array Oper) (l:Sl) (i:Nat):Option (Nat × TypeId × Array Value):=
  match okAt N ops l i with
  | some (some d,.alloc T,_)=>match HF P T with
    | some v=>some (d,T,v.cells)
    | none=>none
  | _=>none
theorem sal (d T:Nat) (cs:Array Value) {K:Sl→Imm→Seg→Prop} (hk:∀ b,K ((d,.pointer (some ⟨b,0,none⟩))::l) I ((b,.cells cs T (0,0))::M)) (h:alAt P N ops l i=some (d,T,cs):=by kernel_rfl):Stp P N ops i l I M K:=by
  unfold alAt at h
  split at h
  · rename_i d' T' ty ho
    obtain ⟨gd,h1,h2⟩:=GF ho
    split at h
    · rename_i v hx
      cases h;exact stp_alloc h1 h2 hx rfl hk
    · cases h
  · cases h
def stAt (P:Program) (N:Nat) (ops:Array Oper) (l:Sl) (i:Nat):Option (Nat × Nat × List Value):=
  match okAt N ops l i with
  | some (none,.store T x y,_)=>match CE l x,CE l y,EG P T with
    | some (.pointer (some ⟨b,off,none⟩)),some v,some n=>bif Nat.beq v.cells.toList.length n&&v.cells.toList.all DC then some (b,off,v.cells.toList) else none
    | _,_,_=>none
  | _=>none
theorem ss (k off b : Nat) (vs cs' : List Value) (M' : Seg) {cs : List Value} {S : TypeId} {K : Sl → Imm → Seg → Prop} (hk : M[k]? = some (b, Obj.cells cs.toArray S (0, 0))) (hM : M.set k (b, Obj.cells cs'.toArray S (0, 0)) = M') (hK : K l I M')
    (h:stAt P N ops l i=some (b,off,vs):=by kernel_rfl) (hs:(JS cs.toArray off vs).toList=cs':=by kernel_rfl) (hle:Nat.ble (off+vs.length) cs.length=true:=by kernel_rfl):Stp P N ops i l I M K:=by
  unfold stAt at h
  split at h
  · rename_i T' x y ty ho
    obtain ⟨gd,h1,h2⟩:=GF ho
    split at h
    · rename_i b' off' v n hx hy hn
      cases hc:Nat.beq v.cells.toList.length n&&v.cells.toList.all DC with
      | false=>rw [hc] at h;cases h
      | true=>
        rw [hc] at h;cases h;rw [Bool.and_eq_true] at hc;exact stp_store k h1 h2 hx hy hn rfl (Nat.eq_of_beq_eq_true hc.1) hc.2 hk (Nat.le_of_ble_eq_true hle) hs hM hK
    · cases h
  · cases h
def bsAt (P:Program) (N:Nat) (ops:Array Oper) (l:Sl) (i:Nat):Option (Nat × TypeId × Nat × Array Value):=
  match okAt N ops l i with
  | some (some d,.buildSlice T n parts,_)=>match JA P T,NW l (parts.toList.map (·.2)) with
    | some e,some _=>match EG P e,HF P e with
      | some sz, some z => bif Nat.ble (n * sz) 16777216 then
          match Instr.fill (fun i=>some (i*sz,sz)) ((Array.range (n*sz)).map (fun k=>(if n*sz=0 then #[] else z.cells)[k%(if n*sz=0 then (#[]:Array Value) else z.cells).size]!)) (parts.toList.map fun x=>(x.1,rho l x.2)) with
          | some cs=>some (d,e,n,cs)
          | none=>none
        else none
      | _,_=>none
    | _,_=>none
  | _=>none
theorem sbs (d e n:Nat) (cs:Array Value) {K:Sl→Imm→Seg→Prop} (hk:∀ b,K ((d,.slice (some ⟨b,0,none⟩) n n)::l) I ((b,.cells cs e (0,0))::M)) (h:bsAt P N ops l i=some (d,e,n,cs):=by kernel_rfl):Stp P N ops i l I M K:=by
  unfold bsAt at h
  split at h
  · rename_i d' T n' parts ty ho
    obtain ⟨gd,h1,h2⟩:=GF ho
    split at h
    · rename_i e' vs he hv
      split at h
      · rename_i sz z hs hz
        cases hc:Nat.ble (n'*sz) 16777216 with
        | false=>rw [hc] at h;cases h
        | true=>
          rw [hc] at h;simp only [cond_true] at h
          split at h
          · rename_i cs' hf
            cases h;exact stp_buildSlice h1 h2 he hs hz (parts_knownS (by rw [hv];rfl)) rfl (Nat.le_of_ble_eq_true hc) hf hk
          · cases h
      · cases h
    · cases h
  · cases h
end
abbrev sB (l:List UInt8):ByteArray:=⟨l.toArray⟩
abbrev sV (l:List UInt8):Value:=.string ⟨l.toArray⟩
theorem sB_size (a:List UInt8):(sB a).size=a.length:=by simp [sB,ByteArray.size]
section
variable {ρ:Option Nat} {P:Program} [Jud P] {N:Nat} {ops:Array Oper} {i:Nat} {l:Sl} {I:Imm} {R M:Seg} {d:Nat} {ty:TypeId} {gd:Option (Nat × Bool)}
end
theorem sB_get (l:List UInt8) (i:Nat):(sB l)[i]?=l[i]?:=by
  by_cases h:i<l.length
  · rw [getElem?_pos (sB l) i (by rw [sB_size];exact h),List.getElem?_eq_getElem h]
    rfl
  · rw [getElem?_neg (sB l) i (by rw [sB_size];exact h),List.getElem?_eq_none (by omega)]
section
variable {ρ:Option Nat} {P:Program} [Jud P] {N:Nat} {ops:Array Oper} {i:Nat} {l:Sl} {I:Imm} {R M:Seg} {d:Nat} {ty:TypeId} {gd:Option (Nat × Bool)}
def byteAt (s:List UInt8) (j:Nat):Int:=((s.getD j 0).toNat:Int)
theorem det_indexS {x y : Operand} {T : TypeId} {s : List UInt8} {k : IntKind} (j : Nat) (hop : FJ ops N i = some (some d, .index T x y, ty, gd)) (hg : FH ops l gd = some true)
    (hT:P.underlying T=some .string) (hx:CE l x=some (sV s)) (hy:CE l y=some (.int k (j:Int))) (hj:j<s.length):Det P N ops i l I R d (.int .u8 (byteAt s j)):=
  HQ hop hg (JL hx hy) fun I' M'=>by
    show wpL P (Instr.index T (rho l x) (rho l y) >>= fun x=>pure (Next.value x)) _ I' M';rw [BI hx,BI hy];refine DX ?_;unfold Instr.index;show wpL P (underlying T >>= _) _ I' M';rw [AE,AP hT];simp only [if_pos (Int.natCast_nonneg j),Int.toNat_natCast];have e:(({ data:=s.toArray }:ByteArray)[j]?)=some s[j]:=by rw [show ({ data:=s.toArray }:ByteArray)=sB s from rfl,sB_get,List.getElem?_eq_getElem hj]
    rw [e];have e2:byteAt s j=(s[j].toNat:Int):=by simp [byteAt,List.getD_eq_getElem?_getD,List.getElem?_eq_getElem hj]
    rw [e2];exact ⟨rfl,rfl⟩
end
section
variable {ρ:Option Nat} {P:Program} [Jud P] {N:Nat} {ops:Array Oper} {i:Nat} {l:Sl} {I:Imm} {R M:Seg} {d:Nat} {ty:TypeId} {gd:Option (Nat × Bool)}
end
section
variable {P:Program} {N:Nat} {fn:Func} {I I₀:Imm} {post:Value→Imm→Seg→Prop} {F M:Seg} {l:Sl}
end
section
variable {ρ:Option Nat} {P:Program} [Jud P] {N:Nat} {ops:Array Oper} {i:Nat} {l:Sl} {I:Imm} {R M:Seg} {d:Nat} {ty:TypeId} {gd:Option (Nat × Bool)} {K:Sl→Imm→Seg→Prop}
end
end Go.Sl
namespace Go.Sh
open Go Go.Sl
theorem goTrack_inv {n:Nat} {fin:List Int→Int}:∀ (t met:List Int),met.Nodup→goTrack n fin t met=0→(∀ c∈t,0≤c∧c<n)∧(met++t).Nodup∧fin (met++t)=0:=by
  intro t
  induction t with
  | nil=>intro met hn h;exact ⟨fun _ h=>by simp at h,by simpa using hn,by simpa [goTrack] using h⟩
  | cons c r ih=>
    intro met hn h;simp only [goTrack] at h
    split at h
    · rename_i h1
      split at h
      · cases h
      · rename_i h2
        have hn':(met++[c]).Nodup:=List.nodup_append.2 ⟨hn,by simp,fun a ha b hb=>by simp at hb;subst hb;intro e;subst e;exact h2 ha⟩;obtain ⟨g1,g2,g3⟩:=ih (met++[c]) hn' h;have:=DB h1;rw [List.append_assoc] at g2 g3;refine ⟨fun x hx=>?_,g2,g3⟩;rcases List.mem_cons.1 hx with e | hx
        · subst e;omega
        · exact g1 x hx
    · cases h
theorem goTracks_inv {cs : List Car} {fin : List Int → Int} : ∀ (ts : List (List Int)) (rm met : List Int), met.Nodup → OQ cs fin ts rm met = 0 →
    OkAll cs ts∧(met++ts.flatten).Nodup∧fin (met++ts.flatten)=0∧∀ k,k<ts.length→lenOf cs (ts.getD k [])≤rm.getD k 0:=by
  intro ts
  induction ts with
  | nil=>intro rm met hn h;exact ⟨OkAll.nil,by simpa using hn,by simpa [OQ] using h,fun k hk=>by simp at hk⟩
  | cons t r ih=>
    intro rm met hn h;simp only [OQ] at h;obtain ⟨g1,g2,g3⟩:=goTrack_inv t met hn h
    split at g3
    · cases g3
    · rename_i hl
      obtain ⟨k1,k2,k3,k4⟩:=ih rm.tail (met++t) g2 g3;rw [List.append_assoc] at k2 k3;refine ⟨fun x hx=>?_,by simpa using k2,by simpa using k3,fun k hk=>?_⟩
      · rcases List.mem_cons.1 hx with e | hx
        · subst e;exact g1
        · exact k1 x hx
      · cases k with
        | zero=>
          simp only [List.getD_cons_zero];have:rm.headD 0=rm.getD 0 0:=by cases rm <;> rfl
          omega
        | succ k=>
          have:=k4 k (by simpa using hk);simp only [List.getD_cons_succ];have e:rm.tail.getD k 0=rm.getD (k+1) 0:=by cases rm <;> rfl
          omega
structure Fine (Y:Yard):Prop where
  cars:Y.cars.length≤5
  carOk:∀ c∈Y.cars,carErr c=0
  room1:0<Y.room.length
  room3:Y.room.length≤3
  roomOk:∀ n∈Y.room,inB n 0 20=true
  len:Y.tracks.length=Y.room.length
  ok:OkAll Y.cars Y.tracks
  nodup:Y.tracks.flatten.Nodup
  fits:∀ k,k<Y.tracks.length→lenOf Y.cars (Y.tracks.getD k [])≤Y.room.getD k 0
  all:Y.cars.length≤Y.tracks.flatten.length
  groups:groupsErr Y=0
theorem Valid.fine {Y:Yard} (h:Valid Y):Fine Y:=by
  unfold Valid RY at h
  split at h
  · cases h
  rename_i h1
  split at h
  · rename_i h2
    split at h
    · cases h
    rename_i h3
    split at h
    · cases h
    rename_i h4
    split at h
    · rename_i h5
      unfold tracksErr at h
      split at h
      · rename_i h6
        obtain ⟨g1,g2,g3,g4⟩:=goTracks_inv _ _ [] (by simp) h;simp only [List.nil_append] at g2 g3
        split at g3
        · cases g3
        · rename_i h7
          exact ⟨by omega,fun c hc=>of_decide_eq_true (List.all_eq_true.1 h2 c hc),by omega,by omega,fun n hn=>List.all_eq_true.1 h5 n hn,h6,g1,g2,g4,by omega,g3⟩
      · cases h
    · cases h
  · cases h
theorem range_bound {l:List Int} {n:Nat} (hn:l.Nodup) (h:∀ c∈l,0≤c∧c<n):l.length≤n:=by
  have hs:l ⊆ (List.range n).map (fun k:Nat=>(k:Int)):=fun c hc=>by
    have:=h c hc;exact List.mem_map.2 ⟨c.toNat,List.mem_range.2 (by omega),by omega⟩
  have:=hn.length_le_of_subset hs
  simpa using this
theorem flatten_ok {cs:List Car} {ts:List (List Int)} (h:OkAll cs ts):Ok cs ts.flatten:=fun c hc=>by
  obtain ⟨t,ht,hc⟩:=List.mem_flatten.1 hc;exact h t ht c hc
theorem Fine.sum {Y:Yard} (h:Fine Y):Y.tracks.flatten.length≤5:=Nat.le_trans (range_bound h.nodup (flatten_ok h.ok)) h.cars
structure MayOk (Y:Yard) (s:Shift):Prop where
  frm:0≤s.frm∧s.frm<Y.tracks.length
  to:0≤s.to∧s.to<Y.tracks.length
  ne:s.frm≠s.to
  many:1≤s.many∧s.many≤(Y.tracks.getD s.frm.toNat []).length
  free:NS Y.cars (trk Y s.frm) (cutAt Y s)=false
  fits:lenOf Y.cars ((trk Y s.frm).drop (cutAt Y s).toNat)+lenOf Y.cars (trk Y s.to)≤Y.room.getD s.to.toNat 0
theorem mayOk {Y:Yard} {s:Shift} (h:mayErr Y s=0):MayOk Y s:=by
  unfold mayErr at h
  split at h
  · rename_i h1
    split at h
    · rename_i h2
      split at h
      · cases h
      rename_i h3
      split at h
      · cases h
      rename_i h4
      split at h
      · cases h
      rename_i h5
      split at h
      · cases h
      rename_i h6
      have:=DB h1;have:=DB h2;simp only [Bool.or_eq_true,not_or,Bool.not_eq_true,decide_eq_true_eq,Int.not_lt] at h6;exact ⟨by omega,by omega,h3,⟨by omega,by have:=h5;unfold trk at this;omega⟩,h6.1,h6.2⟩
    · cases h
  · cases h
theorem okAll_set {cs:List Car} {ts:List (List Int)} (h:OkAll cs ts) (i:Nat) {x:List Int} (hx:Ok cs x):OkAll cs (ts.set i x):=fun t ht=>by
  rcases List.mem_or_eq_of_mem_set ht with ht | e
  · exact h t ht
  · subst e;exact hx
theorem OkAll.trk {Y:Yard} (h:OkAll Y.cars Y.tracks) {i:Int} (hi:0≤i∧i<Y.tracks.length):Ok Y.cars (trk Y i):=h.at i.toNat (by omega)
theorem GoodY.moved {Y:Yard} {s:Shift} (h:GoodY Y) (hm:mayErr Y s=0):GoodY (moved Y s):=by
  have m:=mayOk hm;refine ⟨?_,h.small,by simp only [Go.Sh.moved,List.length_set];exact h.len,?_⟩
  · exact okAll_set (okAll_set h.ok _ ((h.ok.trk m.to).append ((h.ok.trk m.frm).drop _))) _ ((h.ok.trk m.frm).take _)
  · rw [(OW m.frm m.to m.ne).length_eq];exact h.sum
end Go.Sh
namespace Go.Sl
open Go
inductive SK where
  | i (k:IntKind)
  | b
  | s
  deriving DecidableEq
def skV:Value→Option SK
  | .int k _=>some (.i k)
  | .bool _=>some .b
  | .string _=>some .s
  | _=>none
def scE:Value→Value→Bool
  | .int _ a,.int _ b=>a == b
  | .bool a,.bool b=>a == b
  | .string a,.string b=>a == b
  | _,_=>false
def FG (rec:TypeId→Option (Nat × List (Nat × SK))) (sz:Nat):List Field→Option (List (Nat × SK))
  | []=>some []
  | f::r=>if f.name="_" then none else match rec f.type,FG rec sz r with
    | some (sf,L),some M=>if f.offset+sf≤sz then some (L.map (fun x=>(f.offset+x.1,x.2))++M) else none
    | _,_=>none
def LR (P:Program):Nat→TypeId→Option (Nat × List (Nat × SK))
  | 0,_=>none
  | n+1,t=>
    match P.underlying t,EG P t with
    | some (.int k),some 1=>some (1,[(0,.i k)])
    | some .bool,some 1=>some (1,[(0,.b)])
    | some .string,some 1=>some (1,[(0,.s)])
    | some (.array len e),some sz=>match LR P n e with
      | some (se,L)=>if len*se=sz then some (sz,(List.range len).flatMap fun i=>L.map fun x=>(i*se+x.1,x.2)) else none
      | none=>none
    | some (.struct fs),some sz=>if P.stoodInHeld t then none else match FG (LR P n) sz fs.toList with
      | some L=>some (sz,L)
      | none=>none
    | _,_=>none
def okC (xs:Array Value) (L:List (Nat × SK)):Bool:=L.all fun x=>match xs[x.1]? with
  | some v=>decide (skV v=some x.2)
  | none=>false
def eqC (xs ys:Array Value) (L:List (Nat × SK)):Bool:=L.all fun x=>match xs[x.1]?,ys[x.1]? with
  | some a,some b=>scE a b
  | _,_=>false
def CellsOf (P:Program) (t:TypeId) (v:Value) (xs:Array Value):Prop:=(EF P t=some true∧v=.agg xs)∨(EF P t=some false∧xs=#[v])
section
variable {P:Program} {I:Imm} {M:Seg}
theorem flat_size {n:Nat} {t:TypeId} {sz:Nat} {L:List (Nat × SK)} (h:LR P n t=some (sz,L)):EG P t=some sz:=by
  cases n with
  | zero=>cases h
  | succ n=>
    unfold LR at h
    split at h
    · cases h;assumption
    · cases h;assumption
    · cases h;assumption
    · split at h
      · split at h
        · cases h;assumption
        · cases h
      · cases h
    · split at h
      · cases h
      · split at h
        · cases h;assumption
        · cases h
    · cases h
theorem flat_agg {n:Nat} {t:TypeId} {sz:Nat} {L:List (Nat × SK)} (h:LR P n t=some (sz,L)):EF P t=some true∨(EF P t=some false∧sz=1):=by
  cases n with
  | zero=>cases h
  | succ n=>
    unfold LR at h;unfold EF
    split at h <;> rename_i hu hs <;> first | (cases h;done) | (rw [hu];first | exact .inl rfl | (cases h;exact .inr ⟨rfl,rfl⟩))
theorem KO {n : Nat} {t : TypeId} {sz off : Nat} {L : List (Nat × SK)} {cs : Array Value} {Q : Value → Seg → Prop} (h : LR P n t = some (sz, L)) (hle : off + sz ≤ cs.size)
    (hq:∀ v,CellsOf P t v (cs.extract off (off+sz))→Q v M):wpL P (part t cs off) Q I M:=by
  unfold part;rcases flat_agg h with ha | ⟨ha,rfl⟩
  · rw [AE,JD ha]
    simp only [if_true];rw [AE,CJ (flat_size h)];exact hq _ (.inl ⟨ha,rfl⟩)
  · rw [AE,JD ha]
    have hlt:off<cs.size:=by omega
    simp only [Bool.false_eq_true,if_false,Array.getElem?_eq_getElem hlt];refine hq _ (.inr ⟨ha,?_⟩)
    apply Array.ext
    · simp;omega
    · intro i h1 h2
      have:i=0:=by simp at h2;omega
      subst this;simp
theorem okC_map {xs : Array Value} {L : List (Nat × SK)} {off sz : Nat} (hle : off + sz ≤ xs.size) (hL : ∀ x ∈ L, x.1 < sz) :
    okC xs (L.map fun x=>(off+x.1,x.2))=okC (xs.extract off (off+sz)) L:=by
  induction L with
  | nil=>rfl
  | cons x L ih=>
    have hx:=hL x List.mem_cons_self;have ih':=ih (fun y hy=>hL y (List.mem_cons_of_mem _ hy));have e:(xs.extract off (off+sz))[x.1]?=xs[off+x.1]?:=by
      rw [Array.getElem?_extract];rw [if_pos (by omega)]
    simp only [okC,List.map_cons,List.all_cons,e] at ih' ⊢;rw [ih']
theorem eqC_map {xs ys : Array Value} {L : List (Nat × SK)} {off sz : Nat} (hx : off + sz ≤ xs.size) (hy : off + sz ≤ ys.size) (hL : ∀ x ∈ L, x.1 < sz) :
    eqC xs ys (L.map fun x=>(off+x.1,x.2))=eqC (xs.extract off (off+sz)) (ys.extract off (off+sz)) L:=by
  induction L with
  | nil=>rfl
  | cons x L ih=>
    have hx':=hL x List.mem_cons_self;have ih':=ih (fun y hy=>hL y (List.mem_cons_of_mem _ hy));have e:(xs.extract off (off+sz))[x.1]?=xs[off+x.1]?:=by
      rw [Array.getElem?_extract,if_pos (by omega)]
    have e':(ys.extract off (off+sz))[x.1]?=ys[off+x.1]?:=by
      rw [Array.getElem?_extract,if_pos (by omega)]
    simp only [eqC,List.map_cons,List.all_cons,e,e'] at ih' ⊢;rw [ih']
theorem okC_append {xs:Array Value} {A B:List (Nat × SK)}:okC xs (A++B)=(okC xs A&&okC xs B):=by simp [okC]
theorem eqC_append {xs ys:Array Value} {A B:List (Nat × SK)}:eqC xs ys (A++B)=(eqC xs ys A&&eqC xs ys B):=by simp [eqC]
theorem flat_lt:∀ (n:Nat) (t:TypeId) (sz:Nat) (L:List (Nat × SK)),LR P n t=some (sz,L)→∀ x∈L,x.1<sz:=by
  intro n
  induction n with
  | zero=>intro t sz L h;cases h
  | succ n ih=>
    intro t sz L h x hx;unfold LR at h
    split at h
    · cases h;simp at hx;subst hx;simp
    · cases h;simp at hx;subst hx;simp
    · cases h;simp at hx;subst hx;simp
    · rename_i len e sz' hu hs
      split at h
      · rename_i se Le he
        split at h
        · cases h
          obtain ⟨i,hi,hx⟩:=List.mem_flatMap.1 hx;obtain ⟨y,hy,rfl⟩:=List.mem_map.1 hx;have h1:=ih _ _ _ he y hy;have h2:=List.mem_range.1 hi;have:i*se+se≤len*se:=by rw [← Nat.succ_mul];exact Nat.mul_le_mul_right _ h2
          simp only;omega
        · cases h
      · cases h
    · split at h
      · cases h
      · split at h
        · rename_i fs sz' hu hs _ L' hf
          cases h;have key:∀ (fs:List Field) (L:List (Nat × SK)),FG (LR P n) sz fs=some L→∀ x∈L,x.1<sz:=by
            intro fs
            induction fs with
            | nil=>intro L hL x hx;simp only [FG,Option.some.injEq] at hL;subst hL;simp at hx
            | cons f fs ihf=>
              intro L hL x hx;simp only [FG] at hL
              split at hL
              · cases hL
              · split at hL
                · rename_i sf Lf Mf h1 h2
                  split at hL
                  · rename_i hle
                    cases hL;rcases List.mem_append.1 hx with hx | hx
                    · obtain ⟨y,hy,rfl⟩:=List.mem_map.1 hx
                      have:=ih _ _ _ h1 y hy;simp only;omega
                    · exact ihf _ h2 x hx
                  · cases hL
                · cases hL
          exact key _ _ hf x hx
        · cases h
    · cases h
theorem wpL_equalF : ∀ (n : Nat) (t : TypeId) (sz : Nat) (L : List (Nat × SK)), LR P n t = some (sz, L) → ∀ (d : Nat), n ≤ d → ∀ (v u : Value) (xs ys : Array Value), CellsOf P t v xs → CellsOf P t u ys → xs.size = sz → ys.size = sz →
    okC xs L=true→okC ys L=true→∀ (Q:Bool→Seg→Prop),Q (eqC xs ys L) M→wpL P (Op.equalIn d t v u) Q I M:=by
  intro n
  induction n with
  | zero=>intro t sz L h;cases h
  | succ n ih=>
    intro t sz L h d hd v u xs ys hv hu hxs hys okx oky Q hq;obtain ⟨d,rfl⟩:∃ d',d=d'+1:=⟨d-1,by omega⟩;have hfl:=h;unfold LR at h
    split at h
    · rename_i k hun hs
      cases h;have ha:EF P t=some false:=by unfold EF;rw [hun]
      rcases hv with ⟨hv,_⟩ | ⟨_,rfl⟩
      · rw [ha] at hv;cases hv
      rcases hu with ⟨hu,_⟩ | ⟨_,rfl⟩
      · rw [ha] at hu;cases hu
      have h1:skV v=some (.i k):=by simpa [okC] using okx
      have h2:skV u=some (.i k):=by simpa [okC] using oky
      cases v <;> simp [skV] at h1
      cases u <;> simp [skV] at h2
      subst h1;subst h2;unfold Op.equalIn;rw [AE,AP hun];simp only [if_true];simp [eqC,scE] at hq;exact hq
    · rename_i hun hs
      cases h;have ha:EF P t=some false:=by unfold EF;rw [hun]
      rcases hv with ⟨hv,_⟩ | ⟨_,rfl⟩
      · rw [ha] at hv;cases hv
      rcases hu with ⟨hu,_⟩ | ⟨_,rfl⟩
      · rw [ha] at hu;cases hu
      have h1:skV v=some .b:=by simpa [okC] using okx
      have h2:skV u=some .b:=by simpa [okC] using oky
      cases v <;> simp [skV] at h1
      cases u <;> simp [skV] at h2
      unfold Op.equalIn;rw [AE,AP hun];simp [eqC,scE] at hq;exact hq
    · rename_i hun hs
      cases h;have ha:EF P t=some false:=by unfold EF;rw [hun]
      rcases hv with ⟨hv,_⟩ | ⟨_,rfl⟩
      · rw [ha] at hv;cases hv
      rcases hu with ⟨hu,_⟩ | ⟨_,rfl⟩
      · rw [ha] at hu;cases hu
      have h1:skV v=some .s:=by simpa [okC] using okx
      have h2:skV u=some .s:=by simpa [okC] using oky
      cases v <;> simp [skV] at h1
      cases u <;> simp [skV] at h2
      unfold Op.equalIn;rw [AE,AP hun];simp [eqC,scE] at hq;exact hq
    · rename_i len e sz' hun hs
      split at h
      · rename_i se Le he
        split at h
        · rename_i hsz
          cases h;have ha:EF P t=some true:=by unfold EF;rw [hun]
          rcases hv with ⟨_,rfl⟩ | ⟨hv,_⟩
          case inr=>rw [ha] at hv;cases hv
          rcases hu with ⟨_,rfl⟩ | ⟨hu,_⟩
          case inr=>rw [ha] at hu;cases hu
          unfold Op.equalIn;rw [AE,AP hun];simp only;rw [AE,CJ (flat_size he)]
          have key : ∀ (m j : Nat) (Q : Bool → Seg → Prop), j + m = len → okC xs ((List.range' j m).flatMap fun i => Le.map fun x => (i * se + x.1, x.2)) = true → okC ys ((List.range' j m).flatMap fun i => Le.map fun x => (i * se + x.1, x.2)) = true →
              Q (eqC xs ys ((List.range' j m).flatMap fun i=>Le.map fun x=>(i*se+x.1,x.2))) M→wpL P (do
                for i in List.range' j m do
                  if !(← Op.equalIn d e (← part e xs (i*se)) (← part e ys (i*se))) then return false
                pure true:Sem Bool) Q I M:=by
            intro m
            induction m with
            | zero=>intro j Q _ _ _ hq;simpa [eqC,EA] using hq
            | succ m ihm=>
              intro j Q hj ok1 ok2 hq;rw [List.range'_succ,List.flatMap_cons] at ok1 ok2 hq;rw [okC_append,Bool.and_eq_true] at ok1 ok2;rw [eqC_append] at hq;have hle:j*se+se≤len*se:=by rw [← Nat.succ_mul];exact Nat.mul_le_mul_right _ (by omega)
              have hlt:=flat_lt n e se Le he;rw [okC_map (sz:=se) (by omega) hlt] at ok1 ok2;rw [eqC_map (sz:=se) (by omega) (by omega) hlt] at hq;rw [List.range'_succ];have next:=fun hq=>ihm (j+1) Q (by omega) ok1.2 ok2.2 hq
              simp only [List.forIn_cons] at next ⊢;rw [AE,AE,AE];refine KO he (by omega) fun a ca=>?_
              rw [AE];refine KO he (by omega) fun b cb=>?_
              rw [AE];refine ih e se Le he d (by omega) a b _ _ ca cb (by simp;omega) (by simp;omega) ok1.1 ok2.1 _ ?_;cases hb:eqC (xs.extract (j*se) (j*se+se)) (ys.extract (j*se) (j*se+se)) Le with
              | false=>rw [hb] at hq;exact hq
              | true=>
                rw [hb,Bool.true_and] at hq;have:=next hq;rw [AE] at this;exact this
          rw [Std.Legacy.Range.forIn_eq_forIn_range'];have:=key len 0 Q (by omega) (by rwa [← List.range_eq_range']) (by rwa [← List.range_eq_range']) (by rwa [← List.range_eq_range'])
          simpa using this
        · cases h
      · cases h
    · rename_i fs sz' hun hs
      split at h
      · cases h
      · rename_i hst
        split at h
        · rename_i L' hf
          cases h;have ha:EF P t=some true:=by unfold EF;rw [hun]
          rcases hv with ⟨_,rfl⟩ | ⟨hv,_⟩
          case inr=>rw [ha] at hv;cases hv
          rcases hu with ⟨_,rfl⟩ | ⟨hu,_⟩
          case inr=>rw [ha] at hu;cases hu
          unfold Op.equalIn;rw [AE,AP hun];show wpL P (program >>= _) Q I M;rw [AE];show wpL P _ Q I M;simp only [hst,Bool.false_eq_true,if_false]
          have key : ∀ (fs : List Field) (L : List (Nat × SK)), FG (LR P n) sz fs = some L → okC xs L = true → okC ys L = true → Q (eqC xs ys L) M → wpL P (do
              for f in fs do
                if f.name≠"_" then
                  if !(← Op.equalIn d f.type (← part f.type xs f.offset) (← part f.type ys f.offset)) then return false
              pure true:Sem Bool) Q I M:=by
            intro fs
            induction fs with
            | nil=>intro L hL _ _ hq;simp only [FG,Option.some.injEq] at hL;subst hL;exact hq
            | cons f fs ihf=>
              intro L hL ok1 ok2 hq;simp only [FG] at hL
              split at hL
              · cases hL
              · rename_i hne
                split at hL
                · rename_i sf Lf Mf h1 h2
                  split at hL
                  · rename_i hle
                    cases hL;have hlt:=flat_lt n f.type sf Lf h1;rw [okC_append,okC_map (sz:=sf) (by omega) hlt,Bool.and_eq_true] at ok1 ok2;rw [eqC_append,eqC_map (sz:=sf) (by omega) (by omega) hlt] at hq;have next:=fun hq=>ihf Mf h2 ok1.2 ok2.2 hq
                    simp only [List.forIn_cons] at next ⊢;rw [AE,AE];simp only [ne_eq,hne,not_false_eq_true,if_true];rw [AE];refine KO h1 (by omega) fun a ca=>?_
                    rw [AE];refine KO h1 (by omega) fun b cb=>?_
                    rw [AE];refine ih f.type sf Lf h1 d (by omega) a b _ _ ca cb (by simp;omega) (by simp;omega) ok1.1 ok2.1 _ ?_;cases hb:eqC (xs.extract f.offset (f.offset+sf)) (ys.extract f.offset (f.offset+sf)) Lf with
                    | false=>rw [hb] at hq;exact hq
                    | true=>
                      rw [hb,Bool.true_and] at hq;have:=next hq;rw [AE] at this;exact this
                  · cases hL
                · cases hL
          have:=key fs.toList _ hf okx oky hq;simp only [Array.forIn_toList] at this;exact this
        · cases h
    · cases h
theorem wpL_checkF : ∀ (n : Nat) (t : TypeId) (sz : Nat) (L : List (Nat × SK)), LR P n t = some (sz, L) → ∀ (d : Nat), n ≤ d → ∀ (em : Bool) (v : Value) (xs : Array Value), CellsOf P t v xs → xs.size = sz →
    ∀ (Q:Unit→Seg→Prop),Q () M→wpL P (Instr.checkKey em d t v) Q I M:=by
  intro n
  induction n with
  | zero=>intro t sz L h;cases h
  | succ n ih=>
    intro t sz L h d hd em v xs hv hxs Q hq;obtain ⟨d,rfl⟩:∃ d',d=d'+1:=⟨d-1,by omega⟩;unfold LR at h
    split at h
    · rename_i k hun hs
      unfold Instr.checkKey;rw [AE,AP hun];exact hq
    · rename_i hun hs
      unfold Instr.checkKey;rw [AE,AP hun];exact hq
    · rename_i hun hs
      unfold Instr.checkKey;rw [AE,AP hun];exact hq
    · rename_i len e sz' hun hs
      split at h
      · rename_i se Le he
        split at h
        · rename_i hsz
          cases h;have ha:EF P t=some true:=by unfold EF;rw [hun]
          rcases hv with ⟨_,rfl⟩ | ⟨hv,_⟩
          case inr=>rw [ha] at hv;cases hv
          unfold Instr.checkKey;rw [AE,AP hun];simp only
          have key : ∀ (m j : Nat) (Q : Unit → Seg → Prop), j + m = len → Q () M → wpL P (do
                for i in List.range' j m do Instr.checkKey em d e (← part e xs (i*(← sizeOf e))):Sem Unit) Q I M:=by
            intro m
            induction m with
            | zero=>intro j Q _ hq;simpa [EA] using hq
            | succ m ihm=>
              intro j Q hj hq;have hle:j*se+se≤len*se:=by rw [← Nat.succ_mul];exact Nat.mul_le_mul_right _ (by omega)
              rw [List.range'_succ];have next:=ihm (j+1) Q (by omega) hq;simp only [List.forIn_cons] at next ⊢;rw [AE,AE,AE,CJ (flat_size he),AE];refine KO he (by omega) fun a ca=>?_
              rw [AE];refine ih e se Le he d (by omega) em a _ ca (by simp;omega) _ ?_;rw [AE] at next;exact next
          rw [Std.Legacy.Range.forIn_eq_forIn_range'];have:=key len 0 Q (by omega) hq
          simpa using this
        · cases h
      · cases h
    · rename_i fs sz' hun hs
      split at h
      · cases h
      · split at h
        · rename_i L' hf
          cases h;have ha:EF P t=some true:=by unfold EF;rw [hun]
          rcases hv with ⟨_,rfl⟩ | ⟨hv,_⟩
          case inr=>rw [ha] at hv;cases hv
          unfold Instr.checkKey;rw [AE,AP hun];simp only
          have key : ∀ (fs : List Field) (L : List (Nat × SK)), FG (LR P n) sz fs = some L → Q () M → wpL P (do
              for f in fs do
                if f.name≠"_" then Instr.checkKey em d f.type (← part f.type xs f.offset):Sem Unit) Q I M:=by
            intro fs
            induction fs with
            | nil=>intro L hL hq;exact hq
            | cons f fs ihf=>
              intro L hL hq;simp only [FG] at hL
              split at hL
              · cases hL
              · rename_i hne
                split at hL
                · rename_i sf Lf Mf h1 h2
                  split at hL
                  · rename_i hle
                    have next:=ihf Mf h2 hq;simp only [List.forIn_cons] at next ⊢;simp only [ne_eq,hne,not_false_eq_true,if_true];rw [AE,AE,AE];refine KO h1 (by omega) fun a ca=>?_
                    rw [AE];refine ih f.type sf Lf h1 d (by omega) em a _ ca (by simp;omega) _ ?_;rw [AE] at next;exact next
                  · cases hL
                · cases hL
          have:=key fs.toList _ hf hq;simp only [Array.forIn_toList] at this;exact this
        · cases h
    · cases h
theorem keyOk_flat {κ : Type} [DecidableEq κ] {kt : TypeId} {n sz : Nat} {L : List (Nat × SK)} (hflat : LR P n kt = some (sz, L)) (hn : n ≤ 10000) (hagg : EF P kt = some true) (cells : κ → Array Value) (hsz : ∀ k, (cells k).size = sz)
    (hok:∀ k,okC (cells k) L=true) (heq:∀ a b,eqC (cells a) (cells b) L=decide (a=b)):KeyOk P kt (fun k=>.agg (cells k)) where
  inj:=fun a b e=>by
    simp only [Value.agg.injEq] at e;have h1:=heq a a;have h2:=heq a b;rw [← e,h1] at h2
    simpa using h2
  check:=fun em k Q I M hq=>wpL_checkF n kt sz L hflat 10000 hn em _ _ (.inl ⟨hagg,rfl⟩) (hsz k) Q hq
  find:=fun k es kvs Q I M hes hq=>by
    unfold Instr.findKey;obtain ⟨td,htd,hfn⟩:∃ td,P.underlying kt=some td∧∀ (x y:Value),Instr.sameNow td (.agg x.cells) y=none:=by
      unfold EF at hagg
      split at hagg
      · rename_i h;exact ⟨_,h,fun _ _=>rfl⟩
      · rename_i h;exact ⟨_,h,fun _ _=>rfl⟩
      · cases hagg
      · cases hagg
    rw [AE,AP htd]
    have ask : ∀ (es : List MapEntry) (kvs : List (κ × Value)) (i : Nat) (Q : Option (Nat × Value) → Seg → Prop), es.map (fun e => (e.key, e.val)) = kvs.map (NF fun k => .agg (cells k)) → Q (EN k kvs i) M →
        wpL P (Instr.findAsking kt (.agg (cells k)) es i) Q I M:=by
      intro es
      induction es with
      | nil=>
        intro kvs i Q h hq;cases kvs with
        | nil=>exact hq
        | cons x r=>simp at h
      | cons e es ih=>
        intro kvs i Q h hq;cases kvs with
        | nil=>simp at h
        | cons x r=>
          simp only [List.map_cons,List.cons.injEq,NF,Prod.mk.injEq] at h;obtain ⟨⟨h1,h2⟩,h3⟩:=h;unfold Instr.findAsking;rw [AE];unfold Op.equal;rw [h1];refine wpL_equalF n kt sz L hflat _ (by show n≤10000;exact hn) _ _ _ _ (.inl ⟨hagg,rfl⟩) (.inl ⟨hagg,rfl⟩) (hsz _) (hsz _) (hok _) (hok _) _ ?_;rw [heq];simp only [EN] at hq
          by_cases hx:x.1=k
          · rw [if_pos hx] at hq
            rw [if_pos (by simp [hx]),h2];exact hq
          · rw [if_neg hx] at hq
            rw [if_neg (by simpa using Ne.symm hx)];exact ih r (i+1) Q h3 hq
    cases es with
    | nil=>
      cases kvs with
      | nil=>exact hq
      | cons x r=>simp at hes
    | cons e es=>
      have h1:Instr.findNow td (.agg (cells k)) (e::es) 0=none:=by
        have:=hfn (.agg (cells k)) e.key;have h2:(Value.agg (cells k)).cells=cells k:=rfl;rw [h2] at this;simp only [Instr.findNow,this]
      simp only [h1];exact ask (e::es) kvs 0 Q hes hq
end
end Go.Sl
namespace Go.Sh
open Go Go.Sl
def mk3 (f t j:Nat):Shift:=⟨f,t,j⟩
def drawsFT (Y:Yard) (f t k:Nat):List Shift:=((List.range' k ((Y.tracks.getD f []).length-k)).map fun j=>mk3 f t (j+1)).filter fun s=>decide (mayErr Y s=0)
def drawsF (Y:Yard) (f t:Nat):List Shift:=(List.range' t (Y.tracks.length-t)).flatMap fun t=>drawsFT Y f t 0
def drawsY (Y:Yard) (f:Nat):List Shift:=(List.range' f (Y.tracks.length-f)).flatMap fun f=>drawsF Y f 0
def draws (Y:Yard):List Shift:=drawsY Y 0
theorem OV {Y:Yard} {s:Shift} (h:s∈draws Y):mayErr Y s=0:=by
  simp only [draws,drawsY,drawsF,drawsFT,List.mem_flatMap,List.mem_filter,decide_eq_true_eq] at h;obtain ⟨_,_,_,_,_,h⟩:=h;exact h
theorem flatMap_le {α β:Type} {f:α→List β} {c:Nat}:∀ (l:List α),(∀ x∈l,(f x).length≤c)→(l.flatMap f).length≤l.length*c:=by
  intro l
  induction l with
  | nil=>intro _;simp
  | cons x l ih=>
    intro h;rw [List.flatMap_cons,List.length_append,List.length_cons,Nat.succ_mul];have:=h x List.mem_cons_self;have:=ih fun y hy=>h y (List.mem_cons_of_mem _ hy)
    omega
theorem drawsFT_le {Y:Yard} (h:GoodY Y) (f t:Nat):(drawsFT Y f t 0).length≤5:=by
  unfold drawsFT;refine Nat.le_trans (List.length_filter_le _ _) ?_;rw [List.length_map,List.length_range',Nat.sub_zero]
  by_cases hf:f<Y.tracks.length
  · have:=NL (BJ (d:=[]) hf);have:=h.sum;omega
  · simp [List.getD,List.getElem?_eq_none (Nat.le_of_not_lt hf)]
theorem draws_le {Y:Yard} (h:GoodY Y) (h3:Y.tracks.length≤3):(draws Y).length≤45:=by
  have h1:∀ f,(drawsF Y f 0).length≤15:=fun f=>by
    have:=flatMap_le (f:=fun t=>drawsFT Y f t 0) (c:=5) (List.range' 0 (Y.tracks.length-0)) fun t _=>drawsFT_le h f t
    rw [List.length_range'] at this;unfold drawsF;omega
  have:=flatMap_le (f:=fun f=>drawsF Y f 0) (c:=15) (List.range' 0 (Y.tracks.length-0)) fun f _=>h1 f
  rw [List.length_range'] at this;unfold draws drawsY;omega
theorem GoodY.draws {Y:Yard} (h:GoodY Y) (hv:Valid Y):(draws Y).length≤1000000:=by
  have:=draws_le h (by have:=hv.fine.room3;have:=hv.fine.len;omega);omega
def putP (p:List Int) (c i k:Nat):List Int:=(p.set (2*c) i).set (2*c+1) k
def goPT (i:Nat):Nat→List Int→List Int→List Int
  | _,[],p=>p
  | k,c::r,p=>goPT i (k+1) r (putP p c.toNat i k)
def goP:Nat→List (List Int)→List Int→List Int
  | _,[],p=>p
  | i,t::ts,p=>goP (i+1) ts (goPT i 0 t p)
def zero10:List Int:=[0,0,0,0,0,0,0,0,0,0]
abbrev KP:={ l:List Int // l.length=10 }
theorem putP_length (p:List Int) (c i k:Nat):(putP p c i k).length=p.length:=by simp [putP]
theorem goPT_length (i:Nat):∀ (t:List Int) (k:Nat) (p:List Int),(goPT i k t p).length=p.length:=by
  intro t
  induction t with
  | nil=>intro k p;rfl
  | cons c r ih=>intro k p;rw [goPT,ih,putP_length]
theorem goP_length:∀ (ts:List (List Int)) (i:Nat) (p:List Int),(goP i ts p).length=p.length:=by
  intro ts
  induction ts with
  | nil=>intro i p;rfl
  | cons t ts ih=>intro i p;rw [goP,ih,goPT_length]
def placeOf (Y:Yard):KP:=⟨goP 0 Y.tracks zero10,by rw [goP_length];rfl⟩
structure Kin (A Y:Yard):Prop where
  cars:Y.cars=A.cars
  room:Y.room=A.room
  len:Y.tracks.length=A.tracks.length
  perm:Y.tracks.flatten.Perm A.tracks.flatten
theorem Kin.trans {A B C:Yard} (h:Kin A B) (k:Kin B C):Kin A C:=⟨k.cars.trans h.cars,k.room.trans h.room,k.len.trans h.len,k.perm.trans h.perm⟩
theorem Kin.symm {A B:Yard} (h:Kin A B):Kin B A:=⟨h.cars.symm,h.room.symm,h.len.symm,h.perm.symm⟩
theorem kin_moved {Y:Yard} {s:Shift} (h:mayErr Y s=0):Kin Y (moved Y s):=by
  have m:=mayOk h;exact ⟨rfl,rfl,by simp [moved],OW m.frm m.to m.ne⟩
theorem Kin.moved {A Y:Yard} {s:Shift} (k:Kin A Y) (h:mayErr Y s=0):Kin A (moved Y s):=k.trans (kin_moved h)
def plain (goal:Yard→Bool):Nat→Yard→Option (List Shift)
  | 0,Y=>if goal Y then some [] else none
  | d+1,Y=>if goal Y then some [] else (draws Y).findSome? fun s=>(plain goal d (moved Y s)).map (s::·)
def fewestM (goal:Yard→Bool) (Y:Yard):Option (List Shift):=(List.range 5).findSome? fun d=>plain goal d Y
def GrpFrom (cs:List Car) (ts:List (List Int)) (met:List Int):Prop:=
  ∀ i k,i<ts.length→k<(ts.getD i []).length→0<grp cs ((ts.getD i []).getD k 0) →
    (grp cs ((ts.getD i []).getD k 0)∈met∨∃ c∈(ts.take i).flatten++(ts.getD i []).take k,grp cs c=grp cs ((ts.getD i []).getD k 0))→NS cs (ts.getD i []) ↑k=true
theorem GrpFrom.cons {cs : List Car} {t : List Int} {ts : List (List Int)} {met : List Int} :
    GrpFrom cs (t::ts) met↔(∀ k,k<t.length→0<grp cs (t.getD k 0)→(grp cs (t.getD k 0)∈met∨∃ c∈t.take k,grp cs c=grp cs (t.getD k 0))→NS cs t ↑k=true)∧GrpFrom cs ts (met++t.map (grp cs)):=by
  constructor
  · intro h
    refine ⟨fun k hk h0 hm=>h 0 k (by simp) hk h0 (by simpa using hm),fun i k hi hk h0 hm=>?_⟩;refine h (i+1) k (by simpa using hi) (by simpa using hk) (by simpa using h0) ?_;simp only [List.getD_cons_succ,List.take_succ_cons,List.flatten_cons];rcases hm with hm | ⟨c,hc,e⟩
    · rcases List.mem_append.1 hm with hm | hm
      · exact .inl hm
      · obtain ⟨c,hc,e⟩:=List.mem_map.1 hm
        exact .inr ⟨c,by simp [hc],e⟩
    · refine .inr ⟨c,?_,e⟩
      rw [List.append_assoc];exact List.mem_append_right _ hc
  · rintro ⟨h1,h2⟩ i k hi hk h0 hm
    cases i with
    | zero=>exact h1 k (by simpa using hk) (by simpa using h0) (by simpa using hm)
    | succ i=>
      simp only [List.getD_cons_succ,List.take_succ_cons,List.flatten_cons] at hk h0 hm ⊢;refine h2 i k (by simpa using hi) hk h0 ?_;rcases hm with hm | ⟨c,hc,e⟩
      · exact .inl (List.mem_append_left _ hm)
      · rw [List.append_assoc] at hc
        rcases List.mem_append.1 hc with hc | hc
        · exact .inl (List.mem_append_right _ (List.mem_map.2 ⟨c,hc,e⟩))
        · exact .inr ⟨c,hc,e⟩
def visit (s:List KP × List Yard) (z:Yard):List KP × List Yard:=if placeOf z∈s.1 then s else (s.1++[placeOf z],s.2++[z])
def nexts (x:Yard):List Yard:=(draws x).map (moved x)
def visitAll:List Yard→List KP × List Yard→List KP × List Yard
  | [],s=>s
  | z::r,s=>visitAll r (visit s z)
def roundM (now:List Yard) (met:List KP):List KP × List Yard:=visitAll (now.flatMap nexts) (met,[])
def reachM:Nat→List KP→List Yard→List KP
  | 0,met,_=>met
  | d+1,met,now=>reachM d (roundM now met).1 (roundM now met).2
def reach (Y:Yard) (d:Nat):Int:=((reachM d [placeOf Y] [Y]).length:Int)
theorem kin_tracks {A Y Z:Yard} (ky:Kin A Y) (kz:Kin A Z) (h:Y.tracks=Z.tracks):Y=Z:=by
  rcases Y with ⟨a,b,c⟩;rcases Z with ⟨a',b',c'⟩
  have h1:=ky.cars;have h2:=kz.cars;have h3:=ky.room;have h4:=kz.room;simp only at h1 h2 h3 h4 h;rw [h1,h2,h3,h4,h]
theorem nexts_kin {A x:Yard} (k:Kin A x):∀ y∈nexts x,Kin A y:=fun y hy=>by
  obtain ⟨s,hs,rfl⟩:=List.mem_map.1 hy;exact k.moved (OV hs)
theorem flat_kin {A:Yard} {now:List Yard} (h:∀ y∈now,Kin A y):∀ y∈now.flatMap nexts,Kin A y:=fun y hy=>by
  obtain ⟨x,hx,hy⟩:=List.mem_flatMap.1 hy;exact nexts_kin (h x hx) y hy
end Go.Sh
namespace Go.Sl
open Go
theorem run_scope {ρ:Option Nat} {P:Program} [Jud P] {N:Nat} {Q:Exit→Act→GW→Prop} {ds:List Deferred} {l:Sl} {I:Imm} {M:Seg} {c x:Code} (hc:c=.scope x) (h:Run (ρ:=ρ) P N x (Exit.noGoto Q) ds l I M):Run (ρ:=ρ) P N c Q ds l I M:=by
  subst hc;exact fun a w hS hD hW=>wpc_scope (h a w hS hD hW)
theorem pst_ret_scope {N:Nat} {Q:Exit→Act→GW→Prop} {ds:List Deferred} {l:Sl} {I:Imm} {M:Seg} (h:Pst N Q .ret ds l I M):Pst N (Exit.noGoto Q) .ret ds l I M:=h
theorem CN {α : Type} {E : TypeId} {sz : Nat} {cell : α → Nat → Value} {ρ : Option Nat} {P : Program} [Jud P] {N : Nat} {c : Code} {Q : Exit → Act → GW → Prop} {ds : List Deferred} {l : Sl} {I : Imm} {M A B Ms : Seg} {v : Value} {xs : List α} (dflt : α)
    (h:Own E sz cell v xs Ms) (hl:xs.length≤140737488355328) (hM:M.Perm (Ms++A)) (hA:A.Perm B)
    (next:∀ J,I.le J→IsSl sz cell dflt J v xs→Run (ρ:=ρ) P N c Q ds l J B):Run (ρ:=ρ) P N c Q ds l I M:=St.own_freeze dflt h hl hM hA next
theorem FW {ρ:Option Nat} {P:Program} [Jud P] {N:Nat} {Q:Exit→Act→GW→Prop} {ds:List Deferred} {l:Sl} {I:Imm} {M M':Seg} {c:Code} (s:∀ w,St I M w→St I M' w) (next:Run (ρ:=ρ) P N c Q ds l I M'):Run (ρ:=ρ) P N c Q ds l I M:=run_mem s next
theorem HT {ρ : Option Nat} {P : Program} [Jud P] {N : Nat} {Q : Exit → Act → GW → Prop} {ds : List Deferred} {l : Sl} {I : Imm} {M M0 : Seg} {c : Code} {b : Nat} {o : Obj} (hM : M.Perm ((b, o) :: M0))
    (next:∀ J,I.le J→J.blk b=some o→Run (ρ:=ρ) P N c Q ds l J M0):Run (ρ:=ρ) P N c Q ds l I M:=fun a w hS hD hW=>
  have st:=hW.perm hM
  next (I.add b o) (Imm.le_add (st.disj b o List.mem_cons_self)) (Imm.add_same I b o) a w hS hD st.freeze
theorem SG {ρ : Option Nat} {P : Program} [Jud P] {N : Nat} {ops : Array Oper} {i : Nat} {Q : Exit → Act → GW → Prop} {ds : List Deferred} {l : Sl} {I : Imm} {M M0 : Seg} {b : Nat} {o : Obj} (hM : M.Perm ((b, o) :: M0))
    (next:∀ J,I.le J→J.blk b=some o→Seq (ρ:=ρ) P N ops Q ds i l J M0):Seq (ρ:=ρ) P N ops Q ds i l I M:=fun a w hS hD hW=>
  have st:=hW.perm hM
  next (I.add b o) (Imm.le_add (st.disj b o List.mem_cons_self)) (Imm.add_same I b o) a w hS hD st.freeze
theorem QM {I:Imm} {M:Seg} {b off n:Nat} {cs:Array Value} {T:TypeId} {fz:Nat × Nat} {vs:List Value} (h:I.blk b=some (Obj.cells cs T fz)) (hv:(cs.toList.drop off).take n=vs):SeesN I M b off vs:=fun k v hk=>by
  refine ⟨rfl,cs,T,fz,.inr h,?_⟩;rw [← hv,List.getElem?_take] at hk
  split at hk
  · rw [List.getElem?_drop] at hk;simpa using hk
  · cases hk
theorem AW {I:Imm} {M:Seg} {b off:Nat} {cs:Array Value} {T:TypeId} {fz:Nat × Nat} {v:Value} (h:I.blk b=some (Obj.cells cs T fz)) (hc:cs[off]?=some v):Sees I M ⟨b,off,none⟩ v:=⟨rfl,cs,T,fz,.inr h,hc⟩
section
variable {P:Program} [Jud P] {N:Nat} {ops:Array Oper} {i:Nat} {l:Sl} {I:Imm} {R M:Seg} {ty:TypeId} {gd:Option (Nat × Bool)} {K:Sl→Imm→Seg→Prop} {d:Nat}
end
def Yt (P:Program) [Jud P] (L:Nat) (args:Array Value) (I:Imm) (pre:Seg) (post:Value→Imm→Seg→Prop):Prop:=
  ∀ F w,St I (pre++F) w→SemTo P (Instr.yield L args) w fun n w'=>∃ f tmps assign body,n=.round L f tmps assign body∧RoundJ P L f tmps assign body w' (RQ I post F)
section
variable {P:Program} {I:Imm} {M0:Seg} {l:Nat} {r:Loop}
theorem LJ {M:Seg} {Q:Loop→Seg→Prop} (h:(l,.loop r)∈M) (hq:Q r M):wpL P (Instr.getLoop l) Q I M:=⟨_,.inl h,rfl,hq⟩
theorem OB {o:Obj} (ho:MD o=false) {Q:Unit→Seg→Prop} (hq:Q () ((l,o)::M0)):wpL P (setObj l o) Q I ((l,.loop r)::M0):=⟨ho,0,_,rfl,rfl,hq⟩
theorem LI {Q:Option Code→Seg→Prop} (hb:r.state≠.busy) (hq:Q r.pending ((l,.loop { r with state:=.exhausted })::M0)):wpL P (Instr.endLoop l) Q I ((l,.loop r)::M0):=by
  unfold Instr.endLoop;rw [AE];refine LJ List.mem_cons_self ?_;have:(r.state == LoopState.busy)=false:=by simpa using hb
  simp only [this,Bool.false_eq_true,if_false];show wpL P (setObj l _ >>= fun _=>pure r.pending) _ _ _;rw [AE];exact OB rfl hq
theorem RK {Q:Value→Seg→Prop} (jump:Option Code) (hq:Q (.bool jump.isNone) ((l,.loop { r with state:=if jump.isNone then .ready else .done,pending:=jump })::M0)):wpL P (Instr.endRound l jump) Q I ((l,.loop r)::M0):=by
  unfold Instr.endRound;rw [AE];refine LJ List.mem_cons_self ?_;rw [AE];exact OB rfl hq
theorem NP {Q:Unit→Seg→Prop} (hr:r.state=.ready) (hq:Q () ((l,.loop { r with state:=.busy })::M0)):wpL P (Instr.beginRound l) Q I ((l,.loop r)::M0):=by
  unfold Instr.beginRound;rw [AE];refine LJ List.mem_cons_self ?_;rw [AE];refine OB rfl ?_;rw [hr];exact hq
theorem wpL_yield {M : Seg} {args : Array Value} {Q : Next → Seg → Prop} (h : (l, .loop r) ∈ M) (hs : args.size = r.params.size) (hq : Q (.round l r.fn ((r.params.zip args).foldl (fun tmps (t, a) => tmps.setIfInBounds t a) r.tmps) r.assign r.body) M) :
    wpL P (Instr.yield l args) Q I M:=by
  unfold Instr.yield;rw [AE];refine LJ h ?_;rw [if_neg (by simp [hs])];exact hq
theorem RT {D:Nat} {Q:List Deferred→Seg→Prop} (hq:Q [] ((D,.deferred none)::M0)):wpL P (Instr.takeDeferred D) Q I ((D,.deferred (some []))::M0):=
  ⟨_,.inl List.mem_cons_self,rfl,rfl,0,_,rfl,rfl,hq⟩
end
section
variable {ρ:Option Nat} {P:Program} [Jud P] {N:Nat} {ops:Array Oper} {i:Nat} {l:Sl} {I:Imm} {R M:Seg} {ty:TypeId} {gd:Option (Nat × Bool)} {K:Sl→Imm→Seg→Prop} {Q:Exit→Act→GW→Prop} {ds:List Deferred}
theorem yield_to {P : Program} {f : Operand} {L : Nat} {args : Array Operand} {tys : Array TypeId} {vals : List Value} {ρ : Operand → Value} {w : GW} {K : Next → GW → Prop} (hf : ρ f = .func (.yield L) #[] #[]) (hvals : args.toList.map ρ = vals) (h : SemTo P (Instr.yield L vals.toArray) w K) :
    SemTo P (IJ ρ (.call { callee:=.value f,args,argTypes:=tys }) ty) w K:=by
  have e:args.map ρ=vals.toArray:=by apply Array.ext';simp [hvals]
  show SemTo P (do let d ← resolve ρ { callee:=.value f,args,argTypes:=tys } ty;invoke d.target d.args:Sem Next) w K;unfold resolve;simp only [e,hf,Deferred.ofValue];show SemTo P (Instr.yield L (#[]++vals.toArray) ) w K;rw [Array.empty_append];exact h
theorem stp_yield {d : Option Tmp} {f : Operand} {L : Nat} {args : Array Operand} {tys : Array TypeId} {vals : List Value} {pre F : Seg} {post : Value → Imm → Seg → Prop}
    (hop:FJ ops N i=some (d,.call { callee:=.value f,args,argTypes:=tys },ty,gd)) (hg:FH ops l gd=some true) (hf:CE l f=some (.func (.yield L) #[] #[])) (hv:NW l args.toList=some vals)
    (yt:Yt P L vals.toArray I pre post) (hM:M.Perm (pre++F))
    (h:∀ v I' M',I.le I'→post v I' M'→K (ups d v l) I' (M'++F)):Stp P N ops i l I M K:=by
  obtain ⟨o,ho,rfl,he,rfl,rfl,hN,hs⟩:=FC hop;obtain ⟨h1,h2⟩:=HN hv;refine ⟨o,ho,hN,hs,hg,?_,fun w st=>?_⟩
  · rw [he]
    intro x hx;simp only [Op.operands,Call.operands] at hx;rcases Array.mem_append.1 hx with hx | hx
    · simp at hx;subst hx;exact EL hf
    · exact h1 x (by simpa using hx)
  · rw [FA,he]
    refine yield_to (BI hf) h2 ((yt F w (st.perm hM)).mono ?_)
    rintro n w' ⟨f',tmps,assign,body,rfl,hr⟩
    exact resN_round (RoundJ.mono hr fun v w' ⟨I',M',hle,hp,st'⟩=>⟨I',M'++F,hle,st',h v I' M' hle hp⟩)
def mark (D:Nat):Deferred:={ target:=.collected D,args:=#[] }
def RoundQ (I:Imm) (post:Option Code→Imm→Seg→Prop) (F:Seg):Exit→Act→GW→Prop
  | .normal,_,w=>∃ I' M',I.le I'∧post none I' M'∧St I' (M'++F) w
  | .ret,_,w=>∃ I' M',I.le I'∧post (some .ret) I' M'∧St I' (M'++F) w
  | .exit id,_,w=>∃ I' M',I.le I'∧post (some (.exit id)) I' M'∧St I' (M'++F) w
  | .goto t,_,w=>∃ I' M',I.le I'∧post (some (.goto t)) I' M'∧St I' (M'++F) w
  | _,_,_=>False
def putAll:List (Tmp × Value)→Sl→Sl
  | [],l=>l
  | (t,v)::r,l=>putAll r ((t,v)::l)
theorem slots_fold {N : Nat} {dfs : List Deferred} : ∀ (xs : List (Tmp × Value)) (l : Sl) (tm : Array Value), Slots N l { tmps := tm, defers := dfs } → (∀ x ∈ xs, x.1 < N) →
    Slots N (putAll xs l) { tmps:=xs.foldl (fun t (x:Tmp × Value)=>t.setIfInBounds x.1 x.2) tm,defers:=dfs }:=by
  intro xs
  induction xs with
  | nil=>intro l tm h _;exact h
  | cons x xs ih=>
    intro l tm h hN;obtain ⟨t,v⟩:=x;exact ih _ _ (h.put (hN (t,v) List.mem_cons_self) v) (fun y hy=>hN y (List.mem_cons_of_mem _ hy))
theorem perm3 {A B C:Seg} {x y:Nat × Obj}:((A++(x::y::B))++C).Perm (x::(A++(B++(y::C)))):=by
  rw [List.append_assoc];refine List.perm_middle.trans (.cons x (List.Perm.append_left A ?_));exact List.perm_middle.symm
theorem perm4 {A C:Seg} {x y:Nat × Obj}:(A++(x::y::C)).Perm (x::(A++(y::C))):=List.perm_middle
def Hk (K:Sl→Imm→Seg→Prop) (l:Sl) (I:Imm) (M:Seg):Prop:=∀ w,St I M w→∃ J M',I.le J∧St J M' w∧K l J M'
theorem JZ {K:Sl→Imm→Seg→Prop} {l:Sl} {I:Imm} {M:Seg} (h:K l I M):Hk K l I M:=fun _ st=>⟨I,M,Imm.le.refl I,st,h⟩
theorem NK {K:Sl→Imm→Seg→Prop} {l:Sl} {I:Imm} {M M':Seg} (s:∀ w,St I M w→St I M' w) (next:Hk K l I M'):Hk K l I M:=fun w st=>next w (s w st)
theorem GD {α : Type} {E : TypeId} {sz : Nat} {cell : α → Nat → Value} {K : Sl → Imm → Seg → Prop} {l : Sl} {I : Imm} {M A B Ms : Seg} {v : Value} {xs : List α} (dflt : α)
    (h:Own E sz cell v xs Ms) (hl:xs.length≤140737488355328) (hM:M.Perm (Ms++A)) (hA:A.Perm B) (next:∀ J,I.le J→IsSl sz cell dflt J v xs→Hk K l J B):Hk K l I M:=fun w st=>by
  obtain ⟨J,h1,h2,h3⟩:=h.freeze dflt hl (st.perm hM);obtain ⟨J2,M',g1,g2,g3⟩:=next J h1 h2 w (h3.perm hA);exact ⟨J2,M',h1.trans g1,g2,g3⟩
theorem stp_hk {K:Sl→Imm→Seg→Prop} (h:Stp P N ops i l I M (Hk K)):Stp P N ops i l I M K:=by
  obtain ⟨o,h1,h2,h3,h4,h5,h6⟩:=h;refine ⟨o,h1,h2,h3,h4,h5,fun w st=>(h6 w st).mono fun v w' ⟨I',M',g1,g2,g3⟩=>?_⟩;obtain ⟨J,M2,k1,k2,k3⟩:=g3 w' g2;exact ⟨J,M2,g1.trans k1,k2,k3⟩
theorem OX {S : Seg} {Kfin : Sl → Imm → Seg → Prop} {rest : List (Nat × Bool)}
    (h:Stp P N ops i l I (R++S) (Hk fun l' I' M'=>∃ S',M'.Perm (R++S')∧OFP P N ops R Kfin rest l' I' S')):OFP P N ops R Kfin ((i,false)::rest) l I S:=stp_hk h
theorem IB {I₀:Imm} {post:Option Code→Imm→Seg→Prop} {F M':Seg} (hle:I₀.le I) (hp:post none I M') (hs:(M'++F).Sublist M):Pst N (RoundQ I₀ post F) .normal [] l I M:=fun _ _ _ _ hW=>⟨I,M',hle,hp,hW.sub hs⟩
theorem KX {I₀:Imm} {post:Option Code→Imm→Seg→Prop} {F M':Seg} (hle:I₀.le I) (hp:post (some .ret) I M') (hs:(M'++F).Sublist M):Pst N (RoundQ I₀ post F) .ret [] l I M:=fun _ _ _ _ hW=>⟨I,M',hle,hp,hW.sub hs⟩
def RetQM (P:Program) (fn:Func) (I:Imm) (post:Value→Imm→Seg→Prop) (F:Seg):Exit→Act→GW→Prop:=bodyQM P fn (RQ I post F)
theorem fnMA_of_run {f : FuncId} {fn : Func} {args : List Value} {pre : Seg} {post : Value → Imm → Seg → Prop} (hf : P.funcs[f]? = some fn) (hb : fn.body.isSome = true)
    (hN:fn.ntmps=N) (hle:args.length≤N)
    (h:∀ F,Run (ρ:=none) P N (JG fn) (RetQM P fn I post F) [] (EW 0 args) I (pre++F)):CtA P f args.toArray I pre post:=by
  intro F w st;have hbody:fn.body=some (JG fn):=by
    cases hx:fn.body with
    | none=>rw [hx] at hb;cases hb
    | some c=>simp [JG,hx]
  refine calls_of_marks hf hbody (h F _ w ⟨?_,fun t v hv=>?_⟩ rfl st)
  · simp;omega
  obtain ⟨_,h2⟩:=KU args 0 t v hv;rw [Nat.sub_zero] at h2;have hlt:t<args.length:=(List.getElem?_eq_some_iff.1 h2).1;rw [Array.getElem?_append_left (by simpa using hlt)]
  simpa using h2
theorem MV {P : Program} {f : FuncId} {fn : Func} {args : List Value} {pre : Seg} {post : Value → Imm → Seg → Prop} (hf : P.funcs[f]? = some fn) (hb : fn.body.isSome = true)
    (hN:fn.ntmps=N) (hle:args.length≤N)
    (h:∀ [Jud P] (F:Seg),Run (ρ:=none) P N (JG fn) (RetQM P fn I post F) [] (EW 0 args) I (pre++F)):Ct P f args.toArray I pre post:=
  ⟨fnMA_of_run hf hb hN hle h⟩
section
variable {fn:Func} {I₀:Imm} {post:Value→Imm→Seg→Prop} {F:Seg}
def RW (Ds:List Nat):Seg:=Ds.map fun D=>(D,.deferred (some []))
theorem leaves_marks {P:Program} {tm:Array Value} {R:Value→GW→Prop} {M:Seg}:∀ (Ds:List Nat) (w:GW),St I (RW Ds++M) w→(∀ w',St I M w'→SemTo P (results fn tm) w' R)→LvM P fn tm R (Ds.map mark) w:=by
  intro Ds
  induction Ds with
  | nil=>intro w st h;exact h w st
  | cons D Ds ih=>
    intro w st h;refine ⟨D,rfl,(IF _ (fun calls M'=>calls=[]∧M'=(D,.deferred none)::(RW Ds++M)) I _ w (RT ⟨rfl,rfl⟩) st).mono ?_⟩
    rintro calls w' ⟨M',⟨rfl,rfl⟩,st'⟩
    exact ⟨rfl,ih w' st'.drop h⟩
theorem FD {P:Program} (Ds:List Nat) {e:Exit} (he:e=.ret∨e=.normal) (hM:M.Perm (RW Ds++R)) (h:Pst N (RetQ P fn I₀ post F) e [] l I R):Pst N (RetQM P fn I₀ post F) e (Ds.map mark) l I M:=fun a w hS hD hW=>by
  have key:LvM P fn a.tmps (RQ I₀ post F) a.defers w:=by
    rw [hD];refine leaves_marks (M:=R) Ds w (hW.perm hM) fun w' st=>?_
    have:=h { tmps:=a.tmps,defers:=[] } w' ⟨hS.size,hS.get⟩ rfl st;rcases he with rfl | rfl
    · exact this.2
    · exact this.2
  rcases he with rfl | rfl
  · exact key
  · exact key
end
end
end Go.Sl
namespace Go.Sh
open Go Go.Sl
section
variable {P:Program} [Jud P] {N:Nat} {ops:Array Oper} {i:Nat} {l:Sl} {I:Imm} {R M:Seg} {ty:TypeId} {gd:Option (Nat × Bool)} {K:Sl→Imm→Seg→Prop} {d:Nat}
end
def allP (ps:List (Yard→Bool)) (Y:Yard):Bool:=ps.all fun p=>p Y
def orderedP (order:List Int) (Y:Yard):Bool:=decide (Y.tracks.getD 0 []=order)
def lastP (cs t:List Int):Bool:=(t.drop (t.length-cs.length)).all fun c=>decide (c∈cs)
def errOf {α:Type} (o:Option α):Int:=if o.isSome then 0 else 11
def goO (n:Nat):List Int→List Int→Int
  | _,[]=>0
  | pre,c::r=>if inB c 0 (↑n-1) then (if c∈pre then 4 else goO n (pre++[c]) r) else 3
def orderErr (Y:Yard) (order:List Int):Int:=if RY Y=0 then goO Y.cars.length [] order else RY Y
def fewestE (Y:Yard) (order:List Int):List Shift × Int:=
  if orderErr Y order=0 then ((fewestM (allP [orderedP order]) Y).getD [],errOf (fewestM (allP [orderedP order]) Y)) else ([],orderErr Y order)
theorem Asc.nodup {l:List Int} (h:Asc l):l.Nodup:=h.imp fun hab=>by omega
end Go.Sh
namespace Go.Sl
open Go
section
variable {P:Program} [Jud P] {N:Nat} {ops:Array Oper} {i:Nat} {l:Sl} {I:Imm} {R M:Seg} {ty:TypeId} {gd:Option (Nat × Bool)} {K:Sl→Imm→Seg→Prop} {d:Nat}
variable {κ:Type} [DecidableEq κ] {enc:κ→Value}
theorem stp_builtin {b : Builtin} {args : Array Operand} {tys : Array TypeId} {vals : List Value} {dst : Option Tmp}
    (hop:FJ ops N i=some (dst,.call { callee:=.builtin b,args,argTypes:=tys },ty,gd)) (hg:FH ops l gd=some true) (hk:∀ x∈args,known l x) (hvals:args.toList.map (rho l)=vals)
    (h:∀ (cs:Array Bool),wpL P (builtin b tys ty cs vals.toArray) (fun n M'=>∃ v,(n=.value v∨(n=.skip∧v=undef))∧K (ups dst v l) I M') I M):Stp P N ops i l I M K:=
  DD hop hg (by simpa [Op.operands,Call.operands] using hk) (by
    have e:args.map (rho l)=vals.toArray:=by
      apply Array.ext'
      simp [hvals]
    show wpL P (do let d ← resolve (rho l) { callee:=.builtin b,args,argTypes:=tys } ty;invoke d.target d.args) _ I M
    unfold resolve
    simp only [e]
    exact h _)
theorem stp_appendN {x y : Operand} {T T' E bs n : Nat} {z : Value} (hop : FJ ops N i = some (some d, .call { callee := .builtin .append, args := #[x, y], argTypes := #[T, T'] }, ty, gd)) (hg : FH ops l gd = some true)
    (hT:JA P T=some E) (hsz:EG P E=some 1) (hz:HF P E=some z) (hzc:z.cells.size=1) (hb:KB P E=some bs) (hbs:1≤bs∧bs≤256) (hT':tyI64 P T'=true)
    (hx:CE l x=some (.slice none 0 0)) (hy:CE l y=some (.int .i64 (n:Int))) (hn:0<n∧n≤1000000)
    (next:∀ b nc zs,n≤nc→zs.length=nc→K ((d,.slice (some ⟨b,0,none⟩) n nc)::l) I ((b,Obj.cells (List.toArray zs) E (0,0))::M)):Stp P N ops i l I M K:=by
  refine stp_builtin (vals:=[.slice none 0 0,.int .i64 n]) hop hg (JL hx hy) (by simp [BI hx,BI hy]) fun cs=>?_
  have hinfo:∃ inf,P.info? E=some inf∧inf.bytes=bs:=by
    unfold KB at hb;cases hi:P.info? E with
    | none=>rw [hi] at hb;cases hb
    | some inf=>rw [hi] at hb;exact ⟨inf,rfl,by simpa using hb⟩
  obtain ⟨inf,hinf,hbytes⟩:=hinfo;show wpL P (Builtin.append_ #[T,T'] ty #[.slice none 0 0,.int .i64 n] >>= fun x=>pure (Next.value x)) _ I M;refine DX ?_;unfold Builtin.append_;simp only [List.getElem?_toArray,List.getElem?_cons_zero,List.getElem?_cons_succ,AE,AP (DW hT),CJ hsz,AP (GU hT'),EA];simp only [if_true,asInt];rw [AE];have hw:IntKind.i64.wrap (n:Int)=(n:Int):=PP ⟨by omega,by omega⟩;show wpL P (pure (n:Int)) _ I M;rw [EA];simp only [hw];rw [if_neg (show ¬ (n:Int)<0 by omega)];rw [AE,DJ hinf];have hbig:¬ ((n:Int)*(inf.bytes:Int)>2 ^ 48):=by
    have h1:n*inf.bytes≤1000000*256:=Nat.mul_le_mul hn.2 (by omega);have h2:((n*inf.bytes:Nat):Int)≤((1000000*256:Nat):Int):=Int.ofNat_le.2 h1;rw [Int.natCast_mul] at h2;omega
  rw [if_neg hbig];rw [AE,EA];simp only [Int.toNat_natCast,Nat.zero_add,Bool.not_true,Bool.false_eq_true,if_false];rw [if_neg (show ¬ n≤0 by omega)];simp only [true_or,and_true]
  rw [if_neg (show ¬ ((n : Int) > IntKind.i64.max) by have : IntKind.i64.max = 9223372036854775807 := rfl
                                                      omega)]
  rw [AE,DJ hinf]
  rw [AE,DJ hinf,if_neg (show ¬ (Builtin.nextslicecap n 0*inf.bytes>2 ^ 48) from fun h=>by
    have h1:Builtin.nextslicecap n 0≤2*n+1000:=MI (by omega)
    have h2:Builtin.nextslicecap n 0*inf.bytes≤(2*n+1000)*256:=Nat.mul_le_mul h1 (by omega)
    omega)]
  rw [AE];show (if (Question.appendCap n 0 E).forced then _ else ∀ t,_);rw [if_neg (by simp [Question.forced])];intro t;show wpL P (typeInfo E >>= _) _ I _;rw [AE,DJ hinf,AE];have hask:∀ (n:Nat) (Q:Unit→Seg→Prop),Q () M→wpL P (askRoom n) Q I M:=fun n Q hq=>by
    unfold askRoom
    split
    · exact ⟨trivial,hq⟩
    · exact hq
  refine hask _ _ ?_;rw [AE];show wpL P (_ >>= _) _ I M;rw [AE];rw [if_neg (show ¬ n*1=0 by omega)];rw [AE,DS hz,EA,AE,DS hz,AE];intro b;have hcap:n≤Question.cut (.appendCap n 0 E) t:=by simp [Question.cut]
  generalize Question.cut (.appendCap n 0 E) t=nc at hcap
  refine ⟨_,.inl rfl,?_⟩
  have:=next b nc ((#[]:Array Value)++Builtin.zeroCells z.cells n++Builtin.zeroCells z.cells (nc-n)).toList hcap (by
    simp only [Array.length_toList,Array.size_append,LP,hzc,List.size_toArray,List.length_nil];omega)
  rw [Array.toArray_toList] at this;exact this
end
theorem Own.empty {E:TypeId} {b nc:Nat} {zs:List Value} (h:zs.length=nc):Own E 1 AQ (.slice (some ⟨b,0,none⟩) 0 nc) ([]:List Int) [(b,Obj.cells zs.toArray E (0,0))]:=
  .inr ⟨b,nc,zs,rfl,Nat.zero_le _,rfl,by simpa [CW] using h⟩
end Go.Sl
namespace Go.Sh
open Go Go.Sl
section
variable {xs ys:List Int} {k:Nat}
end
theorem flat_take {xss:List (List Int)} {k:Nat} (h:k<xss.length):(xss.take (k+1)).flatten=(xss.take k).flatten++xss.getD k []:=by
  rw [CH (d:=[]) h];simp
theorem flat_succ {xss:List (List Int)} {k:Nat} (h:k<xss.length):(((xss.take (k+1)).flatten.length:Nat):Int)=↑(xss.take k).flatten.length+↑(xss.getD k []).length:=by
  rw [flat_take h,List.length_append];omega
theorem flat_le (xss:List (List Int)) (k:Nat) (h:k<xss.length):(xss.take k).flatten.length+(xss.getD k []).length≤xss.flatten.length:=by
  rw [← List.length_append,← flat_take h];have:xss.flatten=(xss.take (k+1)).flatten++(xss.drop (k+1)).flatten:=by rw [← List.flatten_append,List.take_append_drop]
  rw [this,List.length_append];omega
def stepB (cs:List Car) (t:List Int) (k:Nat) (acc:List (List Int)):List (List Int):=
  if NS cs t ↑k then acc.set (acc.length-1) (acc.getD (acc.length-1) []++[t.getD k 0]) else acc++[[t.getD k 0]]
def blocksTo (cs:List Car) (t:List Int):Nat→List (List Int)
  | 0=>[]
  | k+1=>stepB cs t k (blocksTo cs t k)
def RW (cs:List Car) (t:List Int):List (List Int):=blocksTo cs t t.length
section
variable {bl:List (List Int)} {rec:List Int→List Int→List (List Int)} {begun us:List Int} {k:Nat}
end
end Go.Sh
namespace Go.Sl
open Go
theorem St.permL {I:Imm} {A A' B:Seg} {w:GW} (h:A.Perm A') (st:St I (A++B) w):St I (A'++B) w:=st.perm (List.Perm.append_right _ h)
section
variable {ρ:Option Nat} {P:Program} [Jud P] {N:Nat} {ds:List Deferred} {l:Sl} {I:Imm} {M A B eM:Seg} {Q:Exit→Act→GW→Prop} {E:TypeId} {vs:List Value} {xss:List (List Int)}
theorem rn_freezeEach {c : Code} (h : OwnEach E vs xss eM) (hl : ∀ xs ∈ xss, xs.length ≤ 1000000) (hM : M.Perm (eM ++ A)) (hA : A.Perm B)
    (next:∀ J,I.le J→RowsV J vs xss→Run (ρ:=ρ) P N c Q ds l J B):Run (ρ:=ρ) P N c Q ds l I M:=fun a w hS hD hW=>by
  obtain ⟨J,h1,h2,h3⟩:=h.freeze (fun xs hx=>by have:=hl xs hx;omega) (hW.perm hM);exact next J h1 h2 a w hS hD (h3.perm hA)
end
end Go.Sl
namespace Go.Sh
open Go Go.Sl
end Go.Sh
namespace Go.Sl
open Go
section
variable {P:Program} [Jud P] {N:Nat} {ops:Array Oper} {i:Nat} {l:Sl} {I:Imm} {M:Seg} {ty:TypeId} {gd:Option (Nat × Bool)} {K:Sl→Imm→Seg→Prop} {κ:Type} [DecidableEq κ] {enc:κ→Value}
theorem IU {x y u : Operand} {T kt et r cl : Nat} {es : Array MapEntry} {kvs : List (κ × Value)} {k : κ} {v : Value} (n : Nat) (hop : FJ ops N i = some (none, .insert T x y u, ty, gd)) (hg : FH ops l gd = some true)
    (hT:tyMap P T=some (kt,et)) (hK:KeyOk P kt enc) (hx:CE l x=some (.map (some r))) (hy:CE l y=some (enc k)) (hu:CE l u=some v) (hn:M[n]?=some (r,Obj.map es cl)) (his:MapIs enc es kvs)
    (h:∀ es' cl',MapIs enc es' (upd k v kvs)→K l I (M.set n (r,Obj.map es' cl'))):Stp P N ops i l I M K:=
  DD hop hg (known3 hx hy hu) (by
    show wpL P (Instr.mapUpdate T (rho l x) (rho l y) (rho l u) >>= fun _=>pure Next.skip) _ I M
    rw [BI hx,BI hy,BI hu,AE]
    unfold Instr.mapUpdate
    rw [AE,AP (KN hT)]
    show wpL P (Sem.getObj r _) _ I M
    refine ⟨_,.inl (List.mem_of_getElem? hn),rfl,?_⟩
    show wpL P (Instr.checkKey _ _ _ _ >>= _) _ I _
    rw [AE]
    refine hK.check _ _ _ _ _ ?_
    rw [AE]
    refine hK.find k es.toList kvs _ _ _ his ?_
    have hf:=QC k v kvs 0
    cases hkv:EN k kvs 0 with
    | none=>
      rw [hkv] at hf
      simp only at hf
      show wpL P (Sem.setObj r _ _) _ I M
      refine FU n rfl hn rfl ?_
      refine ⟨undef,.inr ⟨rfl,rfl⟩,h _ _ ?_⟩
      rw [hf.1]
      exact QJ his k v cl
    | some p=>
      obtain ⟨j,w⟩:=p
      rw [hkv] at hf
      simp only [Nat.sub_zero] at hf
      obtain ⟨_,h1,_,h2⟩:=hf
      have hold:((es[j]?).map (·.key)).getD (enc k)=enc k:=by
        have:=congrArg (fun l=>(l[j]?).map Prod.fst) his
        simp only [List.getElem?_map,Array.getElem?_toList,Option.map_map] at this
        cases he:es[j]? with
        | none=>rfl
        | some e=>
          rw [he] at this
          cases hq:kvs[j]? with
          | none=>rw [hq] at this;simp at this
          | some q=>
            rw [hq] at this h2
            simp [NF] at this h2
            simp [this,h2]
      have key:∀ key,key=enc k→wpL P (Sem.setObj r (.map (es.modify j fun e=>{ e with key,val:=v }) cl) (Sem.pure ())) (fun _ M'=>wpL P (pure Next.skip) (fun n M'=>∃ v,(n=.value v∨(n=.skip∧v=undef))∧K (ups none v l) I M') I M') I M:=fun key hkey=>by
        refine FU n rfl hn rfl ?_
        refine ⟨undef,.inr ⟨rfl,rfl⟩,h _ _ ?_⟩
        rw [h1]
        exact mapIs_set his j k v key hkey
      show wpL P (Instr.keyThatStays (((es[j]?).map (·.key)).getD (enc k)) (enc k) >>= _) _ I M
      rw [AE,hold]
      unfold Instr.keyThatStays
      split
      · exact key _ rfl
      · rw [AE]
        show (if (Question.extern "map.whichKeyStays" 2).forced then _ else ∀ t,_)
        split
        · refine key _ ?_;split <;> rfl
        · intro t;refine key _ ?_;split <;> rfl)
end
end Go.Sl
namespace Go.Sh
open Go Go.Sl
def YardH (T:TypeId) (I:Imm) (v:Value) (Y:Yard):Prop:=
  ∃ b v1 v2 v3,v=.pointer (some ⟨b,0,none⟩)∧I.blk b=some (Obj.cells #[v1,v2,v3] T (0,0))∧IsCars I v1 Y.cars∧CK I v2 Y.room∧IsRows I v3 Y.tracks
def YardsH (T:TypeId) (I:Imm) (vs:List Value) (zs:List Yard):Prop:=vs.length=zs.length∧∀ i,i<zs.length→YardH T I (vs.getD i undef) (zs.getD i noYard)
theorem YardsH.nil (T:TypeId) (I:Imm):YardsH T I [] []:=⟨rfl,fun i hi=>by simp at hi⟩
structure VisOk (A:Yard) (s:List KP × List Yard):Prop where
  met:∃ m:List Yard,s.1=m.map placeOf∧(∀ y∈m,Kin A y)∧(m.map Yard.tracks).Nodup
  kin:∀ y∈s.2,Kin A y
  le:s.2.length≤s.1.length
theorem VisOk.visit {A:Yard} {s:List KP × List Yard} {z:Yard} (h:VisOk A s) (f:Fine A) (hz:Kin A z):VisOk A (visit s z):=by
  obtain ⟨m,e,hk,hn⟩:=h.met;have hle:=h.le;unfold Go.Sh.visit
  split
  · exact h
  · rename_i hm
    refine ⟨⟨m++[z],by simp [e],fun y hy=>?_,?_⟩,fun y hy=>?_,by simp only [List.length_append,List.length_cons,List.length_nil];omega⟩
    · rcases List.mem_append.1 hy with hy | hy
      · exact hk y hy
      · simp at hy;subst hy;exact hz
    · rw [List.map_append]
      refine List.nodup_append.2 ⟨hn,by simp,fun a ha b hb=>?_⟩;simp at hb;subst hb;intro e2;obtain ⟨y,hy,rfl⟩:=List.mem_map.1 ha;have:=kin_tracks (hk y hy) hz e2;subst this;exact hm (e▸List.mem_map_of_mem hy)
    · rcases List.mem_append.1 hy with hy | hy
      · exact h.kin y hy
      · simp at hy;subst hy;exact hz
theorem VisOk.visitAll {A:Yard} (f:Fine A):∀ (zs:List Yard) (s:List KP × List Yard),VisOk A s→(∀ z∈zs,Kin A z)→VisOk A (visitAll zs s):=by
  intro zs
  induction zs with
  | nil=>intro s h _;exact h
  | cons z r ih=>intro s h hk;exact ih _ (h.visit f (hk z List.mem_cons_self)) (fun y hy=>hk y (List.mem_cons_of_mem _ hy))
theorem VisOk.fresh {A:Yard} {s:List KP × List Yard} (h:VisOk A s):VisOk A (s.1,[]):=⟨h.met,fun y hy=>by simp at hy,Nat.zero_le _⟩
def visJ (met:List KP) (now:List Yard) (j:Nat):List KP × List Yard:=visitAll ((now.take j).flatMap nexts) (met,[])
def visX (s:List KP × List Yard) (x:Yard) (xs:List Shift):List KP × List Yard:=visitAll (xs.map (moved x)) s
theorem VisOk.j {A:Yard} (f:Fine A) {met:List KP} {now:List Yard} (h:VisOk A (met,now)) (j:Nat):VisOk A (visJ met now j):=
  VisOk.visitAll f _ _ h.fresh (flat_kin fun y hy=>h.kin y (List.mem_of_mem_take hy))
theorem VisOk.x {A:Yard} (f:Fine A) {s:List KP × List Yard} {x:Yard} (h:VisOk A s) (hx:Kin A x) {xs:List Shift} (hp:xs <+: draws x):VisOk A (visX s x xs):=
  VisOk.visitAll f _ _ h fun y hy=>by
    obtain ⟨d,hd,rfl⟩:=List.mem_map.1 hy;exact hx.moved (OV (hp.subset hd))
end Go.Sh
namespace Go.Sl
open Go
theorem IsRows.split {I:Imm} {v:Value} {xss:List (List Int)} (h:IsRows I v xss):∃ vs:List Value,IsVals I v vs∧RowsV I vs xss:=by
  obtain ⟨a,c,b,o,f,h1,h2,h3,h4,h5⟩:=h;have hl:((List.range xss.length).map f).length=xss.length:=by simp
  have hg:∀ i,i<xss.length→((List.range xss.length).map f).getD i undef=f i:=fun i hi=>by simp [List.getD,hi]
  refine ⟨(List.range xss.length).map f,⟨a,c,b,o,by rw [hl];exact h1,by rw [hl];exact h2,by rw [hl];exact h3,?_⟩,hl,fun i hi=>by rw [hg i hi];exact h5 i hi⟩;rw [hl];refine ⟨h4.addr,fun i hi g hg2=>?_⟩;have:=h4.get i hi g hg2;show ICell I _ (((List.range xss.length).map f).getD i undef);rw [hg i hi];exact this
theorem RowsV.take {I:Imm} {vs:List Value} {xss:List (List Int)} (h:RowsV I vs xss) (k:Nat):RowsV I (vs.take k) (xss.take k):=by
  refine ⟨by simp [h.1],fun i hi=>?_⟩;have hi2:i<k∧i<xss.length:=by rw [List.length_take] at hi;omega
  have:=h.2 i hi2.2;simp only [List.getD] at this ⊢;rw [List.getElem?_take_of_lt hi2.1,List.getElem?_take_of_lt hi2.1];exact this
theorem RowsV.drop {I:Imm} {vs:List Value} {xss:List (List Int)} (h:RowsV I vs xss) (k:Nat):RowsV I (vs.drop k) (xss.drop k):=by
  refine ⟨by simp [h.1],fun i hi=>?_⟩;have hi2:k+i<xss.length:=by simp at hi;omega
  have:=h.2 (k+i) hi2;simp only [List.getD] at this ⊢;rw [List.getElem?_drop,List.getElem?_drop];exact this
theorem RowsV.append {I:Imm} {vs ws:List Value} {xss yss:List (List Int)} (h:RowsV I vs xss) (k:RowsV I ws yss):RowsV I (vs++ws) (xss++yss):=by
  have h1:=h.1;refine ⟨by simp [h.1,k.1],fun i hi=>?_⟩;simp only [List.length_append] at hi
  by_cases e:i<xss.length
  · have:=h.2 i e
    simp only [List.getD] at this ⊢;rw [List.getElem?_append_left (by omega),List.getElem?_append_left e];exact this
  · have:=k.2 (i-xss.length) (by omega)
    simp only [List.getD] at this ⊢;rw [List.getElem?_append_right (by omega),List.getElem?_append_right (by omega),h1];exact this
end Go.Sl
namespace Go.Sh
open Go Go.Sl
section
variable {xs ys:List Int} {k:Nat}
end
def EH (n:Nat):List Int:=(List.range n).map fun i:Nat=>(i:Int)
theorem wholeL_succ (n:Nat):EH (n+1)=EH n++[(n:Int)]:=by simp [EH,List.range_succ]
theorem EZ (n:Nat):(EH n).length=n:=by simp [EH]
section
variable {o l:List Int} {k:Nat}
end
section
variable {α β:Type}
variable {f:α→β→β} {d:α} {bl:List α} {rec:List α→List β} {k:Nat}
end
end Go.Sh
namespace Go.Sl
open Go
theorem RowsV.one {I:Imm} {vs:List Value} {xss:List (List Int)} (h:RowsV I vs xss):vs.all DC=true:=by
  rw [List.all_eq_true];intro v hv;obtain ⟨i,hi,rfl⟩:=List.mem_iff_getElem.1 hv;have:=h.2 i (h.1▸hi);obtain ⟨a,c,b,o,e,_⟩:=this;rw [List.getD,List.getElem?_eq_getElem hi] at e;simp only [Option.getD_some] at e;rw [e];rfl
section
variable {P:Program} [Jud P] {N:Nat} {ops:Array Oper} {i:Nat} {l:Sl} {I:Imm} {R M:Seg} {ty:TypeId} {gd:Option (Nat × Bool)} {K:Sl→Imm→Seg→Prop} {d:Nat}
theorem LF {x : Operand} {T E bs n : Nat} {z zv : Value} (hop : FJ ops N i = some (some d, .makeSlice T x x, ty, gd)) (hg : FH ops l gd = some true)
    (hT:JA P T=some E) (hsz:EG P E=some 1) (hz:HF P E=some z) (hzc:z.cells=#[zv]) (hb:KB P E=some bs) (hbs:1≤bs∧bs≤256)
    (hx:CE l x=some (.int .i64 (n:Int))) (hn:n≤1000000)
    (next:∀ b,K ((d,.slice (some ⟨b,0,none⟩) n n)::l) I ((b,Obj.cells (List.replicate n zv).toArray E (0,0))::M)):Stp P N ops i l I M K:=by
  have hinfo:∃ inf,P.info? E=some inf∧inf.bytes=bs:=by
    unfold KB at hb;cases hi:P.info? E with
    | none=>rw [hi] at hb;cases hb
    | some inf=>rw [hi] at hb;exact ⟨inf,rfl,by simpa using hb⟩
  obtain ⟨inf,hinf,hbytes⟩:=hinfo;refine DD hop hg (JL hx hx) ?_;show wpL P (Instr.makeSlice T (rho l x) (rho l x) >>= fun x=>pure (Next.value x)) _ I M;refine DX ?_;rw [BI hx];have hw:IntKind.i64.wrap (n:Int)=(n:Int):=PP ⟨by omega,by omega⟩;have hbig:¬ ((inf.bytes:Int)*(n:Int)>2 ^ 48):=by
    have h1:inf.bytes*n≤256*1000000:=Nat.mul_le_mul (by omega) hn;have h2:((inf.bytes*n:Nat):Int)≤((256*1000000:Nat):Int):=Int.ofNat_le.2 h1;rw [Int.natCast_mul] at h2;omega
  unfold Instr.makeSlice;rw [AE,AP (DW hT)];show wpL P (pure (n:Int) >>= _) _ I M;rw [AE,EA];show wpL P (pure (n:Int) >>= _) _ I M;rw [AE,EA,AE,DJ hinf];simp only [hw];have hc:(decide ((n:Int)<0)||decide ((inf.bytes:Int)*(n:Int)>2 ^ 48)||decide ((n:Int)<0)||decide ((n:Int)>(n:Int)))=false:=by
    rw [decide_eq_false (show ¬ (n:Int)<0 by omega),decide_eq_false hbig,decide_eq_false (show ¬ (n:Int)>n by omega)];rfl
  rw [if_neg (by rw [hc];simp)];rw [AE];have hask:∀ (n:Nat) (Q:Unit→Seg→Prop),Q () M→wpL P (askRoom n) Q I M:=fun n Q hq=>by
    unfold askRoom
    split
    · exact ⟨trivial,hq⟩
    · exact hq
  refine hask _ _ ?_;rw [AE,CJ hsz];simp only [Int.toNat_natCast,Nat.mul_one]
  by_cases h0:n=0
  · rw [if_pos h0,AE,EA,AE]
    intro b;refine ⟨_,.inl rfl,?_⟩;have e:(Array.range n).map (fun k=>(#[]:Array Value)[k%(#[]:Array Value).size]!)=(List.replicate n zv).toArray:=by subst h0;simp
    rw [e];exact next b
  rw [if_neg h0,AE,DS hz,AE,EA,AE];intro b;refine ⟨_,.inl rfl,?_⟩;have e:(Array.range n).map (fun k=>z.cells[k%z.cells.size]!)=(List.replicate n zv).toArray:=by
    rw [hzc]
    apply Array.ext
    · simp
    · intro i h1 h2
      simp [Nat.mod_one]
  rw [e];exact next b
end
theorem encL_vals (vs:List Value):CW 1 CX vs=vs:=by
  induction vs with
  | nil=>rfl
  | cons v r ih=>
    have:CW 1 CX (v::r)=[v]++CW 1 CX r:=by simp [CW,CX]
    rw [this,ih];rfl
theorem Own.made {E:TypeId} {b n:Nat} (z:Value):Own E 1 CX (.slice (some ⟨b,0,none⟩) n n) (List.replicate n z) [(b,Obj.cells (List.replicate n z).toArray E (0,0))]:=
  .inr ⟨b,n,[],by simp,by simp,by rw [encL_vals];simp,by simp [encL_vals]⟩
structure Lent (I J:Imm) (Ms:Seg):Prop where
  free:∀ b o,(b,o)∈Ms→I.blk b=none
  held:∀ b o,(b,o)∈Ms→J.blk b=some o
  own:∀ b o,(b,o)∈Ms→¬ I.pub b
  nodup:(Ms.map Prod.fst).Nodup
theorem Lent.mono {I J K:Imm} {Ms:Seg} (h:Lent I J Ms) (le:J.le K):Lent I K Ms:=⟨h.free,fun b o hm=>le.blk _ _ (h.held b o hm),h.own,h.nodup⟩
theorem Own.lend {α : Type} {E : TypeId} {sz : Nat} {cell : α → Nat → Value} {v : Value} {xs : List α} {Ms M : Seg} {I : Imm} {w : GW} (dflt : α) (h : Own E sz cell v xs Ms) (hl : xs.length ≤ 140737488355328) (st : St I (Ms ++ M) w) :
    ∃ J,I.le J∧IsSl sz cell dflt J v xs∧Lent I J Ms∧St J M w:=by
  rcases h with ⟨rfl,rfl,rfl⟩ | ⟨b,c,sp,rfl,h,rfl,hc⟩
  · exact ⟨I,Imm.le.refl I,⟨none,0,0,0,rfl,Nat.le_refl _,by simp,⟨fun h=>by simp at h,fun i hi=>by simp at hi⟩⟩,⟨fun _ _ h=>by simp at h,fun _ _ h=>by simp at h,fun _ _ h=>by simp at h,by simp⟩,st⟩
  · have hb:I.blk b=none:=st.disj b (Obj.cells (CW sz cell xs++sp).toArray E (0,0)) (by simp)
    refine ⟨I.add b _,Imm.le_add hb,⟨_,c,b,0,rfl,h,hl,⟨fun _=>rfl,fun i hi f hf=>⟨rfl,_,E,(0,0),Imm.add_same I b _,?_⟩⟩⟩,⟨fun b' o hm=>?_,fun b' o hm=>?_,fun b' o hm=>?_,by simp⟩,St.freeze st⟩
    · have hlt : i * sz + f < (CW sz cell xs).length := by
        rw [CC];have:i*sz+sz≤xs.length*sz:=by rw [← Nat.succ_mul];exact Nat.mul_le_mul_right _ hi
        omega
      simp only [List.getElem?_toArray,Nat.zero_add];rw [List.getElem?_append_left hlt];exact SA sz cell dflt xs i f hi hf
    · have:=List.mem_singleton.1 hm;cases this;exact hb
    · have:=List.mem_singleton.1 hm;cases this;exact Imm.add_same I b _
    · have:=List.mem_singleton.1 hm;cases this;exact st.own b (Obj.cells (CW sz cell xs++sp).toArray E (0,0)) (by simp)
theorem St.thaw {I J:Imm} {M Ms:Seg} {w:GW} (h:Lent I J Ms) (le:I.le J) (st:St J M w):∃ K,I.le K∧St K (Ms++M) w:=by
  have hk:∀ b,b∈Ms.map Prod.fst→∃ o,(b,o)∈Ms:=fun b hb=>by
    obtain ⟨⟨c,o⟩,hm,e⟩:=List.mem_map.1 hb;cases e;exact ⟨o,hm⟩
  refine ⟨{ J with blk:=fun b=>if b∈Ms.map Prod.fst then none else J.blk b },⟨le.os,le.tape,le.output,le.pub,le.gh,fun b o hb=>?_⟩,⟨st.os,st.tape,st.output,st.pub,st.gh,fun b o hb=>?_,fun b o hm=>?_,fun b o hm=>?_,?_,fun b o hm=>?_⟩⟩
  · show (if b∈Ms.map Prod.fst then none else J.blk b)=some o
    rw [if_neg]
    · exact le.blk b o hb
    · intro hm
      obtain ⟨o2,h2⟩:=hk b hm;rw [h.free b o2 h2] at hb;cases hb
  · change (if b∈Ms.map Prod.fst then none else J.blk b)=some o at hb
    split at hb
    · cases hb
    · exact st.imm b o hb
  · rcases List.mem_append.1 hm with hm | hm
    · exact st.imm b o (h.held b o hm)
    · exact st.mem b o hm
  · show ¬ J.pub b
    rcases List.mem_append.1 hm with hm | hm
    · rw [le.pub];exact h.own b o hm
    · exact st.own b o hm
  · rw [List.map_append]
    refine List.nodup_append.2 ⟨h.nodup,st.nodup,fun a ha b hb e=>?_⟩;subst e;obtain ⟨o,ho⟩:=hk a ha;obtain ⟨⟨c,o2⟩,hm,e⟩:=List.mem_map.1 hb;cases e;have:=st.disj _ _ hm;rw [h.held _ _ ho] at this;cases this
  · show (if b∈Ms.map Prod.fst then none else J.blk b)=none
    rcases List.mem_append.1 hm with hm | hm
    · rw [if_pos (List.mem_map_of_mem (f:=Prod.fst) hm)]
    · split
      · rfl
      · exact st.disj b o hm
section
variable {ρ:Option Nat} {P:Program} [Jud P] {N:Nat} {ds:List Deferred} {l:Sl} {I:Imm} {M A B Ms:Seg} {Q:Exit→Act→GW→Prop} {c:Code}
end
theorem ct_own {α : Type} {E : TypeId} {sz : Nat} {cell : α → Nat → Value} {v : Value} {xs : List α} {Ms : Seg} {I : Imm} {P : Program} {f : FuncId} {args : Array Value} {u : Value} (dflt : α) (h : Own E sz cell v xs Ms) (hl : xs.length ≤ 140737488355328)
    (ct:∀ J,I.le J→IsSl sz cell dflt J v xs→CtV P f args J u):Ct P f args I Ms (fun r _ M'=>r=u∧M'=Ms):=by
  refine ⟨fun F w st=>?_⟩;obtain ⟨J,h1,h2,h3,h4⟩:=h.lend dflt hl st;refine ((ct J h1 h2).all F w h4).mono fun r w' ⟨I',M',hle,⟨hr,hm⟩,st'⟩=>?_
  subst hm;obtain ⟨K,k1,k2⟩:=St.thaw (h3.mono hle) (h1.trans hle) (by simpa using st');exact ⟨K,Ms,k1,⟨hr,rfl⟩,k2⟩
theorem encL_split {α : Type} (sz : Nat) (cell : α → Nat → Value) (dflt : α) (xs : List α) (j : Nat) (h : j < xs.length) :
    CW sz cell xs=CW sz cell (xs.take j)++((List.range sz).map (cell (xs.getD j dflt))++CW sz cell (xs.drop (j+1))):=by
  have e:xs=xs.take j++xs.getD j dflt::xs.drop (j+1):=by
    have:xs.drop j=xs.getD j dflt::xs.drop (j+1):=by
      rw [List.drop_eq_getElem_cons h];simp [List.getD,h]
    rw [← this,List.take_append_drop]
  conv=>lhs;rw [e]
  simp only [CW,List.flatMap_append,List.flatMap_cons]
theorem encL_setAll {α : Type} (sz : Nat) (cell : α → Nat → Value) (z : α) (xs : List α) (j : Nat) (h : j < xs.length) :
    CW sz cell (xs.set j z)=CW sz cell (xs.take j)++((List.range sz).map (cell z)++CW sz cell (xs.drop (j+1))):=by
  rw [List.set_eq_take_append_cons_drop,if_pos h];simp only [CW,List.flatMap_append,List.flatMap_cons]
section
variable {ρ:Option Nat} {P:Program} [Jud P] {N:Nat} {ops:Array Oper} {i:Nat} {l:Sl} {I:Imm} {M:Seg} {ty:TypeId} {gd:Option (Nat × Bool)} {K:Sl→Imm→Seg→Prop}
theorem HB {α : Type} {T : TypeId} {x y : Operand} {v : Value} {E sz : Nat} {cell : α → Nat → Value} {a : Option Addr} {n c b : Nat} {xs : List α} {Ms R : Seg} {rc : Nat → Nat → Value} (dflt : α) (j : Nat) (z : α)
    (hop:FJ ops N i=some (none,.store T x y,ty,gd)) (hg:FH ops l gd=some true) (own:Own E sz cell (.slice a n c) xs Ms) (row:ORow sz Ms a b xs.length rc) (hj:j<xs.length)
    (hx:CE l x=some (.pointer (some ⟨b,0+j*sz,none⟩))) (hy:CE l y=some v) (hsz:EG P T=some sz) (hv:v.cells.toList=(List.range sz).map (cell z)) (hone:∀ w∈(List.range sz).map (cell z),DC w=true)
    (hM:M.Perm (Ms++R)) (next:∀ Ms',Own E sz cell (.slice a n c) (xs.set j z) Ms'→K l I (Ms'++R)):Stp P N ops i l I M K:=by
  have ha:=row.addr (by omega);rcases own with ⟨hv',rfl,rfl⟩ | ⟨b',c',sp,hv',hcap,rfl,hlen⟩
  · simp at hj
  · simp only [Value.slice.injEq] at hv'
    obtain ⟨rfl,rfl,rfl⟩:=hv';simp only [Option.some.injEq,Addr.mk.injEq,and_true] at ha;subst ha;refine LG hop hg (JL hx hy) hM ?_;show wpL P (Instr.storeAt T (rho l x) (rho l y) >>= fun _=>pure Next.skip) _ I _;rw [BI hx,BI hy,AE];show wpL P (storeVar T ⟨b',0+j*sz,none⟩ v) _ I _;unfold storeVar;rw [AE,CJ hsz];have hl:v.cells.size=sz:=by rw [← Array.length_toList,hv];simp
    rw [if_neg (by simp [hl])];show wpL P (storeCells ⟨b',0+j*sz,none⟩ v.cells.toList) _ I _;rw [hv];have hs:=encL_split sz cell dflt xs j hj;have hA:(CW sz cell (xs.take j)).length=j*sz:=by rw [CC,List.length_take,Nat.min_eq_left (by omega)]
    refine GH (T:=E) (k:=0) ((List.range sz).map (cell z)) 0 _ (CW sz cell xs++sp).toArray _ (by simp) ?_ hone ?_
    · rw [hs]
      simp only [List.size_toArray,List.length_append,List.length_map,List.length_range,hA];omega
    · refine ⟨undef,_,.inr ⟨rfl,rfl⟩,List.Sublist.refl _,?_⟩
      have e2:JS (CW sz cell xs++sp).toArray (0+j*sz+0) ((List.range sz).map (cell z))=(CW sz cell (xs.set j z)++sp).toArray:=by
        apply Array.ext'
        have:=KZ ((List.range sz).map (cell z)) (CW sz cell (xs.take j)) ((List.range sz).map (cell (xs.getD j dflt))++CW sz cell (xs.drop (j+1))++sp) (by simp);rw [hA] at this;rw [hs,encL_setAll sz cell z xs j hj,show 0+j*sz+0=j*sz by omega,List.append_assoc,this];simp
      rw [e2];exact next _ (.inr ⟨b',c,sp,by simp,by simpa using hcap,rfl,by rw [← hlen,List.length_append,List.length_append,CC,CC,List.length_set]⟩)
end
abbrev EqS (R:Seg):Seg→Prop:=fun X=>X=R
inductive FpOk (ops:Array Oper) (i:Nat) (M:Seg):List (Nat × (Seg→Prop))→Prop
  | nil:FpOk ops i M []
  | wait {k:Nat} {pr:Seg→Prop} {fp:List (Nat × (Seg→Prop))}:wt ops i k=true→FpOk ops i M fp→FpOk ops i M ((k,pr)::fp)
  | none {k:Nat} {fp:List (Nat × (Seg→Prop))}:FpOk ops i M fp→FpOk ops i M ((k,EqS [])::fp)
  | part {k:Nat} {R Sx:Seg} {fp:List (Nat × (Seg→Prop))}:M.Perm (R++Sx)→FpOk ops i M fp→FpOk ops i M ((k,EqS R)::fp)
  | other {k:Nat} {pr:Seg→Prop} {R Sx:Seg} {fp:List (Nat × (Seg→Prop))}:pr R→M.Perm (R++Sx)→FpOk ops i M fp→FpOk ops i M ((k,pr)::fp)
theorem FpOk.all {ops:Array Oper} {i:Nat} {M:Seg} {fp:List (Nat × (Seg→Prop))} (h:FpOk ops i M fp):∀ p∈fp,wt ops i p.1=true∨∃ Rx Sx,p.2 Rx∧M.Perm (Rx++Sx):=by
  induction h with
  | nil=>intro p hp;simp at hp
  | wait h _ ih=>
    intro p hp;rcases List.mem_cons.1 hp with rfl | hp
    · exact .inl h
    · exact ih p hp
  | none _ ih=>
    intro p hp;rcases List.mem_cons.1 hp with rfl | hp
    · exact .inr ⟨[],M,rfl,List.Perm.refl _⟩
    · exact ih p hp
  | part h _ ih=>
    intro p hp;rcases List.mem_cons.1 hp with rfl | hp
    · exact .inr ⟨_,_,rfl,h⟩
    · exact ih p hp
  | other h h2 _ ih=>
    intro p hp;rcases List.mem_cons.1 hp with rfl | hp
    · exact .inr ⟨_,_,h,h2⟩
    · exact ih p hp
section
variable {P:Program} [Jud P] {N:Nat} {ops:Array Oper} {als:List Nat} {al:List (Nat × Nat × Fresh)} {L0:Sl} {F0:Seg} {Kf:Sl→Imm→Seg→Prop} {fp:List (Nat × (Seg→Prop))} {rest:List (Nat × Bool)} {i d:Nat} {v:Value} {l:Sl} {I:Imm} {M M':Seg}
def lkB (d:Nat) (v:Value) (L0:Sl):Prop:=match look d L0 with | some u=>v=u | none=>True
theorem lkOk {L0:Sl} {d:Nat} {v:Value} (h:lkB d v L0):∀ u,look d L0=some u→v=u:=fun u hu=>by
  unfold lkB at h;rw [hu] at h;exact h
theorem AF (h:Det P N ops i l I M d v) (next:OFPX P N ops als F0 Kf al L0 ((i,EqS M)::fp) rest ((d,v)::l) I M) (hL:lkB d v L0:=by first | exact trivial | exact rfl):OFPX P N ops als F0 Kf al L0 fp ((i,true)::rest) l I M:=⟨d,v,EqS M,M,[],fun _ e=>e▸h,rfl,by simp,lkOk hL,next⟩
theorem AY (h:Det P N ops i l I [] d v) (next:OFPX P N ops als F0 Kf al L0 ((i,EqS [])::fp) rest ((d,v)::l) I M) (hL:lkB d v L0:=by first | exact trivial | exact rfl):OFPX P N ops als F0 Kf al L0 fp ((i,true)::rest) l I M:=⟨d,v,EqS [],[],M,fun _ e=>e▸h,rfl,by simp,lkOk hL,next⟩
theorem ED {Rx Sx:Seg} (hp:M.Perm (Rx++Sx)) (h:Det P N ops i l I Rx d v) (next:OFPX P N ops als F0 Kf al L0 ((i,EqS Rx)::fp) rest ((d,v)::l) I M) (hL:lkB d v L0:=by first | exact trivial | exact rfl):OFPX P N ops als F0 Kf al L0 fp ((i,true)::rest) l I M:=⟨d,v,EqS Rx,Rx,Sx,fun _ e=>e▸h,rfl,hp,lkOk hL,next⟩
theorem JP (pr:Seg→Prop) {Rx Sx:Seg} (hq:pr Rx) (hp:M.Perm (Rx++Sx)) (h:∀ X,pr X→Det P N ops i l I X d v) (next:OFPX P N ops als F0 Kf al L0 ((i,pr)::fp) rest ((d,v)::l) I M) (hL:lkB d v L0:=by first | exact trivial | exact rfl):OFPX P N ops als F0 Kf al L0 fp ((i,true)::rest) l I M:=⟨d,v,pr,Rx,Sx,h,hq,hp,lkOk hL,next⟩
theorem ofx_al {E:TypeId} (ha:BW al i=some (d,.sl E)) (next:∀ b,OFPX P N ops als F0 Kf al L0 fp rest ((d,.slice (some ⟨b,0,none⟩) 0 0)::l) I ((b,Obj.cells #[] E (0,0))::M)):OFPX P N ops als F0 Kf al L0 fp ((i,false)::rest) l I M:=by
  unfold OFPX;rw [ha];exact next
theorem ofx_ac {T:TypeId} {cs:Array Value} (ha:BW al i=some (d,.cl T cs)) (next:∀ b,OFPX P N ops als F0 Kf al L0 fp rest ((d,.pointer (some ⟨b,0,none⟩))::l) I ((b,Obj.cells cs T (0,0))::M)):OFPX P N ops als F0 Kf al L0 fp ((i,false)::rest) l I M:=by
  unfold OFPX;rw [ha];exact next
theorem ofx_bs {T:TypeId} {n:Nat} {cs:Array Value} (ha:BW al i=some (d,.bs T n cs)) (next:∀ b,OFPX P N ops als F0 Kf al L0 fp rest ((d,.slice (some ⟨b,0,none⟩) n n)::l) I ((b,Obj.cells cs T (0,0))::M)):OFPX P N ops als F0 Kf al L0 fp ((i,false)::rest) l I M:=by
  unfold OFPX;rw [ha];exact next
def dsB (ops:Array Oper) (i:Nat) (L0:Sl):Bool:=match DQ ops i with | some d=>(look d L0).isNone | none=>true
theorem dsB_nil (ops:Array Oper) (i:Nat):dsB ops i []=true:=by unfold dsB;split <;> rfl
theorem dsB_spec {L0:Sl} (h:dsB ops i L0=true):∀ d,DQ ops i=some d→look d L0=none:=fun d hd=>by
  unfold dsB at h;rw [hd] at h;simpa using h
def knB (ops:Array Oper) (als:List Nat) (al:List (Nat × Nat × Fresh)) (rest:List (Nat × Bool)):Bool:=als.all fun j=>(BW al j).isSome||rest.any fun x=>!x.2&&(wt ops j x.1&&!(isAl als x.1))
theorem knB_spec (h:knB ops als al rest=true):Known ops als al rest:=fun j hj=>by
  obtain ⟨k,hk,e⟩:=List.any_eq_true.1 (show (als.any fun k=>Nat.beq k j)=true from hj);obtain rfl:=Nat.eq_of_beq_eq_true e;have:=List.all_eq_true.1 h k hk;simp only [Bool.or_eq_true,List.any_eq_true,Bool.and_eq_true,Bool.not_eq_true'] at this;rcases this with h1 | ⟨⟨a,b⟩,h2,h3,h4,h5⟩
  · exact .inl (Option.isSome_iff_exists.1 h1)
  · simp only at h3 h4 h5
    subst h3;exact .inr ⟨a,h2,h4,h5⟩
theorem CI {Mx : Seg → Seg} (ha : BW al i = none) (hp : ∀ F, (Mx F).Perm (M ++ F))
    (h:∀ F,Stp P N ops i l I (Mx F) fun l' I' M'=>∃ M1 al' L0',M'.Perm (M1++F)∧FpOk ops i M1 fp∧Ext P N ops als al L0 al' L0' l'∧knB ops als al' rest=true∧OFPX P N ops als F0 Kf al' L0' fp rest l' I' M1) (hS:dsB ops i L0=true:=by first | exact dsB_nil _ _ | kernel_rfl):OFPX P N ops als F0 Kf al L0 fp ((i,false)::rest) l I M:=by
  unfold OFPX;rw [ha];refine ⟨dsB_spec hS,?_⟩;exact fun F _=>Stp.perm (hp F).symm (Stp.mono (h F) fun l' I' M' ⟨M1,al',L0',a,b,e,k,c⟩=>⟨M1,al',L0',a,b.all,e,knB_spec k,c⟩)
theorem DV {F M1:Seg} (hp:M'.Perm (M1++F)) (hf:FpOk ops i M1 fp) (next:OFPX P N ops als F0 Kf al L0 fp rest l I M1) (hk:knB ops als al rest=true:=by kernel_rfl):∃ M1 al' L0',M'.Perm (M1++F)∧FpOk ops i M1 fp∧Ext P N ops als al L0 al' L0' l∧knB ops als al' rest=true∧OFPX P N ops als F0 Kf al' L0' fp rest l I M1:=⟨M1,al,L0,hp,hf,.inl ⟨rfl,rfl⟩,hk,next⟩
def asB (als:List Nat) (al:List (Nat × Nat × Fresh)):Bool:=al.all fun x=>isAl als x.1
theorem alFind_in:∀ (al:List (Nat × Nat × Fresh)) {i d:Nat} {E:Fresh},BW al i=some (d,E)→(i,d,E)∈al:=by
  intro al
  induction al with
  | nil=>intro i d E h;cases h
  | cons x r ih=>
    intro i d E h;unfold BW at h;cases hb:Nat.beq x.1 i with
    | true=>
      rw [hb] at h;simp only [cond_true,Option.some.injEq] at h;have e:=Nat.eq_of_beq_eq_true hb;rcases x with ⟨x1,x2⟩
      simp only at h e;subst h e;exact List.mem_cons_self
    | false=>
      rw [hb] at h;exact List.mem_cons_of_mem _ (ih h)
theorem RV (h:asB als al=true):∀ i d E,BW al i=some (d,E)→isAl als i=true:=fun i d E hi=>List.all_eq_true.1 h _ (alFind_in al hi)
theorem ofx_nxE {F M1 : Seg} (t : Nat) (v : Value) (j d : Nat) (E : Fresh) (hp : M'.Perm (M1 ++ F)) (hf : FpOk ops i M1 fp) (hA : ∀ i' d' E', BW ((j, d, E) :: al) i' = some (d', E') → RM P N ops ((t, v) :: L0) i' d' E') (hv : look t l = some v)
    (next:OFPX P N ops als F0 Kf ((j,d,E)::al) ((t,v)::L0) fp rest l I M1) (hj:(BW al j).isNone=true:=by kernel_rfl) (hs:asB als ((j,d,E)::al)=true:=by kernel_rfl) (hk:knB ops als ((j,d,E)::al) rest=true:=by kernel_rfl) :
    ∃ M1 al' L0',M'.Perm (M1++F)∧FpOk ops i M1 fp∧Ext P N ops als al L0 al' L0' l∧knB ops als al' rest=true∧OFPX P N ops als F0 Kf al' L0' fp rest l I M1:=by
  refine ⟨M1,(j,d,E)::al,(t,v)::L0,hp,hf,.inr ⟨fun i' d' E' h=>?_,fun i' d' E' h=>⟨hA i' d' E' h,RV hs i' d' E' h⟩,fun u w h=>?_⟩,hk,next⟩
  · unfold BW
    cases hb:Nat.beq j i' with
    | true=>
      have e:=Nat.eq_of_beq_eq_true hb;rw [e,h] at hj;cases hj
    | false=>exact h
  · unfold look at h
    cases hb:Nat.beq t u with
    | true=>
      have e:=Nat.eq_of_beq_eq_true hb;rw [hb] at h;simp only [cond_true,Option.some.injEq] at h;rw [← e,← h];exact .inl hv
    | false=>
      rw [hb] at h;exact .inr h
theorem ER (h:Kf l I M):OFPX P N ops als F0 Kf al L0 fp [] l I M:=h
def noLooks (ops:Array Oper) (i:Nat):Bool:=match ops[i]? with | some o=>(o.looksAt ops).isEmpty | none=>false
theorem MJ (h2:noLooks ops i=true) (t:Nat):DU ops i t=false:=by
  unfold noLooks at h2;unfold DU;cases ho:ops[i]? with
  | none=>rfl
  | some o=>
    rw [ho] at h2;simp only [List.isEmpty_iff] at h2;simp [h2]
def supB (ops:Array Oper) (i:Nat) (L0:Sl):Bool:=match ops[i]? with
  | some o=>(o.looksAt ops).all fun t=>(look t L0).isSome&&(List.range ops.size).all fun k=>!(dstB ops k t)||wt ops i k
  | none=>false
theorem supB_spec {L0:Sl} (h:supB ops i L0=true):∀ t,DU ops i t=true→∃ u,look t L0=some u∧∀ k,DQ ops k=some t→wt ops i k=true:=fun t ht=>by
  unfold supB at h;unfold DU at ht;cases ho:ops[i]? with
  | none=>rw [ho] at h;cases h
  | some o=>
    rw [ho] at h ht;simp only [List.all_eq_true,Bool.and_eq_true,List.any_eq_true,Bool.or_eq_true,Bool.not_eq_true'] at h ht;obtain ⟨u,hu,e⟩:=ht;obtain rfl:=Nat.eq_of_beq_eq_true e;obtain ⟨h1,h2⟩:=h u hu;obtain ⟨v,hv⟩:=Option.isSome_iff_exists.1 h1;refine ⟨v,hv,fun k hk=>?_⟩;rcases h2 k (List.mem_range.2 (RA hk)) with h3 | h3
    · rw [QB hk] at h3;cases h3
    · exact h3
theorem alOk_of {E:TypeId} (h1:DQ ops i=some d) (h2:noLooks ops i=true) (h3:bsAt P N ops [] i=some (d,E,0,#[])):RM P N ops [] i d (.sl E):=
  ⟨h1,rfl,(fun t ht=>by rw [MJ h2] at ht;cases ht),fun I M=>sbs d E 0 #[] (fun b=>⟨b,rfl,rfl,rfl⟩) h3⟩
theorem alOk_cl {T:TypeId} {cs:Array Value} (h1:DQ ops i=some d) (h2:noLooks ops i=true) (h3:alAt P N ops [] i=some (d,T,cs)):RM P N ops [] i d (.cl T cs):=
  ⟨h1,rfl,(fun t ht=>by rw [MJ h2] at ht;cases ht),fun I M=>sal d T cs (fun b=>⟨b,rfl,rfl,rfl⟩) h3⟩
theorem OD {L0:Sl} {T:TypeId} {n:Nat} {cs:Array Value} (h1:DQ ops i=some d) (h0:look d L0=none) (h2:supB ops i L0=true) (h3:bsAt P N ops L0 i=some (d,T,n,cs)):RM P N ops L0 i d (.bs T n cs):=
  ⟨h1,h0,supB_spec h2,fun I M=>sbs d T n cs (fun b=>⟨b,rfl,rfl,rfl⟩) h3⟩
theorem FV:∀ i d E,BW [] i=some (d,E)→RM P N ops L0 i d E:=fun _ _ _ h=>by cases h
theorem FO {E:Fresh} (h:RM P N ops L0 i d E) (r:∀ i d E,BW al i=some (d,E)→RM P N ops L0 i d E):∀ i' d' E',BW ((i,d,E)::al) i'=some (d',E')→RM P N ops L0 i' d' E':=fun i' d' E' h'=>by
  unfold BW at h';cases hb:Nat.beq i i' with
  | true=>
    have e:=Nat.eq_of_beq_eq_true hb;rw [hb] at h';simp only [cond_true,Option.some.injEq,Prod.mk.injEq] at h';obtain ⟨rfl,rfl⟩:=h';exact e▸h
  | false=>
    rw [hb] at h';exact r i' d' E' h'
end
def alInjS (ops:Array Oper) (als:List Nat):Bool:=als.all fun i=>als.all fun j=>Nat.beq i j||!(match DQ ops i,DQ ops j with | some a,some b=>Nat.beq a b | _,_=>false)
theorem alInjS_spec {ops:Array Oper} {als:List Nat} (h:alInjS ops als=true):∀ i j d,isAl als i=true→isAl als j=true→DQ ops i=some d→DQ ops j=some d→i=j:=fun i j d hi hj h1 h2=>by
  obtain ⟨k,hk,e⟩:=List.any_eq_true.1 (show (als.any fun k=>Nat.beq k i)=true from hi);obtain rfl:=Nat.eq_of_beq_eq_true e;obtain ⟨k',hk',e'⟩:=List.any_eq_true.1 (show (als.any fun k=>Nat.beq k j)=true from hj);obtain rfl:=Nat.eq_of_beq_eq_true e';have:=List.all_eq_true.1 (List.all_eq_true.1 h _ hk) _ hk';rw [h1,h2] at this;simp only [Nat.beq_refl,Bool.not_true,Bool.or_false] at this;exact Nat.eq_of_beq_eq_true this
section
variable {ρ:Option Nat} {P:Program} [Jud P] {N:Nat} {Q:Exit→Act→GW→Prop} {ds:List Deferred} {C:List Nat→Code} {p:List Nat} {l:Sl} {I:Imm} {M0 M F0:Seg}
theorem rdX (al : List (Nat × Nat × Fresh)) (n0 : Nat) (order : List (Nat × Bool)) (hM : M0.Perm (M ++ F0)) (hA : ∀ i d E, BW al i = some (d, E) → RM P N (EC (C p)) [] i d E) (h : OFPX P N (EC (C p)) (al.map Prod.fst) F0 (fun l I M => Seq (ρ := ρ) P N (EC (C p)) Q ds n0 l I (M ++ F0)) al [] [] order l I M) (hI : (alInjS (EC (C p)) (al.map Prod.fst) && (asB (al.map Prod.fst) al && knB (EC (C p)) (al.map Prod.fst) al order)) = true := by kernel_rfl)
    (hm:P.follows .mixedOrders=true:=by kernel_rfl) (hc:NU (C p)=true:=by kernel_rfl) (hok:okAllX (al.map Prod.fst) (EC (C p)) n0 order=true:=by kernel_rfl):Run (ρ:=ρ) P N (C p) Q ds l I M0:=by
  obtain ⟨id,hid⟩:=HZ hc;simp only [Bool.and_eq_true] at hI;exact fun a w hS hD hW=>run_drawX _ al n0 order hm hid hok hA (RV hI.2.1) (knB_spec hI.2.2) (alInjS_spec hI.1) (fun _ _ h=>by cases h) h a w hS hD (hW.perm hM)
def regB (ops:Array Oper) (L0:Sl):Bool:=L0.all fun x=>(List.range ops.size).any fun k=>dstB ops k x.1
theorem look_mem:∀ (L:Sl) {t:Nat} {u:Value},look t L=some u→∃ x∈L,x.1=t:=by
  intro L
  induction L with
  | nil=>intro t u h;cases h
  | cons x r ih=>
    intro t u h;rcases x with ⟨k,v⟩
    unfold look at h;cases hb:Nat.beq k t with
    | true=>exact ⟨_,List.mem_cons_self,Nat.eq_of_beq_eq_true hb⟩
    | false=>
      rw [hb] at h;obtain ⟨y,hy,e⟩:=ih h;exact ⟨y,List.mem_cons_of_mem _ hy,e⟩
theorem regB_spec {ops:Array Oper} {L0:Sl} (h:regB ops L0=true):∀ t u,look t L0=some u→∃ k,DQ ops k=some t:=fun t u ht=>by
  obtain ⟨x,hx,rfl⟩:=look_mem L0 ht;obtain ⟨k,_,hk⟩:=List.any_eq_true.1 (List.all_eq_true.1 h x hx);refine ⟨k,?_⟩;unfold dstB at hk;unfold DQ;cases ho:ops[k]? with
  | none=>rw [ho] at hk;cases hk
  | some o=>
    rw [ho] at hk;simp only at hk;cases hd:o.dst with
    | none=>rw [hd] at hk;cases hk
    | some d=>
      rw [hd] at hk;simp only at hk;rw [Nat.eq_of_beq_eq_true hk] at hd
      simpa using hd
theorem rdY (L0 : Sl) (als : List Nat) (al : List (Nat × Nat × Fresh)) (n0 : Nat) (order : List (Nat × Bool)) (hM : M0.Perm (M ++ F0)) (hA : ∀ i d E, BW al i = some (d, E) → RM P N (EC (C p)) L0 i d E) (h : OFPX P N (EC (C p)) als F0 (fun l I M => Seq (ρ := ρ) P N (EC (C p)) Q ds n0 l I (M ++ F0)) al L0 [] order l I M) (hI : (alInjS (EC (C p)) als && (asB als al && knB (EC (C p)) als al order)) = true := by kernel_rfl)
    (hm:P.follows .mixedOrders=true:=by kernel_rfl) (hc:NU (C p)=true:=by kernel_rfl) (hok:okAllX als (EC (C p)) n0 order=true:=by kernel_rfl) (hr:regB (EC (C p)) L0=true:=by kernel_rfl):Run (ρ:=ρ) P N (C p) Q ds l I M0:=by
  obtain ⟨id,hid⟩:=HZ hc;simp only [Bool.and_eq_true] at hI;exact fun a w hS hD hW=>run_drawX _ al n0 order hm hid hok hA (RV hI.2.1) (knB_spec hI.2.2) (alInjS_spec hI.1) (fun t u ht=>.inl (regB_spec hr t u ht)) h a w hS hD (hW.perm hM)
end
end Go.Sl
namespace Go.Sh
open Go Go.Sl
end Go.Sh
namespace Go.Sl
open Go
end Go.Sl
namespace Go.Sh
open Go Go.Sl
section
variable {α:Type} {c:α→α→Int}
theorem insB_perm (x:α):∀ l:List α,(insB c x l).Perm (x::l):=by
  intro l
  induction l with
  | nil=>exact .refl _
  | cons y r ih=>
    simp only [insB]
    split
    · exact .refl _
    · exact (List.Perm.cons y ih).trans (.swap x y r)
theorem insB_at (d x:α):∀ (l:List α) (j:Nat),j≤l.length→(∀ z∈l.drop j,c x z<0)→(j=0∨¬ c x (l.getD (j-1) d)<0)→insB c x l=l.take j++x::l.drop j:=by
  intro l
  induction l with
  | nil=>intro j hj _ _;simp at hj;subst hj;rfl
  | cons y r ih=>
    intro j hj hd hs;cases j with
    | zero=>
      simp only [insB];simp only [List.drop_zero] at hd;rw [if_pos ⟨hd y (by simp),fun z hz=>hd z (by simp [hz])⟩];rfl
    | succ j=>
      have hs:¬ c x ((y::r).getD j d)<0:=by
        rcases hs with hs | hs
        · omega
        · exact hs
      simp only [insB];rw [if_neg]
      · rw [ih j (by simpa using hj) (by simpa using hd) ?_]
        · simp
        · cases j with
          | zero=>exact .inl rfl
          | succ j=>exact .inr (by simpa [List.getD] using hs)
      · rintro ⟨h1,h2⟩
        cases j with
        | zero=>exact hs (by simpa [List.getD] using h1)
        | succ j=>
          have hj2:j<r.length:=by simp at hj;omega
          exact hs (by simpa [List.getD,hj2] using h2 _ (List.getElem_mem hj2))
def AG (c:α→α→Int) (l:List α):List α:=l.foldl (fun p x=>insB c x p) []
theorem isort_perm_aux:∀ (l p:List α),(l.foldl (fun p x=>insB c x p) p).Perm (p++l):=by
  intro l
  induction l with
  | nil=>intro p;rw [List.append_nil];exact .refl _
  | cons x r ih=>
    intro p;exact (ih _).trans (((insB_perm x p).append_right r).trans (List.perm_middle.symm))
theorem GR (l:List α):(AG c l).Perm l:=isort_perm_aux l []
theorem isort_snoc (l:List α) (x:α):AG c (l++[x])=insB c x (AG c l):=by simp [AG]
theorem isort_take {l:List α} {k:Nat} {d:α} (hk:k<l.length):AG c (l.take (k+1))=insB c (l.getD k d) (AG c (l.take k)):=by
  rw [CH (d:=d) hk,isort_snoc]
structure Strict (c:α→α→Int) (l:List α):Prop where
  tri:∀ a∈l,∀ b∈l,a≠b→(c a b<0∨c b a<0)
  irr:∀ a∈l,¬ c a a<0
  trans:∀ a∈l,∀ b∈l,∀ d∈l,c a b<0→c b d<0→c a d<0
theorem Strict.perm {l l':List α} (h:Strict c l) (p:l'.Perm l):Strict c l':=
  ⟨fun a ha b hb=>h.tri a (p.subset ha) b (p.subset hb),fun a ha=>h.irr a (p.subset ha),fun a ha b hb d hd=>h.trans a (p.subset ha) b (p.subset hb) d (p.subset hd)⟩
end
abbrev Once (l:List Slip):Prop:=(l.map Slip.num).Nodup
def sortS (l:List Slip):List Slip:=AG AC l
theorem once_perm {l l':List Slip} (p:l.Perm l'):Once l↔Once l':=(p.map Slip.num).nodup_iff
end Go.Sh
namespace Go.Sl
open Go
section
variable {ρ:Option Nat} {P:Program} [Jud P] {N:Nat} {ops:Array Oper} {Q:Exit→Act→GW→Prop} {ds:List Deferred} {i:Nat} {l:Sl} {I I₀:Imm} {R M F:Seg} {fn:Func} {post:Value→Imm→Seg→Prop}
theorem rt1 {P : Program} (t : Nat) {v : Value} (hv : look t l = some v) (hle : I₀.le I) (hp : post v I []) (hr : fn.results = #[.tmp t] := by kernel_rfl) (hs : ([] ++ F).Sublist M := by exact TR _) :
    Pst N (RetQ P fn I₀ post F) .ret [] l I M:=PB [] hr hv hs hle hp
theorem DL {P : Program} (t : Nat) {v : Value} (M' : Seg) (hv : look t l = some v) (hs : (M' ++ F).Sublist M) (hle : I₀.le I) (hp : post v I M') (hr : fn.results = #[.tmp t] := by kernel_rfl) :
    Pst N (RetQ P fn I₀ post F) .ret [] l I M:=PB M' hr hv hs hle hp
theorem rt2 {P : Program} (t u : Nat) {v x : Value} (hv : look t l = some v) (hx : look u l = some x) (hle : I₀.le I) (hp : post (.tuple #[v, x]) I []) (hr : fn.results = #[.tmp t, .tmp u] := by kernel_rfl) (hs : ([] ++ F).Sublist M := by exact TR _) :
    Pst N (RetQ P fn I₀ post F) .ret [] l I M:=GZ [] hr hv hx hs hle hp
theorem rt2s {P : Program} (t u : Nat) {v x : Value} (M' : Seg) (hv : look t l = some v) (hx : look u l = some x) (hs : (M' ++ F).Sublist M) (hle : I₀.le I) (hp : post (.tuple #[v, x]) I M') (hr : fn.results = #[.tmp t, .tmp u] := by kernel_rfl) :
    Pst N (RetQ P fn I₀ post F) .ret [] l I M:=GZ M' hr hv hx hs hle hp
theorem dpv (d:Nat) (v:Value) (h:pvAt P N ops l i=some (d,v):=by kernel_rfl):Det P N ops i l I R d v:=det_pv h
theorem dld (d x : Nat) (T : TypeId) {b off : Nat} (v : Value) (hx : look x l = some (.pointer (some ⟨b, off, none⟩))) (hs : Sees I R ⟨b, off, none⟩ v) (hop : FJ ops N i = some (some d, .load T (.tmp x), T, none) := by kernel_rfl) (hT : EF P T = some false := by kernel_rfl) :
    Det P N ops i l I R d v:=RZ hop rfl hT hx hs
theorem dfa (d x : Nat) (T : TypeId) (k o : Nat) (ty : TypeId) {b off : Nat} (hx : look x l = some (.pointer (some ⟨b, off, none⟩))) (hop : FJ ops N i = some (some d, .fieldAddr T (.tmp x) k, ty, none) := by kernel_rfl) (hT : tyOff P T k = some o := by kernel_rfl) :
    Det P N ops i l I R d (.pointer (some ⟨b,off+o,none⟩)):=OJ hop rfl hT hx
theorem sap {α : Type} {d : Nat} (x y : Nat) (T E sz bs : Nat) (z : Value) (cell : α → Nat → Value) {v u : Value} (xs ys : List α) (Ms : Seg) {Rest : Seg} {K : Sl → Imm → Seg → Prop}
    (hx:look x l=some v) (hy:look y l=some u) (own:Own E sz cell v xs Ms) (hM:M.Perm (Ms++Rest)) (hone:∀ c∈CW sz cell ys,DC c=true) (hsrc:Src I (Ms++Rest) u ys.length (CW sz cell ys))
    (next:∀ v' Ms',Own E sz cell v' (xs++ys) Ms'→K ((d,v')::l) I (Ms'++Rest))
    (hneed:xs.length+ys.length≤274877906944:=by first | omega | (simp only [List.length_cons,List.length_nil];omega) | (simp only [List.length_cons,List.length_nil,List.length_append];omega) | (simp only [List.length_cons,List.length_nil,List.length_append,List.length_take,List.length_drop];omega) | (simp only [List.length_cons,List.length_nil,List.length_append,List.length_take,List.length_map];omega))
    (hop:FJ ops N i=some (some d,.call { callee:=.builtin .append,args:=#[.tmp x,.tmp y],argTypes:=#[T,T] },T,none):=by kernel_rfl)
    (hT:JA P T=some E:=by kernel_rfl) (hsz:EG P E=some sz:=by kernel_rfl) (hz:HF P E=some z:=by kernel_rfl) (hzc:z.cells.size=sz:=by kernel_rfl) (hb:KB P E=some bs:=by kernel_rfl) (hbs:1≤bs∧bs≤256:=by decide):Stp P N ops i l I M K:=
  HO hop rfl hT hsz hz hzc hb hbs hT hx hy own hM hone hsrc hneed next
theorem snm (vs:List Value) (b:Nat) (T:TypeId) (h:(b,Obj.cells vs.toArray T (0,0))∈M:=by simp):SeesN I M b 0 vs:=BN (n:=vs.length) h (by simp)
theorem FpOk.wt {M:Seg} {k:Nat} {pr:Seg→Prop} {fp:List (Nat × (Seg→Prop))} (f:FpOk ops i M fp) (h:Go.Sl.wt ops i k=true:=by kernel_rfl):FpOk ops i M ((k,pr)::fp):=.wait h f
theorem kk:(∀ b,(true&&b)=b)∧(∀ b,(false&&b)=false)∧(∀ b,(b&&true)=b)∧(∀ b,(b&&false)=false)∧(∀ b,(true||b)=true)∧(∀ b,(false||b)=b)∧(∀ b,(b||true)=true)∧(∀ b,(b||false)=b)∧(∀ a b:Bool,(bif true then a else b)=a)∧(∀ a b:Bool,(bif false then a else b)=b):=
  ⟨kA,kB,kC,kD,kE,kF,kG,kH,kI,kJ⟩
theorem sun (n:Nat) {l' l:Sl} (h2:Sub (l'.drop n) l) (h:pickL l (l'.take n) true=some (l'.take n):=by kernel_rfl):Sub l' l:=by
  intro t v ht;rw [← List.take_append_drop n l',IX] at ht;cases hq:look t (l'.take n) with
  | none=>rw [hq] at ht;exact h2 t v ht
  | some u=>rw [hq] at ht;cases ht;exact MX h hq
theorem dln (d x : Nat) (T : TypeId) (vs : List Value) {b off : Nat} (hx : look x l = some (.pointer (some ⟨b, off, none⟩))) (hs : SeesN I R b off vs) (hop : FJ ops N i = some (some d, .load T (.tmp x), T, none) := by kernel_rfl) (hT : EF P T = some true := by kernel_rfl) (hn : EG P T = some vs.length := by kernel_rfl) :
    Det P N ops i l I R d (.agg vs.toArray):=KG hop rfl hT hn hx rfl hs
theorem rmA {c:Code} {M':Seg} (next:Run (ρ:=ρ) P N c Q ds l I M') (h:∀ w,St I M w→St I M' w:=by intro w h;simpa only [List.append_assoc,List.cons_append,List.nil_append] using h):Run (ρ:=ρ) P N c Q ds l I M:=run_mem h next
abbrev SD (N:Nat) (l:Sl) (I:Imm) (M:Seg) (a:Act) (w:GW) (p:Prop):Prop:=Slots N l a∧a.defers=[]∧St I M w∧p
abbrev SE (N:Nat) (l:Sl) (I:Imm) (M:Seg) (a:Act) (w:GW):Prop:=Slots N l a∧a.defers=[]∧St I M w
noncomputable def cod (f:Func) (p:List Nat):Code:=sub (JG f) p
end
end Go.Sl
namespace Go.Sh
open Go Go.Sl
abbrev AV (s:Slip):Array Value:=#[vI s.num,vI s.hour,vI s.kind,vI s.place,vI s.to,vI s.sort,.bool s.soil,vI s.amt]
abbrev EU (s:Slip):List Value:=[vI s.num,vI s.hour,vI s.kind,vI s.place,vI s.to,vI s.sort,.bool s.soil,vI s.amt]
abbrev GC (x:Event):Array Value:=#[vI x.slip.num,vI x.slip.hour,vI x.slip.kind,vI x.slip.place,vI x.slip.to,vI x.slip.sort,.bool x.slip.soil,vI x.slip.amt,vI x.gap,.bool x.below]
abbrev evntL (x:Event):List Value:=[vI x.slip.num,vI x.slip.hour,vI x.slip.kind,vI x.slip.place,vI x.slip.to,vI x.slip.sort,.bool x.slip.soil,vI x.slip.amt,vI x.gap,.bool x.below]
abbrev keepA (k:Keep):Array Value:=#[vI k.place,vI k.hour,vI k.who]
abbrev NG (k:Keep):List Value:=[vI k.place,vI k.hour,vI k.who]
abbrev AH (L:Lin) (a b c:Value):Array Value:=#[vI L.places,vI L.sorts,a,b,c]
abbrev BQ (L:Lin) (a b c:Value):List Value:=[vI L.places,vI L.sorts,a,b,c]
abbrev AJ:Array Value:=#[vI 0,vI 0,vN,vN,vN]
abbrev DP:List Value:=[vI 0,vI 0,vN,vN,vN]
abbrev IQ:Array Value:=#[vI 0,vI 0,vI 0,vI 0,vI 0,vI 0,.bool false,vI 0]
end Go.Sh
namespace Go.Proofs.YtgcemienebmdeaaGreat
open Go Go.Sl Go.Sh
set_option maxRecDepth 100000
noncomputable def c_EqualInts_ct:=cod Tryz.f27
theorem LW (I:Imm) (a:Value) (xs:List Int) (b:Value) (ys:List Int) (a_f:CK I a xs) (b_f:CK I b ys):CtV Tryz.prog 27 #[a,b] I (.bool (decide (xs=ys))):=by
 obtain ⟨a0,a1,b1,b4,rfl,b2,b3,a7⟩:=id a_f;obtain ⟨a2,a3,b5,b8,rfl,b6,b7,a8⟩:=id b_f;refine fr (args:=[_,_]) (N:=26) Tryz.func27 (fun F=>?_);show Run _ _ (c_EqualInts_ct []) _ _ [(0,_),(1,_)] _ _;refine rnm (rqr ?_);refine sp 1 [(4,.bool false)] (se (rq (rqr (sp 5 [(10,.bool (!(cmp .eql (↑(xs.length)) (↑(ys.length)))))] (se (rc 10 rfl (fun h1=>?_) (fun h1=>?_)))))))
 ·
  have a4:=h1;have h1:=BG (BF h1);refine rqr (sp 1 [(4,.bool false)] (se (BD (RP (rt1 4 rfl (IR _) ?_)))));exact ⟨by rw [decide_eq_false (fun e=>h1 (by rw [e]))],rfl⟩
 have a4:=h1;have h1:=BE (BC h1);refine AM (NX (rq (rqr (sp 1 [(5,vI 0)] (se (rb 0 ?_))))));refine rl (fun mz a w=>∃ k:Nat,(k≤xs.length)∧(xs.length=ys.length)∧(xs.take k=ys.take k)∧SD 26 [(5,vI ↑k),(0,vS a0 xs.length a1),(1,vS a2 ys.length a3)] I F a w (mz=xs.length-k)) ?_ ?_
 ·intro a w hS hD hW;exact ⟨_,0,Nat.zero_le _,by omega,rfl,hS.sub su,hD,hW,rfl⟩
 rintro mz a w ⟨k,hk,hl,ht,hS,hD,hW,rfl⟩
 refine AU hS hD hW ?_;clear hS hD hW a w;refine rq (rqr (sp 4 [(14,.bool (cmp .lss ↑k (↑(xs.length))))] (se (rc 14 rfl (fun h2=>?_) (fun h2=>?_)))))
 ·
  have a5:=h2;have h2:=BX h2;refine AM (NX (rq (rb 1 (rq ?_))));refine rd0 8 (ox 2 [(18,vI ↑k),(17,vS a0 xs.length a1)] ?_);refine AD (di 19 1 k a7.addr) ?_;refine AD (dl 20 (DG a7 k (by omega))) (ox 2 [(22,vI ↑k),(21,vS a2 ys.length a3)] ?_);refine AD (di 23 1 k a8.addr) ?_;refine AD (dl 24 (DG a8 k (by omega))) ?_;refine BA (sp 1 [(25,.bool (!(cmp .eql (xs.getD k 0) (ys.getD k 0))))] (se (rc 25 rfl (fun h3=>?_) (fun h3=>?_))))
  ·
   have a6:=h3;have h3:=BG (BF h3);refine rqr (sp 1 [(4,.bool false)] (se (BD (RB (RP (RP (RB (RP (rt1 4 rfl (IR _) ?_)))))))));exact ⟨by rw [decide_eq_false (LZ hl h3)],rfl⟩
  have a6:=h3;have h3:=BE (BC h3);refine AM (NB (NX (rr (sp 1 [(15,vI ↑k)] (sd (da 16 ↑k 1) (sp 1 [(5,vI (↑k+1))] (ee ?_)))))));refine AO (xs.length-(k+1)) (by omega) ?_;intro a w hS hD hW;exact ⟨k+1,by omega,hl,FF (d:=0) hl ht (by omega) h3,hS.sub su,hD,hW,rfl⟩
 have a5:=h2;have h2:=CF h2;refine BR 0 (EP (EP (EB (NX (rqr (sp 1 [(4,.bool true)] (se (BD (rt1 4 rfl (IR _) ?_)))))))));exact ⟨by rw [decide_eq_true (HC hl ht (by omega))],rfl⟩
noncomputable def RN:=cod Tryz.f111
theorem slicesEqual_ct (I:Imm) (a:Value) (xs:List Int) (b:Value) (ys:List Int) (a_f:CK I a xs) (b_f:CK I b ys):CtV Tryz.prog 111 #[a,b] I (.bool (decide (xs=ys))):=by
 obtain ⟨a0,a1,b1,b4,rfl,b2,b3,a7⟩:=id a_f;obtain ⟨a2,a3,b5,b8,rfl,b6,b7,a8⟩:=id b_f;refine fr (args:=[_,_]) (N:=26) Tryz.func111 (fun F=>?_);show Run _ _ (RN []) _ _ [(0,_),(1,_)] _ _;refine rnm (rqr ?_);refine sp 1 [(4,.bool false)] (se (rq (rqr (sp 5 [(10,.bool (!(cmp .eql (↑(xs.length)) (↑(ys.length)))))] (se (rc 10 rfl (fun h1=>?_) (fun h1=>?_)))))))
 ·
  have a4:=h1;have h1:=BG (BF h1);refine rqr (sp 1 [(4,.bool false)] (se (BD (RP (rt1 4 rfl (IR _) ?_)))));exact ⟨by rw [decide_eq_false (fun e=>h1 (by rw [e]))],rfl⟩
 have a4:=h1;have h1:=BE (BC h1);refine AM (NX (rq (rqr (sp 3 [(13,vI 0),(12,vI (↑(xs.length)))] (se (rb 0 ?_))))));refine rl (fun mz a w=>∃ k:Nat,(k≤xs.length)∧(xs.length=ys.length)∧(xs.take k=ys.take k)∧SD 26 [(13,vI ↑k),(0,vS a0 xs.length a1),(1,vS a2 ys.length a3),(12,vI (↑(xs.length)))] I F a w (mz=xs.length-k)) ?_ ?_
 ·intro a w hS hD hW;exact ⟨_,0,Nat.zero_le _,by omega,rfl,hS.sub su,hD,hW,rfl⟩
 rintro mz a w ⟨k,hk,hl,ht,hS,hD,hW,rfl⟩
 refine AU hS hD hW ?_;clear hS hD hW a w;refine rqr (sp 1 [(14,.bool (cmp .lss ↑k (↑(xs.length))))] (se (rq (rc 14 rfl (fun h2=>?_) (fun h2=>?_)))))
 ·
  have a5:=h2;have h2:=BX h2;refine AM (NX (rq (rb 1 (rqr (sp 2 [(5,vI ↑k)] (se (rq ?_)))))));refine rd0 8 (ox 2 [(17,vI ↑k),(16,vS a0 xs.length a1)] ?_);refine AD (di 18 1 k a7.addr) ?_;refine AD (dl 19 (DG a7 k (by omega))) (ox 2 [(21,vI ↑k),(20,vS a2 ys.length a3)] ?_);refine AD (di 22 1 k a8.addr) ?_;refine AD (dl 23 (DG a8 k (by omega))) ?_;refine BA (sp 1 [(24,.bool (!(cmp .eql (xs.getD k 0) (ys.getD k 0))))] (se (rc 24 rfl (fun h3=>?_) (fun h3=>?_))))
  ·
   have a6:=h3;have h3:=BG (BF h3);refine rqr (sp 1 [(4,.bool false)] (se (BD (RB (RP (RP (RB (RP (rt1 4 rfl (IR _) ?_)))))))));exact ⟨by rw [decide_eq_false (LZ hl h3)],rfl⟩
  have a6:=h3;have h3:=BE (BC h3);refine AM (NB (NX (rr (sd (da 25 ↑k 1) (sp 1 [(13,vI (↑k+1))] (ee ?_))))));refine AO (xs.length-(k+1)) (by omega) ?_;intro a w hS hD hW;exact ⟨k+1,by omega,hl,FF (d:=0) hl ht (by omega) h3,hS.sub su,hD,hW,rfl⟩
 have a5:=h2;have h2:=CF h2;refine BR 0 (EP (EP (EB (NX (rqr (sp 1 [(4,.bool true)] (se (BD (rt1 4 rfl (IR _) ?_)))))))));exact ⟨by rw [decide_eq_true (HC hl ht (by omega))],rfl⟩
noncomputable def c_EqualRows_ct:=cod Tryz.f49
theorem QX (I:Imm) (a:Value) (xs:List (List Int)) (b:Value) (ys:List (List Int)) (a_f:IsRows I a xs) (b_f:IsRows I b ys):CtV Tryz.prog 49 #[a,b] I (.bool (decide (xs=ys))):=by
 obtain ⟨a4,a5,d3,d6,b4,rfl,d4,d5,b1,b5⟩:=id a_f;obtain ⟨a6,a7,d7,e0,b7,rfl,d8,d9,b2,b8⟩:=id b_f;refine fr (args:=[_,_]) (N:=27) Tryz.func49 (fun F=>?_);show Run _ _ (c_EqualRows_ct []) _ _ [(0,_),(1,_)] _ _;refine rnm (rqr ?_);refine sp 1 [(4,.bool false)] (se (rq (rqr (sp 5 [(10,.bool (!(cmp .eql (↑(xs.length)) (↑(ys.length)))))] (se (rc 10 rfl (fun h1=>?_) (fun h1=>?_)))))))
 ·
  have a8:=h1;have h1:=BG (BF h1);refine rqr (sp 1 [(4,.bool false)] (se (BD (RP (rt1 4 rfl (IR _) ?_)))));exact ⟨by rw [decide_eq_false (fun e=>h1 (by rw [e]))],rfl⟩
 have a8:=h1;have h1:=BE (BC h1);refine AM (NX (rq (rqr (sp 1 [(5,vI 0)] (se (rb 0 ?_))))));refine rl (fun mz a w=>∃ k:Nat,(k≤xs.length)∧(xs.length=ys.length)∧(xs.take k=ys.take k)∧SD 27 [(5,vI ↑k),(0,vS a4 xs.length a5),(1,vS a6 ys.length a7)] I F a w (mz=xs.length-k)) ?_ ?_
 ·intro a w hS hD hW;exact ⟨_,0,Nat.zero_le _,by omega,rfl,hS.sub su,hD,hW,rfl⟩
 rintro mz a w ⟨k,hk,hl,ht,hS,hD,hW,rfl⟩
 refine AU hS hD hW ?_;clear hS hD hW a w;refine rq (rqr (sp 4 [(14,.bool (cmp .lss ↑k (↑(xs.length))))] (se (rc 14 rfl (fun h2=>?_) (fun h2=>?_)))))
 ·
  have a9:=h2;have h2:=BX h2;refine AM (NX (rq (rb 1 (rq ?_))));refine rd0 8 (ox 2 [(18,vI ↑k),(17,vS a4 xs.length a5)] ?_);refine AD (di 19 1 k b1.addr) ?_;have a0:=b5 k (by omega);obtain ⟨b9,c1,c0,c4,a2,c2,c3,c5⟩:=id a0;rw [a2] at a0;refine AD (DE (dl 20 (DY b1 k (by omega))) a2) (ox 2 [(22,vI ↑k),(21,vS a6 ys.length a7)] ?_);refine AD (di 23 1 k b2.addr) ?_;have a1:=b8 k (by omega);obtain ⟨c6,c8,c7,d1,a3,c9,d0,d2⟩:=id a1;rw [a3] at a1;refine AD (DE (dl 24 (DY b2 k (by omega))) a3) ?_;refine BA (sd (dc 25 (fun I' hI=>(LW I' _ _ _ _ (a0.mono hI) (a1.mono hI) :))) (sp 1 [(26,.bool (!(decide ((xs.getD k [])=(ys.getD k [])))))] (se (rc 26 rfl (fun h3=>?_) (fun h3=>?_)))))
  ·
   have b0:=h3;have h3:=OH (BF h3);refine rqr (sp 1 [(4,.bool false)] (se (BD (RB (RP (RP (RB (RP (rt1 4 rfl (IR _) ?_)))))))));exact ⟨by rw [decide_eq_false (LZ hl h3)],rfl⟩
  have b0:=h3;have h3:=NE (BC h3);refine AM (NB (NX (rr (sp 1 [(15,vI ↑k)] (sd (da 16 ↑k 1) (sp 1 [(5,vI (↑k+1))] (ee ?_)))))));refine AO (xs.length-(k+1)) (by omega) ?_;intro a w hS hD hW;exact ⟨k+1,by omega,hl,FF (d:=[]) hl ht (by omega) h3,hS.sub su,hD,hW,rfl⟩
 have a9:=h2;have h2:=CF h2;refine BR 0 (EP (EP (EB (NX (rqr (sp 1 [(4,.bool true)] (se (BD (rt1 4 rfl (IR _) ?_)))))))));exact ⟨by rw [decide_eq_true (HC hl ht (by omega))],rfl⟩
noncomputable def c_Index_ct:=cod Tryz.f141
theorem Index_ct (I:Imm) (a:Value) (xs:List Int) (n:Int) (a_f:CK I a xs):CtV Tryz.prog 141 #[a,vI n] I (vI (seat xs n)):=by
 obtain ⟨a0,a1,a6,a9,rfl,a7,a8,a4⟩:=id a_f;refine fr (args:=[_,_]) (N:=19) Tryz.func141 (fun F=>?_);show Run _ _ (c_Index_ct []) _ _ [(0,_),(1,_)] _ _;refine rnm (rqr ?_);refine sp 1 [(4,vI 0)] (se (rq (rqr (sp 3 [(8,vI 0),(7,vI (↑(xs.length)))] (se (rb 0 ?_))))));refine rl (fun mz a w=>∃ k:Nat,(k≤xs.length)∧(n∉xs.take k)∧SD 19 [(8,vI ↑k),(0,vS a0 xs.length a1),(1,vI n),(7,vI (↑(xs.length)))] I F a w (mz=xs.length-k)) ?_ ?_
 ·intro a w hS hD hW;exact ⟨_,0,Nat.zero_le _,by simp,hS.sub su,hD,hW,rfl⟩
 rintro mz a w ⟨k,hk,hn,hS,hD,hW,rfl⟩
 refine AU hS hD hW ?_;clear hS hD hW a w;refine rqr (sp 1 [(9,.bool (cmp .lss ↑k (↑(xs.length))))] (se (rq (rc 9 rfl (fun h1=>?_) (fun h1=>?_)))))
 ·
  have a2:=h1;have h1:=BX h1;refine AM (NX (rq (rb 1 (rqr (sp 2 [(5,vI ↑k)] (sn (sp 3 [(13,vI ↑k),(12,vS a0 xs.length a1),(11,vI n)] (sd (di 14 1 k a4.addr) (sd (dl 15 (DG a4 k (by omega))) (sp 1 [(16,.bool (cmp .eql n (xs.getD k 0)))] (se (rc 16 rfl (fun h2=>?_) (fun h2=>?_)))))))))))))
  ·
   have a3:=h2;have h2:=BE h2;refine rqr (sp 2 [(4,vI ↑k)] (se (BD (RB (RP (RP (RB (RP (rt1 4 rfl (IR _) ?_)))))))));exact ⟨by rw [seat_hit hn (by omega) h2.symm],rfl⟩
  have a3:=h2;have h2:=BG h2;refine AM (NB (NX (rr (sd (da 18 ↑k 1) (sp 1 [(8,vI (↑k+1))] (ee ?_))))));refine AO (xs.length-(k+1)) (by omega) ?_;intro a w hS hD hW;exact ⟨k+1,by omega,not_take_succ hn (by omega) (fun e=>h2 e.symm),hS.sub su,hD,hW,rfl⟩
 have a2:=h1;have h1:=CF h1;refine BR 0 (EP (EP (EB (NX (rqr (sp 1 [(4,vI (-1))] (se (BD (rt1 4 rfl (IR _) ?_)))))))));exact ⟨by rw [seat_miss hn (by omega)],rfl⟩
noncomputable def c_Contains:=cod Tryz.f92
theorem Contains_ct (I:Imm) (a:Value) (xs:List Int) (n:Int) (a_f:CK I a xs):CtV Tryz.prog 92 #[a,vI n] I (.bool (decide (n∈xs))):=by
 obtain ⟨a0,a1,a3,a6,rfl,a4,a5,a7⟩:=id a_f;refine fr (args:=[_,_]) (N:=9) Tryz.func92 (fun F=>?_);show Run _ _ (c_Contains []) _ _ [(0,_),(1,_)] _ _;refine rnm (rqr ?_);refine sp 1 [(4,.bool false)] (sn (sp 2 [(6,vI n),(5,vS a0 xs.length a1)] (sd (dc 7 (fun I' hI=>(Index_ct I' _ _ n (a_f.mono hI) :))) (sp 2 [(4,.bool (cmp .geq (seat xs n) 0))] (se (BD (rt1 4 rfl (IR _) ?_)))))));exact ⟨by rw [seat_neg],rfl⟩
noncomputable def c_CloneInts_ct:=cod Tryz.f87
theorem QU (I:Imm) (a:Value) (xs:List Int) (a_f:CK I a xs) (hl:xs.length≤1000000):Ct Tryz.prog 87 #[a] I ([]) (fun v I' M'=>∃ u:Value,∃ Ms:Seg,v=u∧M'=Ms∧Own 3 1 AQ u xs Ms):=by
 obtain ⟨a0,a1,b2,b5,rfl,b3,b4,a6⟩:=id a_f;refine fr (args:=[_]) (N:=8) Tryz.func87 (fun F=>?_);show Run _ _ (c_CloneInts_ct []) _ _ [(0,_)] _ _;refine rnm (rqr ?_);refine sp 1 [(2,vN)] (se (rq (rqr (sp 1 [(3,vS a0 xs.length a1)] (sd (det_eqnil (e:=3) (x:=(.tmp 3)) (y:=(.const vN)) (T:=29) (T':=29) (d:=4) (ty:=4) (gd:=none) (by kernel_rfl) rfl (by kernel_rfl) rfl rfl) (se (rc 4 rfl (fun h1=>?_) (fun h1=>?_))))))))
 ·
  have a2:=h1;refine rqr (sp 1 [(2,vN)] (se (BD (RP ?_))));obtain rfl:=a6.nil h1;refine PB (t:=2) ([]) (by kernel_rfl) rfl (TR _) (IR _) ?_;exact ⟨_,_,rfl,rfl,Own.nil _ _ _⟩
 have a2:=h1;refine AM (NX (rqr (sS (sbs 5 3 0 #[] (fun b1=>(sp 1 [(6,vS a0 xs.length a1)] ?_))))));have a7:Own 3 1 AQ (vS (some ⟨b1,0,none⟩) 0 0) ([]:List Int) [(bX b1 #[] 3)]:=Own.lit rfl rfl;refine sS (sap (d:=7) 5 6 29 3 1 8 (vI 0) AQ ([]:List Int) xs [(bX b1 #[] 3)] rfl rfl a7 (PR _) (EK _) a_f.src (fun v4 a4 a3=>?_));rw [NA] at a3;refine nm ?_;obtain ⟨a8,a9,rfl,b6⟩:=a3.shape;refine sp 1 [(2,vS a8 xs.length a9)] (se (BD (DL 2 a4 rfl (TA (TR _) _) (IR _) ?_)));exact ⟨_,_,rfl,rfl,a3⟩
noncomputable def c_CopyInts:=cod Tryz.f36
theorem CopyInts_ct (I:Imm) (a:Value) (xs:List Int) (a_f:CK I a xs) (hl:xs.length≤1000000):Ct Tryz.prog 36 #[a] I ([]) (fun v I' M'=>∃ u:Value,∃ Ms:Seg,v=u∧M'=Ms∧Own 3 1 AQ u xs Ms):=by
 obtain ⟨a1,a2,a9,b3,rfl,b0,b2,b4⟩:=id a_f;refine fr (args:=[_]) (N:=6) Tryz.func36 (fun F=>?_);show Run _ _ (c_CopyInts []) _ _ [(0,_)] _ _;refine rnm (rqr ?_);refine sp 1 [(2,vN)] (sn (sS (sbs 3 3 0 #[] (fun b1=>(sp 1 [(4,vS a1 xs.length a2)] ?_)))));have a5:Own 3 1 AQ (vS (some ⟨b1,0,none⟩) 0 0) ([]:List Int) [(bX b1 #[] 3)]:=Own.lit rfl rfl;refine sS (sap (d:=5) 3 4 29 3 1 8 (vI 0) AQ ([]:List Int) xs [(bX b1 #[] 3)] rfl rfl a5 (PR _) (EK _) a_f.src (fun v4 a3 a0=>?_));rw [NA] at a0;refine nm ?_;obtain ⟨a6,a7,rfl,b5⟩:=a0.shape;refine sp 1 [(2,vS a6 xs.length a7)] (se (BD (DL 2 a3 rfl (TA (TR _) _) (IR _) ?_)));exact ⟨_,_,rfl,rfl,a0⟩
noncomputable def c_CopyRows:=cod Tryz.f67
theorem CopyRows_ct (I:Imm) (a:Value) (xs:List (List Int)) (a_f:IsRows I a xs) (hl:xs.length≤1000000) (hls:∀ x∈xs,x.length≤1000000):Ct Tryz.prog 67 #[a] I ([]) (fun v I' M'=>∃ u:Value,∃ ws:List Value,∃ Ms:Seg,v=u∧M'=Ms∧Own 29 1 CX u ws Ms∧RowsV I' ws xs):=by
 obtain ⟨c4,c5,f6,f9,e2,rfl,f7,f8,c2,c6⟩:=id a_f;refine fr (args:=[_]) (N:=20) Tryz.func67 (fun F=>?_);show Run _ _ (c_CopyRows []) _ _ [(0,_)] _ _;refine rnm (rqr ?_);refine sp 1 [(2,vN)] (sn (sp 1 [(3,vN)] (se (rq (rqr (sp 1 [(4,vI 0)] (se (rb 0 ?_))))))));refine rl (fun mz a w=>∃ J0:Imm,∃ k:Nat,∃ a8:Value,∃ a2:Seg,∃ a0:List Value,(I.le J0)∧(k≤xs.length)∧(RowsV J0 a0 (xs.take k))∧(Own 29 1 CX a8 a0 a2)∧SD 20 [(3,a8),(4,vI ↑k),(0,vS c4 xs.length c5),(2,vN)] J0 (a2++F) a w (mz=xs.length-k)) ?_ ?_
 ·intro a w hS hD hW;exact ⟨_,I,0,(vN),[],[],IR _,Nat.zero_le _,(RowsV.nil _),(Own.nil _ _ _),hS.sub su,hD,hW,rfl⟩
 rintro mz a w ⟨J0,k,a8,a2,a0,hJ0,hk,a1,a7,hS,hD,hW,rfl⟩
 refine AU hS hD hW ?_;clear hS hD hW a w;replace c2:=c2.mono hJ0;replace c6:=fun i hi=>(c6 i hi).mono hJ0
 obtain ⟨a3,a4,rfl,c3⟩:=a7.shape;have a5:=a1.1
 try simp only [LS,LA,LC,LN,LK] at a5
 refine rq (rqr (sp 4 [(8,.bool (cmp .lss ↑k (↑(xs.length))))] (se (rc 8 rfl (fun h1=>?_) (fun h1=>?_)))))
 ·
  have d4:=h1;have h1:=BX h1;refine AM (NX (rq (rb 1 (rr (sp 3 [(13,vI ↑k),(12,vS c4 xs.length c5),(11,vS a3 a0.length a4)] (sd (di 14 1 k c2.addr) ?_))))));have b4:=c6 k (by omega);obtain ⟨e5,e7,e6,f0,c1,e8,e9,f1⟩:=id b4;rw [c1] at b4;refine sd (DE (dl 15 (DY c2 k (by omega))) c1) (sS (sc (some 16) (F:=(a2++F)) (CopyInts_ct _ _ _ b4 (by exact hls _ (BJ (by omega))) :) (.refl _) (fun f3 I2 f2 b6 e3=>?_)));obtain ⟨u7,f5,d8,d7,d9⟩:=e3;rw [d8,d7];clear d8 d7;replace a1:=a1.mono b6;obtain ⟨a9,b0,rfl,f4⟩:=d9.shape;refine nm ?_;refine sfz 0 d9 (.refl _) (fun e0 b2 a6=>?_);replace a1:=a1.mono b2;obtain ⟨c7,c9,c8,d2,b3,d0,d1,d3⟩:=id a6;cases b3;refine sS (sbs 17 29 1 #[vS a9 (xs.getD k []).length b0] (fun g0=>(sS (HO (d:=18) (x:=(.tmp 11)) (y:=(.tmp 17)) (T:=22) (T':=22) (E:=29) (E':=29) (sz:=1) (bs:=24) (z:=vN) (cell:=CX) (xs:=a0) (ys:=[(vS a9 (xs.getD k []).length b0:Value)]) (Ms:=a2) (ty:=22) (gd:=none) (by kernel_rfl) rfl (by kernel_rfl) (by kernel_rfl) (by kernel_rfl) (by kernel_rfl) (by kernel_rfl) (by decide) (by kernel_rfl) rfl rfl a7 PM.symm (HM rfl) (DI 0 rfl rfl) (by first | omega | (have hq:=a1.1;simp only [LC,LN,LA,LK,LD] at hq ⊢;omega)) (fun g1 b5 b7=>(AZ (M':=(b5++F)) (fun w h=>(h.perm PM).sub (TC _ (TR _))) ?_))))));obtain ⟨b8,b9,rfl,e4⟩:=b7.shape;have c0:=(a1).snoc a6;refine sp 1 [(3,vS b8 (a0++([(vS a9 (xs.getD k []).length b0:Value)])).length b9)] (ee (NB (NX (rr (sp 1 [(9,vI ↑k)] (sd (da 10 ↑k 1) (sp 1 [(4,vI (↑k+1))] (ee ?_))))))));refine AO (xs.length-(k+1)) (by omega) ?_;intro a w hS hD hW;exact ⟨e0,k+1,vS b8 (a0++([(vS a9 (xs.getD k []).length b0:Value)])).length b9,b5,a0++([(vS a9 (xs.getD k []).length b0:Value)]),(IT (IT hJ0 b6) b2),by omega,((CH (d:=[]) (xs:=xs) (k:=k) (by omega)).symm▸c0),b7,hS.sub su,hD,hW,rfl⟩
 have d4:=h1;have h1:=CF h1;refine BR 0 (EP (EP (EB (NX (rqr (sp 2 [(2,vS a3 a0.length a4)] (se (BD (DL 2 a2 rfl (TA (TR _) _) hJ0 ?_)))))))));exact ⟨_,_,_,rfl,rfl,a7,((IE (xs:=xs) (k:=k) (by omega))▸a1)⟩
noncomputable def c_next:=cod Tryz.f75
theorem next_ct (I:Imm) (p:Nat) (p_s:Int):Ct Tryz.prog 75 #[vP p 0] I ([(bX p #[.int .u64 p_s] 91)]) (fun v I' M'=>∃ p_t:Int,∃ r:Int,v=.int .u64 r∧M'=[(bX p #[.int .u64 p_t] 91)]∧(0≤r∧r≤18446744073709551615)):=by
 refine fr (args:=[_]) (N:=29) Tryz.func75 (fun F=>?_);show Run _ _ (c_next []) _ _ [(0,_)] _ _;refine rnm (rqr ?_);refine sp 1 [(2,.int .u64 0)] (sn (sp 4 [(7,vP p 0),(4,vP p 0)] (sd (dlb 8 0 0 p (.int .u64 p_s)) (sp 4 [(12,vP p 0),(10,.int .u64 (IntKind.u64.wrap (BZ .add (IntKind.u64.wrap (BZ .mul p_s 2862933555777941757)) 3037000493)))] (sS (ss 0 0 p [.int .u64 (IntKind.u64.wrap (BZ .add (IntKind.u64.wrap (BZ .mul p_s 2862933555777941757)) 3037000493))] [.int .u64 (IntKind.u64.wrap (BZ .add (IntKind.u64.wrap (BZ .mul p_s 2862933555777941757)) 3037000493))] (_::_) (cs:=[_]) rfl rfl (se (rq ?_))))))));refine rd0 9 (ox 3 [(15,vP p 0)] ?_);refine AD (dlb 16 0 0 p (.int .u64 (IntKind.u64.wrap (BZ .add (IntKind.u64.wrap (BZ .mul p_s 2862933555777941757)) 3037000493)))) (ox 3 [(19,vP p 0)] ?_);refine AD (dlb 20 0 0 p (.int .u64 (IntKind.u64.wrap (BZ .add (IntKind.u64.wrap (BZ .mul p_s 2862933555777941757)) 3037000493)))) ?_;refine AD (det_shr (x:=(.tmp 20)) (y:=(.const (.int .u64 31))) (T:=89) (T':=92) (d:=21) (ty:=89) (gd:=none) (by kernel_rfl) rfl rfl rfl (by omega)) ?_;refine BA (sp 2 [(3,.int .u64 (IntKind.u64.wrap (BitVec.ofInt IntKind.u64.bits (IntKind.u64.wrap (BZ .add (IntKind.u64.wrap (BZ .mul p_s 2862933555777941757)) 3037000493)) ^^^ BitVec.ofInt IntKind.u64.bits ((IntKind.u64.wrap (BZ .add (IntKind.u64.wrap (BZ .mul p_s 2862933555777941757)) 3037000493)).fdiv (2 ^ (min (31:Int).toNat IntKind.u64.bits)))).toNat))] (sn (sp 3 [(3,.int .u64 (IntKind.u64.wrap (BZ .mul (IntKind.u64.wrap (BitVec.ofInt IntKind.u64.bits (IntKind.u64.wrap (BZ .add (IntKind.u64.wrap (BZ .mul p_s 2862933555777941757)) 3037000493)) ^^^ BitVec.ofInt IntKind.u64.bits ((IntKind.u64.wrap (BZ .add (IntKind.u64.wrap (BZ .mul p_s 2862933555777941757)) 3037000493)).fdiv (2 ^ (min (31:Int).toNat IntKind.u64.bits)))).toNat) 10723151780598845931)))] (sn (sp 2 [(26,.int .u64 (IntKind.u64.wrap (BZ .mul (IntKind.u64.wrap (BitVec.ofInt IntKind.u64.bits (IntKind.u64.wrap (BZ .add (IntKind.u64.wrap (BZ .mul p_s 2862933555777941757)) 3037000493)) ^^^ BitVec.ofInt IntKind.u64.bits ((IntKind.u64.wrap (BZ .add (IntKind.u64.wrap (BZ .mul p_s 2862933555777941757)) 3037000493)).fdiv (2 ^ (min (31:Int).toNat IntKind.u64.bits)))).toNat) 10723151780598845931))),(25,.int .u64 (IntKind.u64.wrap (BZ .mul (IntKind.u64.wrap (BitVec.ofInt IntKind.u64.bits (IntKind.u64.wrap (BZ .add (IntKind.u64.wrap (BZ .mul p_s 2862933555777941757)) 3037000493)) ^^^ BitVec.ofInt IntKind.u64.bits ((IntKind.u64.wrap (BZ .add (IntKind.u64.wrap (BZ .mul p_s 2862933555777941757)) 3037000493)).fdiv (2 ^ (min (31:Int).toNat IntKind.u64.bits)))).toNat) 10723151780598845931)))] (sd (det_shr (x:=(.tmp 26)) (y:=(.const (.int .u64 30))) (T:=89) (T':=92) (d:=27) (ty:=89) (gd:=none) (by kernel_rfl) rfl rfl rfl (by omega)) (sp 2 [(2,.int .u64 (IntKind.u64.wrap (BitVec.ofInt IntKind.u64.bits (IntKind.u64.wrap (BZ .mul (IntKind.u64.wrap (BitVec.ofInt IntKind.u64.bits (IntKind.u64.wrap (BZ .add (IntKind.u64.wrap (BZ .mul p_s 2862933555777941757)) 3037000493)) ^^^ BitVec.ofInt IntKind.u64.bits ((IntKind.u64.wrap (BZ .add (IntKind.u64.wrap (BZ .mul p_s 2862933555777941757)) 3037000493)).fdiv (2 ^ (min (31:Int).toNat IntKind.u64.bits)))).toNat) 10723151780598845931)) ^^^ BitVec.ofInt IntKind.u64.bits ((IntKind.u64.wrap (BZ .mul (IntKind.u64.wrap (BitVec.ofInt IntKind.u64.bits (IntKind.u64.wrap (BZ .add (IntKind.u64.wrap (BZ .mul p_s 2862933555777941757)) 3037000493)) ^^^ BitVec.ofInt IntKind.u64.bits ((IntKind.u64.wrap (BZ .add (IntKind.u64.wrap (BZ .mul p_s 2862933555777941757)) 3037000493)).fdiv (2 ^ (min (31:Int).toNat IntKind.u64.bits)))).toNat) 10723151780598845931)).fdiv (2 ^ (min (30:Int).toNat IntKind.u64.bits)))).toNat))] (se (BD (DL 2 ([(bX p #[.int .u64 (IntKind.u64.wrap (BZ .add (IntKind.u64.wrap (BZ .mul p_s 2862933555777941757)) 3037000493))] 91)]) rfl (TK _ (TR _)) (IR _) ?_))))))))));exact ⟨_,_,rfl,rfl,u64_range _⟩
noncomputable def c_Up:=cod Tryz.f29
theorem PZ (I:Imm) (p:Nat) (p_s:Int) (most:Int) (hm:most≤1000000):Ct Tryz.prog 29 #[vP p 0,vI most] I ([(bX p #[.int .u64 p_s] 91)]) (fun v I' M'=>∃ p_t:Int,∃ n:Nat,v=vI ↑n∧M'=[(bX p #[.int .u64 p_t] 91)]∧(n=0∨(n:Int)≤most)):=by
 refine fr (args:=[_,_]) (N:=15) Tryz.func29 (fun F=>?_);show Run _ _ (c_Up []) _ _ [(0,_),(1,_)] _ _;refine rnm (rqr ?_);refine sp 1 [(4,vI 0)] (se (rq (rqr (sp 2 [(6,.bool (cmp .lss most 1))] (se (rc 6 rfl (fun h1=>?_) (fun h1=>?_)))))))
 ·
  have a0:=h1;have h1:=BX h1;refine rqr (sp 1 [(4,vI 0)] (se (BD (RP (DL 4 ([(bX p #[.int .u64 p_s] 91)]) rfl (TK _ (TR _)) (IR _) ?_)))));exact ⟨_,0,rfl,rfl,.inl rfl⟩
 have a0:=h1;have h1:=CF h1;refine AM (NX (rqr (sp 1 [(7,vP p 0)] (sS (sc (some 8) (F:=(F)) (next_ct _ p p_s :) (.refl _) (fun a9 I1 a7 a1 a6=>?_))))));obtain ⟨a2,r7,a4,a3,a8⟩:=a6;rw [a4,a3];clear a4 a3;refine nm ?_;refine sd (det_shr (x:=(.tmp 8)) (y:=(.const (.int .u64 13))) (T:=89) (T':=92) (d:=9) (ty:=89) (gd:=none) (by kernel_rfl) rfl rfl rfl (by omega)) (sp 1 [(10,vI most)] (sd (da 11 most 1) (sp 1 [(12,.int .u64 (IntKind.u64.wrap (most+1)))] (EE 12 rfl (show (.int .u64 (IntKind.u64.wrap (most+1)):Value)=.int .u64 (most+1) from congrArg (Value.int .u64) (IntWalk.u64_in _ (by omega))) (sd (det_rem (x:=(.tmp 9)) (y:=(.tmp 12)) (T:=89) (T':=89) (d:=13) (ty:=89) (gd:=none) (by kernel_rfl) rfl rfl rfl (by exact fdiv_nonneg (by omega) (by decide)) (by omega)) (sp 1 [(14,vI (IntKind.i64.wrap (((r7).fdiv (2 ^ (min (13:Int).toNat IntKind.u64.bits)))%(most+1))))] ?_))))));obtain ⟨n,hn,a5⟩:=up_nat (x:=(r7).fdiv (2 ^ (min (13:Int).toNat IntKind.u64.bits))) h1 hm (fdiv_nonneg (by omega) (by decide));refine EE 14 rfl (show (vI (IntKind.i64.wrap (((r7).fdiv (2 ^ (min (13:Int).toNat IntKind.u64.bits)))%(most+1))):Value)=vI ↑n from congrArg (Value.int .i64) hn) (sp 1 [(4,vI ↑n)] (se (BD (DL 4 ([(bX p #[.int .u64 a2] 91)]) rfl (TK _ (TR _)) a1 ?_))));exact ⟨_,_,rfl,rfl,.inr a5⟩
noncomputable def c_From:=cod Tryz.f64
theorem PT (I:Imm) (p:Nat) (p_s:Int) (lo:Int) (hi:Int) (h1:0≤lo∧lo≤hi) (h2:hi≤1000000):Ct Tryz.prog 64 #[vP p 0,vI lo,vI hi] I ([(bX p #[.int .u64 p_s] 91)]) (fun v I' M'=>∃ p_t:Int,∃ r:Int,v=vI r∧M'=[(bX p #[.int .u64 p_t] 91)]∧(lo≤r∧r≤hi)):=by
 refine fr (args:=[_,_,_]) (N:=14) Tryz.func64 (fun F=>?_);show Run _ _ (c_From []) _ _ [(0,_),(1,_),(2,_)] _ _;refine rnm (rqr ?_);refine sp 1 [(6,vI 0)] (sn (sp 4 [(10,vI lo),(9,vI hi),(8,vP p 0),(7,vI lo)] (sd (dsb 11 hi lo) (sS (sc (some 12) (F:=(F)) (PZ _ p p_s (hi-lo) (by omega) :) (.refl _) (fun a7 I1 a5 a0 a4=>?_))))));obtain ⟨a1,n7,a3,a2,a6⟩:=a4;rw [a3,a2];clear a3 a2;refine nm ?_;refine sd (da 13 lo ↑n7) (sp 1 [(6,vI (lo+↑n7))] (se (BD (DL 6 ([(bX p #[.int .u64 a1] 91)]) rfl (TK _ (TR _)) a0 ?_))));exact ⟨_,_,rfl,rfl,by omega⟩
noncomputable def c_Chance:=cod Tryz.f54
theorem OC (I:Imm) (p:Nat) (p_s:Int) (n:Int) (m:Int) (h1:0≤m∧m≤1000000):Ct Tryz.prog 54 #[vP p 0,vI n,vI m] I ([(bX p #[.int .u64 p_s] 91)]) (fun v I' M'=>∃ p_t:Int,∃ r:Bool,v=.bool r∧M'=[(bX p #[.int .u64 p_t] 91)]):=by
 refine fr (args:=[_,_,_]) (N:=13) Tryz.func54 (fun F=>?_);show Run _ _ (c_Chance []) _ _ [(0,_),(1,_),(2,_)] _ _;refine rnm (rqr ?_);refine sp 1 [(6,.bool false)] (sn (sp 2 [(8,vI m),(7,vP p 0)] (sd (dsb 9 m 1) (sS (sc (some 10) (F:=(F)) (PZ _ p p_s (m-1) (by omega) :) (.refl _) (fun a7 I1 a5 a0 a4=>?_))))));obtain ⟨a1,n7,a3,a2,a6⟩:=a4;rw [a3,a2];clear a3 a2;refine nm ?_;refine sp 3 [(6,.bool (cmp .lss ↑n7 n))] (se (BD (DL 6 ([(bX p #[.int .u64 a1] 91)]) rfl (TK _ (TR _)) a0 ?_)));exact ⟨_,_,rfl,rfl⟩
noncomputable def c_One:=cod Tryz.f65
theorem One_ct (I:Imm) (p:Nat) (p_s:Int) (a:Value) (xs:List Int) (a_f:CK I a xs) (hx:0<xs.length∧xs.length≤1000000):Ct Tryz.prog 65 #[vP p 0,a] I ([(bX p #[.int .u64 p_s] 91)]) (fun v I' M'=>∃ p_t:Int,∃ r:Int,v=vI r∧M'=[(bX p #[.int .u64 p_t] 91)]∧(r∈xs)):=by
 obtain ⟨a4,a5,b1,b4,rfl,b2,b3,a1⟩:=id a_f;refine fr (args:=[_,_]) (N:=16) Tryz.func65 (fun F=>?_);show Run _ _ (c_One []) _ _ [(0,_),(1,_)] _ _;refine rnm (rqr ?_);refine sp 1 [(4,vI 0)] (se (rq (rqr (sp 3 [(7,.bool (cmp .eql (↑(xs.length)) 0))] (se (rc 7 rfl (fun h1=>?_) (fun h1=>?_)))))))
 ·
  have a2:=h1;have h1:=BE h1;refine rqr (sp 1 [(4,vI 0)] (se (BD (RP (DL 4 [] rfl (TC _ (TR _)) (IR _) ?_)))))
  exfalso;omega
 have a2:=h1;have h1:=BG h1;refine AM (NX (rqr (sp 4 [(11,vI (↑(xs.length))),(9,vP p 0),(8,vS a4 xs.length a5)] (sd (dsb 12 (↑(xs.length)) 1) (sS (sc (some 13) (F:=(F)) (PZ _ p p_s ((↑(xs.length))-1) (by omega) :) (.refl _) (fun b6 I1 b0 a0 a9=>?_)))))));obtain ⟨a3,n7,a7,a6,b5⟩:=a9;rw [a7,a6];clear a7 a6;replace a1:=a1.mono a0;refine nm ?_;refine sd (di 14 1 n7 a1.addr) (sd (dl 15 (DG a1 n7 (by omega))) (sp 1 [(4,vI (xs.getD n7 0))] (se (BD (DL 4 ([(bX p #[.int .u64 a3] 91)]) rfl (TK _ (TR _)) a0 ?_)))));exact ⟨_,_,rfl,rfl,BJ (by omega)⟩
noncomputable def c_NewBag:=cod Tryz.f17
theorem NewBag_ct (I:Imm) (a:Value) (xs:List Int) (a_f:CK I a xs):Ct Tryz.prog 17 #[a] I ([]) (fun v I' M'=>∃ u:Nat,∃ us:Int,v=vP u 0∧M'=[(bX u #[.int .u64 us] 91)]):=by
 obtain ⟨a0,a1,a5,a8,rfl,a6,a7,a3⟩:=id a_f;refine fr (args:=[_]) (N:=41) Tryz.func17 (fun F=>?_);show Run _ _ (c_NewBag []) _ _ [(0,_)] _ _;refine rnm (rqr ?_);refine sp 1 [(2,.pointer none)] (sn (sp 1 [(5,.agg #[.int .u64 11400714819323198485])] (sS (sb 6 91 #[.int .u64 11400714819323198485] (fun b1=>(sp 1 [(3,vP b1 0)] (se (rq (rqr (sp 1 [(4,vI 0)] (se (rb 0 ?_))))))))))));refine rl (fun mz a w=>∃ k:Nat,∃ s:Int,(k≤xs.length)∧SD 41 [(4,vI ↑k),(0,vS a0 xs.length a1),(2,.pointer none),(3,vP b1 0)] I ((bX b1 #[.int .u64 s] 91)::F) a w (mz=xs.length-k)) ?_ ?_
 ·intro a w hS hD hW;exact ⟨_,0,11400714819323198485,Nat.zero_le _,hS.sub su,hD,hW,rfl⟩
 rintro mz a w ⟨k,s,hk,hS,hD,hW,rfl⟩
 refine AU hS hD hW ?_;clear hS hD hW a w;refine rq (rqr (sp 4 [(10,.bool (cmp .lss ↑k (↑(xs.length))))] (se (rc 10 rfl (fun h1=>?_) (fun h1=>?_)))))
 ·
  have a2:=h1;have h1:=BX h1;refine AM (NX (rq (rb 1 (rq ?_))));refine rd0 12 (ox 4 [(16,vP b1 0),(13,vP b1 0)] ?_);refine AD (dlb 17 0 0 b1 (.int .u64 s)) (ox 2 [(19,vI ↑k),(18,vS a0 xs.length a1)] ?_);refine AD (di 20 1 k a3.addr) ?_;refine AD (dl 21 (DG a3 k (by omega))) (ox 3 [(24,.int .u64 (IntKind.u64.wrap (BZ .mul (IntKind.u64.wrap (BZ .add s (IntKind.u64.wrap (xs.getD k 0)))) 13787848793156543929)))] ?_);refine BA (sp 2 [(26,vP b1 0)] (sS (ss 0 0 b1 [.int .u64 (IntKind.u64.wrap (BZ .mul (IntKind.u64.wrap (BZ .add s (IntKind.u64.wrap (xs.getD k 0)))) 13787848793156543929))] [.int .u64 (IntKind.u64.wrap (BZ .mul (IntKind.u64.wrap (BZ .add s (IntKind.u64.wrap (xs.getD k 0)))) 13787848793156543929))] (_::_) (cs:=[_]) rfl rfl (se ?_))));refine rd0 11 (ox 4 [(30,vP b1 0),(27,vP b1 0)] ?_);refine AD (dlb 31 0 0 b1 (.int .u64 (IntKind.u64.wrap (BZ .mul (IntKind.u64.wrap (BZ .add s (IntKind.u64.wrap (xs.getD k 0)))) 13787848793156543929)))) (ox 3 [(34,vP b1 0)] ?_);refine AD (dlb 35 0 0 b1 (.int .u64 (IntKind.u64.wrap (BZ .mul (IntKind.u64.wrap (BZ .add s (IntKind.u64.wrap (xs.getD k 0)))) 13787848793156543929)))) ?_;refine AD (det_shr (x:=(.tmp 35)) (y:=(.const (.int .u64 29))) (T:=89) (T':=92) (d:=36) (ty:=89) (gd:=none) (by kernel_rfl) rfl rfl rfl (by omega)) (ox 1 [(37,.int .u64 (IntKind.u64.wrap (BitVec.ofInt IntKind.u64.bits (IntKind.u64.wrap (BZ .mul (IntKind.u64.wrap (BZ .add s (IntKind.u64.wrap (xs.getD k 0)))) 13787848793156543929)) ^^^ BitVec.ofInt IntKind.u64.bits ((IntKind.u64.wrap (BZ .mul (IntKind.u64.wrap (BZ .add s (IntKind.u64.wrap (xs.getD k 0)))) 13787848793156543929)).fdiv (2 ^ (min (29:Int).toNat IntKind.u64.bits)))).toNat))] ?_);refine BA (sp 2 [(39,vP b1 0)] (sS (ss 0 0 b1 [.int .u64 (IntKind.u64.wrap (BitVec.ofInt IntKind.u64.bits (IntKind.u64.wrap (BZ .mul (IntKind.u64.wrap (BZ .add s (IntKind.u64.wrap (xs.getD k 0)))) 13787848793156543929)) ^^^ BitVec.ofInt IntKind.u64.bits ((IntKind.u64.wrap (BZ .mul (IntKind.u64.wrap (BZ .add s (IntKind.u64.wrap (xs.getD k 0)))) 13787848793156543929)).fdiv (2 ^ (min (29:Int).toNat IntKind.u64.bits)))).toNat)] [.int .u64 (IntKind.u64.wrap (BitVec.ofInt IntKind.u64.bits (IntKind.u64.wrap (BZ .mul (IntKind.u64.wrap (BZ .add s (IntKind.u64.wrap (xs.getD k 0)))) 13787848793156543929)) ^^^ BitVec.ofInt IntKind.u64.bits ((IntKind.u64.wrap (BZ .mul (IntKind.u64.wrap (BZ .add s (IntKind.u64.wrap (xs.getD k 0)))) 13787848793156543929)).fdiv (2 ^ (min (29:Int).toNat IntKind.u64.bits)))).toNat)] (_::_) (cs:=[_]) rfl rfl (ee (NB (NX (rr (sp 1 [(11,vI ↑k)] (sd (da 12 ↑k 1) (sp 1 [(4,vI (↑k+1))] (ee ?_)))))))))));refine AO (xs.length-(k+1)) (by omega) ?_;intro a w hS hD hW;exact ⟨k+1,IntKind.u64.wrap (BitVec.ofInt IntKind.u64.bits (IntKind.u64.wrap (BZ .mul (IntKind.u64.wrap (BZ .add s (IntKind.u64.wrap (xs.getD k 0)))) 13787848793156543929)) ^^^ BitVec.ofInt IntKind.u64.bits ((IntKind.u64.wrap (BZ .mul (IntKind.u64.wrap (BZ .add s (IntKind.u64.wrap (xs.getD k 0)))) 13787848793156543929)).fdiv (2 ^ (min (29:Int).toNat IntKind.u64.bits)))).toNat,by omega,hS.sub su,hD,hW,rfl⟩
 have a2:=h1;have h1:=CF h1;refine BR 0 (EP (EP (EB (NX (rqr (sp 2 [(2,vP b1 0)] (se (BD (DL 2 ([(bX b1 #[.int .u64 s] 91)]) rfl (TK _ (TR _)) (IR _) ?_)))))))));exact ⟨_,_,rfl,rfl⟩
noncomputable def c_Grow:=cod Tryz.f164
theorem Grow_ct (I:Imm) (n:Nat) (hn:n≤1000000):Ct Tryz.prog 164 #[vN,vI ↑n] I [] (fun v I' M'=>∃ Ms,M'=Ms∧Own 3 1 AQ v ([]:List Int) Ms):=by
 refine fr (args:=[_,_]) (N:=27) Tryz.func164 (fun F=>?_);show Run _ _ (c_Grow []) _ _ [(0,_),(1,_)] _ _;refine rnm (rqr ?_);refine sp 1 [(4,vN)] (se (rq (rqr (sp 2 [(6,.bool (cmp .lss ↑n 0))] (se (rc 6 rfl (fun h1=>?_) (fun h1=>?_)))))))
 ·
  have a0:=h1;have h1:=BX h1
  exfalso;omega
 have a0:=h1;have h1:=CF h1;refine AM (NX (rq (rqr (sp 5 [(12,vI 0),(10,vI 0),(8,vI ↑n)] (sd (dsb 13 0 0) (sd (dsb 14 ↑n (0-0)) (EE 14 rfl (show (vI (↑n-(0-0)):Value)=vI ↑n from congrArg (Value.int .i64) (by omega)) (sp 1 [(1,vI ↑n)] (sn (sp 2 [(16,.bool (cmp .gtr ↑n 0))] (se (rc 16 rfl (fun h2=>?_) (fun h2=>?_)))))))))))))
 ·
  have a1:=h2;have h2:=JY h2;refine rr (sp 3 [(19,vI 0),(17,vN)] (sd (DE (HW (x:=.tmp 17) (lo:=none) (hi:=some (.tmp 19)) (T:=29) (e:=3) (sz:=1) 0 0 (d:=20) (ty:=29) (gd:=none) (by kernel_rfl) rfl (by kernel_rfl) (by kernel_rfl) rfl (.inl ⟨rfl,rfl⟩) (.inr ⟨_,.i64,rfl,rfl⟩) (Nat.le_refl _) (Nat.le_refl _)) (show _=Value.slice none 0 0 from rfl)) (sp 1 [(21,vI ↑n)] (sS (stp_appendN (x:=.tmp 20) (y:=.tmp 21) (T:=29) (T':=3) (E:=3) (bs:=8) (n:=n) (z:=vI 0) (d:=22) (ty:=29) (gd:=none) (by kernel_rfl) rfl (by kernel_rfl) (by kernel_rfl) (by kernel_rfl) rfl (by kernel_rfl) (by decide) (by kernel_rfl) rfl rfl ⟨by omega,hn⟩ (fun gb nc zs a4 a3=>?_))))));show Seq _ _ _ _ _ _ ((22,vS (some ⟨gb,0,none⟩) n nc)::_) _ _;refine sp 2 [(24,vI 0)] (sd (DE (HW (x:=.tmp 22) (lo:=none) (hi:=some (.tmp 24)) (T:=29) (e:=3) (sz:=1) 0 0 (d:=25) (ty:=29) (gd:=none) (by kernel_rfl) rfl (by kernel_rfl) (by kernel_rfl) rfl (.inl ⟨rfl,rfl⟩) (.inr ⟨_,.i64,rfl,rfl⟩) (Nat.le_refl _) (Nat.zero_le _)) (show _=Value.slice (some ⟨gb,0,none⟩) 0 nc by simp [GI])) ?_);have a2:Own 3 1 AQ (vS (some ⟨gb,0,none⟩) 0 nc) ([]:List Int) [(gb,Obj.cells (List.toArray zs) 3 (0,0))]:=Own.empty a3;refine AZ (M':=([(gb,Obj.cells (List.toArray zs) 3 (0,0))]++F)) (fun w h=>h) (sp 1 [(0,vS (some ⟨gb,0,none⟩) 0 nc)] (sn (sp 2 [(4,vS (some ⟨gb,0,none⟩) 0 nc)] (se (BD (DL 4 ([(gb,Obj.cells (List.toArray zs) 3 (0,0))]) rfl (TK _ (TR _)) (IR _) ?_))))));exact ⟨_,rfl,a2⟩
 have a1:=h2;have h2:=MB h2;refine AM (NX (rqr (sp 2 [(4,vN)] (se (BD (DL 4 ([]) rfl (TR _) (IR _) ?_))))));exact ⟨[],rfl,Own.nil _ _ _⟩
noncomputable def c_Concat:=cod Tryz.f145
theorem Concat_ct (I:Imm) (s:Value) (xss:List (List Int)) (s_f:IsRows I s xss) (hl:xss.flatten.length≤1000000):Ct Tryz.prog 145 #[s] I ([]) (fun v I' M'=>∃ u:Value,∃ Ms:Seg,v=u∧M'=Ms∧Own 3 1 AQ u xss.flatten Ms):=by
 obtain ⟨b1,b2,f3,f6,e9,rfl,f4,f5,a6,b3⟩:=id s_f;refine fr (args:=[_]) (N:=36) Tryz.func145 (fun F=>?_);show Run _ _ (c_Concat []) _ _ [(0,_)] _ _;refine rnm (rqr ?_);refine sp 1 [(2,vN)] (sn (sp 1 [(3,vI 0)] (se (rq (rqr (sp 3 [(11,vI 0),(10,vI (↑(xss.length))),(9,vS b1 xss.length b2)] (se (rb 0 ?_))))))));refine rl (fun mz a w=>∃ k:Nat,(k≤xss.length)∧SD 36 [(3,vI (↑(xss.take k).flatten.length)),(11,vI ↑k),(0,vS b1 xss.length b2),(2,vN),(9,vS b1 xss.length b2),(10,vI (↑(xss.length)))] I F a w (mz=xss.length-k)) ?_ ?_
 ·intro a w hS hD hW;exact ⟨_,0,Nat.zero_le _,hS.sub su,hD,hW,rfl⟩
 rintro mz a w ⟨k,hk,hS,hD,hW,rfl⟩
 refine AU hS hD hW ?_;refine rqr (sp 1 [(12,.bool (cmp .lss ↑k (↑(xss.length))))] (se (rq (rc 12 rfl (fun h1=>?_) (fun h1=>?_)))))
 ·
  have c1:=h1;have h1:=BX h1;refine AM (NX (rq (rb 1 (rqr (sd (di 13 1 k a6.addr) ?_)))));have b6:=b3 k (by omega);obtain ⟨c5,c6,d7,e0,b5,d8,d9,e1⟩:=id b6;rw [b5] at b6;refine sd (DE (dl 14 (DY a6 k (by omega))) b5) (sp 1 [(5,vS c5 (xss.getD k []).length c6)] (sn (sp 3 [(17,vI (↑((xss.getD k []).length))),(15,vI (↑(xss.take k).flatten.length))] (sd (da 18 (↑(xss.take k).flatten.length) (↑((xss.getD k []).length)) (hr:=by have hq:=flat_le xss k (by omega);omega)) (sp 1 [(3,vI ((↑(xss.take k).flatten.length)+(↑((xss.getD k []).length))))] (sn (sp 2 [(20,.bool (cmp .lss ((↑(xss.take k).flatten.length)+(↑((xss.getD k []).length))) 0))] (se (rc 20 rfl (fun h2=>?_) (fun h2=>?_))))))))))
  ·
   have c2:=h2;have h2:=BX h2
   exfalso;omega
  have c2:=h2;have h2:=CF h2;refine AM (NB (NX (rr (sd (da 22 ↑k 1) (sp 1 [(11,vI (↑k+1))] (ee ?_))))));refine AO (xss.length-(k+1)) (by omega) ?_;intro a w hS hD hW;exact ⟨k+1,by omega,hS.sub (.consE 3 rfl (congrArg (Value.int .i64) (flat_succ (by omega)).symm) su),hD,hW,rfl⟩
 have c1:=h1;have h1:=CF h1;refine BR 0 (EP (EP (EB (NX (rqr (sp 1 [(23,vI (↑(xss.take k).flatten.length))] ?_))))));have d4:(xss.take k).flatten=xss.flatten:=by rw [IE (by omega)]
 rw [d4];have c4:=Grow_ct I xss.flatten.length hl;refine sS (JU (d:=(some 24)) (f:=(.func 164)) (fid:=164) (args:=#[(.const vN),(.tmp 23)]) (tys:=#[29,3]) (cv:=[]) (F:=(F)) (ty:=29) (gd:=none) (by kernel_rfl) rfl rfl rfl (by kernel_rfl) rfl c4 (PR _) (fun f2 I2 f1 a7 d5=>?_));obtain ⟨d3,c8,b4⟩:=d5;replace a6:=a6.mono a7;replace b3:=fun i hi=>(b3 i hi).mono a7
 rw [c8];clear c8;obtain ⟨a9,b0,rfl,e7⟩:=b4.shape;refine nm ?_;show Seq _ _ _ _ _ _ ((24,vS a9 ([]:List Int).length b0)::_) _ _;refine sp 1 [(6,vS a9 ([]:List Int).length b0)] (se (rq (rqr (sp 3 [(27,vI 0),(26,vI (↑(xss.length))),(25,vS b1 xss.length b2)] (se (rb 2 ?_))))));refine rl (fun mz a w=>∃ J1:Imm,∃ j:Nat,∃ a4:Value,∃ a0:Seg,(I2.le J1)∧(j≤xss.length)∧(Own 3 1 AQ a4 ((xss.take j).flatten) a0)∧SD 36 [(6,a4),(27,vI ↑j),(2,vN),(25,vS b1 xss.length b2),(26,vI (↑(xss.length)))] J1 (a0++F) a w (mz=xss.length-j)) ?_ ?_
 ·intro a w hS hD hW;exact ⟨_,I2,0,vS a9 ([]:List Int).length b0,d3,IR _,Nat.zero_le _,b4,hS.sub su,hD,hW,rfl⟩
 rintro mz a w ⟨J1,j,a4,a0,hJ1,hj,a3,hS,hD,hW,rfl⟩
 refine AU hS hD hW ?_;replace a6:=a6.mono hJ1;replace b3:=fun i hi=>(b3 i hi).mono hJ1
 obtain ⟨a1,a2,rfl,c0⟩:=a3.shape;refine rqr (sp 1 [(28,.bool (cmp .lss ↑j (↑(xss.length))))] (se (rq (rc 28 rfl (fun h3=>?_) (fun h3=>?_)))))
 ·
  have c3:=h3;have h3:=BX h3;refine AM (NX (rq (rb 3 (rqr (sd (di 29 1 j a6.addr) ?_)))));have a8:=b3 j (by omega);obtain ⟨b7,b8,e2,e5,b9,e3,e4,e6⟩:=id a8;rw [b9] at a8;refine sd (DE (dl 30 (DY a6 j (by omega))) b9) (sp 1 [(8,vS b7 (xss.getD j []).length b8)] (se (rr (sp 2 [(32,vS b7 (xss.getD j []).length b8),(31,vS a1 ((xss.take j).flatten).length a2)] (sS (HO (d:=33) (x:=(.tmp 31)) (y:=(.tmp 32)) (T:=29) (T':=29) (E:=3) (E':=3) (sz:=1) (bs:=8) (z:=vI 0) (cell:=AQ) (xs:=(xss.take j).flatten) (ys:=xss.getD j []) (Ms:=a0) (ty:=29) (gd:=none) (by kernel_rfl) rfl (by kernel_rfl) (by kernel_rfl) (by kernel_rfl) (by kernel_rfl) (by kernel_rfl) (by decide) (by kernel_rfl) rfl rfl a3 (PR _) (EK _) a8.src (by first | omega | (have hq:=flat_le xss j (by omega);omega)) (fun v9 d2 c9=>(nm ?_))))))));obtain ⟨d0,d1,rfl,f0⟩:=c9.shape;refine sp 1 [(6,vS d0 (((xss.take j).flatten)++(xss.getD j [])).length d1)] (ee (NB (NX (rr (sd (da 34 ↑j 1) (sp 1 [(27,vI (↑j+1))] (ee ?_)))))));refine AO (xss.length-(j+1)) (by omega) ?_;intro a w hS hD hW;exact ⟨J1,j+1,vS d0 (((xss.take j).flatten)++(xss.getD j [])).length d1,d2,hJ1,by omega,((flat_take (xss:=xss) (k:=j) (by omega)).symm▸c9),hS.sub su,hD,hW,rfl⟩
 have c3:=h3;have h3:=CF h3;refine BR 2 (EP (EP (EB (NX (rqr (sp 2 [(2,vS a1 ((xss.take j).flatten).length a2)] (se (BD (DL 2 a0 rfl (TA (TR _) _) (IT a7 hJ1) ?_)))))))));exact ⟨_,_,rfl,rfl,((show (xss.take j).flatten=xss.flatten from by rw [IE (by omega)])▸a3)⟩
end Go.Proofs.YtgcemienebmdeaaGreat
namespace Go.Sh
open Go Go.Sl
def DR (h nd:List Int) (b:Int):Int:=
  if h.length=0 then 7 else if 4<h.length then 6 else if nd.length≠h.length then 2
  else if ¬ (∀ i,i<h.length→inB (h.getD i 0) 0 50=true∧inB (nd.getD i 0) 0 50=true) then 1
  else if inB b 1 10=false then 1 else 0
def CQ (h nd:List Int) (b:Int) (i:Nat):Int:=if nd.getD i 0≤h.getD i 0 then (h.getD i 0-nd.getD i 0)/b else 0
def EI (h nd:List Int) (b:Int) (i:Nat):Int:=if nd.getD i 0≤h.getD i 0 then 0 else (nd.getD i 0-h.getD i 0+b-1)/b
def FN (h nd:List Int) (b:Int):List Int:=(List.range h.length).map (CQ h nd b)
def FQ (h nd:List Int) (b:Int):List Int:=(List.range h.length).map (EI h nd b)
def pF (n m:Nat):Nat:=(n*n-m)/n
def pT (n m:Nat):Nat:=(n*n-m)%n
def most (n m:Nat) (g l:List Int):Nat:=(min (g.getD (pF n m) 0) (l.getD (pT n m) 0)).toNat
def less (k:Nat) (b:Nat) (l:List Int):List Int:=l.set k (l.getD k 0-(b:Int))
def DM (n:Nat):Nat→List Int→List Int→List (List Cart)
  | 0,_,l=>if (∀ x∈l,x≤0) then [[]] else []
  | m+1,g,l=>((List.range (most n (m+1) g l)).flatMap fun b=>(DM n m (less (pF n (m+1)) (b+1) g) (less (pT n (m+1)) (b+1) l)).map (fun r=>⟨(pF n (m+1):Int),(pT n (m+1):Int),(b:Int)+1⟩::r))++DM n m g l
def CL (n:Nat):Nat→Nat→Int→List Int→List Int→Option (List Cart)
  | _,0,left,_,_=>if left=0 then some [] else none
  | 0,_+1,_,_,_=>none
  | m+1,h+1,left,g,l=>
    if left<(h:Int)+1 then none
    else match (List.range (most n (m+1) g l)).findSome? (fun b=>(CL n m h (left-(b+1:Nat)) (less (pF n (m+1)) (b+1) g) (less (pT n (m+1)) (b+1) l)).map (fun r=>(⟨(pF n (m+1):Int),(pT n (m+1):Int),(b:Int)+1⟩:Cart)::r)) with
      | some x=>some x
      | none=>CL n m (h+1) left g l
theorem OT {k b:Nat} {l:List Int} (hb:(b:Int)+1≤l.getD k 0):(less k (b+1) l).sum=l.sum-(b+1:Nat):=by
  have hk:k<l.length:=by
    rcases Nat.lt_or_ge k l.length with h | h
    · exact h
    · simp [List.getD,List.getElem?_eq_none h] at hb;omega
  unfold less
  induction l generalizing k with
  | nil=>simp at hk
  | cons x r ih=>
    cases k with
    | zero=>simp [List.getD];omega
    | succ k=>
      have e:(x::r).getD (k+1) 0=r.getD k 0:=by simp [List.getD]
      rw [e] at hb ⊢;have:=ih hb (by simpa using hk);simp only [List.set_cons_succ,List.sum_cons];omega
theorem GN {k b:Nat} {l:List Int} (h:∀ x∈l,0≤x) (hb:(b:Int)≤l.getD k 0):∀ x∈less k b l,0≤x:=fun x hx=>by
  rcases List.mem_or_eq_of_mem_set hx with h1 | rfl
  · exact h x h1
  · omega
theorem most_lt {n m b:Nat} {g l:List Int} (h:b<most n m g l):(b:Int)+1≤g.getD (pF n m) 0∧(b:Int)+1≤l.getD (pT n m) 0:=by
  unfold most at h;omega
theorem KL:∀ {l:List Int},(∀ x∈l,0≤x)→0≤l.sum:=by
  intro l
  induction l with
  | nil=>intro _;simp
  | cons x r ih=>intro h;have:=ih (fun y hy=>h y (by simp [hy]));have:=h x (by simp);simp;omega
theorem LH:∀ {l:List Int},(∀ x∈l,0≤x)→(l.sum=0↔∀ x∈l,x≤0):=by
  intro l
  induction l with
  | nil=>intro _;simp
  | cons x r ih=>
    intro h;have h1:=KL (l:=r) (fun y hy=>h y (by simp [hy]));have h2:=h x (by simp);have:=ih (fun y hy=>h y (by simp [hy]));simp only [List.sum_cons,List.mem_cons,forall_eq_or_imp]
    constructor
    · intro e;exact ⟨by omega,this.1 (by omega)⟩
    · rintro ⟨e1,e2⟩;have:=this.2 e2;omega
theorem lists_sum {n:Nat}:∀ (m:Nat) (g l:List Int),(∀ x∈l,0≤x)→∀ z∈DM n m g l,(z.map Cart.bales).sum=l.sum∧(∀ c∈z,1≤c.bales):=by
  intro m
  induction m with
  | zero=>
    intro g l h z hz;simp only [DM] at hz
    split at hz
    · rename_i h0
      simp at hz;subst hz;exact ⟨((LH h).2 h0).symm,fun _ hc=>by simp at hc⟩
    · simp at hz
  | succ m ih=>
    intro g l h z hz;simp only [DM,List.mem_append,List.mem_flatMap,List.mem_range,List.mem_map] at hz;rcases hz with ⟨b,hb,r,hr,rfl⟩ | hz
    · obtain ⟨_,h2⟩:=most_lt hb
      obtain ⟨e1,e2⟩:=ih _ _ (GN h (by omega)) r hr;rw [OT h2] at e1;refine ⟨by simp only [List.map_cons,List.sum_cons,e1];omega,fun c hc=>?_⟩;rcases List.mem_cons.1 hc with rfl | hc
      · show (1:Int)≤(b:Int)+1;omega
      · exact e2 c hc
    · exact ih _ _ h z hz
theorem lists_len {n m:Nat} {g l:List Int} (h:∀ x∈l,0≤x) {z:List Cart} (hz:z∈DM n m g l):(z.length:Int)≤l.sum:=by
  obtain ⟨h1,h2⟩:=lists_sum m g l h z hz;rw [← h1];clear h1 hz
  induction z with
  | nil=>simp
  | cons c r ih=>have:=ih (fun c hc=>h2 c (by simp [hc]));have:=h2 c (by simp);simp;omega
theorem head_flat {α β:Type} (f:α→List β):∀ (l:List α),(l.flatMap f).head?=l.findSome? (fun a=>(f a).head?):=by
  intro l
  induction l with
  | nil=>rfl
  | cons a r ih=>
    simp only [List.flatMap_cons,List.head?_append,List.findSome?_cons,ih];cases (f a).head? <;> rfl
theorem findSome_congrD {α β:Type} {f g:α→Option β}:∀ {l:List α},(∀ a∈l,f a=g a)→l.findSome? f=l.findSome? g:=by
  intro l
  induction l with
  | nil=>intro _;rfl
  | cons a r ih=>intro h;simp only [List.findSome?_cons,h a (by simp),ih (fun b hb=>h b (by simp [hb]))]
theorem lists_nil {n:Nat}:∀ (m:Nat) (g l:List Int),((DM n m g l).filter fun z=>decide (z.length=0))=if (∀ x∈l,x≤0) then [[]] else []:=by
  intro m
  induction m with
  | zero=>intro g l;simp only [DM];split <;> simp
  | succ m ih=>
    intro g l;simp only [DM,List.filter_append,ih];have:(List.filter (fun z:List Cart=>decide (z.length=0)) ((List.range (most n (m+1) g l)).flatMap fun b=>(DM n m (less (pF n (m+1)) (b+1) g) (less (pT n (m+1)) (b+1) l)).map (fun r=>⟨(pF n (m+1):Int),(pT n (m+1):Int),(b:Int)+1⟩::r)))=[]:=by
      refine List.filter_eq_nil_iff.2 fun z hz=>?_
      simp only [List.mem_flatMap,List.mem_map] at hz;obtain ⟨b,_,r,_,rfl⟩:=hz;simp
    rw [this,List.nil_append]
theorem grow_head {n:Nat}:∀ (m h:Nat) (g l:List Int),(∀ x∈l,0≤x)→CL n m h l.sum g l=((DM n m g l).filter fun z=>decide (z.length=h)).head?:=by
  intro m
  induction m with
  | zero=>
    intro h g l hl;cases h with
    | zero=>
      rw [lists_nil];simp only [CL]
      by_cases e:l.sum=0
      · rw [if_pos e,if_pos ((LH hl).1 e)];rfl
      · rw [if_neg e,if_neg (fun x=>e ((LH hl).2 x))];rfl
    | succ h=>
      simp only [CL,DM]
      split <;> simp
  | succ m ih=>
    intro h g l hl;cases h with
    | zero=>
      rw [lists_nil];simp only [CL]
      by_cases e:l.sum=0
      · rw [if_pos e,if_pos ((LH hl).1 e)];rfl
      · rw [if_neg e,if_neg (fun x=>e ((LH hl).2 x))];rfl
    | succ h=>
      by_cases hs:l.sum<(h:Int)+1
      · rw [CL,if_pos hs,eq_comm,List.head?_eq_none_iff,List.filter_eq_nil_iff]
        intro z hz;have:=lists_len hl hz;simp;omega
      · rw [CL,if_neg hs,ih (h+1) g l hl]
        have e1 : (List.range (most n (m + 1) g l)).findSome? (fun b => (CL n m h (l.sum - (b + 1 : Nat)) (less (pF n (m + 1)) (b + 1) g) (less (pT n (m + 1)) (b + 1) l)).map (fun r => (⟨(pF n (m + 1) : Int), (pT n (m + 1) : Int), (b : Int) + 1⟩ : Cart) :: r))
           =(((List.range (most n (m+1) g l)).flatMap fun b=>(DM n m (less (pF n (m+1)) (b+1) g) (less (pT n (m+1)) (b+1) l)).map (fun r=>⟨(pF n (m+1):Int),(pT n (m+1):Int),(b:Int)+1⟩::r)).filter fun z:List Cart=>decide (z.length=h+1)).head?:=by
          rw [List.filter_flatMap,head_flat];refine findSome_congrD ?_;intro b hb;obtain ⟨_,h2⟩:=most_lt (List.mem_range.1 hb);have h3:=ih h (less (pF n (m+1)) (b+1) g) (less (pT n (m+1)) (b+1) l) (GN hl (by omega));rw [OT h2] at h3;rw [h3];simp only [List.filter_map,List.head?_map]
          congr 2
          refine List.filter_congr fun z _=>?_
          simp
        rw [e1];simp only [DM,List.filter_append,List.head?_append];cases (List.filter (fun z:List Cart=>decide (z.length=h+1)) ((List.range (most n (m+1) g l)).flatMap fun b=>(DM n m (less (pF n (m+1)) (b+1) g) (less (pT n (m+1)) (b+1) l)).map (fun r=>⟨(pF n (m+1):Int),(pT n (m+1):Int),(b:Int)+1⟩::r))).head? <;> rfl
theorem lists_short {n:Nat}:∀ (m:Nat) (g l:List Int),∀ z∈DM n m g l,z.length≤m:=by
  intro m
  induction m with
  | zero=>intro g l z hz;simp only [DM] at hz;split at hz <;> simp at hz;subst hz;simp
  | succ m ih=>
    intro g l z hz;simp only [DM,List.mem_append,List.mem_flatMap,List.mem_map] at hz;rcases hz with ⟨b,_,r,hr,rfl⟩ | hz
    · have:=ih _ _ r hr;simp;omega
    · have:=ih _ _ z hz;omega
def bestL:List (List Cart)→List Cart→List Cart
  | [],b=>b
  | x::r,b=>bestL r (if x.length<b.length then x else b)
theorem bestL_first:∀ (tl:List (List Cart)) (b:List Cart),∃ A B,b::tl=A++bestL tl b::B∧(∀ a∈A,(bestL tl b).length<a.length)∧(∀ c∈B,(bestL tl b).length≤c.length):=by
  intro tl
  induction tl with
  | nil=>intro b;exact ⟨[],[],rfl,by simp,by simp⟩
  | cons x r ih=>
    intro b;simp only [bestL]
    by_cases h:x.length<b.length
    · rw [if_pos h]
      obtain ⟨A,B,e,h1,h2⟩:=ih x;have h3:(bestL r x).length≤x.length:=by
        cases A with
        | nil=>simp only [List.nil_append,List.cons.injEq] at e;rw [← e.1];omega
        | cons a A=>simp only [List.cons_append,List.cons.injEq] at e;have:=h1 a (by simp);rw [← e.1] at this;omega
      refine ⟨b::A,B,by rw [e];rfl,fun a ha=>?_,h2⟩;rcases List.mem_cons.1 ha with rfl | ha
      · omega
      · exact h1 a ha
    · rw [if_neg h]
      obtain ⟨A,B,e,h1,h2⟩:=ih b;cases A with
      | nil=>
        simp only [List.nil_append,List.cons.injEq] at e;refine ⟨[],x::B,by rw [← e.1,e.2];rfl,by simp,fun c hc=>?_⟩;rcases List.mem_cons.1 hc with rfl | hc
        · rw [← e.1];omega
        · exact h2 c hc
      | cons a A=>
        simp only [List.cons_append,List.cons.injEq] at e;obtain ⟨e1,e2⟩:=e;subst e1;refine ⟨b::x::A,B,congrArg (fun z=>b::x::z) e2,fun c hc=>?_,h2⟩;have:=h1 b (by simp);rcases List.mem_cons.1 hc with rfl | hc
        · exact this
        · rcases List.mem_cons.1 hc with rfl | hc
          · omega
          · exact h1 c (by simp [hc])
theorem JX {β:Type} {f:Nat→Option β} {k:Nat} {r:β} (h:∀ j,j<k→f j=none) (hk:f k=some r):∀ {N:Nat},k<N→(List.range N).findSome? f=some r:=by
  intro N
  induction N with
  | zero=>intro h;omega
  | succ N ih=>
    intro hN;rw [List.range_succ,List.findSome?_append]
    by_cases e:k=N
    · subst e
      have:(List.range k).findSome? f=none:=List.findSome?_eq_none_iff.2 (fun j hj=>h j (List.mem_range.1 hj));rw [this];simp [hk]
    · rw [ih (by omega)];rfl
theorem GM {β:Type} {f:Nat→Option β} {N:Nat} (h:∀ j,j<N→f j=none):(List.range N).findSome? f=none:=List.findSome?_eq_none_iff.2 (fun j hj=>h j (List.mem_range.1 hj))
def firstD (n:Nat) (g l:List Int):Option (List Cart):=(List.range (n*n+1)).findSome? fun h=>CL n (n*n) h l.sum g l
theorem firstD_best {n:Nat} {g l:List Int} (hl:∀ x∈l,0≤x):firstD n g l=(match DM n (n*n) g l with | []=>none | x::r=>some (bestL r x)):=by
  unfold firstD;have hc:∀ h,CL n (n*n) h l.sum g l=((DM n (n*n) g l).filter fun z=>decide (z.length=h)).head?:=fun h=>grow_head _ h g l hl
  have hs:=lists_short (n:=n) (n*n) g l;cases hL:DM n (n*n) g l with
  | nil=>exact GM fun j _=>by rw [hc,hL];rfl
  | cons x r=>
    obtain ⟨A,B,e,h1,h2⟩:=bestL_first r x;have hm:bestL r x∈DM n (n*n) g l:=by rw [hL,e];simp
    refine JX (k:=(bestL r x).length) (fun j hj=>?_) ?_ (by have:=hs _ hm;omega)
    · rw [hc,hL,e,List.head?_eq_none_iff,List.filter_eq_nil_iff]
      intro z hz;simp only [List.mem_append,List.mem_cons] at hz;rcases hz with hz | rfl | hz
      · have:=h1 z hz;simp;omega
      · simp;omega
      · have:=h2 z hz;simp;omega
    · rw [hc,hL,e,List.filter_append]
      have:A.filter (fun z=>decide (z.length=(bestL r x).length))=[]:=List.filter_eq_nil_iff.2 fun z hz=>by have:=h1 z hz;simp;omega
      rw [this];simp
theorem pair_step {n m:Nat} (hm:m+1≤n*n):pF n (m+1)<n∧pT n (m+1)<n∧((pT n (m+1)+1<n∧pF n m=pF n (m+1)∧pT n m=pT n (m+1)+1)∨(pT n (m+1)+1=n∧pF n m=pF n (m+1)+1∧pT n m=0)):=by
  have hn:0<n:=by cases n with | zero=>simp at hm | succ n=>omega
  unfold pF pT;have e:n*n-m=(n*n-(m+1))+1:=by omega
  rw [e]
  generalize hp:n*n-(m+1)=p
  have h1:p<n*n:=by omega
  have h2:p/n<n:=(Nat.div_lt_iff_lt_mul hn).2 h1;have h3:p%n<n:=Nat.mod_lt _ hn;have h4:=Nat.div_add_mod p n;refine ⟨h2,h3,?_⟩
  by_cases h:p%n+1<n
  · refine .inl ⟨h,?_,?_⟩
    · rw [show p+1=(p%n+1)+n*(p/n) by omega,Nat.add_mul_div_left _ _ hn,Nat.div_eq_of_lt h];omega
    · rw [show p+1=(p%n+1)+n*(p/n) by omega,Nat.add_mul_mod_self_left,Nat.mod_eq_of_lt h]
  · refine .inr ⟨by omega,?_,?_⟩
    · rw [show p+1=0+n*(p/n+1) by rw [Nat.mul_add];omega,Nat.add_mul_div_left _ _ hn];simp
    · rw [show p+1=0+n*(p/n+1) by rw [Nat.mul_add];omega,Nat.add_mul_mod_self_left];simp
theorem less_zero (k:Nat) (l:List Int):less k 0 l=l:=by
  unfold less
  apply List.ext_getElem?
  intro i;rw [List.getElem?_set]
  split
  · rename_i e;subst e
    split
    · rename_i hk;simp [List.getD,hk]
    · rename_i hk;rw [List.getElem?_eq_none (by omega)]
  · rfl
theorem less_at {k b:Nat} {l:List Int} (hk:k<l.length):(less k b l).getD k 0=l.getD k 0-b:=by simp [less,List.getD,hk]
theorem less_ne {k j b:Nat} {l:List Int} (h:k≠j):(less k b l).getD j 0=l.getD j 0:=by simp [less,List.getD,List.getElem?_set_ne h]
theorem EY {k b:Nat} {l:List Int}:(less k b l).length=l.length:=by simp [less]
theorem drop_sum {f:Nat} {g:List Int} (hf:f<g.length):(g.drop f).sum=g.getD f 0+(g.drop (f+1)).sum:=by
  rw [List.drop_eq_getElem_cons hf,List.sum_cons];simp [List.getD,hf]
theorem drop_less {f b:Nat} {g:List Int}:(less f b g).drop (f+1)=g.drop (f+1):=by
  unfold less;rw [List.drop_set_of_lt (by omega)]
theorem lists_feas {n : Nat} : ∀ (m : Nat) (g l : List Int), m ≤ n * n → g.length = n → l.length = n → (∀ x ∈ g, 0 ≤ x) → (∀ x ∈ l, 0 ≤ x) → l.sum ≤ (g.drop (pF n m)).sum →
    (g.getD (pF n m) 0=0∨∀ c,c<pT n m→l.getD c 0=0)→DM n m g l≠[]:=by
  intro m
  induction m with
  | zero=>
    intro g l _ hg hl hg0 hl0 hs _;have hf:n≤pF n 0:=by
      unfold pF;rcases Nat.eq_zero_or_pos n with rfl | h
      · simp
      · rw [Nat.sub_zero,Nat.mul_div_cancel _ h];exact Nat.le_refl _
    rw [List.drop_of_length_le (by omega)] at hs;have h1:=KL hl0;simp only [List.sum_nil] at hs;simp only [DM];rw [if_pos ((LH hl0).1 (by omega))];simp
  | succ m ih=>
    intro g l hm hg hl hg0 hl0 hs hc;obtain ⟨hf,ht,hst⟩:=pair_step hm
    generalize hF:pF n (m+1)=f at *
    generalize hT:pT n (m+1)=t at *
    have hgf:0≤g.getD f 0:=hg0 _ (BJ (by omega));have hlt:0≤l.getD t 0:=hl0 _ (BJ (by omega))
    generalize hb:most n (m+1) g l=b
    have hb2:(b:Int)=min (g.getD f 0) (l.getD t 0):=by rw [← hb];unfold most;rw [hF,hT];omega
    have hne:DM n m (less f b g) (less t b l)≠[]→DM n (m+1) g l≠[]:=by
      intro h;simp only [DM];cases b with
      | zero=>
        rw [less_zero,less_zero] at h;simp only [hb,List.range_zero,List.flatMap_nil,List.nil_append];exact h
      | succ b=>
        obtain ⟨z,hz⟩:=List.exists_mem_of_ne_nil _ h;intro e;have:=List.append_eq_nil_iff.1 e;have hm2:=List.flatMap_eq_nil_iff.1 this.1 b (by rw [hb];simp);rw [hF,hT] at hm2;rw [List.map_eq_nil_iff] at hm2;rw [hm2] at hz;simp at hz
    refine hne (ih _ _ (by omega) (by rw [EY];exact hg) (by rw [EY];exact hl) (GN hg0 (by omega)) (GN hl0 (by omega)) ?_ ?_)
    all_goals (
      have e1:(less t b l).sum=l.sum-b:=by
        cases b with
        | zero=>rw [less_zero];simp
        | succ b=>exact OT (by omega)
      have e2:(less f b g).getD f 0=g.getD f 0-b:=less_at (by omega)
      have e3:(less t b l).getD t 0=l.getD t 0-b:=less_at (by omega)
      have e4:((less f b g).drop f).sum=(g.drop f).sum-b:=by
        rw [drop_sum (by rw [EY];omega),drop_sum (show f<g.length by omega),e2,drop_less];omega
      have e5:∀ c,c<t→(less t b l).getD c 0=l.getD c 0:=fun c hc=>less_ne (by omega))
    · rcases hst with ⟨h1,h2,h3⟩ | ⟨h1,h2,h3⟩
      · rw [h2,e1,e4];omega
      · rw [h2]
        have e6:=drop_sum (g:=less f b g) (f:=f) (by rw [EY];omega)
        by_cases h0:(less f b g).getD f 0=0
        · rw [e1];omega
        · have hz : ∀ x ∈ less t b l, x ≤ 0 := fun x hx => by
            obtain ⟨i,hi,rfl⟩:=List.mem_iff_getElem.1 hx;have e7:(less t b l)[i]=(less t b l).getD i 0:=by simp [List.getD,hi]
            rw [e7];rw [EY] at hi
            by_cases e:i=t
            · subst e;omega
            · have:i<t:=by omega
              rw [e5 i this];rcases hc with hc | hc
              · omega
              · rw [hc i this];exact Int.le_refl _
          have h7:=(LH (GN hl0 (by omega))).2 hz;rw [h7];exact KL fun x hx=>GN hg0 (by omega) x (List.mem_of_mem_drop hx)
    · rcases hst with ⟨h1,h2,h3⟩ | ⟨h1,h2,h3⟩
      · rw [h2,h3]
        by_cases h0:(less f b g).getD f 0=0
        · exact .inl h0
        · refine .inr fun c hcc=>?_
          by_cases e:c=t
          · subst e;omega
          · rw [e5 c (by omega)]
            rcases hc with hc | hc
            · omega
            · exact hc c (by omega)
      · rw [h3];exact .inr fun c hc=>by omega
theorem lists_give {n:Nat}:∀ (m:Nat) (g l:List Int),(∀ x∈g,0≤x)→∀ z∈DM n m g l,(z.map Cart.bales).sum≤g.sum:=by
  intro m
  induction m with
  | zero=>
    intro g l h z hz;simp only [DM] at hz
    split at hz
    · simp at hz;subst hz;exact KL h
    · simp at hz
  | succ m ih=>
    intro g l h z hz;simp only [DM,List.mem_append,List.mem_flatMap,List.mem_range,List.mem_map] at hz;rcases hz with ⟨b,hb,r,hr,rfl⟩ | hz
    · obtain ⟨h1,_⟩:=most_lt hb
      have e1:=ih _ _ (GN h (by omega)) r hr;rw [OT h1] at e1;simp only [List.map_cons,List.sum_cons];omega
    · exact ih _ _ h z hz
theorem lists_none {n:Nat} (hn:0<n) {g l:List Int} (hg:g.length=n) (hl:l.length=n) (g0:∀ x∈g,0≤x) (l0:∀ x∈l,0≤x):DM n (n*n) g l=[]↔g.sum<l.sum:=by
  constructor
  · intro h
    refine Int.lt_of_not_ge fun hs=>lists_feas (n*n) g l (Nat.le_refl _) hg hl g0 l0 ?_ (.inr fun c hc=>?_) h
    · have:pF n (n*n)=0:=by unfold pF;simp
      rw [this,List.drop_zero];exact hs
    · have:pT n (n*n)=0:=by unfold pT;simp
      omega
  · intro h
    cases hL:DM n (n*n) g l with
    | nil=>rfl
    | cons z r=>
      have hz:z∈DM n (n*n) g l:=by rw [hL];simp
      have h1:=(lists_sum _ _ _ l0 z hz).1;have h2:=lists_give _ _ _ g0 z hz;omega
structure Pool (h nd:List Int) (b:Int):Prop where
  some:0<h.length
  few:h.length≤4
  same:nd.length=h.length
  each:∀ i,i<h.length→inB (h.getD i 0) 0 50=true∧inB (nd.getD i 0) 0 50=true
  bale:1≤b∧b≤10
theorem pool_of {h nd:List Int} {b:Int} (e:DR h nd b=0):Pool h nd b:=by
  unfold DR at e
  split at e
  · cases e
  split at e
  · cases e
  split at e
  · cases e
  split at e
  · cases e
  split at e
  · cases e
  rename_i h1 h2 h3 h4 h5
  exact ⟨by omega,by omega,by omega,Classical.not_not.1 h4,by simpa [inB] using h5⟩
section
variable {h nd:List Int} {b:Int}
theorem OP:(FN h nd b).length=h.length:=by simp [FN]
theorem RD:(FQ h nd b).length=h.length:=by simp [FQ]
theorem OO (hb:1≤b) (i:Nat):0≤CQ h nd b i:=by
  unfold CQ;split
  · exact Int.ediv_nonneg (by omega) (by omega)
  · exact Int.le_refl _
theorem RC (hb:1≤b) (i:Nat):0≤EI h nd b i:=by
  unfold EI;split
  · exact Int.le_refl _
  · exact Int.ediv_nonneg (by omega) (by omega)
theorem givesM_nonneg (hb:1≤b):∀ x∈FN h nd b,0≤x:=fun x hx=>by
  obtain ⟨i,_,rfl⟩:=List.mem_map.1 hx;exact OO hb i
theorem getsM_nonneg (hb:1≤b):∀ x∈FQ h nd b,0≤x:=fun x hx=>by
  obtain ⟨i,_,rfl⟩:=List.mem_map.1 hx;exact RC hb i
theorem giveOf_le (hb:1≤b) {m:Int} {i:Nat} (hm:0≤m) (h1:h.getD i 0≤m) (h2:0≤nd.getD i 0):CQ h nd b i≤m:=by
  unfold CQ;split
  · rename_i e
    have:=Int.ediv_le_self (a:=h.getD i 0-nd.getD i 0) b (by omega);omega
  · exact hm
theorem getOf_le (hb:1≤b) {m:Int} {i:Nat} (hm:0≤m) (h1:nd.getD i 0≤m) (h2:0≤h.getD i 0):EI h nd b i≤m:=by
  unfold EI;split
  · exact hm
  · rename_i e
    refine Int.ediv_le_of_le_mul (by omega) ?_;have h4:(nd.getD i 0-h.getD i 0-1)*1≤(nd.getD i 0-h.getD i 0-1)*b:=Int.mul_le_mul_of_nonneg_left hb (by omega);have h6:(nd.getD i 0-h.getD i 0-1)*b=(nd.getD i 0-h.getD i 0)*b-b:=by rw [Int.sub_mul];omega
    have h7:(nd.getD i 0-h.getD i 0)*b≤m*b:=Int.mul_le_mul_of_nonneg_right (by omega) (by omega);omega
end
def divE (h nd:List Int) (b:Int):List Cart × Int:=
  if DR h nd b≠0 then ([],DR h nd b) else if (FN h nd b).sum<(FQ h nd b).sum then ([],11) else ((firstD h.length (FN h nd b) (FQ h nd b)).getD [],0)
section
variable {h nd:List Int} {b:Int}
theorem poolErr_1 (h0:h.length=0):DR h nd b=7:=if_pos h0
theorem poolErr_2 (h1:4<h.length):DR h nd b=6:=by unfold DR;rw [if_neg (by omega),if_pos h1]
theorem poolErr_3 (h0:¬ h.length=0) (h1:¬ 4<h.length) (h2:nd.length≠h.length):DR h nd b=2:=by unfold DR;rw [if_neg h0,if_neg h1,if_pos h2]
theorem poolErr_4 (h0:¬ h.length=0) (h1:¬ 4<h.length) (h2:nd.length=h.length) {i:Nat} (hi:i<h.length) (hb:(!inB (h.getD i 0) 0 50||!inB (nd.getD i 0) 0 50)=true):DR h nd b=1:=by
  unfold DR;rw [if_neg h0,if_neg h1,if_neg (by omega),if_pos];intro ha;obtain ⟨a1,a2⟩:=ha i hi;rw [a1,a2] at hb;cases hb
theorem poolErr_5 (h0:¬ h.length=0) (h1:¬ 4<h.length) (h2:nd.length=h.length) (ha:∀ i,i<h.length→inB (h.getD i 0) 0 50=true∧inB (nd.getD i 0) 0 50=true) (hb:inB b 1 10=false):DR h nd b=1:=by
  unfold DR;rw [if_neg h0,if_neg h1,if_neg (by omega),if_neg (fun x=>x ha),if_pos hb]
theorem poolErr_6 (h0:¬ h.length=0) (h1:¬ 4<h.length) (h2:nd.length=h.length) (ha:∀ i,i<h.length→inB (h.getD i 0) 0 50=true∧inB (nd.getD i 0) 0 50=true) (hb:inB b 1 10=true):DR h nd b=0:=by
  unfold DR;rw [if_neg h0,if_neg h1,if_neg (by omega),if_neg (fun x=>x ha),if_neg (by rw [hb];decide)]
theorem KE {p:Nat→Prop} {k:Nat} (h:∀ i,i<k→p i) (hk:p k):∀ i,i<k+1→p i:=fun i hi=>by
  by_cases e:i=k
  · subst e;exact hk
  · exact h i (by omega)
end
end Go.Sh
namespace Go.Proofs.YtgcemienebmdeaaGreat
open Go Go.Sl Go.Sh
set_option maxRecDepth 100000
noncomputable def cIn (p:List Nat):Code:=sub (JG Tryz.f97) p
theorem MC (I:Imm) (n:Int) (lo:Int) (hi:Int):CtV Tryz.prog 97 #[vI n,vI lo,vI hi] I (.bool (inB n lo hi)):=by
 refine fr (args:=[_,_,_]) (N:=15) Tryz.func97 (fun F=>?_);show Run _ _ (cIn []) _ _ [(0,vI n),(1,vI lo),(2,vI hi)] _ _;refine rnm (rqr ?_);refine sp 1 [(6,.bool false)] (se (rq ?_));refine BV (fun a w=>SE 15 [(6,.bool ((cmp .leq lo n)&&(cmp .leq n hi)))] I F a w) ?_ ?_
 ·
  refine rr (sp 4 [(10,.bool (cmp .leq lo n))] ?_);refine BB 10 rfl (fun h1=>?_) (fun h1=>?_)
  ·
   have a0:=h1;have a0:=leq_t a0;refine sp 5 [(6,.bool (cmp .leq n hi))] (ee ?_);refine AL (fun a w hS hD hW=>⟨hS.sub (.consE 6 rfl (congrArg Value.bool (by simp only [h1,kk])) (.nil _)),hD,hW⟩)
  have a0:=h1;have a0:=leq_f a0;refine sp 5 [(6,.bool false)] (ee ?_);refine AL (fun a w hS hD hW=>⟨hS.sub (.consE 6 rfl (congrArg Value.bool (by simp only [h1,kk])) (.nil _)),hD,hW⟩)
 rintro a w ⟨hS,hD,hW⟩
 refine AU hS hD hW ?_;refine BD (rt1 6 rfl (IR _) ?_);exact ⟨by simp [inB,cmp],rfl⟩
noncomputable def cBt (p:List Nat):Code:=sub (JG Tryz.f99) p
theorem DA (I:Imm) (n:Int) (lo:Int) (hi:Int):CtV Tryz.prog 99 #[vI n,vI lo,vI hi] I (.bool (inB n lo hi)):=by
 refine fr (args:=[_,_,_]) (N:=15) Tryz.func99 (fun F=>?_);show Run _ _ (cBt []) _ _ [(0,vI n),(1,vI lo),(2,vI hi)] _ _;refine rnm (rqr ?_);refine sp 1 [(6,.bool false)] (se (rq ?_));refine BV (fun a w=>SE 15 [(6,.bool ((cmp .leq lo n)&&(cmp .leq n hi)))] I F a w) ?_ ?_
 ·
  refine rr (sp 4 [(10,.bool (cmp .leq lo n))] ?_);refine BB 10 rfl (fun h1=>?_) (fun h1=>?_)
  ·
   have a0:=h1;have a0:=leq_t a0;refine sp 5 [(6,.bool (cmp .leq n hi))] (ee ?_);refine AL (fun a w hS hD hW=>⟨hS.sub (.consE 6 rfl (congrArg Value.bool (by simp only [h1,kk])) (.nil _)),hD,hW⟩)
  have a0:=h1;have a0:=leq_f a0;refine sp 5 [(6,.bool false)] (ee ?_);refine AL (fun a w hS hD hW=>⟨hS.sub (.consE 6 rfl (congrArg Value.bool (by simp only [h1,kk])) (.nil _)),hD,hW⟩)
 rintro a w ⟨hS,hD,hW⟩
 refine AU hS hD hW ?_;refine BD (rt1 6 rfl (IR _) ?_);exact ⟨by simp [inB,cmp],rfl⟩
noncomputable def c_checkDivide:=cod Tryz.f115
theorem checkDivide_ct (I:Imm) (a:Value) (h:List Int) (c:Value) (nd:List Int) (b:Int) (a_f:CK I a h) (c_f:CK I c nd):CtV Tryz.prog 115 #[a,c,vI b] I (vI (DR h nd b)):=by
 obtain ⟨a4,a5,c1,c4,rfl,c2,c3,b7⟩:=id a_f;obtain ⟨a6,a7,c5,c8,rfl,c6,c7,b8⟩:=id c_f;refine fr (args:=[_,_,_]) (N:=45) Tryz.func115 (fun F=>?_);show Run _ _ (c_checkDivide []) _ _ [(0,_),(1,_),(2,_)] _ _;refine rnm (rqr ?_);refine sp 1 [(6,vI 0)] (se (rq (rb 0 (rqr (sp 4 [(8,.bool (cmp .eql (↑(h.length)) 0))] (se (rc 8 rfl (fun h1=>?_) (fun h1=>?_))))))))
 ·
  have a8:=h1;have h1:=BE h1;refine rqr (sp 1 [(6,vI 7)] (se (BD (RB (RP (rt1 6 rfl (IR _) ?_))))));exact ⟨congrArg (Value.int .i64) (poolErr_1 (by omega)).symm,rfl⟩
 have a8:=h1;have h1:=BG h1;refine rqr (sp 4 [(12,.bool (cmp .gtr (↑(h.length)) 4))] (se (rc 12 rfl (fun h2=>?_) (fun h2=>?_))))
 ·
  have a9:=h2;have h2:=JY h2;refine rqr (sp 1 [(6,vI 6)] (se (BD (RB (RP (rt1 6 rfl (IR _) ?_))))));exact ⟨congrArg (Value.int .i64) (poolErr_2 (by omega)).symm,rfl⟩
 have a9:=h2;have h2:=MB h2;refine rqr (sp 6 [(16,.bool (!(cmp .eql (↑(nd.length)) (↑(h.length)))))] (se (rc 16 rfl (fun h3=>?_) (fun h3=>?_))))
 ·
  have b0:=h3;have h3:=BG (BF h3);refine rqr (sp 1 [(6,vI 2)] (se (BD (RB (RP (rt1 6 rfl (IR _) ?_))))));exact ⟨congrArg (Value.int .i64) (poolErr_3 (by omega) (by omega) (by omega)).symm,rfl⟩
 have b0:=h3;have h3:=BE (BC h3);refine AM (NB (NX (rq (rqr (sp 3 [(24,vI 0),(23,vI (↑(h.length)))] (se (rb 1 ?_)))))));refine rl (fun mz a w=>∃ k:Nat,(k≤h.length)∧(∀ i,i<k→inB (h.getD i 0) 0 50=true∧inB (nd.getD i 0) 0 50=true)∧SD 45 [(24,vI ↑k),(0,vS a4 h.length a5),(1,vS a6 nd.length a7),(2,vI b),(23,vI (↑(h.length)))] I F a w (mz=h.length-k)) ?_ ?_
 ·intro a w hS hD hW;exact ⟨_,0,Nat.zero_le _,(fun i hi=>by omega),hS.sub su,hD,hW,rfl⟩
 rintro mz a w ⟨k,hk,ha,hS,hD,hW,rfl⟩
 refine AU hS hD hW ?_;clear hS hD hW a w;refine rqr (sp 1 [(25,.bool (cmp .lss ↑k (↑(h.length))))] (se (rq (rc 25 rfl (fun h4=>?_) (fun h4=>?_)))))
 ·
  have b1:=h4;have h4:=BX h4;refine AM (NX (rq (rb 2 (rqr (sp 2 [(7,vI ↑k)] (se (rq ?_)))))));refine BV (fun a w=>SE 45 [(0,vS a4 h.length a5),(1,vS a6 nd.length a7),(2,vI b),(23,vI (↑(h.length))),(24,vI ↑k),(40,.bool ((!(inB (h.getD k 0) 0 50))||(!(inB (nd.getD k 0) 0 50))))] I F a w) ?_ ?_
  ·
   refine rr (sp 2 [(28,vI ↑k),(27,vS a4 h.length a5)] (sd (di 29 1 k b7.addr) (sd (dl 30 (DG b7 k (by omega))) (sd (dc 31 (fun I' hI=>(MC I' (h.getD k 0) 0 50 :))) (sp 2 [(33,.bool (!(inB (h.getD k 0) 0 50)))] ?_)))));refine BB 33 rfl (fun h5=>?_) (fun h5=>?_)
   ·
    have a0:=h5;have a0:=BF a0;have a3:=HK a0;refine sp 7 [(40,.bool true)] (ee ?_);refine AL (fun a w hS hD hW=>⟨hS.sub (sun 5 (.consE 40 rfl (congrArg Value.bool (by simp only [h5,kk])) (.nil _))),hD,hW⟩)
   have a0:=h5;have a0:=BC a0;have a3:=DB a0;refine sp 2 [(35,vI ↑k),(34,vS a6 nd.length a7)] (sd (di 36 1 k b8.addr) (sd (dl 37 (DG b8 k (by omega))) (sd (dc 38 (fun I' hI=>(MC I' (nd.getD k 0) 0 50 :))) (sp 2 [(40,.bool (!(inB (nd.getD k 0) 0 50)))] (ee ?_)))));refine AL (fun a w hS hD hW=>⟨hS.sub (sun 5 (.consE 40 rfl (congrArg Value.bool (by simp only [h5,kk])) (.nil _))),hD,hW⟩)
  rintro a w ⟨hS,hD,hW⟩
  refine AU hS hD hW ?_;clear hS hD hW a w;refine rc 40 rfl (fun h6=>?_) (fun h6=>?_)
  ·
   have b4:=h6;refine rqr (sp 1 [(6,vI 1)] (se (BD (RB (RP (RP (RB (RP (rt1 6 rfl (IR _) ?_)))))))));exact ⟨congrArg (Value.int .i64) (poolErr_4 (by omega) (by omega) (by omega) (i:=k) (by omega) h6).symm,rfl⟩
  have b4:=h6;obtain ⟨a1,a2⟩:=or_f h6;have a1:=BC a1;have b2:=DB a1;have a2:=BC a2;have b3:=DB a2;refine AM (NB (NX (rr (sd (da 41 ↑k 1) (sp 1 [(24,vI (↑k+1))] (ee ?_))))));refine AO (h.length-(k+1)) (by omega) ?_;intro a w hS hD hW;exact ⟨k+1,by omega,KE ha ⟨a1,a2⟩,hS.sub su,hD,hW,rfl⟩
 have b1:=h4;have h4:=CF h4;refine BR 1 (EP (EP (EB (NX (rq (rqr (sp 1 [(42,vI b)] (sd (dc 43 (fun I' hI=>(MC I' b 1 10 :))) (sp 1 [(44,.bool (!(inB b 1 10)))] (se (rc 44 rfl (fun h7=>?_) (fun h7=>?_))))))))))))
 ·
  have b6:=h7;have h7:=BF h7;have b5:=HK h7;refine rqr (sp 1 [(6,vI 1)] (se (BD (RP (rt1 6 rfl (IR _) ?_)))));exact ⟨congrArg (Value.int .i64) (poolErr_5 (by omega) (by omega) (by omega) (fun i hi=>ha i (by omega)) h7).symm,rfl⟩
 have b6:=h7;have h7:=BC h7;have b5:=DB h7;refine AM (NX (rqr (sp 1 [(6,vI 0)] (se (BD (rt1 6 rfl (IR _) ?_))))));exact ⟨congrArg (Value.int .i64) (poolErr_6 (by omega) (by omega) (by omega) (fun i hi=>ha i (by omega)) h7).symm,rfl⟩
end Go.Proofs.YtgcemienebmdeaaGreat

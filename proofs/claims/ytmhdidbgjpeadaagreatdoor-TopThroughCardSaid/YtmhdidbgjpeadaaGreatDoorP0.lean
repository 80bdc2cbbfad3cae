/- A part of the proof of the laws of this seat. -/
import Derived.Orders
import Derived.Tactics
import Derived.Defers
import Derived.KernelRfl
import Derived.Below
import Derived.Deep.LoopGhost
import Derived.CallsIn
import Derived.RangeFuncIn
import Derived.RangeFuncLeaves
import Derived.IntWalk
set_option linter.unusedVariables false
set_option linter.unusedSimpArgs false
namespace Go
abbrev Aa:=@List.append_nil
abbrev Ab:=@List.mem_append
abbrev Ac:=@List.mem_cons
abbrev Ad:=@List.length_append
abbrev Ae:=@Nat.zero_le
abbrev Af:=@List.mem_singleton
abbrev Ag:=@List.mem_cons_of_mem
abbrev Ah:=@Bool.and_eq_true
abbrev Ai:=@List.mem_map
abbrev Aj:=@List.mem_cons_self
abbrev Ak:=@List.mem_map_of_mem
abbrev Al:=@decide_eq_false_iff_not
abbrev Am:=@List.append_assoc
abbrev An:=@List.mem_of_getElem?
abbrev Ao:=@Nat.eq_of_beq_eq_true
abbrev Ap:=@Array.getElem?_eq_some_iff
abbrev Aq:=@List.length_cons
abbrev Au:=@List.nodup_append
abbrev Av:=@List.not_mem_nil
abbrev Aw:=@List.map_cons
abbrev Ax:=@List.all_eq_true
abbrev Ay:=@decide_eq_true_eq
abbrev Az:=@List.perm_middle
abbrev Ba:=@List.map_append
abbrev Bb:=@List.mem_append_right
abbrev Bc:=@List.getElem?_eq_some_iff
abbrev Bd:=@List.mem_append_left
abbrev Be:=@List.length_take
abbrev Bf:=@List.getElem?_eq_getElem
abbrev Bg:=@decide_eq_true
abbrev Bh:=@List.mem_filter
abbrev Bi:=@List.length_map
abbrev Bj:=@Nat.le_refl
abbrev Bk:=@List.getElem?_set_ne
abbrev Bl:=@List.mem_range
abbrev Bm:=@Option.some.inj
abbrev Bn:=@Nat.le_of_ble_eq_true
abbrev Bo:=@List.Perm.append_left
abbrev Bp:=@List.getElem?_set_self
abbrev Bq:=@List.take_of_length_le
abbrev Br:=@decide_eq_false
abbrev Bs:=@Prod.mk.injEq
abbrev Bt:=@List.getElem?_append_left
abbrev Bu:=@of_decide_eq_true
abbrev Bv:=@List.length_set
abbrev Bw:=@Bool.or_eq_true
abbrev Bx:=@Int.toNat_natCast
abbrev Bz:=@Bool.false_eq_true
abbrev Ca:=@List.getD_cons_succ
abbrev Cb:=@List.nodup_cons
abbrev Cc:=@List.mem_iff_getElem
abbrev Cd:=@List.length_filter_le
abbrev Ce:=@List.take_append_drop
abbrev Cf:=@List.getD_cons_zero
abbrev Cg:=@List.length_nil
abbrev Ch:=@List.drop_eq_getElem_cons
abbrev Ci:=@List.cons_append
abbrev Cj:=@Option.some.injEq
abbrev Ck:=@Bool.not_eq_true'
abbrev Cm:=@List.filter_append
abbrev Cn:=@List.getElem?_append_right
abbrev Co:=@List.flatten_cons
abbrev Cp:=@List.mem_or_eq_of_mem_set
abbrev Cq:=@List.length_drop
abbrev Cr:=@List.filter_cons
abbrev Cs:=@List.map_nil
abbrev Cu:=@Nat.sub_zero
abbrev Cv:=@Nat.le_trans
abbrev Cw:=@Option.map_some
abbrev Cx:=@List.append_of_mem
abbrev Cy:=@List.getElem?_map
abbrev Cz:=@List.flatMap_append
abbrev Da:=@List.getElem?_take
abbrev Db:=@List.getElem?_set
abbrev Dc:=@List.flatMap_cons
abbrev Dd:=@List.range_succ
abbrev De:=@List.nil_append
abbrev Df:=@Array.mem_append
abbrev Dg:=@List.eq_nil_of_length_eq_zero
abbrev Dh:=@Array.getElem?_append_left
abbrev Di:=@List.length_range
end Go
namespace Go.Sl
open Go
abbrev fen (ρ:Option Nat):Fence:={ Fence.wide with round:=ρ }
theorem QT (ρ:Option Nat) (n:Nat):(fen ρ).room n:=fun _ h=>by simp [fen,Fence.wide] at h
theorem stepsIn_fen {ρ:Option Nat} {P:Program} {m m':Machine}:StepsIn (Machine.fenced P (fen ρ)) P m m'↔Steps P m m':=stepsIn_wide
theorem callsIn_fen {ρ:Option Nat} {n:Nat} {P:Program} {f:FuncId} {args:Array Value} {w:World} {R:Ending→World→Prop}:CallsIn (fen ρ) n P f args w R↔Calls P f args w R:=by
  have:CallsIn (fen ρ) n P f args w R↔CallsIn Fence.wide n P f args w R:=Iff.rfl;exact this.trans callsIn_wide
theorem roundIn_fen {ρ : Option Nat} {n m : Nat} {P : Program} {l : Nat} {f : FuncId} {tmps : Array Value} {assign body : Code} {w : World} {R : Ending → World → Prop} :
    RoundIn (fen ρ) n P l f tmps assign body w R↔RoundIn (fen none) m P l f tmps assign body w R:=
  ⟨fun h=>⟨trivial,fun c cs _=>h.2 c cs (QT _ _)⟩,fun h=>⟨trivial,fun c cs _=>h.2 c cs (QT _ _)⟩⟩
section
variable {ρ:Option Nat} {P:Program} {ops:Array Oper} {Q:Exit→Act→World→Prop}
def ON (ρ:Option Nat) (P:Program) (ops:Array Oper) (Q:Exit→Act→World→Prop) (i:Nat) (K:Act→World→Prop) (a:Act) (w:World):Prop:=
  match ops[i]? with
  | none=>K a w
  | some o=>if Region.wanted o (yielded ops a.tmps) then o.wpIn (fen ρ) 0 P a w K Q else K (a.put o.dst undef) w
theorem wpOpsC_cons (i:Nat) (rest:List Nat) (a:Act) (w:World):wpOpsIn (fen ρ) 0 P ops Q (i::rest) a w↔ON ρ P ops Q i (wpOpsIn (fen ρ) 0 P ops Q rest) a w:=by
  cases h:ops[i]? with
  | none=>simp [wpOpsIn,ON,h]
  | some o=>
    simp only [wpOpsIn,ON,h]
    split
    · exact Iff.rfl
    · exact ⟨fun x=>x.2,fun x=>⟨fun _ _=>trivial,x⟩⟩
theorem uponC_mono {o:Oper} {a:Act} {K K':Act→World→Prop} (h:∀ a w,K a w→K' a w) {r:Result Next} (hh:o.uponIn (fen ρ) 0 P a K Q r):o.uponIn (fen ρ) 0 P a K' Q r:=by
  cases r with
  | ok n w=>
    cases n <;> simp only [Oper.uponIn] at hh ⊢
    case value v=>exact h _ _ hh
    case skip=>exact h _ _ hh
    case defer d=>exact h _ _ hh
    case enter f args=>exact ⟨hh.1,hh.2.mono fun e w' x=>by cases e <;> first | exact h _ _ x | exact x⟩
    case row r args=>exact ⟨hh.1,hh.2.mono fun v w' x=>h _ _ x⟩
    case round l f tmps asg bd=>exact ⟨hh.1,hh.2.mono fun e w' x=>by cases e <;> first | exact h _ _ x | exact x⟩
    all_goals exact hh
  | halt x w=>cases x <;> exact hh
theorem wpOpC_mono {i:Nat} {a:Act} {w:World} {K K':Act→World→Prop} (h:∀ a w,K a w→K' a w) (hh:ON ρ P ops Q i K a w):ON ρ P ops Q i K' a w:=by
  unfold ON at *;cases ho:ops[i]? with
  | none=>rw [ho] at hh;exact h _ _ hh
  | some o=>
    rw [ho] at hh;simp only at hh ⊢
    split
    · rename_i hw;rw [if_pos hw] at hh;exact ⟨hh.1,uponC_mono h hh.2⟩
    · rename_i hw;rw [if_neg hw] at hh;exact h _ _ hh
def wpAnyC (ρ:Option Nat) (P:Program) (md:Region.Mode) (ops:Array Oper) (Q:Exit→Act→World→Prop):Nat→Array Bool→Act→World→Prop
  | 0,listed,a,w=>Region.ready md ops listed=[]∧Q .normal a w
  | fuel+1,listed,a,w=>
    (Region.ready md ops listed=[]→Q .normal a w) ∧
    ∀ i∈Region.ready md ops listed,ON ρ P ops Q i (wpAnyC ρ P md ops Q fuel (listed.setIfInBounds i true)) a w
theorem wpAnyC_sound {md : Region.Mode} : ∀ (fuel t : Nat) (listed : Array Bool) (a : Act) (w : World), wpAnyC ρ P md ops Q fuel listed a w →
    wpOpsIn (fen ρ) 0 P ops Q (Region.linearise.go md ops fuel t listed []) a w:=by
  intro fuel
  induction fuel with
  | zero=>intro t listed a w h;simpa [Region.linearise.go,wpOpsIn] using h.2
  | succ fuel ih=>
    intro t listed a w h;obtain ⟨h₀,h₁⟩:=h;simp only [Region.linearise.go]
    change wpOpsIn (fen ρ) 0 P ops Q (match (Region.ready md ops listed)[t%(Region.ready md ops listed).length]? with
      | some i=>Region.linearise.go md ops fuel (t/(Region.ready md ops listed).length) (listed.setIfInBounds i true) [i]
      | none=>[].reverse) a w
    cases hi:(Region.ready md ops listed)[t%(Region.ready md ops listed).length]? with
    | none=>
      have hnil:Region.ready md ops listed=[]:=by
        cases hr:Region.ready md ops listed with
        | nil=>rfl
        | cons x xs=>
          rw [hr] at hi;have hlt:t%(x::xs).length<(x::xs).length:=Nat.mod_lt _ (by simp);simp at hi;simp at hlt;omega
      simpa [wpOpsIn] using h₀ hnil
    | some i=>
      simp only [];rw [linearise_go_acc,List.reverse_singleton,List.singleton_append,wpOpsC_cons];exact wpOpC_mono (fun a w=>ih _ _ a w) (h₁ i (An hi))
theorem wpIn_region_any {id : Nat} {a : Act} {w : World} (hm : P.follows .mixedOrders = true)
    (h:wpAnyC ρ P .any ops Q ops.size (Array.replicate ops.size false) a { w with drawn:=w.drawn+1 }):(Code.region id ops true).wpIn (fen ρ) 0 P Q a w:=
  wpIn_region_draw fun t=>by
    simp only [Region.schedule,hm,Bool.true_or,if_true];exact wpAnyC_sound ops.size t _ a _ h
end
section
variable {α:Type} {l₁ l₂ l₃:List α}
theorem PC (a:α) (h:l₁.Perm l₂):(a::l₁).Perm (a::l₂):=.cons a h
theorem PR (l:List α):l.Perm l:=.refl l
theorem PS (a b:α) (l:List α):(b::a::l).Perm (a::b::l):=.swap a b l
theorem PM {a:α} {l₁ l₂:List α}:(l₁++a::l₂).Perm (a::(l₁++l₂)):=Az
theorem PA (l:List α) (h:l₁.Perm l₂):(l++l₁).Perm (l++l₂):=.append_left l h
theorem PO (l₁ l₂ l₃:List α):(l₁++(l₂++l₃)).Perm (l₂++(l₁++l₃)):=List.perm_append_comm_assoc l₁ l₂ l₃
theorem PU {a:α} {l m n:List α} (h:l.Perm (m++n)):(a::l).Perm (m++a::n):=(PC a h).trans PM.symm
theorem PV {k l m n:List α} (h:l.Perm (m++n)):(k++l).Perm (m++(k++n)):=(PA k h).trans (PO _ _ _)
theorem PW {a:α} {l m n:List α} (h:(l++m).Perm n):(l++a::m).Perm (a::n):=PM.trans (PC a h)
theorem TC (a:α) (h:l₁.Sublist l₂):l₁.Sublist (a::l₂):=.cons a h
theorem TK (a:α) (h:l₁.Sublist l₂):(a::l₁).Sublist (a::l₂):=h.cons_cons a
theorem TR (l:List α):l.Sublist l:=.refl l
theorem TT (h:l₁.Sublist l₂) (k:l₂.Sublist l₃):l₁.Sublist l₃:=h.trans k
theorem TA (h:l₁.Sublist l₂) (l:List α):(l++l₁).Sublist (l++l₂):=h.append_left l
theorem TB (l₁ l₂:List α):l₂.Sublist (l₁++l₂):=List.sublist_append_right l₁ l₂
theorem LA {l₁ l₂:List α}:(l₁++l₂).length=l₁.length+l₂.length:=Ad
theorem LC {a:α} {l:List α}:(a::l).length=l.length+1:=Aq
theorem LN:([]:List α).length=0:=Cg
theorem LK {i:Nat} {l:List α}:(l.take i).length=min i l.length:=Be
theorem LD {i:Nat} {l:List α}:(l.drop i).length=l.length-i:=Cq
theorem LS {l:List α} {i:Nat} {a:α}:(l.set i a).length=l.length:=Bv
theorem AA (l₁ l₂ l₃:List α):(l₁++l₂)++l₃=l₁++(l₂++l₃):=Am l₁ l₂ l₃
theorem CA (a:α) (l₁ l₂:List α):(a::l₁)++l₂=a::(l₁++l₂):=rfl
theorem NA (l:List α):[]++l=l:=rfl
end
abbrev vI (n:Int):Value:=.int .i64 n
abbrev vP (b o:Nat):Value:=.pointer (some ⟨b,o,none⟩)
abbrev vN:Value:=.slice none 0 0
abbrev vS (p:Option Addr) (n c:Nat):Value:=.slice p n c
abbrev bX (b:Nat) (cs:Array Value) (T:TypeId):Nat × Obj:=(b,Obj.cells cs T (0,0))
abbrev bG (b:Nat) (n:Int):Nat × Obj:=bX b #[.int .u64 n] 58
theorem kA (b:Bool):(true&&b)=b:=Bool.true_and b
theorem kB (b:Bool):(false&&b)=false:=Bool.false_and b
theorem kC (b:Bool):(b&&true)=b:=Bool.and_true b
theorem kD (b:Bool):(b&&false)=false:=Bool.and_false b
theorem kE (b:Bool):(true||b)=true:=Bool.true_or b
theorem kF (b:Bool):(false||b)=b:=Bool.false_or b
theorem kG (b:Bool):(b||true)=true:=Bool.or_true b
theorem kH (b:Bool):(b||false)=b:=Bool.or_false b
theorem kI {α:Type} (a b:α):(bif true then a else b)=a:=cond_true a b
theorem kJ {α:Type} (a b:α):(bif false then a else b)=b:=cond_false a b
structure Imm where
  os:Os
  tape:Nat→Question→Nat
  output:Array (Nat × ByteArray)
  blk:Nat→Option Obj
abbrev Seg:=List (Nat × Obj)
structure Imm.le (I J:Imm):Prop where
  os:J.os=I.os
  tape:J.tape=I.tape
  output:J.output=I.output
  blk:∀ b o,I.blk b=some o→J.blk b=some o
theorem Imm.le.refl (I:Imm):I.le I:=⟨rfl,rfl,rfl,fun _ _ h=>h⟩
theorem Imm.le.trans {I J K:Imm} (h:I.le J) (k:J.le K):I.le K:=
  ⟨k.os.trans h.os,k.tape.trans h.tape,k.output.trans h.output,fun b o x=>k.blk b o (h.blk b o x)⟩
structure St (I:Imm) (M:Seg) (w:World):Prop where
  os:w.os=I.os
  tape:w.tape=I.tape
  output:w.output=I.output
  imm:∀ b o,I.blk b=some o→w.heap[b]?=some o
  mem:∀ b o,(b,o)∈M→w.heap[b]?=some o
  nodup:(M.map Prod.fst).Nodup
  disj:∀ b o,(b,o)∈M→I.blk b=none
theorem St.perm {I:Imm} {M M':Seg} {w:World} (h:St I M w) (p:M.Perm M'):St I M' w:=
  ⟨h.os,h.tape,h.output,h.imm,fun b o hm=>h.mem b o (p.mem_iff.2 hm),(p.map Prod.fst).nodup_iff.1 h.nodup,fun b o hm=>h.disj b o (p.mem_iff.2 hm)⟩
theorem St.drop {I:Imm} {x:Nat × Obj} {M:Seg} {w:World} (h:St I (x::M) w):St I M w:=
  ⟨h.os,h.tape,h.output,h.imm,fun b o hm=>h.mem b o (Ag _ hm),(Cb.1 h.nodup).2,fun b o hm=>h.disj b o (Ag _ hm)⟩
theorem St.sub {I:Imm} {M M':Seg} {w:World} (h:St I M w) (s:M'.Sublist M):St I M' w:=
  ⟨h.os,h.tape,h.output,h.imm,fun b o hm=>h.mem b o (s.subset hm),(s.map Prod.fst).nodup h.nodup,fun b o hm=>h.disj b o (s.subset hm)⟩
theorem St.less {I J:Imm} {M:Seg} {w:World} (h:St J M w) (le:I.le J):St I M w:=
  ⟨h.os.trans le.os,h.tape.trans le.tape,h.output.trans le.output,fun b o hb=>h.imm b o (le.blk b o hb),h.mem,h.nodup,fun b o hm=>by
    have:=h.disj b o hm
    cases hb:I.blk b with
    | none=>rfl
    | some x=>rw [le.blk b x hb] at this;cases this⟩
def Imm.add (I:Imm) (b:Nat) (o:Obj):Imm:={ I with blk:=fun c=>if c=b then some o else I.blk c }
theorem IR (I:Imm):I.le I:=Imm.le.refl I
theorem IT {I J K:Imm} (h:I.le J) (k:J.le K):I.le K:=Imm.le.trans h k
theorem Imm.le_add {I:Imm} {b:Nat} {o:Obj} (h:I.blk b=none):I.le (I.add b o):=
  ⟨rfl,rfl,rfl,fun c x hx=>by
    show (if c=b then some o else I.blk c)=some x
    split
    · rename_i e;subst e;rw [h] at hx;cases hx
    · exact hx⟩
theorem Imm.add_same (I:Imm) (b:Nat) (o:Obj):(I.add b o).blk b=some o:=by simp [Imm.add]
theorem St.freeze {I:Imm} {b:Nat} {o:Obj} {M:Seg} {w:World} (h:St I ((b,o)::M) w):St (I.add b o) M w:=
  ⟨h.os, h.tape, h.output, fun c x hx => by
      simp only [Imm.add] at hx
      split at hx
      · rename_i e;subst e;cases hx;exact h.mem _ _ (Aj)
      · exact h.imm c x hx,
    fun c x hm=>h.mem c x (Ag _ hm),(Cb.1 h.nodup).2,fun c x hm=>by
      simp only [Imm.add]
      split
      · rename_i e;subst e
        exact absurd (Ak (f:=Prod.fst) hm) (Cb.1 h.nodup).1
      · exact h.disj c x (Ag _ hm)⟩
def Obj.cell (o:Obj) (off:Nat):Option Value:=
  match o with
  | .cells c _ _=>c[off]?
  | _=>none
def Sees (I:Imm) (M:Seg) (a:Addr) (v:Value):Prop:=
  a.spot=none∧∃ cs T fz,((a.block,Obj.cells cs T fz)∈M∨I.blk a.block=some (.cells cs T fz))∧cs[a.off]?=some v
def Holds (I:Imm) (M:Seg) (r:Nat) (o:Obj):Prop:=(r,o)∈M∨I.blk r=some o
theorem Holds.heap {I:Imm} {M:Seg} {w:World} {r:Nat} {o:Obj} (h:Holds I M r o) (s:St I M w):w.heap[r]?=some o:=
  h.elim (s.mem r o) (s.imm r o)
theorem Sees.cell {I:Imm} {M:Seg} {w:World} {a:Addr} {v:Value} (h:Sees I M a v) (s:St I M w):w.cell? a=some v:=by
  obtain ⟨h1,cs,T,fz,hb,hc⟩:=h;have hh:w.heap[a.block]?=some (.cells cs T fz):=hb.elim (s.mem _ _) (s.imm _ _);simp [World.cell?,hh,h1,hc]
def ND:Obj→Bool
  | .cells ..=>true
  | _=>false
def DF:Value→Bool
  | .agg _ | .tuple _=>false
  | _=>true
def wpL (P:Program) {α:Type}:Sem α→(α→Seg→Prop)→Imm→Seg→Prop
  | .pure a,Q,_,M=>Q a M
  | .load _ a k,Q,I,M=>∃ v,Sees I M a v∧wpL P (k v) Q I M
  | .store _ a v k, Q, I, M => DF v = true ∧ a.spot = none ∧ ∃ i cs T fz, M[i]? = some (a.block, Obj.cells cs T fz) ∧ a.off < cs.size ∧ ¬ (fz.1 ≤ a.off ∧ a.off < fz.2) ∧
      wpL P k Q I (M.set i (a.block,.cells (cs.setIfInBounds a.off v) T fz))
  | .new o k,Q,I,M=>∀ b,wpL P (k b) Q I ((b,o)::M)
  | .shape r k,Q,I,M=>∃ o,Holds I M r o∧wpL P (k (match o with | .cells c e _=>some (e,c.size) | _=>none)) Q I M
  | .freeze _ _ _,_,_,_=>False
  | .frozen a k,Q,I,M=>∃ o,Holds I M a.block o∧wpL P (k (match o with | .cells _ _ (lo,hi)=>lo≤a.off&&a.off<hi | _=>false)) Q I M
  | .getObj r k,Q,I,M=>∃ o,Holds I M r o∧ND o=false∧wpL P (k o) Q I M
  | .setObj r o k,Q,I,M=>ND o=false∧∃ i o',M[i]?=some (r,o')∧ND o'=false∧wpL P k Q I (M.set i (r,o))
  | .choose q k,Q,I,M=>if q.forced then wpL P (k 0) Q I M else ∀ t,wpL P (k (q.cut t)) Q I M
  | .sys _ _,_,_,_=>False
  | .program k,Q,I,M=>wpL P (k P) Q I M
  | .mark _ k,Q,I,M=>wpL P k Q I M
  | .halt _,_,_,_=>False
theorem set_fst {M:Seg} {i:Nat} {r:Nat} {o o':Obj} (h:M[i]?=some (r,o')):(M.set i (r,o)).map Prod.fst=M.map Prod.fst:=by
  rw [List.map_set]
  apply List.ext_getElem?
  intro j;rw [Db]
  split
  · rename_i e;subst e
    have hl:i<M.length:=(Bc.1 h).1;have h2:M[i]=(r,o'):=by rw [Bf hl] at h;exact Bm h
    simp [hl,h2]
  · rfl
theorem St.new {I:Imm} {M:Seg} {w:World} (h:St I M w) (o:Obj):St I ((w.heap.size,o)::M) { w with heap:=w.heap.push o }:=by
  have old:∀ b x,w.heap[b]?=some x→(w.heap.push o)[b]?=some x:=fun b x hb=>by
    have:b<w.heap.size:=(Ap.1 hb).1;rw [Array.getElem?_push,if_neg (by omega)];exact hb
  have fresh:∀ b x,w.heap[b]?=some x→b≠w.heap.size:=fun b x hb e=>by
    have:b<w.heap.size:=(Ap.1 hb).1;omega
  refine ⟨h.os,h.tape,h.output,fun b x hb=>old b x (h.imm b x hb),fun b x hm=>?_,?_,fun b x hm=>?_⟩
  · rcases Ac.1 hm with e | hm
    · cases e;simp
    · exact old b x (h.mem b x hm)
  · refine Cb.2 ⟨fun hm=>?_,h.nodup⟩
    obtain ⟨⟨c,x⟩,hm,e⟩:=Ai.1 hm;exact fresh c x (h.mem c x hm) e
  · rcases Ac.1 hm with e | hm
    · cases e
      cases hI:I.blk w.heap.size with
      | none=>rfl
      | some y=>exact absurd rfl (fresh _ y (h.imm _ y hI))
    · exact h.disj b x hm
theorem St.more {I:Imm} {M:Seg} {w:World} (h:St I M w) (o:Obj):St I M (w.alloc o):=(h.new o).drop
theorem St.put {I : Imm} {M : Seg} {w w' : World} {i r : Nat} {o o' : Obj} (h : St I M w) (hi : M[i]? = some (r, o')) (ho : w'.os = w.os) (ht : w'.tape = w.tape) (hout : w'.output = w.output)
    (hr:w'.heap[r]?=some o) (hk:∀ b,b≠r→w'.heap[b]?=w.heap[b]?):St I (M.set i (r,o)) w':=by
  have hin:(r,o')∈M:=An hi;refine ⟨ho.trans h.os,ht.trans h.tape,hout.trans h.output,fun b x hb=>?_,fun b x hm=>?_,by rw [set_fst hi];exact h.nodup,fun b x hm=>?_⟩
  · rw [hk b (fun e=>by have:=h.disj r o' hin;rw [← e,hb] at this;cases this)];exact h.imm b x hb
  · rcases Cp hm with hm' | e
    · by_cases hbr:b=r
      · subst hbr
        obtain ⟨j,hj⟩:=List.mem_iff_getElem?.1 hm
        by_cases hji:j=i
        · subst hji
          have hl:j<M.length:=(Bc.1 hi).1;rw [Bp hl] at hj;cases hj;exact hr
        · rw [Bk (Ne.symm hji)] at hj
          exfalso
          have h1:(M.map Prod.fst)[j]?=some b:=by simp [hj]
          have h2:(M.map Prod.fst)[i]?=some b:=by simp [hi]
          obtain ⟨l1,e1⟩:=Bc.1 h1;obtain ⟨l2,e2⟩:=Bc.1 h2;exact hji ((List.getElem_inj h.nodup).1 (e1.trans e2.symm))
      · rw [hk b hbr];exact h.mem b x hm'
    · cases e;exact hr
  · have:b∈M.map Prod.fst:=by rw [← set_fst (o:=o) hi];exact Ak (f:=Prod.fst) hm
    obtain ⟨⟨c,y⟩,hm',e⟩:=Ai.1 this;simp only at e;subst e;exact h.disj c y hm'
theorem wpL_run {P : Program} {α : Type} (s : Sem α) : ∀ (Q : α → Seg → Prop) (I : Imm) (M : Seg) (w : World), wpL P s Q I M → St I M w →
    ∃ x w' M',s.run P w=.ok x w'∧Q x M'∧St I M' w':=by
  induction s with
  | pure a=>intro Q I M w h st;exact ⟨a,w,M,rfl,h,st⟩
  | load m a k ih=>
    intro Q I M w h st;obtain ⟨v,hs,h⟩:=h;obtain ⟨x,w',M',hr,hq,st'⟩:=ih v Q I M w h st;exact ⟨x,w',M',by simp only [Sem.run,hs.cell st];exact hr,hq,st'⟩
  | store m a v k ih=>
    intro Q I M w h st;obtain ⟨h1,h0,i,cs,T,fz,hi,hoff,hfz,h⟩:=h;have hh:w.heap[a.block]?=some (.cells cs T fz):=st.mem _ _ (An hi);have hcell:w.cell? a=some cs[a.off]:=by simp [World.cell?,hh,h0,hoff]
    have hfr:w.frozen? a=false:=by
      simp only [World.frozen?,hh];rcases fz with ⟨lo,hi'⟩
      simp only [Bool.and_eq_false_iff,Al]
      by_cases hlo:lo≤a.off
      · exact Or.inr (fun hh'=>hfz ⟨hlo,hh'⟩)
      · exact Or.inl hlo
    have st1:St I (M.set i (a.block,.cells (cs.setIfInBounds a.off v) T fz)) (w.setCell a v):=by
      refine st.put hi rfl rfl rfl ?_ (fun b hb=>Go.RowKit.Below.heap_setCell _ _ _ _ hb);simp only [World.setCell,Array.getElem?_modify,if_true,hh,Cw,h0];simp
    obtain ⟨x,w',M',hr,hq,st'⟩:=ih Q I _ _ h st1;refine ⟨x,w',M',?_,hq,st'⟩;cases v <;> first | (simp [DF] at h1;done) | (simp only [Sem.run,hcell,hfr];exact hr)
  | new o k ih=>
    intro Q I M w h st;obtain ⟨x,w',M',hr,hq,st'⟩:=ih w.heap.size Q I _ _ (h _) (st.new o);exact ⟨x,w',M',by simp only [Sem.run];exact hr,hq,st'⟩
  | shape r k ih=>
    intro Q I M w h st;obtain ⟨o,ho,h⟩:=h;obtain ⟨x,w',M',hr,hq,st'⟩:=ih _ Q I M w h st;refine ⟨x,w',M',?_,hq,st'⟩;have hh:=ho.heap st;simp only [Sem.run,World.shape?,hh];cases o <;> exact hr
  | freeze a n k ih=>intro Q I M w h st;exact h.elim
  | frozen a k ih=>
    intro Q I M w h st;obtain ⟨o,ho,h⟩:=h;obtain ⟨x,w',M',hr,hq,st'⟩:=ih _ Q I M w h st;refine ⟨x,w',M',?_,hq,st'⟩;have hh:=ho.heap st;simp only [Sem.run,World.frozen?,hh];cases o <;> exact hr
  | getObj r k ih=>
    intro Q I M w h st;obtain ⟨o,ho,hc,h⟩:=h;obtain ⟨x,w',M',hr,hq,st'⟩:=ih _ Q I M w h st;refine ⟨x,w',M',?_,hq,st'⟩;have hh:=ho.heap st;simp only [Sem.run,hh];cases o <;> first | (simp [ND] at hc;done) | exact hr
  | setObj r o k ih=>
    intro Q I M w h st;obtain ⟨_,i,o',hi,hc,h⟩:=h;have hh:w.heap[r]?=some o':=st.mem _ _ (An hi);have hl:r<w.heap.size:=(Ap.1 hh).1
    have st1:St I (M.set i (r,o)) { w with heap:=w.heap.setIfInBounds r o }:=
      st.put hi rfl rfl rfl (by simp [hl]) (fun b hb=>by simp only [];rw [Array.getElem?_setIfInBounds_ne (Ne.symm hb)])
    obtain ⟨x,w',M',hr,hq,st'⟩:=ih Q I _ _ h st1;refine ⟨x,w',M',?_,hq,st'⟩;simp only [Sem.run,hh];cases o' <;> first | (simp [ND] at hc;done) | exact hr
  | choose q k ih=>
    intro Q I M w h st;simp only [wpL] at h
    by_cases hf:q.forced=true
    · rw [if_pos hf] at h
      obtain ⟨x,w',M',hr,hq,st'⟩:=ih 0 Q I M w h st;exact ⟨x,w',M',by simp only [Sem.run,hf,if_true];exact hr,hq,st'⟩
    · rw [if_neg hf] at h
      obtain ⟨x,w',M',hr,hq,st'⟩:=ih _ Q I M { w with drawn:=w.drawn+1 } (h (w.tape w.drawn q)) ⟨st.os,st.tape,st.output,st.imm,st.mem,st.nodup,st.disj⟩;exact ⟨x,w',M',by simp only [Sem.run,hf];exact hr,hq,st'⟩
  | sys c k ih=>intro Q I M w h st;exact h.elim
  | program k ih=>
    intro Q I M w h st;obtain ⟨x,w',M',hr,hq,st'⟩:=ih P Q I M w h st;exact ⟨x,w',M',by simp only [Sem.run];exact hr,hq,st'⟩
  | mark m k ih=>
    intro Q I M w h st;obtain ⟨x,w',M',hr,hq,st'⟩:=ih Q I M w h st;exact ⟨x,w',M',by simp only [Sem.run];exact hr,hq,st'⟩
  | halt hlt=>intro Q I M w h st;exact h.elim
theorem AE {P : Program} {α β : Type} (s : Sem α) : ∀ (f : α → Sem β) (Q : β → Seg → Prop) (I : Imm) (M : Seg),
    wpL P (s >>= f) Q I M↔wpL P s (fun x M'=>wpL P (f x) Q I M') I M:=by
  induction s with
  | pure a=>intro f Q I M;exact Iff.rfl
  | load m a k ih=>intro f Q I M;exact exists_congr fun v=>and_congr Iff.rfl (ih v f Q I M)
  | store m a v k ih=>
    intro f Q I M;refine and_congr Iff.rfl (and_congr Iff.rfl (exists_congr fun i=>exists_congr fun cs=>exists_congr fun T=>exists_congr fun fz=>and_congr Iff.rfl (and_congr Iff.rfl (and_congr Iff.rfl ?_))));exact ih f Q I _
  | new o k ih=>intro f Q I M;exact forall_congr' fun b=>ih b f Q I _
  | shape r k ih=>intro f Q I M;exact exists_congr fun o=>and_congr Iff.rfl (ih _ f Q I M)
  | freeze a n k ih=>intro f Q I M;exact Iff.rfl
  | frozen a k ih=>intro f Q I M;exact exists_congr fun o=>and_congr Iff.rfl (ih _ f Q I M)
  | getObj r k ih=>intro f Q I M;exact exists_congr fun o=>and_congr Iff.rfl (and_congr Iff.rfl (ih _ f Q I M))
  | setObj r o k ih=>
    intro f Q I M;exact and_congr Iff.rfl (exists_congr fun i=>exists_congr fun o'=>and_congr Iff.rfl (and_congr Iff.rfl (ih f Q I _)))
  | choose q k ih=>
    intro f Q I M;show (if q.forced then wpL P ((k 0).bind f) Q I M else ∀ t,wpL P ((k (q.cut t)).bind f) Q I M)↔(if q.forced then wpL P (k 0) _ I M else ∀ t,wpL P (k (q.cut t)) _ I M)
    split
    · exact ih 0 f Q I M
    · exact forall_congr' fun t=>ih _ f Q I M
  | sys c k ih=>intro f Q I M;exact Iff.rfl
  | program k ih=>intro f Q I M;exact ih P f Q I M
  | mark m k ih=>intro f Q I M;exact ih f Q I M
  | halt h=>intro f Q I M;exact Iff.rfl
def DL (t:Nat):List (Nat × Value)→Option Value
  | []=>none
  | (k,v)::r=>bif Nat.beq k t then some v else DL t r
abbrev Sl:=List (Nat × Value)
structure Slots (N:Nat) (l:Sl) (a:Act):Prop where
  size:a.tmps.size=N
  get:∀ t v,DL t l=some v→a.tmps[t]?=some v
theorem DU (d:Nat) (v:Value) (l:Sl):DL d ((d,v)::l)=some v:=by simp [DL]
theorem BS {d t:Nat} (h:d≠t) (v:Value) (l:Sl):DL t ((d,v)::l)=DL t l:=by
  have:Nat.beq d t=false:=by
    cases e:Nat.beq d t with
    | false=>rfl
    | true=>exact absurd (Ao e) h
  simp [DL,this]
theorem Slots.put {N:Nat} {l:Sl} {a:Act} (h:Slots N l a) {d:Nat} (hd:d<N) (v:Value):Slots N ((d,v)::l) (a.put (some d) v):=by
  refine ⟨by simp [Act.put,h.size],fun t u hu=>?_⟩
  by_cases e:d=t
  · subst e
    rw [DU] at hu;cases hu;have:d<a.tmps.size:=by rw [h.size];exact hd
    simp [Act.put,this]
  · rw [BS e] at hu
    simp only [Act.put];rw [Array.getElem?_setIfInBounds_ne e];exact h.get t u hu
def Sub (l' l:Sl):Prop:=∀ t v,DL t l'=some v→DL t l=some v
theorem Sub.nil (l:Sl):Sub [] l:=fun _ _ h=>by cases h
theorem Sub.cons {l' l:Sl} (t:Nat) {v:Value} (h:DL t l=some v) (s:Sub l' l):Sub ((t,v)::l') l:=fun u w hu=>by
  by_cases e:t=u
  · subst e;rw [DU] at hu;cases hu;exact h
  · rw [BS e] at hu;exact s u w hu
theorem Sub.refl (l:Sl):Sub l l:=fun _ _ h=>h
theorem Slots.sub {N:Nat} {l l':Sl} {a:Act} (h:Slots N l a) (s:Sub l' l):Slots N l' a:=⟨h.size,fun t v hv=>h.get t v (s t v hv)⟩
def CB (l:Sl):Operand→Option Value
  | .tmp t=>DL t l
  | .const v=>some v
  | .global g=>some (.pointer (some ⟨g,0,none⟩))
  | .func f=>some (.func (.func f) #[] #[])
def rho (l:Sl) (x:Operand):Value:=(CB l x).getD undef
theorem BI {l:Sl} {x:Operand} {v:Value} (h:CB l x=some v):rho l x=v:=by simp [rho,h]
def KE (l:Sl) (x:Operand):Prop:=∃ v,CB l x=some v
def Res (P:Program) (K:Value→World→Prop):Result Next→Prop
  | .ok (.value v) w=>K v w
  | .ok .skip w=>K undef w
  | .ok (.enter f args) w=>Calls P f args w fun e w'=>∃ v,e=.returned v∧K v w'
  | .ok (.round l f tmps assign body) w=>RoundIn (fen none) 0 P l f tmps assign body w fun e w'=>∃ v,e=.returned v∧K v w'
  | _=>False
theorem Res.mono {P:Program} {K K':Value→World→Prop} {r:Result Next} (h:Res P K r) (hk:∀ v w,K v w→K' v w):Res P K' r:=by
  cases r with
  | ok n w=>cases n <;> simp only [Res] at h ⊢ <;> first | exact hk _ _ h | exact Calls.mono h fun e w' ⟨v,he,hv⟩=>⟨v,he,hk _ _ hv⟩ | exact RoundIn.mono h fun e w' ⟨v,he,hv⟩=>⟨v,he,hk _ _ hv⟩ | exact h
  | halt x w=>exact h
theorem Oper.wpIn_of_res {ρ : Option Nat} {P : Program} {o : Oper} {a : Act} {w : World} {K : Value → World → Prop} {Q : Exit → Act → World → Prop} {next : Act → World → Prop} (hd : ∀ c, o.op ≠ .defer c)
    (h:Res P K ((execOp a.eval o).run P w)) (hk:∀ v w',K v w'→next (a.put o.dst v) w'):o.wpIn (fen ρ) 0 P a w next Q:=by
  refine ⟨fun _ _=>trivial,?_⟩;rw [Oper.semAt_eq _ _ o hd]
  generalize (execOp a.eval o).run P w=r at h
  cases r with
  | ok n w'=>
    cases n <;> simp only [Res] at h <;> simp only [Oper.uponIn]
    case value v=>exact hk _ _ h
    case skip=>exact hk _ _ h
    case enter f args=>exact ⟨fun h=>by simp [fen,Fence.wide] at h,callsIn_fen.2 (h.mono fun e w'' ⟨v,he,hv⟩=>by subst he;exact hk _ _ hv)⟩
    case round l f tmps assign body=>exact ⟨fun h=>by simp [fen,Fence.wide] at h,roundIn_fen.2 (h.mono fun e w'' ⟨v,he,hv⟩=>by subst he;exact hk _ _ hv)⟩
  | halt x w'=>exact h.elim
def FL (ops:Array Oper) (l:Sl):Option (Nat × Bool)→Option Bool
  | none=>some true
  | some (j,want)=>
    match (ops[j]?).bind (·.dst) with
    | none=>some false
    | some t=>match DL t l with
      | some (.bool b)=>some (b == want)
      | some _=>some false
      | none=>none
theorem DI {ops : Array Oper} {l : Sl} {o : Oper} {b : Bool} {tm : Array Value} (hg : FL ops l o.guard = some b)
    (h:∀ t∈o.looksAt ops,∀ v,DL t l=some v→tm[t]?=some v):Region.wanted o (yielded ops tm)=b:=by
  unfold Region.wanted;cases hgd:o.guard with
  | none=>rw [hgd] at hg;simp only [FL] at hg;cases hg;rfl
  | some gw=>
    obtain ⟨j,want⟩:=gw;rw [hgd] at hg;simp only [FL] at hg;simp only [yielded];cases hj:(ops[j]?).bind (·.dst) with
    | none=>rw [hj] at hg;simp only at hg;cases hg;simp
    | some t=>
      rw [hj] at hg;simp only at hg;have hmem:t∈o.looksAt ops:=by simp [Oper.looksAt,hgd,hj]
      cases ht:DL t l with
      | none=>rw [ht] at hg;cases hg
      | some u=>
        rw [ht] at hg;have hu:=h t hmem u ht;simp only [Option.bind_some,hu];cases u <;> simp only at hg <;> cases hg <;> simp
def opOk (o:Oper) (N:Nat):Bool:=(match o.dst with | some d=>Nat.blt d N | none=>true)&&!(match o.op with | .select ..=>true | .defer _=>true | _=>false)
def PlainOp (o:Oper):Prop:=(∀ cs b,o.op≠.select cs b)∧(∀ c,o.op≠.defer c)
def FH (ops:Array Oper) (N i:Nat):Option (Option Tmp × Op × TypeId × Option (Nat × Bool)):=
  match ops[i]? with
  | some o=>bif opOk o N then some (o.dst,o.op,o.type,o.guard) else none
  | none=>none
theorem GQ {ops : Array Oper} {N i : Nat} {dst : Option Tmp} {op : Op} {ty : TypeId} {gd : Option (Nat × Bool)} (h : FH ops N i = some (dst, op, ty, gd)) :
    ∃ o,ops[i]?=some o∧o.dst=dst∧o.op=op∧o.type=ty∧o.guard=gd∧(∀ d,dst=some d→d<N)∧PlainOp o:=by
  unfold FH at h;cases ho:ops[i]? with
  | none=>rw [ho] at h;cases h
  | some o=>
    rw [ho] at h;simp only at h;cases hc:opOk o N with
    | false=>rw [hc] at h;cases h
    | true=>
      rw [hc] at h;simp only [cond_true,Cj,Bs] at h;obtain ⟨rfl,rfl,rfl,rfl⟩:=h;unfold opOk at hc;rw [Ah] at hc;refine ⟨o,rfl,rfl,rfl,rfl,rfl,fun d hd=>?_,fun cs b e=>?_,fun c e=>?_⟩
      · have h1:=hc.1
        rw [hd] at h1;exact Bn h1
      · have h2:=hc.2
        rw [e] at h2;cases h2
      · have h2:=hc.2
        rw [e] at h2;cases h2
def Det (P:Program) (N:Nat) (ops:Array Oper) (i:Nat) (l:Sl) (I:Imm) (R:Seg) (d:Nat) (v:Value):Prop:=
  ∃ o,ops[i]?=some o∧o.dst=some d∧d<N∧PlainOp o ∧
    ((FL ops l o.guard=some false∧v=undef) ∨
     (FL ops l o.guard=some true∧(∀ x∈o.op.operands,KE l x) ∧
       ∀ I' N' w,I.le I'→St I' (R++N') w→Res P (fun u w'=>u=v∧St I' (R++N') w') ((execOp (rho l) o).run P w)))
def ups (dst:Option Tmp) (v:Value) (l:Sl):Sl:=
  match dst with
  | some d=>(d,v)::l
  | none=>l
def Stp (P:Program) (N:Nat) (ops:Array Oper) (i:Nat) (l:Sl) (I:Imm) (M:Seg) (K:Sl→Imm→Seg→Prop):Prop:=
  ∃ o,ops[i]?=some o∧(∀ d,o.dst=some d→d<N)∧PlainOp o∧FL ops l o.guard=some true∧(∀ x∈o.op.operands,KE l x) ∧
    ∀ w,St I M w→Res P (fun v w'=>∃ I' M',I.le I'∧St I' M' w'∧K (ups o.dst v l) I' M') ((execOp (rho l) o).run P w)
theorem mem_looksAt {ops:Array Oper} {o:Oper} {t:Nat} (h:Operand.tmp t∈o.op.operands):t∈o.looksAt ops:=
  Bd _ (List.mem_filterMap.2 ⟨.tmp t,by simpa using h,rfl⟩)
theorem MA {ops : Array Oper} {l : Sl} {o : Oper} {a : Act} (hs : PlainOp o) (hk : ∀ x ∈ o.op.operands, KE l x)
    (h:∀ t∈o.looksAt ops,∀ v,DL t l=some v→a.tmps[t]?=some v):execOp a.eval o=execOp (rho l) o:=
  execOp_congr o hs.1 fun x hx=>by
    obtain ⟨v,hv⟩:=hk x hx;rw [BI hv];cases x with
    | tmp t=>simp only [CB] at hv;simp [Act.eval,h t (mem_looksAt hx) v hv]
    | const u=>simp only [CB] at hv;cases hv;rfl
    | global g=>simp only [CB] at hv;cases hv;rfl
    | func f=>simp only [CB] at hv;cases hv;rfl
def Seq {ρ:Option Nat} (P:Program) (N:Nat) (ops:Array Oper) (Q:Exit→Act→World→Prop) (ds:List Deferred) (i:Nat) (l:Sl) (I:Imm) (M:Seg):Prop:=
  ∀ a w,Slots N l a→a.defers=ds→St I M w→wpOpsIn (fen ρ) 0 P ops Q (List.range' i (ops.size-i)) a w
def Run {ρ:Option Nat} (P:Program) (N:Nat) (c:Code) (Q:Exit→Act→World→Prop) (ds:List Deferred) (l:Sl) (I:Imm) (M:Seg):Prop:=
  ∀ a w,Slots N l a→a.defers=ds→St I M w→c.wpIn (fen ρ) 0 P Q a w
def Pst (N:Nat) (Q:Exit→Act→World→Prop) (e:Exit) (ds:List Deferred) (l:Sl) (I:Imm) (M:Seg):Prop:=
  ∀ a w,Slots N l a→a.defers=ds→St I M w→Q e a w
section
variable {ρ:Option Nat} {P:Program} {N:Nat} {ops:Array Oper} {Q:Exit→Act→World→Prop} {ds:List Deferred} {i:Nat} {l:Sl} {I:Imm} {M:Seg}
theorem AX {c:Code} {a:Act} {w:World} (h1:Slots N l a) (h2:a.defers=ds) (h3:St I M w) (h:Run (ρ:=ρ) P N c Q ds l I M):c.wpIn (fen ρ) 0 P Q a w:=h a w h1 h2 h3
theorem FP (a:Act) (x:Option Tmp) (v:Value):(a.put x v).defers=a.defers:=by cases x <;> rfl
theorem IQ (h:i<ops.size):List.range' i (ops.size-i)=i::List.range' (i+1) (ops.size-(i+1)):=by
  have:ops.size-i=(ops.size-(i+1))+1:=by omega
  rw [this,List.range'_succ]
theorem seq_det {d:Nat} {v:Value} (h:Det P N ops i l I M d v) (next:Seq (ρ:=ρ) P N ops Q ds (i+1) ((d,v)::l) I M):Seq (ρ:=ρ) P N ops Q ds i l I M:=by
  obtain ⟨o,ho,hd,hN,hs,h⟩:=h;intro a w hS hD hW;have hlt:i<ops.size:=(Ap.1 ho).1;rw [IQ hlt];simp only [wpOpsIn,ho];have hag:∀ t∈o.looksAt ops,∀ u,DL t l=some u→a.tmps[t]?=some u:=fun t _ u hu=>hS.get t u hu
  rcases h with ⟨hg,rfl⟩ | ⟨hg,hk,hr⟩
  · rw [DI hg hag,if_neg (by simp),hd]
    exact ⟨fun _ _=>trivial,next _ _ (hS.put hN _) (by rw [FP];exact hD) hW⟩
  · rw [DI hg hag,if_pos rfl]
    have:=hr I [] w (Imm.le.refl I) (by rw [Aa];exact hW);rw [← MA hs hk hag] at this;refine Oper.wpIn_of_res hs.2 this fun u w' ⟨hu,hst⟩=>?_
    subst hu;rw [hd];exact next _ _ (hS.put hN _) (by rw [FP];exact hD) (by rw [Aa] at hst;exact hst)
theorem seq_stp (h:Stp P N ops i l I M (fun l' I' M'=>Seq (ρ:=ρ) P N ops Q ds (i+1) l' I' M')):Seq (ρ:=ρ) P N ops Q ds i l I M:=by
  obtain ⟨o,ho,hN,hs,hg,hk,hr⟩:=h;intro a w hS hD hW;have hlt:i<ops.size:=(Ap.1 ho).1;rw [IQ hlt];simp only [wpOpsIn,ho];have hag:∀ t∈o.looksAt ops,∀ u,DL t l=some u→a.tmps[t]?=some u:=fun t _ u hu=>hS.get t u hu
  rw [DI hg hag,if_pos rfl];have:=hr w hW;rw [← MA hs hk hag] at this;refine Oper.wpIn_of_res hs.2 this fun v w' ⟨I',M',_,hst,hK⟩=>?_
  cases hd:o.dst with
  | none=>rw [hd] at hK;exact hK _ _ hS hD hst
  | some d=>rw [hd] at hK;exact hK _ _ (hS.put (hN d hd) v) (by rw [FP];exact hD) hst
theorem seq_end (h:ops.size=i) (next:Pst N Q .normal ds l I M):Seq (ρ:=ρ) P N ops Q ds i l I M:=by
  intro a w hS hD hW;subst h;rw [Nat.sub_self];simp only [List.range'_zero,wpOpsIn];exact next a w hS hD hW
theorem BG (t:Nat) {v v':Value} (h:DL t l=some v) (e:v=v') (next:Seq (ρ:=ρ) P N ops Q ds i ((t,v')::l) I M):Seq (ρ:=ρ) P N ops Q ds i l I M:=by
  subst e;intro a w hS hD hW;exact next a w (hS.sub (.cons t h (.refl l))) hD hW
theorem run_re {c:Code} (t:Nat) {v v':Value} (h:DL t l=some v) (e:v=v') (next:Run (ρ:=ρ) P N c Q ds ((t,v')::l) I M):Run (ρ:=ρ) P N c Q ds l I M:=by
  subst e;intro a w hS hD hW;exact next a w (hS.sub (.cons t h (.refl l))) hD hW
theorem run_sub {c:Code} {l':Sl} (s:Sub l' l) (next:Run (ρ:=ρ) P N c Q ds l' I M):Run (ρ:=ρ) P N c Q ds l I M:=
  fun a w hS hD hW=>next a w (hS.sub s) hD hW
theorem run_mem {c:Code} {I':Imm} {M':Seg} (s:∀ w,St I M w→St I' M' w) (next:Run (ρ:=ρ) P N c Q ds l I' M'):Run (ρ:=ρ) P N c Q ds l I M:=
  fun a w hS hD hW=>next a w hS hD (s w hW)
theorem AM {I':Imm} {M':Seg} (s:∀ w,St I M w→St I' M' w) (next:Seq (ρ:=ρ) P N ops Q ds i l I' M'):Seq (ρ:=ρ) P N ops Q ds i l I M:=
  fun a w hS hD hW=>next a w hS hD (s w hW)
theorem run_region {c:Code} {id:Nat} (hc:c=.region id ops false) (h:Seq (ρ:=ρ) P N ops Q ds 0 l I M):Run (ρ:=ρ) P N c Q ds l I M:=by
  subst hc;intro a w hS hD hW;have:=h a w hS hD hW;rw [Cu,← List.range_eq_range'] at this;exact wpIn_region this
theorem run_seq {c x y:Code} (hc:c=.seq x y) (h:Run (ρ:=ρ) P N x (Exit.then (fun a w=>y.wpIn (fen ρ) 0 P Q a w) Q) ds l I M):Run (ρ:=ρ) P N c Q ds l I M:=by
  subst hc;exact fun a w hS hD hW=>wpIn_seq (h a w hS hD hW)
theorem pst_next {y:Code} {Q':Exit→Act→World→Prop} (h:Run (ρ:=ρ) P N y Q ds l I M):Pst N (Exit.then (fun a w=>y.wpIn (fen ρ) 0 P Q a w) Q') .normal ds l I M:=h
theorem pst_ret_pass {next:Act→World→Prop} (h:Pst N Q .ret ds l I M):Pst N (Exit.then next Q) .ret ds l I M:=h
theorem pst_exit_pass {next:Act→World→Prop} {id:Nat} (h:Pst N Q (.exit id) ds l I M):Pst N (Exit.then next Q) (.exit id) ds l I M:=h
theorem pst_ret_block {id:Nat} (h:Pst N Q .ret ds l I M):Pst N (Exit.inBlock id Q) .ret ds l I M:=h
theorem QM {id:Nat} (h:Pst N Q .normal ds l I M):Pst N (Exit.inBlock id Q) .normal ds l I M:=h
theorem pst_exit_block {id:Nat} (h:Pst N Q .normal ds l I M):Pst N (Exit.inBlock id Q) (.exit id) ds l I M:=
  fun a w hS hD hW=>by simp only [Exit.inBlock,if_true];exact h a w hS hD hW
theorem MS {id k:Nat} (hne:k≠id) (h:Pst N Q (.exit k) ds l I M):Pst N (Exit.inBlock id Q) (.exit k) ds l I M:=
  fun a w hS hD hW=>by simp only [Exit.inBlock,if_neg hne];exact h a w hS hD hW
theorem run_block {c x:Code} {id:Nat} (hc:c=.block id x) (h:Run (ρ:=ρ) P N x (Exit.inBlock id Q) ds l I M):Run (ρ:=ρ) P N c Q ds l I M:=by
  subst hc;exact fun a w hS hD hW=>wpIn_block (h a w hS hD hW)
theorem run_exit {c:Code} {id:Nat} (hc:c=.exit id) (h:Pst N Q (.exit id) ds l I M):Run (ρ:=ρ) P N c Q ds l I M:=by
  subst hc;exact fun a w hS hD hW=>wpIn_exit (h a w hS hD hW)
theorem run_label {c:Code} {id:Nat} (hc:c=.label id) (h:Pst N Q .normal ds l I M):Run (ρ:=ρ) P N c Q ds l I M:=by
  subst hc;exact fun a w hS hD hW=>wpIn_label (h a w hS hD hW)
theorem run_ret {c:Code} (hc:c=.ret) (h:Pst N Q .ret ds l I M):Run (ρ:=ρ) P N c Q ds l I M:=by
  subst hc;exact fun a w hS hD hW=>wpIn_ret (h a w hS hD hW)
theorem run_skip {c:Code} (hc:c=.skip) (h:Pst N Q .normal ds l I M):Run (ρ:=ρ) P N c Q ds l I M:=by
  subst hc;exact fun a w hS hD hW=>wpIn_skip (h a w hS hD hW)
theorem LF {l:Sl} {a:Act} {x:Operand} {v:Value} (hS:Slots N l a) (h:CB l x=some v):a.eval x=v:=by
  cases x with
  | tmp t=>simp only [CB] at h;simp [Act.eval,hS.get t v h]
  | const u=>simp only [CB] at h;cases h;rfl
  | global g=>simp only [CB] at h;cases h;rfl
  | func f=>simp only [CB] at h;cases h;rfl
theorem run_cond {c x y : Code} {t : Operand} {b : Bool} (hc : c = .cond t x y) (ht : CB l t = some (.bool b)) (h1 : b = true → Run (ρ := ρ) P N x Q ds l I M) (h2 : b = false → Run (ρ := ρ) P N y Q ds l I M) :
    Run (ρ:=ρ) P N c Q ds l I M:=by
  subst hc;exact fun a w hS hD hW=>wpIn_cond_split (LF hS ht) (fun hb=>h1 hb a w hS hD hW) (fun hb=>h2 hb a w hS hD hW)
theorem run_cond_true {c x y:Code} {t:Operand} (hc:c=.cond t x y) (ht:CB l t=some (.bool true)) (h:Run (ρ:=ρ) P N x Q ds l I M):Run (ρ:=ρ) P N c Q ds l I M:=
  run_cond hc ht (fun _=>h) (fun h=>by cases h)
theorem MT {c x y:Code} {t:Operand} (hc:c=.cond t x y) (ht:CB l t=some (.bool false)) (h:Run (ρ:=ρ) P N y Q ds l I M):Run (ρ:=ρ) P N c Q ds l I M:=
  run_cond hc ht (fun h=>by cases h) (fun _=>h)
theorem wpIn_loop_ghost {F : Fence} {n : Nat} {P : Program} {Q : Exit → Act → World → Prop} {a : Act} {w : World} {c : Code} (I : Nat → Act → World → Prop) (n₀ : Nat) (h₀ : I n₀ a w)
    (round:∀ m a w,I m a w→c.wpIn F n P (Exit.then (fun a' w'=>∃ n',n'<m∧I n' a' w') Q) a w):(Code.loop c).wpIn F n P Q a w:=by
  refine wpIn_loop (fun a w=>∃ n,I n a w) (fun a w=>leastOf (fun n=>I n a w)) ⟨n₀,h₀⟩ ?_;intro a w hI;refine wpIn_mono (round _ a w (leastOf_spec hI).1) ?_;intro e a' w' hq;cases e with
  | normal=>
    obtain ⟨n',hlt,hI'⟩:=hq;exact show (∃ n,I n a' w')∧leastOf (fun n=>I n a' w')<leastOf (fun n=>I n a w) from ⟨⟨n',hI'⟩,Nat.lt_of_le_of_lt ((leastOf_spec ⟨n',hI'⟩).2 n' hI') hlt⟩
  | exit id=>exact hq
  | goto l=>exact hq
  | ret=>exact hq
  | panic ch=>exact hq
  | outgrown=>exact hq
theorem run_loop {c x : Code} (hc : c = .loop x) (J : Nat → Act → World → Prop) (h0 : ∀ a w, Slots N l a → a.defers = ds → St I M w → ∃ n0, J n0 a w)
    (round:∀ n a w,J n a w→x.wpIn (fen ρ) 0 P (Exit.then (fun a' w'=>∃ n',n'<n∧J n' a' w') Q) a w):Run (ρ:=ρ) P N c Q ds l I M:=by
  subst hc;exact fun a w hS hD hW=>let ⟨n0,h⟩:=h0 a w hS hD hW;wpIn_loop_ghost J n0 h round
theorem AG {J : Nat → Act → World → Prop} {n : Nat} (n' : Nat) (hn : n' < n) (h : ∀ a w, Slots N l a → a.defers = ds → St I M w → J n' a w) :
    Pst N (Exit.then (fun a' w'=>∃ n',n'<n∧J n' a' w') Q) .normal ds l I M:=
  fun a w hS hD hW=>⟨n',hn,h a w hS hD hW⟩
theorem CD {c:Code} {J':Act→World→Prop} (J:Act→World→Prop) (h1:Run (ρ:=ρ) P N c (Exit.then J Q) ds l I M) (h2:∀ a w,J a w→J' a w):Run (ρ:=ρ) P N c (Exit.then J' Q) ds l I M:=fun a w hS hD hW=>
  wpIn_mono (h1 a w hS hD hW) fun e a' w' hq=>by cases e <;> first | exact h2 _ _ hq | exact hq
theorem AN {J:Act→World→Prop} (h:∀ a w,Slots N l a→a.defers=ds→St I M w→J a w):Pst N (Exit.then J Q) .normal ds l I M:=h
end
def sub:Code→List Nat→Code
  | c,[]=>c
  | .seq a b,k::p=>match k with | 0=>sub a p | _=>sub b p
  | .cond _ a b,k::p=>match k with | 0=>sub a p | _=>sub b p
  | .block _ a,_::p=>sub a p
  | .loop a,_::p=>sub a p
  | .scope a,_::p=>sub a p
  | .rangeFunc _ _ a b,k::p=>match k with | 0=>sub a p | _=>sub b p
  | _,_=>.skip
def KT (fn:Func):Code:=fn.body.getD .skip
def GR:Code→Array Oper
  | .region _ ops _=>ops
  | _=>#[]
def Ct (P:Program) (f:FuncId) (args:Array Value) (I:Imm) (pre:Seg) (post:Value→Imm→Seg→Prop):Prop:=
  ∀ F w,St I (pre++F) w→Calls P f args w fun e w'=>∃ v I' M',e=.returned v∧I.le I'∧post v I' M'∧St I' (M'++F) w'
def CtV (P:Program) (f:FuncId) (args:Array Value) (I:Imm) (v:Value):Prop:=Ct P f args I [] (fun u _ M'=>u=v∧M'=[])
def RetQ (P:Program) (fn:Func) (I:Imm) (post:Value→Imm→Seg→Prop) (F:Seg):Exit→Act→World→Prop:=
  bodyPost P fn fun e w'=>∃ v I' M',e=.returned v∧I.le I'∧post v I' M'∧St I' (M'++F) w'
def JK (k:Nat):List Value→Sl
  | []=>[]
  | v::r=>(k,v)::JK (k+1) r
theorem KO (vs:List Value):∀ (k t:Nat) (v:Value),DL t (JK k vs)=some v→k≤t∧vs[t-k]?=some v:=by
  induction vs with
  | nil=>intro k t v h;cases h
  | cons x vs ih=>
    intro k t v h
    by_cases e:k=t
    · subst e
      rw [JK,DU] at h;cases h;simp
    · rw [JK,BS e] at h
      obtain ⟨h1,h2⟩:=ih _ _ _ h;refine ⟨by omega,?_⟩;have:t-k=(t-(k+1))+1:=by omega
      rw [this]
      simpa using h2
theorem fn_of_run {P : Program} {f : FuncId} {fn : Func} {args : List Value} {I : Imm} {pre : Seg} {post : Value → Imm → Seg → Prop} {N : Nat} (hf : P.funcs[f]? = some fn) (hb : fn.body.isSome = true)
    (hN:fn.ntmps=N) (hle:args.length≤N)
    (h:∀ F,Run (ρ:=none) P N (KT fn) (RetQ P fn I post F) [] (JK 0 args) I (pre++F)):Ct P f args.toArray I pre post:=by
  intro F w st;have hbody:fn.body=some (KT fn):=by
    cases hx:fn.body with
    | none=>rw [hx] at hb;cases hb
    | some c=>simp [KT,hx]
  refine calls_of_wp hf hbody ((wpIn_wide (n:=0)).1 (h F _ w ⟨?_,fun t v hv=>?_⟩ rfl st))
  · simp;omega
  obtain ⟨_,h2⟩:=KO args 0 t v hv;rw [Cu] at h2;have hlt:t<args.length:=(Bc.1 h2).1;rw [Dh (by simpa using hlt)]
  simpa using h2
section
variable {P:Program} {N:Nat} {fn:Func} {I I₀:Imm} {post:Value→Imm→Seg→Prop} {F M:Seg} {l:Sl}
theorem KQ {t : Nat} {v : Value} (M' : Seg) (hr : fn.results = #[.tmp t]) (hv : DL t l = some v) (hs : (M' ++ F).Sublist M) (hle : I₀.le I) (hp : post v I M') :
    Pst N (RetQ P fn I₀ post F) .ret [] l I M:=fun a w hS hD hW=>
  ⟨hD,v,by rw [results_tmp hr];simp [hS.get t v hv],v,I,M',rfl,hle,hp,hW.sub hs⟩
theorem MH {t u : Nat} {v x : Value} (M' : Seg) (hr : fn.results = #[.tmp t, .tmp u]) (hv : DL t l = some v) (hx : DL u l = some x) (hs : (M' ++ F).Sublist M) (hle : I₀.le I) (hp : post (.tuple #[v, x]) I M') :
    Pst N (RetQ P fn I₀ post F) .ret [] l I M:=fun a w hS hD hW=>
  ⟨hD,.tuple #[v,x],by rw [results_tmp2 hr];simp [hS.get t v hv,hS.get u x hx],_,I,M',rfl,hle,hp,hW.sub hs⟩
theorem II {t u r : Nat} {v x y : Value} (M' : Seg) (hr : fn.results = #[.tmp t, .tmp u, .tmp r]) (hv : DL t l = some v) (hx : DL u l = some x) (hy : DL r l = some y) (hs : (M' ++ F).Sublist M) (hle : I₀.le I)
    (hp:post (.tuple #[v,x,y]) I M'):Pst N (RetQ P fn I₀ post F) .ret [] l I M:=fun a w hS hD hW=>
  ⟨hD,.tuple #[v,x,y],by simp [results,hr,hS.get t v hv,hS.get u x hx,hS.get r y hy],_,I,M',rfl,hle,hp,hW.sub hs⟩
theorem EN (M' : Seg) (hr : fn.results = #[]) (hs : (M' ++ F).Sublist M) (hle : I₀.le I) (hp : post (.tuple #[]) I M') :
    Pst N (RetQ P fn I₀ post F) .normal [] l I M:=fun a w _ hD hW=>
  ⟨hD,.tuple #[],by rw [results_none hr],_,I,M',rfl,hle,hp,hW.sub hs⟩
theorem QS (M' : Seg) (hr : fn.results = #[]) (hs : (M' ++ F).Sublist M) (hle : I₀.le I) (hp : post (.tuple #[]) I M') :
    Pst N (RetQ P fn I₀ post F) .ret [] l I M:=fun a w _ hD hW=>
  ⟨hD,.tuple #[],by rw [results_none hr],_,I,M',rfl,hle,hp,hW.sub hs⟩
end
abbrev RP:=@pst_ret_pass
abbrev EP:=@pst_exit_pass
abbrev NX:=@pst_next
abbrev NB:=@QM
abbrev RB:=@pst_ret_block
abbrev EB:=@pst_exit_block
def DR (P:Program) (t:TypeId):Option Bool:=
  match P.underlying t with
  | some (.struct _)=>some true
  | some (.array _ _)=>some true
  | some _=>some false
  | none=>none
def CW (P:Program) (t:TypeId):Option Nat:=(P.info? t).map (·.size)
def JI (P:Program) (t:TypeId):Option Value:=(P.info? t).bind (·.zero)
def ID (P:Program) (t:TypeId):Option TypeId:=
  match P.underlying t with
  | some (.slice e)=>some e
  | _=>none
def tyArr (P:Program) (t:TypeId):Option (Nat × TypeId):=
  match P.underlying t with
  | some (.array n e)=>some (n,e)
  | _=>none
def tyOff (P:Program) (t:TypeId) (k:Nat):Option Nat:=
  match P.underlying t with
  | some (.struct fs)=>match fs[k]? with
    | some f=>match CW P f.type with
      | some (_+1)=>some f.offset
      | _=>none
    | none=>none
  | _=>none
theorem DH {P:Program} {t e:TypeId} (h:ID P t=some e):P.underlying t=some (.slice e):=by
  unfold ID at h
  split at h
  · cases h;assumption
  · cases h
theorem tyArr_spec {P:Program} {t e:TypeId} {n:Nat} (h:tyArr P t=some (n,e)):P.underlying t=some (.array n e):=by
  unfold tyArr at h
  split at h
  · cases h;assumption
  · cases h
section
variable {P:Program} {I:Imm} {M:Seg}
theorem EG {α:Type} (x:α) (Q:α→Seg→Prop):wpL P (pure x:Sem α) Q I M↔Q x M:=Iff.rfl
theorem AK {t:TypeId} {d:TypeDesc} (h:P.underlying t=some d) (Q:TypeDesc→Seg→Prop):wpL P (underlying t) Q I M↔Q d M:=by
  unfold underlying;rw [AE];show wpL P (match P.underlying t with | some d=>pure d | none=>stuck "no such type") Q I M↔_;rw [h];exact Iff.rfl
theorem DW {t:TypeId} {i:TypeInfo} (h:P.info? t=some i) (Q:TypeInfo→Seg→Prop):wpL P (typeInfo t) Q I M↔Q i M:=by
  unfold typeInfo;rw [AE];show wpL P (match P.info? t with | some i=>pure i | none=>stuck "no such type") Q I M↔_;rw [h];exact Iff.rfl
theorem CG {t:TypeId} {n:Nat} (h:CW P t=some n) (Q:Nat→Seg→Prop):wpL P (sizeOf t) Q I M↔Q n M:=by
  unfold CW at h;cases hi:P.info? t with
  | none=>rw [hi] at h;cases h
  | some i=>
    rw [hi] at h;cases h;unfold sizeOf;rw [AE,DW hi];exact Iff.rfl
theorem FJ {t:TypeId} {z:Value} (h:JI P t=some z) (Q:Value→Seg→Prop):wpL P (zeroValue t) Q I M↔Q z M:=by
  unfold JI at h;cases hi:P.info? t with
  | none=>rw [hi] at h;cases h
  | some i=>
    rw [hi] at h;simp only [Option.bind_some] at h;unfold zeroValue;rw [AE,DW hi,h];exact Iff.rfl
theorem LV {t:TypeId} {b:Bool} (h:DR P t=some b) (Q:Bool→Seg→Prop):wpL P (isAgg t) Q I M↔Q b M:=by
  unfold DR at h;unfold isAgg;rw [AE];cases hu:P.underlying t with
  | none=>rw [hu] at h;cases h
  | some d=>
    rw [AK hu];rw [hu] at h;cases d <;> simp only [Cj] at h <;> subst h <;> exact Iff.rfl
theorem Sees.mono {I J:Imm} {R N:Seg} {a:Addr} {v:Value} (h:Sees I R a v) (le:I.le J):Sees J (R++N) a v:=by
  obtain ⟨h1,cs,T,fz,hb,hc⟩:=h;exact ⟨h1,cs,T,fz,hb.elim (fun hm=>.inl (Bd _ hm)) (fun hi=>.inr (le.blk _ _ hi)),hc⟩
def ICell (I:Imm) (a:Addr) (v:Value):Prop:=a.spot=none∧∃ cs T fz,I.blk a.block=some (Obj.cells cs T fz)∧cs[a.off]?=some v
theorem ICell.mono {I J:Imm} {a:Addr} {v:Value} (h:ICell I a v) (le:I.le J):ICell J a v:=by
  obtain ⟨h1,cs,T,fz,hb,hc⟩:=h;exact ⟨h1,cs,T,fz,le.blk _ _ hb,hc⟩
theorem ICell.sees {a:Addr} {v:Value} (h:ICell I a v):Sees I M a v:=by
  obtain ⟨h1,cs,T,fz,hb,hc⟩:=h;exact ⟨h1,cs,T,fz,.inr hb,hc⟩
theorem sees_at {b off:Nat} {cs:Array Value} {T:TypeId} {fz:Nat × Nat} {v:Value} (k:Nat) (h:M[k]?=some (b,Obj.cells cs T fz)) (hc:cs[off]?=some v):Sees I M ⟨b,off,none⟩ v:=
  ⟨rfl,cs,T,fz,.inl (An h),hc⟩
theorem GV (b off n:Nat):Addr.add ⟨b,off,none⟩ n=⟨b,off+n,none⟩:=by
  unfold Addr.add
  split
  · rename_i h;subst h;rfl
  · rfl
def SeesN (I:Imm) (M:Seg) (b off:Nat) (vs:List Value):Prop:=∀ k v,vs[k]?=some v→Sees I M ⟨b,off+k,none⟩ v
theorem SeesN.mono {I J:Imm} {R N:Seg} {b off:Nat} {vs:List Value} (h:SeesN I R b off vs) (le:I.le J):SeesN J (R++N) b off vs:=fun k v hv=>(h k v hv).mono le
theorem PE {b off : Nat} : ∀ (vs : List Value) (i : Nat) (acc : Array Value) (Q : Array Value → Seg → Prop), (∀ k v, vs[k]? = some v → Sees I M ⟨b, off + (i + k), none⟩ v) →
    Q (acc++vs.toArray) M→wpL P (loadCellsFrom ⟨b,off,none⟩ i vs.length acc) Q I M:=by
  intro vs
  induction vs with
  | nil=>intro i acc Q _ hq;simpa [loadCellsFrom,EG] using hq
  | cons x vs ih=>
    intro i acc Q h hq;simp only [Aq,loadCellsFrom];rw [AE];refine ⟨x,by rw [GV];exact h 0 x (by simp),?_⟩;show wpL P (loadCellsFrom ⟨b,off,none⟩ (i+1) vs.length (acc.push x)) Q I M;refine ih (i+1) (acc.push x) Q (fun k v hv=>?_) ?_
    · have:=h (k+1) v (by simpa using hv)
      rwa [show i+1+k=i+(k+1) by omega]
    · simpa using hq
theorem OM {b off:Nat} {vs:List Value} {Q:Array Value→Seg→Prop} (h:SeesN I M b off vs) (hq:Q vs.toArray M):wpL P (loadCells ⟨b,off,none⟩ vs.length) Q I M:=by
  refine PE vs 0 #[] Q (fun k v hv=>?_) (by simpa using hq);have:=h k v hv
  rwa [Nat.zero_add]
def HW (cs:Array Value) (off:Nat):List Value→Array Value
  | []=>cs
  | v::r=>HW (cs.setIfInBounds off v) (off+1) r
theorem GU {b off : Nat} {T : TypeId} {k : Nat} : ∀ (vs : List Value) (i : Nat) (M : Seg) (cs : Array Value) (Q : Unit → Seg → Prop), M[k]? = some (b, Obj.cells cs T (0, 0)) →
    off+i+vs.length≤cs.size→(∀ v∈vs,DF v=true)→Q () (M.set k (b,.cells (HW cs (off+i) vs) T (0,0)))→wpL P (storeCells ⟨b,off,none⟩ vs i) Q I M:=by
  intro vs
  induction vs with
  | nil=>
    intro i M cs Q hk _ _ hq;have hl:k<M.length:=(Bc.1 hk).1;have:M.set k (b,Obj.cells cs T (0,0))=M:=by
      apply List.ext_getElem?
      intro j
      by_cases e:k=j
      · subst e;rw [Bp hl,hk]
      · rw [Bk e]
    simp only [HW] at hq;rw [this] at hq;exact hq
  | cons v vs ih=>
    intro i M cs Q hk hlen hone hq;have hl:k<M.length:=(Bc.1 hk).1;simp only [Aq] at hlen;simp only [storeCells];rw [AE];refine ⟨hone v (by simp),by rw [GV],k,cs,T,(0,0),by rw [GV];exact hk,by rw [GV];simp only;omega,by simp,?_⟩;rw [GV];refine ih (i+1) _ (cs.setIfInBounds (off+i) v) Q (by rw [Bp hl]) (by simp;omega) (fun u hu=>hone u (by simp [hu])) ?_;rw [List.set_set];exact hq
end
def KB (ρ:Operand→Value) (op:Op) (ty:TypeId):Sem Next:=execOp ρ { dst:=none,op,type:=ty,pos:="",after:=#[],guard:=none }
theorem GN (ρ:Operand→Value) (o:Oper):execOp ρ o=KB ρ o.op o.type:=by cases o;rfl
section
variable {P:Program} {N:Nat} {ops:Array Oper} {i:Nat} {l:Sl} {I:Imm} {R M:Seg} {d:Nat} {ty:TypeId} {gd:Option (Nat × Bool)}
theorem IM {op : Op} {v : Value} (hop : FH ops N i = some (some d, op, ty, gd)) (hg : FL ops l gd = some true) (hk : ∀ x ∈ op.operands, KE l x)
    (h:∀ I' N',I.le I'→wpL P (KB (rho l) op ty) (fun n M'=>n=.value v∧M'=R++N') I' (R++N')):Det P N ops i l I R d v:=by
  obtain ⟨o,ho,hd,rfl,rfl,rfl,hN,hs⟩:=GQ hop;refine ⟨o,ho,hd,hN d rfl,hs,.inr ⟨hg,hk,fun I' N' w hle st=>?_⟩⟩;rw [GN];obtain ⟨n,w',M',hr,⟨rfl,rfl⟩,st'⟩:=wpL_run _ _ I' _ w (h I' N' hle) st;rw [hr];exact ⟨rfl,st'⟩
theorem det_skip {op:Op} (hop:FH ops N i=some (some d,op,ty,gd)) (hg:FL ops l gd=some false):Det P N ops i l I R d undef:=by
  obtain ⟨o,ho,hd,_,_,rfl,hN,hs⟩:=GQ hop;exact ⟨o,ho,hd,hN d rfl,hs,.inl ⟨hg,rfl⟩⟩
theorem FF {op : Op} {v : Value} (hop : FH ops N i = some (some d, op, ty, gd)) (hg : FL ops l gd = some true) (hk : ∀ x ∈ op.operands, KE l x)
    (h:∀ I' M',wpL P (KB (rho l) op ty) (fun n M''=>n=.value v∧M''=M') I' M'):Det P N ops i l I R d v:=
  IM hop hg hk fun I' N' _=>h I' (R++N')
theorem ED {x:Operand} {v:Value} (h:CB l x=some v):KE l x:=⟨v,h⟩
theorem HE {x y:Operand} {v u:Value} (hx:CB l x=some v) (hy:CB l y=some u):∀ z∈#[x,y],KE l z:=fun z hz=>by
  simp at hz;rcases hz with rfl | rfl
  · exact ED hx
  · exact ED hy
theorem LJ {x:Operand} {v:Value} (hx:CB l x=some v):∀ z∈#[x],KE l z:=fun z hz=>by
  simp at hz;subst hz;exact ED hx
theorem known3 {x y z:Operand} {v u t:Value} (hx:CB l x=some v) (hy:CB l y=some u) (hz:CB l z=some t):∀ o∈#[x,y,z],KE l o:=fun o ho=>by
  simp at ho;rcases ho with rfl | rfl | rfl
  · exact ED hx
  · exact ED hy
  · exact ED hz
def cmp (op:BinOp) (a b:Int):Bool:=
  match op with
  | .eql=>decide (a=b)
  | .neq=>decide (a≠b)
  | .lss=>decide (a<b)
  | .leq=>decide (a≤b)
  | .gtr=>decide (b<a)
  | .geq=>decide (b≤a)
  | _=>false
def isCmp:BinOp→Bool
  | .eql | .neq | .lss | .leq | .gtr | .geq=>true
  | _=>false
theorem det_cmp {op : BinOp} {x y : Operand} {T T' : TypeId} {k : IntKind} {a b : Int} (hop : FH ops N i = some (some d, .binOp op T x y T', ty, gd)) (hg : FL ops l gd = some true)
    (hx:CB l x=some (.int k a)) (hy:CB l y=some (.int k b)) (hc:isCmp op=true):Det P N ops i l I R d (.bool (cmp op a b)):=
  FF hop hg (HE hx hy) fun I' M'=>by
    show wpL P ((do eqGuard op T x y (rho l x) (rho l y);binOp op T (rho l x) (rho l y)) >>= fun x=>pure (Next.value x)) _ I' M';rw [BI hx,BI hy];have hne:∀ a b:Int,(a != b)=decide (a≠b):=fun a b=>by by_cases h:a=b <;> simp [h]
    have heq:∀ a b:Int,(a == b)=decide (a=b):=fun a b=>by by_cases h:a=b <;> simp [h]
    cases op <;> simp only [isCmp] at hc <;> first
      | (cases hc;done)
      | (simp only [eqGuard,binOp,Op.intCmp,cmp,ne_eq,not_true_eq_false,if_false]
         refine ⟨congrArg (fun b=>Next.value (.bool b)) ?_,rfl⟩
         first | rfl | exact heq a b | exact hne a b)
theorem det_cmp' {op : BinOp} {x y : Operand} {T T' : TypeId} {k : IntKind} {a b : Int} {c : Bool} (hop : FH ops N i = some (some d, .binOp op T x y T', ty, gd)) (hg : FL ops l gd = some true)
    (hx:CB l x=some (.int k a)) (hy:CB l y=some (.int k b)) (hc:isCmp op=true) (hb:cmp op a b=c):Det P N ops i l I R d (.bool c):=by
  subst hb;exact det_cmp hop hg hx hy hc
def CR (op:BinOp) (a b:Int):Int:=
  match op with
  | .add=>a+b
  | .sub=>a-b
  | _=>a*b
def isArith:BinOp→Bool
  | .add | .sub | .mul=>true
  | _=>false
theorem det_wrap {op : BinOp} {x y : Operand} {T T' : TypeId} {k : IntKind} {a b : Int} (hop : FH ops N i = some (some d, .binOp op T x y T', ty, gd)) (hg : FL ops l gd = some true)
    (hx:CB l x=some (.int k a)) (hy:CB l y=some (.int k b)) (hc:isArith op=true):Det P N ops i l I R d (.int k (k.wrap (CR op a b))):=
  FF hop hg (HE hx hy) fun I' M'=>by
    show wpL P ((do eqGuard op T x y (rho l x) (rho l y);binOp op T (rho l x) (rho l y)) >>= fun x=>pure (Next.value x)) _ I' M';rw [BI hx,BI hy]
    cases op <;> simp only [isArith] at hc <;> first
      | (cases hc;done)
      | (simp only [eqGuard,binOp,Op.intArith,CR,ne_eq,not_true_eq_false,if_false];exact ⟨rfl,rfl⟩)
theorem wrap64_id {n:Int} (h:-9223372036854775808≤n∧n≤9223372036854775807):IntKind.i64.wrap n=n:=IntWalk.i64_in n h
end
section
variable {P:Program} {N:Nat} {ops:Array Oper} {i:Nat} {l:Sl} {I:Imm} {R M:Seg} {d:Nat} {ty:TypeId} {gd:Option (Nat × Bool)}
theorem DB {s:Sem Value} {Q:Next→Seg→Prop} (h:wpL P s (fun x M'=>Q (.value x) M') I M):wpL P (s >>= fun x=>pure (Next.value x)) Q I M:=(AE s _ Q I M).2 h
theorem det_i64 {op : BinOp} {x y : Operand} {T T' : TypeId} {a b : Int} (hop : FH ops N i = some (some d, .binOp op T x y T', ty, gd)) (hg : FL ops l gd = some true)
    (hx:CB l x=some (.int .i64 a)) (hy:CB l y=some (.int .i64 b)) (hc:isArith op=true) (hr:-9223372036854775808≤CR op a b∧CR op a b≤9223372036854775807) :
    Det P N ops i l I R d (.int .i64 (CR op a b)):=by
  have:=det_wrap (P:=P) (I:=I) (R:=R) hop hg hx hy hc
  rwa [wrap64_id hr] at this
theorem det_add {x y : Operand} {T T' : TypeId} {a b : Int} (hop : FH ops N i = some (some d, .binOp .add T x y T', ty, gd)) (hg : FL ops l gd = some true)
    (hx:CB l x=some (.int .i64 a)) (hy:CB l y=some (.int .i64 b)) (hr:-9223372036854775808≤a+b∧a+b≤9223372036854775807):Det P N ops i l I R d (.int .i64 (a+b)):=
  det_i64 hop hg hx hy rfl hr
theorem det_sub {x y : Operand} {T T' : TypeId} {a b : Int} (hop : FH ops N i = some (some d, .binOp .sub T x y T', ty, gd)) (hg : FL ops l gd = some true)
    (hx:CB l x=some (.int .i64 a)) (hy:CB l y=some (.int .i64 b)) (hr:-9223372036854775808≤a-b∧a-b≤9223372036854775807):Det P N ops i l I R d (.int .i64 (a-b)):=
  det_i64 hop hg hx hy rfl hr
theorem det_bin {op : BinOp} {x y : Operand} {T T' : TypeId} {k k' : IntKind} {a b : Int} {v : Value} (hop : FH ops N i = some (some d, .binOp op T x y T', ty, gd)) (hg : FL ops l gd = some true)
    (hx:CB l x=some (.int k a)) (hy:CB l y=some (.int k' b)) (h:∀ I' M',wpL P (binOp op T (.int k a) (.int k' b)) (fun n M''=>n=v∧M''=M') I' M'):Det P N ops i l I R d v:=
  FF hop hg (HE hx hy) fun I' M'=>by
    show wpL P ((do eqGuard op T x y (rho l x) (rho l y);binOp op T (rho l x) (rho l y)) >>= fun x=>pure (Next.value x)) _ I' M';rw [BI hx,BI hy];have e:∀ s:Sem Value,(eqGuard op T x y (.int k a) (.int k' b) >>= fun _=>s)=s:=fun s=>by
      cases op <;> rfl
    rw [e];refine DB ?_;refine (?_:wpL P _ _ I' M');have:=h I' M';have hq:(fun (x:Value) (M'':Seg)=>Next.value x=Next.value v∧M''=M')=(fun n M''=>n=v∧M''=M'):=by
      funext x M'';simp
    rw [hq];exact this
theorem det_quo {x y : Operand} {T T' : TypeId} {a b : Int} (hop : FH ops N i = some (some d, .binOp .quo T x y T', ty, gd)) (hg : FL ops l gd = some true)
    (hx:CB l x=some (.int .i64 a)) (hy:CB l y=some (.int .i64 b)) (ha:0≤a∧a≤9223372036854775807) (hb:1≤b):Det P N ops i l I R d (.int .i64 (a/b)):=
  det_bin hop hg hx hy fun I' M'=>by
    have hne:b≠0:=by omega
    simp only [binOp,Op.intDiv,ne_eq,not_true_eq_false,if_false,if_neg hne];exact ⟨congrArg (Value.int .i64) (IntWalk.i64_quo a b ⟨ha.1,ha.2,hb⟩),rfl⟩
theorem det_rem {x y : Operand} {T T' : TypeId} {k : IntKind} {a b : Int} (hop : FH ops N i = some (some d, .binOp .rem T x y T', ty, gd)) (hg : FL ops l gd = some true)
    (hx:CB l x=some (.int k a)) (hy:CB l y=some (.int k b)) (ha:0≤a) (hb:1≤b):Det P N ops i l I R d (.int k (a%b)):=
  det_bin hop hg hx hy fun I' M'=>by
    have hne:b≠0:=by omega
    simp only [binOp,Op.intDiv,ne_eq,not_true_eq_false,if_false,if_neg hne];exact ⟨congrArg (Value.int k) (Int.tmod_eq_emod_of_nonneg ha),rfl⟩
theorem det_shr {x y : Operand} {T T' : TypeId} {k k' : IntKind} {a b : Int} (hop : FH ops N i = some (some d, .binOp .shr T x y T', ty, gd)) (hg : FL ops l gd = some true)
    (hx:CB l x=some (.int k a)) (hy:CB l y=some (.int k' b)) (hb:0≤b):Det P N ops i l I R d (.int k (a.fdiv (2 ^ (min b.toNat k.bits)))):=
  det_bin hop hg hx hy fun I' M'=>by
    simp only [binOp,Op.shift,if_neg (show ¬ b<0 by omega)];exact ⟨rfl,rfl⟩
theorem QF {b : Builtin} {args : Array Operand} {tys : Array TypeId} {v : Value} {vals : List Value}
    (hop:FH ops N i=some (some d,.call { callee:=.builtin b,args,argTypes:=tys },ty,gd)) (hg:FL ops l gd=some true) (hk:∀ x∈args,KE l x) (hvals:args.toList.map (rho l)=vals)
    (h:∀ I' N' (cs:Array Bool),I.le I'→wpL P (builtin b tys ty cs vals.toArray) (fun n M''=>n=.value v∧M''=R++N') I' (R++N')):Det P N ops i l I R d v:=
  IM hop hg (by simpa [Op.operands,Call.operands] using hk) fun I' N' hle=>by
    have e:args.map (rho l)=vals.toArray:=by
      apply Array.ext'
      simp [hvals]
    show wpL P (do let d ← resolve (rho l) { callee:=.builtin b,args,argTypes:=tys } ty;invoke d.target d.args) _ I' (R++N');unfold resolve;simp only [e];exact h I' N' _ hle
theorem det_len_map {x : Operand} {T K E : TypeId} {b : Nat} {es : Array MapEntry} {clock : Nat} (hop : FH ops N i = some (some d, .call { callee := .builtin .len, args := #[x], argTypes := #[T] }, ty, gd)) (hg : FL ops l gd = some true)
    (hT:P.underlying T=some (.map K E)) (hx:CB l x=some (.map (some b))) (hm:Holds I R b (.map es clock)):Det P N ops i l I R d (.int .i64 es.size):=
  QF (vals:=[.map (some b)]) hop hg (LJ hx) (by simp [BI hx]) fun I' N' cs hle=>by
    show wpL P (Builtin.len_ #[T] ty #[.map (some b)] >>= fun x=>pure (Next.value x)) _ I' (R++N');refine DB ?_;unfold Builtin.len_;show wpL P (underlying T >>= _) _ I' (R++N');rw [AE,AK hT];refine ⟨.map es clock,hm.elim (fun h=>.inl (Bd _ h)) (fun h=>.inr (hle.blk _ _ h)),rfl,?_⟩;exact ⟨rfl,rfl⟩
theorem CX {x : Operand} {T : TypeId} {b off k o : Nat} (hop : FH ops N i = some (some d, .fieldAddr T x k, ty, gd)) (hg : FL ops l gd = some true) (hT : tyOff P T k = some o)
    (hx:CB l x=some (.pointer (some ⟨b,off,none⟩))):Det P N ops i l I R d (.pointer (some ⟨b,off+o,none⟩)):=
  FF hop hg (LJ hx) fun I' M'=>by
    show wpL P (Instr.fieldAt T (rho l x) k >>= fun x=>pure (Next.value x)) _ I' M';rw [BI hx];refine DB ?_;unfold tyOff at hT
    split at hT
    · rename_i fs hu
      split at hT
      · rename_i f hf
        split at hT
        · rename_i n hn
          cases hT;unfold Instr.fieldAt;rw [AE,AK hu];simp only [hf];show wpL P (do let a ← (pure ⟨b,off,none⟩:Sem Addr);pure (Value.pointer (some (← fieldPlace a f)))) _ I' M';show wpL P (fieldPlace ⟨b,off,none⟩ f >>= fun p=>pure (Value.pointer (some p))) _ I' M';rw [AE];unfold fieldPlace;rw [AE,CG hn];show wpL P (pure (Addr.add ⟨b,off,none⟩ f.offset)) _ I' M';rw [GV];exact ⟨rfl,rfl⟩
        · cases hT
      · cases hT
    · cases hT
theorem NL {x y : Operand} {T e : TypeId} {sz b off n c : Nat} {a : Option Addr} {k : IntKind} {j : Int} (hop : FH ops N i = some (some d, .indexAddr T x y, ty, gd)) (hg : FL ops l gd = some true)
    (hT:ID P T=some e) (hsz:CW P e=some sz) (hx:CB l x=some (.slice a n c)) (hy:CB l y=some (.int k j)) (ha:0<n→a=some ⟨b,off,none⟩) (hj:0≤j) (hj':j<n) :
    Det P N ops i l I R d (.pointer (some ⟨b,off+j.toNat*sz,none⟩)):=
  FF hop hg (HE hx hy) fun I' M'=>by
    obtain rfl:=ha (by omega);show wpL P (Instr.indexAt T (rho l x) (rho l y) >>= fun x=>pure (Next.value x)) _ I' M';rw [BI hx,BI hy];refine DB ?_;unfold Instr.indexAt;show wpL P (underlying T >>= _) _ I' M';rw [AE,AK (DH hT)];show wpL P (underlying T >>= _) _ I' M';rw [AE,AK (DH hT)];simp only;rw [if_pos ⟨hj,hj'⟩];rw [AE,CG hsz];show _∧_;rw [GV];exact ⟨rfl,rfl⟩
theorem det_indexArr {x y : Operand} {T e : TypeId} {sz b off n : Nat} {k : IntKind} {j : Int} (hop : FH ops N i = some (some d, .indexAddr T x y, ty, gd)) (hg : FL ops l gd = some true)
    (hT:tyArr P T=some (n,e)) (hsz:CW P e=some sz) (hx:CB l x=some (.pointer (some ⟨b,off,none⟩))) (hy:CB l y=some (.int k j)) (hj:0≤j) (hj':j<n) :
    Det P N ops i l I R d (.pointer (some ⟨b,off+j.toNat*sz,none⟩)):=
  FF hop hg (HE hx hy) fun I' M'=>by
    show wpL P (Instr.indexAt T (rho l x) (rho l y) >>= fun x=>pure (Next.value x)) _ I' M';rw [BI hx,BI hy];refine DB ?_;unfold Instr.indexAt;show wpL P (underlying T >>= _) _ I' M';rw [AE,AK (tyArr_spec hT)];show wpL P (underlying T >>= _) _ I' M';rw [AE,AK (tyArr_spec hT)];simp only;rw [if_pos ⟨hj,hj'⟩];rw [AE,CG hsz];show _∧_;rw [GV];exact ⟨rfl,rfl⟩
theorem HP {x : Operand} {T : TypeId} {b off : Nat} {v : Value} (hop : FH ops N i = some (some d, .load T x, ty, gd)) (hg : FL ops l gd = some true) (hT : DR P T = some false)
    (hx:CB l x=some (.pointer (some ⟨b,off,none⟩))) (hs:Sees I R ⟨b,off,none⟩ v):Det P N ops i l I R d v:=
  IM hop hg (LJ hx) fun I' N' hle=>by
    show wpL P (Instr.loadAt T (rho l x) >>= fun x=>pure (Next.value x)) _ I' (R++N');rw [BI hx];refine DB ?_;show wpL P (loadVar T ⟨b,off,none⟩) _ I' (R++N');unfold loadVar;rw [AE,LV hT];exact ⟨v,hs.mono hle,rfl,rfl⟩
theorem det_loadN {x : Operand} {T : TypeId} {b off n : Nat} {vs : List Value} (hop : FH ops N i = some (some d, .load T x, ty, gd)) (hg : FL ops l gd = some true) (hT : DR P T = some true) (hsz : CW P T = some n)
    (hx:CB l x=some (.pointer (some ⟨b,off,none⟩))) (hn:vs.length=n) (hs:SeesN I R b off vs):Det P N ops i l I R d (.agg vs.toArray):=
  IM hop hg (LJ hx) fun I' N' hle=>by
    show wpL P (Instr.loadAt T (rho l x) >>= fun x=>pure (Next.value x)) _ I' (R++N');rw [BI hx];refine DB ?_;show wpL P (loadVar T ⟨b,off,none⟩) _ I' (R++N');unfold loadVar;rw [AE,LV hT];simp only [if_true];rw [AE,CG hsz,AE];subst hn;exact OM (hs.mono hle) ⟨rfl,rfl⟩
theorem seesN_at {b off n:Nat} {cs:Array Value} {T:TypeId} {fz:Nat × Nat} {vs:List Value} (k:Nat) (h:M[k]?=some (b,Obj.cells cs T fz)) (hv:(cs.toList.drop off).take n=vs):SeesN I M b off vs:=fun j v hj=>by
  subst hv;refine sees_at k h ?_;rw [Da] at hj
  split at hj
  · rw [List.getElem?_drop] at hj
    rw [← Array.getElem?_toList];exact hj
  · cases hj
theorem GF {x:Value} {k:IntKind} {j:Int} {y:Nat} {code:BoundsCode} {Q:Nat→Seg→Prop} (hx:x=.int k j) (h:0≤j∧j≤y) (hq:Q j.toNat M):wpL P (Instr.sliceBound x y code) Q I M:=by
  subst hx;unfold Instr.sliceBound;show wpL P (if 0≤j∧j≤y then pure j.toNat else boundsPanic k j y code) _ I M;rw [if_pos h];exact hq
theorem IZ {x : Operand} {lo hi : Option Operand} {T e : TypeId} {sz n c : Nat} {a : Option Addr} (L H : Nat) (hop : FH ops N i = some (some d, .slice T x lo hi none, ty, gd)) (hg : FL ops l gd = some true)
    (hT:ID P T=some e) (hsz:CW P e=some sz) (hx:CB l x=some (.slice a n c))
    (hlo:(lo=none∧L=0)∨∃ y k,lo=some y∧CB l y=some (.int k (L:Int)))
    (hhi:(hi=none∧H=n)∨∃ y k,hi=some y∧CB l y=some (.int k (H:Int)))
    (hL:L≤H) (hH:H≤c):Det P N ops i l I R d (.slice (if c=L then a else a.map (·.add (L*sz))) (H-L) (c-L)):=
  FF hop hg (by
    intro z hz
    simp only [Op.operands] at hz
    simp only [Df] at hz
    rcases hz with ((hz | hz) | hz) | hz
    · exact LJ hx z hz
    · rcases hlo with ⟨rfl,_⟩ | ⟨y,k,rfl,hy⟩
      · simp at hz
      · simp at hz;subst hz;exact ED hy
    · rcases hhi with ⟨rfl,_⟩ | ⟨y,k,rfl,hy⟩
      · simp at hz
      · simp at hz;subst hz;exact ED hy
    · simp at hz) fun I' M'=>by
    show wpL P (Instr.sliceAt T (rho l x) (lo.map (rho l)) (hi.map (rho l)) none >>= fun x=>pure (Next.value x)) _ I' M';rw [BI hx];refine DB ?_;unfold Instr.sliceAt;rw [AE,AK (DH hT)];show wpL P (Instr.slice T _ _ _ _) _ I' M';unfold Instr.slice;rw [AE,AK (DH hT)];simp only;rw [AE];unfold Instr.sliceBounds;have hcap:(H:Int)≤(c:Int):=by omega
    rcases hhi with ⟨rfl,rfl⟩ | ⟨y,k,rfl,hy⟩
    · rcases hlo with ⟨rfl,rfl⟩ | ⟨z,k',rfl,hz⟩
      · simp only [Option.map_none,AE,EG]
        rw [CG hsz];exact ⟨rfl,rfl⟩
      · simp only [Option.map_none,Cw,AE,EG]
        refine GF (BI hz) ⟨by omega,by omega⟩ ?_;rw [CG hsz];simp only [Bx]
        first | exact ⟨rfl,rfl⟩ | exact ⟨trivial,trivial⟩
    · rcases hlo with ⟨rfl,rfl⟩ | ⟨z,k',rfl,hz⟩
      · simp only [Option.map_none,Cw,AE,EG]
        refine GF (BI hy) ⟨by omega,hcap⟩ ?_;rw [CG hsz];simp only [Bx]
        first | exact ⟨rfl,rfl⟩ | exact ⟨trivial,trivial⟩
      · simp only [Option.map_none,Cw,AE,EG]
        refine GF (BI hy) ⟨by omega,hcap⟩ ?_;simp only [Bx];refine GF (BI hz) ⟨by omega,by omega⟩ ?_;rw [CG hsz];simp only [Bx]
        first | exact ⟨rfl,rfl⟩ | exact ⟨trivial,trivial⟩
end
section
variable {P:Program} {N:Nat} {ops:Array Oper} {i:Nat} {l:Sl} {I:Imm} {R M:Seg} {ty:TypeId} {gd:Option (Nat × Bool)} {K:Sl→Imm→Seg→Prop}
theorem DP {op : Op} {dst : Option Tmp} (hop : FH ops N i = some (dst, op, ty, gd)) (hg : FL ops l gd = some true) (hk : ∀ x ∈ op.operands, KE l x)
    (h:wpL P (KB (rho l) op ty) (fun n M'=>∃ v,(n=.value v∨(n=.skip∧v=undef))∧K (ups dst v l) I M') I M):Stp P N ops i l I M K:=by
  obtain ⟨o,ho,rfl,rfl,rfl,rfl,hN,hs⟩:=GQ hop;refine ⟨o,ho,hN,hs,hg,hk,fun w st=>?_⟩;rw [GN];obtain ⟨n,w',M',hr,⟨v,hn,hK⟩,st'⟩:=wpL_run _ _ I M w h st;rw [hr];rcases hn with rfl | ⟨rfl,rfl⟩
  · exact ⟨I,M',Imm.le.refl I,st',hK⟩
  · exact ⟨I,M',Imm.le.refl I,st',hK⟩
theorem JH {op : Op} {dst : Option Tmp} {M0 : Seg} (hop : FH ops N i = some (dst, op, ty, gd)) (hg : FL ops l gd = some true) (hk : ∀ x ∈ op.operands, KE l x) (hM : M.Perm M0)
    (h:wpL P (KB (rho l) op ty) (fun n M'=>∃ v M'',(n=.value v∨(n=.skip∧v=undef))∧M''.Sublist M'∧K (ups dst v l) I M'') I M0):Stp P N ops i l I M K:=by
  obtain ⟨o,ho,rfl,rfl,rfl,rfl,hN,hs⟩:=GQ hop;refine ⟨o,ho,hN,hs,hg,hk,fun w st=>?_⟩;rw [GN];obtain ⟨n,w',M',hr,⟨v,M'',hn,hsub,hK⟩,st'⟩:=wpL_run _ _ I M0 w h (st.perm hM);rw [hr];rcases hn with rfl | ⟨rfl,rfl⟩
  · exact ⟨I,M'',Imm.le.refl I,st'.sub hsub,hK⟩
  · exact ⟨I,M'',Imm.le.refl I,st'.sub hsub,hK⟩
theorem wpL_newVar {T:TypeId} {v:Value} {Q:Addr→Seg→Prop} (h:∀ b,Q ⟨b,0,none⟩ ((b,.cells v.cells T)::M)):wpL P (newVar T v) Q I M:=fun b=>h b
theorem stp_box {d : Nat} {T : TypeId} {x : Operand} {v : Value} {cs : Array Value} (hop : FH ops N i = some (some d, .box T x, ty, gd)) (hg : FL ops l gd = some true) (hx : CB l x = some v) (hcs : v.cells = cs)
    (h:∀ b,K ((d,.pointer (some ⟨b,0,none⟩))::l) I ((b,.cells cs T)::M)):Stp P N ops i l I M K:=
  DP hop hg (LJ hx) (by
    show wpL P (Instr.box T (rho l x) >>= fun x=>pure (Next.value x)) _ I M
    rw [BI hx]
    refine DB ?_
    unfold Instr.box
    rw [AE]
    refine wpL_newVar fun b=>?_
    subst hcs
    exact ⟨_,.inl rfl,h b⟩)
theorem stp_alloc {d : Nat} {T : TypeId} {z : Value} {cs : Array Value} (hop : FH ops N i = some (some d, .alloc T, ty, gd)) (hg : FL ops l gd = some true) (hz : JI P T = some z) (hcs : z.cells = cs)
    (h:∀ b,K ((d,.pointer (some ⟨b,0,none⟩))::l) I ((b,.cells cs T)::M)):Stp P N ops i l I M K:=
  DP hop hg (by simp [Op.operands]) (by
    show wpL P (Instr.alloc T true (.tuple #[]) >>= fun x=>pure (Next.value x)) _ I M
    refine DB ?_
    unfold Instr.alloc
    rw [AE,FJ hz]
    show wpL P (newVar T z >>= fun a=>pure (Value.pointer (some a))) _ I M
    rw [AE]
    refine wpL_newVar fun b=>?_
    subst hcs
    exact ⟨_,.inl rfl,h b⟩)
theorem JG {d : Nat} {T : TypeId} (hop : FH ops N i = some (some d, .makeMap T none, ty, gd)) (hg : FL ops l gd = some true)
    (h:∀ b,K ((d,.map (some b))::l) I ((b,.map #[] 0)::M)):Stp P N ops i l I M K:=
  DP hop hg (by simp [Op.operands]) (fun b=>⟨_,.inl rfl,h b⟩)
theorem stp_buildSlice {d : Nat} {T e : TypeId} {n sz : Nat} {z : Value} {parts : Array (Nat × Operand)} {vals : List (Nat × Value)} {cs : Array Value} (hop : FH ops N i = some (some d, .buildSlice T n parts, ty, gd)) (hg : FL ops l gd = some true)
    (hT:ID P T=some e) (hsz:CW P e=some sz) (hz:JI P e=some z)
    (hk:∀ x∈(Op.buildSlice T n parts).operands,KE l x) (hv:parts.toList.map (fun x=>(x.1,rho l x.2))=vals) (hn:n*sz≤16777216)
    (hf:Instr.fill (fun i=>some (i*sz,sz)) ((Array.range (n*sz)).map (fun k=>(if n*sz=0 then #[] else z.cells)[k%(if n*sz=0 then (#[]:Array Value) else z.cells).size]!)) vals=some cs)
    (h:∀ b,K ((d,.slice (some ⟨b,0,none⟩) n n)::l) I ((b,.cells cs e)::M)):Stp P N ops i l I M K:=
  DP hop hg hk (by
    have e1:(parts.map fun x=>(x.1,rho l x.2)).toList=vals:=by simp [← hv]
    unfold KB execOp
    simp only
    refine DB ?_
    unfold Instr.buildSlice
    rw [AE,AK (DH hT)]
    show wpL P (sizeOf e >>= _) _ I M
    rw [AE,CG hsz]
    rw [if_neg (show ¬ n*sz>2 ^ 24 by omega)]
    have key : ∀ (zz : Array Value), zz = (if n * sz = 0 then #[] else z.cells) → wpL P (do
        let some cells:=Instr.fill (fun i=>some (i*sz,sz)) ((Array.range (n*sz)).map (zz[·%zz.size]!)) (parts.map fun x=>(x.1,rho l x.2)).toList | stuck "buildSlice: a part of the wrong size"
        pure (Value.slice (some (← newRow e cells)) n n)) (fun x M'=>∃ v,(Next.value x=.value v∨(Next.value x=.skip∧v=undef))∧K ((d,v)::l) I M') I M:=fun zz hzz=>by
      subst hzz
      rw [e1,hf]
      show wpL P (newRow e cs >>= fun a=>pure (Value.slice (some a) n n)) _ I M
      rw [AE]
      exact fun b=>⟨_,.inl rfl,h b⟩
    dsimp only
    by_cases h0:n*sz=0
    · rw [if_pos h0]
      exact key #[] (by rw [if_pos h0])
    · rw [if_neg h0,AE,FJ hz]
      exact key z.cells (by rw [if_neg h0]))
theorem stp_store {T : TypeId} {x y : Operand} {v : Value} {cs cs' vs : List Value} {S : TypeId} {b off n : Nat} {M' : Seg} (k : Nat) (hop : FH ops N i = some (none, .store T x y, ty, gd)) (hg : FL ops l gd = some true)
    (hx:CB l x=some (.pointer (some ⟨b,off,none⟩))) (hy:CB l y=some v) (hsz:CW P T=some n) (hvs:v.cells.toList=vs) (hn:vs.length=n) (hone:vs.all DF=true)
    (hk:M[k]?=some (b,Obj.cells cs.toArray S (0,0))) (hle:off+vs.length≤cs.length) (hset:(HW cs.toArray off vs).toList=cs') (hM:M.set k (b,Obj.cells cs'.toArray S (0,0))=M')
    (h:K l I M'):Stp P N ops i l I M K:=
  DP hop hg (HE hx hy) (by
    show wpL P (Instr.storeAt T (rho l x) (rho l y) >>= fun _=>pure Next.skip) _ I M
    rw [BI hx,BI hy,AE]
    show wpL P (storeVar T ⟨b,off,none⟩ v) _ I M
    unfold storeVar
    rw [AE,CG hsz]
    have hl:v.cells.size=n:=by rw [← Array.length_toList,hvs,hn]
    rw [if_neg (by simp [hl])]
    show wpL P (storeCells ⟨b,off,none⟩ v.cells.toList) _ I M
    rw [hvs]
    refine GU vs 0 M cs.toArray _ hk (by simpa using hle) (fun u hu=>Ax.1 hone u hu) ?_
    rw [Nat.add_zero]
    have:HW cs.toArray off vs=cs'.toArray:=by apply Array.ext';simp [hset]
    rw [this,hM]
    exact ⟨undef,.inr ⟨rfl,rfl⟩,h⟩)
def NF (l:Sl):List Operand→Option (List Value)
  | []=>some []
  | x::r=>match CB l x with
    | some v=>match NF l r with
      | some vs=>some (v::vs)
      | none=>none
    | none=>none
theorem HL {xs:List Operand}:∀ {vs:List Value},NF l xs=some vs→(∀ x∈xs,KE l x)∧xs.map (rho l)=vs:=by
  induction xs with
  | nil=>intro vs h;simp [NF] at h;subst h;exact ⟨fun _ h=>by simp at h,rfl⟩
  | cons x xs ih=>
    intro vs h;simp only [NF] at h;cases hx:CB l x with
    | none=>rw [hx] at h;cases h
    | some v=>
      rw [hx] at h;simp only at h;cases hr:NF l xs with
      | none=>rw [hr] at h;cases h
      | some us=>
        rw [hr] at h;cases h;obtain ⟨h1,h2⟩:=ih hr
        exact ⟨fun z hz=>by
          rcases Ac.1 hz with rfl | hz
          · exact ED hx
          · exact h1 z hz,by simp [BI hx,h2]⟩
def DN (P:Program) (f:FuncId):Bool:=
  match P.funcs[f]? with
  | some fn=>!(fn.name == "runtime.NumGoroutine")&&fn.body.isSome
  | none=>false
theorem HR {f:FuncId} {args:Array Value} {w:World} (h:DN P f=true):(callFunc f args).run P w=.ok (.enter f args) w:=by
  unfold DN at h;cases hf:P.funcs[f]? with
  | none=>rw [hf] at h;cases h
  | some fn=>
    rw [hf] at h;simp only [Ah,Ck] at h;unfold callFunc;rw [Sem.run_bind];show (Result.andThen (.ok P w) _)=_;simp only [Result.andThen,hf];have h1:(fn.name == "runtime.NumGoroutine")=false:=h.1;have h2:fn.body.isNone=false:=by cases hb:fn.body <;> simp_all
    simp only [h1,h2,Bz,if_false];rfl
theorem call_run {f : Operand} {fid : FuncId} {args : Array Operand} {tys : Array TypeId} {vals cv : List Value} {ρ : Operand → Value} {w : World} (hf : ρ f = .func (.func fid) #[] cv.toArray) (hvals : args.toList.map ρ = vals) (hc : DN P fid = true) :
    (KB ρ (.call { callee:=.value f,args,argTypes:=tys }) ty).run P w=.ok (.enter fid (vals++cv).toArray) w:=by
  have e:args.map ρ=vals.toArray:=by apply Array.ext';simp [hvals]
  show (do let d ← resolve ρ { callee:=.value f,args,argTypes:=tys } ty;invoke d.target d.args:Sem Next).run P w=_;unfold resolve;simp only [e,hf,Deferred.ofValue];show (callFunc fid ((#[]++vals.toArray)++cv.toArray)).run P w=_;rw [HR hc];simp
theorem MK {d : Option Tmp} {f : Operand} {fid : FuncId} {args : Array Operand} {tys : Array TypeId} {vals cv : List Value} {pre F : Seg} {post : Value → Imm → Seg → Prop} {argv : Array Value}
    (hop:FH ops N i=some (d,.call { callee:=.value f,args,argTypes:=tys },ty,gd)) (hg:FL ops l gd=some true) (hf:CB l f=some (.func (.func fid) #[] cv.toArray)) (hv:NF l args.toList=some vals)
    (hc:DN P fid=true) (ha:(vals++cv).toArray=argv) (ct:Ct P fid argv I pre post) (hM:M.Perm (pre++F))
    (h:∀ v I' M',I.le I'→post v I' M'→K (ups d v l) I' (M'++F)):Stp P N ops i l I M K:=by
  obtain ⟨o,ho,rfl,he,rfl,rfl,hN,hs⟩:=GQ hop;obtain ⟨h1,h2⟩:=HL hv;refine ⟨o,ho,hN,hs,hg,?_,fun w st=>?_⟩
  · rw [he]
    intro x hx;simp only [Op.operands,Call.operands] at hx;rcases Df.1 hx with hx | hx
    · simp at hx;subst hx;exact ED hf
    · exact h1 x (by simpa using hx)
  · rw [GN,he,call_run (BI hf) h2 hc,ha]
    refine (ct F w (st.perm hM)).mono fun e w' ⟨v,I',M',hv',hle,hp,st'⟩=>?_
    exact ⟨v,hv',I',M'++F,hle,st',h v I' M' hle hp⟩
theorem det_call {d : Nat} {f : Operand} {fid : FuncId} {args : Array Operand} {tys : Array TypeId} {vals cv : List Value} {v : Value} {argv : Array Value}
    (hop:FH ops N i=some (some d,.call { callee:=.value f,args,argTypes:=tys },ty,gd)) (hg:FL ops l gd=some true) (hf:CB l f=some (.func (.func fid) #[] cv.toArray)) (hv:NF l args.toList=some vals)
    (hc:DN P fid=true) (ha:(vals++cv).toArray=argv) (ct:∀ I',I.le I'→CtV P fid argv I' v):Det P N ops i l I R d v:=by
  obtain ⟨o,ho,hd,he,rfl,rfl,hN,hs⟩:=GQ hop;obtain ⟨h1,h2⟩:=HL hv;refine ⟨o,ho,hd,hN d rfl,hs,.inr ⟨hg,?_,fun I' N' w hle st=>?_⟩⟩
  · rw [he]
    intro x hx;simp only [Op.operands,Call.operands] at hx;rcases Df.1 hx with hx | hx
    · simp at hx;subst hx;exact ED hf
    · exact h1 x (by simpa using hx)
  · rw [GN,he,call_run (BI hf) h2 hc,ha]
    refine (ct I' hle (R++N') w st).mono fun e w' ⟨u,I'',M',hv',hle',⟨hu,hm⟩,st'⟩=>?_
    subst hu hm;exact ⟨u,hv',rfl,st'.less hle'⟩
end
def waits (ops:Array Oper):Nat→Nat→Nat→Bool
  | 0,_,_=>false
  | f+1,j,i=>
    match ops[j]? with
    | some o=>o.after.any (fun e=>Region.binds .any e&&Nat.beq e.on i)||o.after.any (fun e=>Region.binds .any e&&waits ops f e.on i)
    | none=>false
def HJ (listed:Array Bool) (k:Nat):Prop:=listed.getD k false=true
def Closed (ops:Array Oper) (listed:Array Bool):Prop:=
  ∀ k,HJ listed k→∀ o,ops[k]?=some o→∀ e∈o.after,Region.binds .any e=true→HJ listed e.on
theorem waits_done {ops : Array Oper} {listed : Array Bool} (hc : Closed ops listed) : ∀ (f j i : Nat), (∀ o, ops[j]? = some o → ∀ e ∈ o.after, Region.binds .any e = true → HJ listed e.on) →
    waits ops f j i=true→HJ listed i:=by
  intro f
  induction f with
  | zero=>intro j i _ h;cases h
  | succ f ih=>
    intro j i hj h;simp only [waits] at h;cases ho:ops[j]? with
    | none=>rw [ho] at h;cases h
    | some o=>
      rw [ho] at h;simp only [Bw,Array.any_eq_true] at h;rcases h with ⟨k,hk,h⟩ | ⟨k,hk,h⟩
      · rw [Ah] at h
        have:=hj o ho _ (Array.getElem_mem hk) h.1;rw [Ao h.2] at this;exact this
      · rw [Ah] at h
        have hd:=hj o ho _ (Array.getElem_mem hk) h.1;exact ih _ i (fun o' ho' e he hb=>hc _ hd o' ho' e he hb) h.2
def rowM (W M:Nat):List Edge→Nat
  | []=>0
  | e::es=>bif Region.binds .any e then Nat.lor (Nat.lor (2 ^ e.on) (Nat.shiftRight M (e.on*W))) (rowM W M es) else rowM W M es
def goM (W:Nat):List Oper→Nat→Nat→Nat
  | [],_,M=>M
  | o::r,j,M=>goM W r (j+1) (Nat.lor M (Nat.shiftLeft (rowM W M o.after.toList%2 ^ W) (j*W)))
def wbits (ops:Array Oper):Nat:=goM ops.size ops.toList 0 0
def wt (ops:Array Oper) (j i:Nat):Bool:=Nat.blt i ops.size&&Nat.testBit (wbits ops) (j*ops.size+i)
def Behind (ops:Array Oper) (j i:Nat):Prop:=∃ f,waits ops f j i=true
theorem behind_edge {ops:Array Oper} {j i:Nat} {o:Oper} (ho:ops[j]?=some o) {e:Edge} (he:e∈o.after.toList) (hb:Region.binds .any e=true) (h:e.on=i∨Behind ops e.on i):Behind ops j i:=by
  rcases h with h | ⟨f,h⟩
  · exact ⟨1, by
      simp only [waits,ho,Bw,Array.any_eq_true']
      exact .inl ⟨e,by simpa using he,by rw [hb,h];simp⟩⟩
  · exact ⟨f + 1, by
      simp only [waits,ho,Bw,Array.any_eq_true']
      exact .inr ⟨e,by simpa using he,by rw [hb,h];rfl⟩⟩
def BitsOk (ops:Array Oper) (W j M:Nat):Prop:=∀ k i,i<W→Nat.testBit M (k*W+i)=true→k<j∧Behind ops k i
theorem rowM_spec {ops:Array Oper} {W j M:Nat} (hM:BitsOk ops W j M) {o:Oper} (ho:ops[j]?=some o):∀ (es:List Edge),(∀ e∈es,e∈o.after.toList)→∀ i,i<W→Nat.testBit (rowM W M es) i=true→Behind ops j i:=by
  intro es
  induction es with
  | nil=>intro _ i _ h;simp [rowM] at h
  | cons e es ih=>
    intro hs i hi h;simp only [rowM] at h;cases hb:Region.binds .any e with
    | false=>rw [hb] at h;exact ih (fun x hx=>hs x (Ag _ hx)) i hi h
    | true=>
      rw [hb] at h;simp only [cond_true] at h;have h':Nat.testBit ((2 ^ e.on ||| (M >>> (e.on*W))) ||| rowM W M es) i=true:=h;rw [Nat.testBit_or,Nat.testBit_or,Bw,Bw] at h';rcases h' with (h1 | h1) | h1
      · rw [Nat.testBit_two_pow] at h1
        exact behind_edge ho (hs e (by simp)) hb (.inl (Bu h1))
      · rw [Nat.testBit_shiftRight] at h1
        exact behind_edge ho (hs e (by simp)) hb (.inr (hM e.on i hi h1).2)
      · exact ih (fun x hx=>hs x (Ag _ hx)) i hi h1
theorem goM_spec {ops:Array Oper} {W:Nat}:∀ (r:List Oper) (j M:Nat),(∀ k o,r[k]?=some o→ops[j+k]?=some o)→BitsOk ops W j M→∃ J,BitsOk ops W J (goM W r j M):=by
  intro r
  induction r with
  | nil=>intro j M _ h;exact ⟨j,h⟩
  | cons o r ih=>
    intro j M hr hM;simp only [goM];refine ih (j+1) _ (fun k q hk=>by rw [show j+1+k=j+(k+1) by omega];exact hr (k+1) q hk) ?_;intro k i hi h;have h':Nat.testBit (M ||| ((rowM W M o.after.toList%2 ^ W) <<< (j*W))) (k*W+i)=true:=h;rw [Nat.testBit_or,Bw] at h';rcases h' with h1 | h1
    · obtain ⟨a,b⟩:=hM k i hi h1
      exact ⟨by omega,b⟩
    · rw [Nat.testBit_shiftLeft,Ah,Nat.testBit_mod_two_pow,Ah] at h1
      obtain ⟨g1,g2,g3⟩:=h1;have g1:=Bu g1;have g2:=Bu g2;have hW:0<W:=by omega
      have e:k=j:=by
        have h1:(k*W+i)/W=k:=by rw [Nat.mul_comm,Nat.mul_add_div hW,Nat.div_eq_of_lt hi,Nat.add_zero]
        have h2:(j*W+(k*W+i-j*W))/W=j:=by rw [Nat.mul_comm j W,Nat.mul_add_div hW,Nat.div_eq_of_lt (by rw [Nat.mul_comm W j];exact g2),Nat.add_zero]
        rw [show j*W+(k*W+i-j*W)=k*W+i by omega] at h2;omega
      subst e;rw [show k*W+i-k*W=i by omega] at g3;exact ⟨by omega,rowM_spec hM (hr 0 o rfl) _ (fun _ hx=>hx) i hi g3⟩
theorem wt_behind {ops:Array Oper} {j i:Nat} (h:wt ops j i=true):Behind ops j i:=by
  unfold wt at h;rw [Ah] at h;obtain ⟨J,hJ⟩:=goM_spec (ops:=ops) (W:=ops.size) ops.toList 0 0 (fun k o hk=>by simpa using hk) (fun k i _ h=>by simp at h);exact (hJ j i (Bn h.1) h.2).2
theorem JX {ops:Array Oper} {listed:Array Bool} (hc:Closed ops listed) (j i:Nat) (h1:∀ o,ops[j]?=some o→∀ e∈o.after,Region.binds .any e=true→HJ listed e.on) (h:wt ops j i=true):HJ listed i:=
  let ⟨f,hf⟩:=wt_behind h
  waits_done hc f j i h1 hf
def EA (ops:Array Oper) (i t:Nat):Bool:=
  match ops[i]? with
  | some o=>(o.looksAt ops).any (fun u=>Nat.beq u t)
  | none=>false
def dstB (ops:Array Oper) (i t:Nat):Bool:=
  match ops[i]? with
  | some o=>match o.dst with
    | some d=>Nat.beq d t
    | none=>false
  | none=>false
def DZ (ops:Array Oper) (i:Nat):Option Nat:=(ops[i]?).bind (·.dst)
def freeOf (ops:Array Oper) (j i:Nat):Bool:=
  match DZ ops j with
  | some d=>!EA ops i d&&!dstB ops i d
  | none=>true
inductive Fresh
  | sl (E:TypeId)
  | cl (T:TypeId) (cs:Array Value)
  | bs (T:TypeId) (n:Nat) (cs:Array Value)
def CN:List (Nat × Nat × Fresh)→Nat→Option (Nat × Fresh)
  | [],_=>none
  | x::r,i=>bif Nat.beq x.1 i then some x.2 else CN r i
def isAl (als:List Nat) (i:Nat):Bool:=als.any fun k=>Nat.beq k i
def KV (als:List Nat) (ops:Array Oper) (x y:Nat × Bool):Bool:=
  bif x.2 then
    (match DZ ops x.1 with | some d=>!EA ops y.1 d||wt ops y.1 x.1 | none=>true) &&
    (bif y.2 then freeOf ops y.1 x.1 else (wt ops y.1 x.1||freeOf ops y.1 x.1))
  else wt ops y.1 x.1||(isAl als y.1&&(!y.2&&freeOf ops y.1 x.1))
def okSelf (ops:Array Oper) (x:Nat × Bool):Bool:=match DZ ops x.1 with | some d=>!EA ops x.1 d | none=>true
def GX (als:List Nat) (ops:Array Oper):List (Nat × Bool)→Bool
  | []=>true
  | x::r=>(r.all (KV als ops x)&&okSelf ops x)&&GX als ops r
def okPreds (ops:Array Oper):List Nat→List (Nat × Bool)→Bool
  | _,[]=>true
  | seen,x::r=>(match ops[x.1]? with | some o=>o.after.all (fun e=>!Region.binds .any e||seen.any (fun k=>Nat.beq k e.on)) | none=>false)&&okPreds ops (x.1::seen) r
def okTail (ops:Array Oper) (n0:Nat):Bool:=
  (List.range ops.size).all fun j=>Nat.blt j n0||((List.range j).all (fun i=>wt ops j i)&&(match ops[j]? with | some o=>o.after.all (fun e=>!Region.binds .any e||Nat.blt e.on j) | none=>false))
def okAllX (als:List Nat) (ops:Array Oper) (n0:Nat) (order:List (Nat × Bool)):Bool:=
  GX als ops order&&okPreds ops [] order&&okTail ops n0&&Nat.ble n0 ops.size&&order.all (fun x=>Nat.blt x.1 n0)&&(List.range n0).all (fun k=>order.any (fun x=>Nat.beq x.1 k)) &&
  Nat.beq order.length n0
def okAll (ops:Array Oper) (n0:Nat) (order:List (Nat × Bool)):Bool:=okAllX [] ops n0 order
section
variable (P:Program) (N:Nat) (ops:Array Oper) (R:Seg)
def OFP (Kfin:Sl→Imm→Seg→Prop):List (Nat × Bool)→Sl→Imm→Seg→Prop
  | [],l,I,S=>Kfin l I S
  | (i,true)::rest,l,I,S=>∃ d v,Det P N ops i l I R d v∧OFP Kfin rest ((d,v)::l) I S
  | (i,false)::rest,l,I,S=>Stp P N ops i l I (R++S) fun l' I' M'=>∃ S',M'.Perm (R++S')∧OFP Kfin rest l' I' S'
theorem Stp.mono {P:Program} {N:Nat} {ops:Array Oper} {i:Nat} {l:Sl} {I:Imm} {M:Seg} {K K':Sl→Imm→Seg→Prop} (h:Stp P N ops i l I M K) (hk:∀ l I M,K l I M→K' l I M):Stp P N ops i l I M K':=by
  obtain ⟨o,h1,h2,h3,h4,h5,h6⟩:=h;exact ⟨o,h1,h2,h3,h4,h5,fun w st=>(h6 w st).mono fun v w' ⟨I',M',a,b,c⟩=>⟨I',M',a,b,hk _ _ _ c⟩⟩
theorem Stp.perm {P:Program} {N:Nat} {ops:Array Oper} {i:Nat} {l:Sl} {I:Imm} {M M':Seg} {K:Sl→Imm→Seg→Prop} (hM:M.Perm M') (h:Stp P N ops i l I M' K):Stp P N ops i l I M K:=by
  obtain ⟨o,h1,h2,h3,h4,h5,h6⟩:=h;exact ⟨o,h1,h2,h3,h4,h5,fun w st=>h6 w (st.perm hM)⟩
def emVal (E:Fresh) (b:Nat):Value:=match E with | .sl _=>.slice (some ⟨b,0,none⟩) 0 0 | .cl _ _=>.pointer (some ⟨b,0,none⟩) | .bs _ n _=>.slice (some ⟨b,0,none⟩) n n
def emObj (b:Nat) (E:Fresh):Nat × Obj:=match E with | .sl T=>(b,Obj.cells #[] T (0,0)) | .cl T cs=>(b,Obj.cells cs T (0,0)) | .bs T _ cs=>(b,Obj.cells cs T (0,0))
def AlOk (L0:Sl) (i d:Nat) (E:Fresh):Prop:=
  DZ ops i=some d∧DL d L0=none∧(∀ t,EA ops i t=true→∃ u,DL t L0=some u∧∀ k,DZ ops k=some t→wt ops i k=true)∧∀ (I:Imm) (M:Seg),Stp P N ops i L0 I M fun l' I' M'=>∃ b,l'=(d,emVal E b)::L0∧I'=I∧M'=emObj b E::M
def Known (als:List Nat) (al:List (Nat × Nat × Fresh)) (rest:List (Nat × Bool)):Prop:=∀ j,isAl als j=true→(∃ p,CN al j=some p)∨∃ a,(a,false)∈rest∧wt ops j a=true∧isAl als a=false
def Ext (als:List Nat) (al:List (Nat × Nat × Fresh)) (L0:Sl) (al':List (Nat × Nat × Fresh)) (L0' l':Sl):Prop:=
  (al'=al∧L0'=L0)∨((∀ i d E,CN al i=some (d,E)→CN al' i=some (d,E))∧(∀ i d E,CN al' i=some (d,E)→AlOk P N ops L0' i d E∧isAl als i=true)∧(∀ t u,DL t L0'=some u→DL t l'=some u∨DL t L0=some u))
def OFPX (als:List Nat) (F0:Seg) (Kfin:Sl→Imm→Seg→Prop):List (Nat × Nat × Fresh)→Sl→List (Nat × (Seg→Prop))→List (Nat × Bool)→Sl→Imm→Seg→Prop
  | _,_,_,[],l,I,M=>Kfin l I M
  | al,L0,fp,(i,true)::rest,l,I,M=>∃ (d:Nat) (v:Value) (pr:Seg→Prop) (Rx Sx:Seg),(∀ X,pr X→Det P N ops i l I X d v)∧pr Rx∧M.Perm (Rx++Sx)∧(∀ u,DL d L0=some u→v=u)∧OFPX als F0 Kfin al L0 ((i,pr)::fp) rest ((d,v)::l) I M
  | al,L0,fp,(i,false)::rest,l,I,M=>match CN al i with
    | some (d,E)=>∀ b,OFPX als F0 Kfin al L0 fp rest ((d,emVal E b)::l) I (emObj b E::M)
    | none=>(∀ d,DZ ops i=some d→DL d L0=none)∧∀ F,(als=[]→F=F0)→Stp P N ops i l I (M++F) fun l' I' M'=>∃ M1 al' L0',M'.Perm (M1++F)∧(∀ p∈fp,wt ops i p.1=true∨∃ Rx Sx,p.2 Rx∧M1.Perm (Rx++Sx))∧Ext P N ops als al L0 al' L0' l'∧Known ops als al' rest∧OFPX als F0 Kfin al' L0' fp rest l' I' M1
theorem OFPX.mono {K K':Sl→Imm→Seg→Prop} (hk:∀ l I M,K l I M→K' l I M) {als:List Nat} {F0:Seg}:∀ (order:List (Nat × Bool)) (al:List (Nat × Nat × Fresh)) (L0:Sl) (fp:List (Nat × (Seg→Prop))) (l:Sl) (I:Imm) (M:Seg),OFPX P N ops als F0 K al L0 fp order l I M→OFPX P N ops als F0 K' al L0 fp order l I M:=by
  intro order
  induction order with
  | nil=>intro al L0 fp l I M h;exact hk l I M h
  | cons x rest ih=>
    intro al L0 fp l I M h;obtain ⟨i,kd⟩:=x;cases kd with
    | true=>
      obtain ⟨d,v,pr,Rx,Sx,h1,hpr,h2,h0,h3⟩:=h;exact ⟨d,v,pr,Rx,Sx,h1,hpr,h2,h0,ih _ _ _ _ _ _ h3⟩
    | false=>
      unfold OFPX at h ⊢;cases ha:CN al i with
      | some p=>rw [ha] at h;exact fun b=>ih _ _ _ _ _ _ (h b)
      | none=>
        rw [ha] at h;exact ⟨h.1,fun F hF=>Stp.mono (h.2 F hF) fun l' I' M' ⟨M1,al',L0',a,b,e1,e2,c⟩=>⟨M1,al',L0',a,b,e1,e2,ih _ _ _ _ _ _ c⟩⟩
theorem OFP.x {Kfin : Sl → Imm → Seg → Prop} : ∀ (order : List (Nat × Bool)) (fp : List (Nat × (Seg → Prop))) (l : Sl) (I : Imm) (S M : Seg), (∀ p ∈ fp, p.2 R) → M.Perm (R ++ S) → OFP P N ops R Kfin order l I S →
    OFPX P N ops [] [] (fun l I M=>∃ S,M.Perm (R++S)∧Kfin l I S) [] [] fp order l I M:=by
  intro order
  induction order with
  | nil=>intro fp l I S M _ hM h;exact ⟨S,hM,h⟩
  | cons x rest ih=>
    intro fp l I S M hfp hM h;obtain ⟨i,kd⟩:=x;cases kd with
    | true=>
      obtain ⟨d,v,h1,h2⟩:=h
      exact ⟨d,v,(fun X=>X=R),R,S,fun X hX=>hX▸h1,rfl,hM,(fun _ h=>by cases h),ih _ _ _ S M (fun p hp=>by
        rcases Ac.1 hp with rfl | hp
        · rfl
        · exact hfp p hp) hM h2⟩
    | false=>
      refine ⟨fun _ _=>rfl,fun F hF=>?_⟩;obtain rfl:=hF rfl;rw [Aa];have h':Stp P N ops i l I M fun l' I' M'=>∃ S',M'.Perm (R++S')∧OFP P N ops R Kfin rest l' I' S':=Stp.perm hM h
      refine h'.mono fun l' I' M' ⟨S',hM',hr⟩=>⟨M',[],[],by rw [Aa],fun p hp=>.inr ⟨R,S',hfp p hp,hM'⟩,.inl ⟨rfl,rfl⟩,(fun j hj=>by cases hj),ih fp l' I' S' M' hfp hM' hr⟩
end
theorem long_enough:∀ (n:Nat) (l:List Nat),(∀ k,k<n→k∈l)→n≤l.length:=by
  intro n
  induction n with
  | zero=>intro l _;omega
  | succ n ih=>
    intro l h;obtain ⟨A,B,rfl⟩:=Cx (h n (by omega))
    have:=ih (A++B) (fun k hk=>by
      have:=h k (by omega)
      simp only [Ab,Ac] at this ⊢
      rcases this with h | h | h
      · exact .inl h
      · omega
      · exact .inr h)
    simp at this ⊢;omega
theorem nodup_of_all:∀ (n:Nat) (l:List Nat),l.length≤n→(∀ k,k<n→k∈l)→l.Nodup:=by
  intro n
  induction n with
  | zero=>intro l hl _;have:l=[]:=List.length_eq_zero_iff.1 (by omega);subst this;simp
  | succ n ih=>
    intro l hl h;obtain ⟨A,B,rfl⟩:=Cx (h n (by omega))
    have hAB:(A++B).Nodup:=ih (A++B) (by simp at hl ⊢;omega) (fun k hk=>by
      have:=h k (by omega)
      simp only [Ab,Ac] at this ⊢
      rcases this with h | h | h
      · exact .inl h
      · omega
      · exact .inr h)
    have hn:n∉A++B:=fun hm=>by
      obtain ⟨C,D,e⟩:=Cx hm;have h2:∀ k,k<n→k∈C++D:=fun k hk=>by
        have:=h k (by omega);have h3:k∈A++B:=by
          simp only [Ab,Ac] at this ⊢;rcases this with h | h | h
          · exact .inl h
          · omega
          · exact .inr h
        rw [e] at h3;simp only [Ab,Ac] at h3 ⊢;rcases h3 with h | h | h
        · exact .inl h
        · omega
        · exact .inr h
      have hlen:(C++D).length<n:=by
        have:(A++B).length=(C++D).length+1:=by rw [e];simp;omega
        simp at hl this ⊢;omega
      exact absurd (long_enough n (C++D) h2) (by omega)
    have hp:(A++n::B).Perm (n::(A++B)):=Az;exact hp.nodup_iff.2 (Cb.2 ⟨hn,hAB⟩)
section
variable {ρ:Option Nat} {P:Program} {N:Nat} {ops:Array Oper} {R:Seg} {Q:Exit→Act→World→Prop} {ds:List Deferred}
theorem DV {listed : Array Bool} {i : Nat} (h : i ∈ Region.ready .any ops listed) :
    listed.getD i true=false∧∃ o,ops[i]?=some o∧∀ e∈o.after,Region.binds .any e=true→HJ listed e.on:=mem_ready.1 h
theorem IF {listed:Array Bool} {i k:Nat} (hi:i<listed.size):HJ (listed.setIfInBounds i true) k↔k=i∨HJ listed k:=by
  unfold HJ
  by_cases e:i=k
  · subst e
    simp [hi]
  · have:(listed.setIfInBounds i true).getD k false=listed.getD k false:=by simp [Array.getElem?_setIfInBounds_ne e]
    rw [this];exact ⟨.inr,fun h=>h.resolve_left (fun h'=>e h'.symm)⟩
theorem LY {listed:Array Bool} {i:Nat} (hc:Closed ops listed) (hi:i∈Region.ready .any ops listed) (hs:i<listed.size):Closed ops (listed.setIfInBounds i true):=by
  intro k hk o ho e he hb;obtain ⟨_,o',ho',hall⟩:=DV hi;rcases (IF hs).1 hk with rfl | hk
  · rw [ho'] at ho;cases ho
    exact (IF hs).2 (.inr (hall e he hb))
  · exact (IF hs).2 (.inr (hc k hk o ho e he hb))
theorem HK {listed:Array Bool} {i:Nat} (hi:i∈Region.ready .any ops listed) (hs:i<listed.size):¬ HJ listed i:=by
  have:=(DV hi).1;unfold HJ;simp [hs] at this ⊢;exact this
theorem tail_any {n0 : Nat} (hsz : ∀ j, j < ops.size → ∀ i, i < j → n0 ≤ j → wt ops j i = true) (hlt : ∀ j o, n0 ≤ j → ops[j]? = some o → ∀ e ∈ o.after, Region.binds .any e = true → e.on < j) :
    ∀ (m k:Nat) (fuel:Nat) (listed:Array Bool) (a:Act) (w:World),
    k+m=ops.size→n0≤k→m≤fuel→listed.size=ops.size→Closed ops listed→(∀ j,j<ops.size→(HJ listed j↔j<k))→wpOpsIn (fen ρ) 0 P ops Q (List.range' k m) a w→wpAnyC ρ P .any ops Q fuel listed a w:=by
  intro m
  induction m with
  | zero=>
    intro k fuel listed a w hk _ _ hl _ hd h;have hr:Region.ready .any ops listed=[]:=by
      apply List.eq_nil_iff_forall_not_mem.2
      intro i hi;obtain ⟨_,o,ho,_⟩:=DV hi;have hlt:i<ops.size:=(Ap.1 ho).1;exact HK hi (by omega) ((hd i hlt).2 (by omega))
    cases fuel with
    | zero=>exact ⟨hr,h⟩
    | succ f=>exact ⟨fun _=>h,fun i hi=>by rw [hr] at hi;cases hi⟩
  | succ m ih=>
    intro k fuel listed a w hk hn hf hl hc hd h;obtain ⟨f,rfl⟩:∃ f,fuel=f+1:=⟨fuel-1,by omega⟩;have hklt:k<ops.size:=by omega
    have only:∀ i∈Region.ready .any ops listed,i=k:=fun i hi=>by
      obtain ⟨_,o,ho,hall⟩:=DV hi;have hlt:i<ops.size:=(Ap.1 ho).1;have hnd:=HK hi (by omega);rcases Nat.lt_trichotomy i k with h1 | h1 | h1
      · exact absurd ((hd i hlt).2 h1) hnd
      · exact h1
      · have:=JX hc i k (fun o' ho' e he hb=>by rw [ho] at ho';cases ho';exact hall e he hb) (hsz i hlt k h1 (by omega))
        exact absurd ((hd k hklt).1 this) (by omega)
    rw [List.range'_succ,wpOpsC_cons] at h;refine ⟨fun hnil=>?_,fun i hi=>?_⟩
    · exfalso
      have hin:k∈Region.ready .any ops listed:=by
        have ho:ops[k]?=some ops[k]:=by simp [hklt]
        refine mem_ready.2 ⟨?_,_,ho,fun e he hb=>?_⟩
        · have:¬ HJ listed k:=fun hh=>by have:=(hd k hklt).1 hh;omega
          unfold HJ at this;simp [hl,hklt] at this ⊢;exact this
        · have:=hlt k _ hn ho e he hb
          exact (hd e.on (by omega)).2 this
      rw [hnil] at hin;cases hin
    · obtain rfl:=only i hi
      refine wpOpC_mono (fun a' w' h'=>?_) h;refine ih (i+1) f _ a' w' (by omega) (by omega) (by omega) (by simp [hl]) (LY hc hi (by omega)) (fun j hj=>?_) h';rw [IF (by omega),hd j hj];omega
abbrev PG:=List (Nat × Nat × Nat × Fresh)
def earM (early:PG):Seg:=early.map fun e=>emObj e.2.2.1 e.2.2.2
structure Mid (P:Program) (N:Nat) (ops:Array Oper) (als:List Nat) (al:List (Nat × Nat × Fresh)) (L0:Sl) (F0:Seg) (fp:List (Nat × (Seg→Prop))) (ds:List Deferred) (Kfin:Sl→Imm→Seg→Prop) (listed:Array Bool) (pre todo:List (Nat × Bool)) (pend:List (Nat × Nat × Value)) (early:PG) (l:Sl) (I:Imm) (M:Seg) (a:Act) (w:World):Prop where
  lsize:listed.size=ops.size
  closed:Closed ops listed
  done:∀ k,k<ops.size→(HJ listed k↔((k∈pre.map Prod.fst∧k∉pend.map Prod.fst)∨k∈early.map Prod.fst))
  pnd:∀ x∈pend,(x.1,true)∈pre∧DZ ops x.1=some x.2.1∧∃ (l':Sl) (I':Imm) (pr:Seg→Prop) (Rx Sx:Seg),(x.1,pr)∈fp∧pr Rx∧M.Perm (Rx++Sx)∧(∀ X,pr X→Det P N ops x.1 l' I' X x.2.1 x.2.2)∧I'.le I∧∀ t u,EA ops x.1 t=true→DL t l'=some u→DL t l=some u
  ear:∀ e∈early,(e.1,false)∈todo∧CN al e.1=some (e.2.1,e.2.2.2)∧a.tmps[e.2.1]?=some (emVal e.2.2.2 e.2.2.1)
  sep:∀ x∈pend,∀ e∈early,x.2.1≠e.2.1∧EA ops x.1 e.2.1=false
  nodup:(pend.map Prod.fst).Nodup
  enodup:(early.map Prod.fst).Nodup
  size:a.tmps.size=N
  slots:∀ t u,DL t l=some u→(∀ x∈pend,x.2.1≠t)→(∀ e∈early,e.2.1≠t)→a.tmps[t]?=some u
  vals:∀ x∈pend,DL x.2.1 l=some x.2.2
  defers:a.defers=ds
  st:St I (M++(earM early++F0)) w
  rest:OFPX P N ops als F0 Kfin al L0 fp todo l I M
  exp:∀ t u,DL t L0=some u→(∃ k,DZ ops k=some t∧k∉pre.map Prod.fst)∨DL t l=some u
theorem HT {j i d:Nat} (h:freeOf ops j i=true) (hd:DZ ops j=some d):EA ops i d=false∧dstB ops i d=false:=by
  unfold freeOf at h;rw [hd] at h
  simpa using h
theorem looksB_mem {i t:Nat} {o:Oper} (ho:ops[i]?=some o):EA ops i t=true↔t∈o.looksAt ops:=by
  unfold EA;rw [ho];simp only [List.any_eq_true]
  constructor
  · rintro ⟨u,hu,e⟩;rw [← Ao e];exact hu
  · intro h;exact ⟨t,h,Nat.beq_refl t⟩
theorem OO {i d:Nat} (h:DZ ops i=some d):dstB ops i d=true:=by
  unfold DZ at h;unfold dstB;cases ho:ops[i]? with
  | none=>rw [ho] at h;cases h
  | some o=>
    rw [ho] at h;simp only [Option.bind_some] at h;simp only [h];exact Nat.beq_refl d
variable {als:List Nat} {al:List (Nat × Nat × Fresh)} {L0:Sl} {F0:Seg} {fp:List (Nat × (Seg→Prop))} {Kfin:Sl→Imm→Seg→Prop} {listed:Array Bool} {pre todo:List (Nat × Bool)} {pend:List (Nat × Nat × Value)} {early:PG} {l:Sl} {I:Imm} {M:Seg} {a:Act} {w:World}
theorem JN {A B:List (Nat × Bool)} {x y:Nat × Bool} (h:GX als ops (A++x::B)=true) (hy:y∈B):KV als ops x y=true:=by
  induction A with
  | nil=>
    simp only [De,GX,Ah] at h;exact Ax.1 h.1.1 y hy
  | cons z A ih=>
    simp only [Ci,GX,Ah] at h;exact ih h.2
theorem HF {A B:List (Nat × Bool)} {x y:Nat × Bool} (h:GX als ops (A++y::B)=true) (hx:x∈A):KV als ops x y=true:=by
  obtain ⟨A1,A2,rfl⟩:=Cx hx;rw [Am,Ci] at h;exact JN h (by simp)
theorem LP {A B:List (Nat × Bool)} {x:Nat × Bool} (h:GX als ops (A++x::B)=true):okSelf ops x=true:=by
  induction A with
  | nil=>
    simp only [De,GX,Ah] at h;exact h.1.2
  | cons z A ih=>
    simp only [Ci,GX,Ah] at h;exact ih h.2
theorem okPair_al {x:Nat × Bool} {y d:Nat} (h:KV als ops x (y,false)=true) (hd:DZ ops y=some d) (hw:¬ wt ops y x.1=true):EA ops x.1 d=false∧dstB ops x.1 d=false:=by
  unfold KV at h;cases hx:x.2 with
  | true=>
    rw [hx] at h;simp only [cond_true,cond_false,Ah,Bw] at h;exact HT (h.2.resolve_left hw) hd
  | false=>
    rw [hx] at h;simp only [cond_false,Bw,Ah,Bool.not_false,true_and] at h;exact HT (h.resolve_left hw).2 hd
theorem PJ {i d:Nat} (h:DZ ops i=some d):i<ops.size:=by
  unfold DZ at h;cases ho:ops[i]? with
  | none=>rw [ho] at h;cases h
  | some _=>exact (Ap.1 ho).1
theorem Mid.virt {i : Nat} (hA : ∀ i d E, CN al i = some (d, E) → AlOk P N ops L0 i d E) (m : Mid P N ops als al L0 F0 fp ds Kfin listed pre ((i, true) :: todo) pend early l I M a w) (hok : GX als ops (pre ++ (i, true) :: todo) = true) (hnd : ¬ HJ listed i) (hi : i ∉ pre.map Prod.fst) (hall : ∀ e ∈ early, ∀ k, wt ops e.1 k = true → HJ listed k) (he : ∀ e ∈ early, (e.1, false) ∈ todo) :
    ∃ d v fp',Mid P N ops als al L0 F0 fp' ds Kfin listed (pre++[(i,true)]) todo (pend++[(i,d,v)]) early ((d,v)::l) I M a w:=by
  obtain ⟨d,v,pr,Rx,Sx,hdet,hprx,hMx,hL0,hrest⟩:=m.rest;have hdst:DZ ops i=some d:=by
    obtain ⟨o,ho,hd,_⟩:=hdet Rx hprx;simp [DZ,ho,hd]
  have fr:∀ x∈pend,EA ops x.1 d=false∧dstB ops x.1 d=false:=fun x hx=>by
    have hp:=HF hok (m.pnd x hx).1;simp only [KV,cond_true,Ah] at hp;exact HT hp.2 hdst
  have fe:∀ e∈early,EA ops i e.2.1=false∧d≠e.2.1:=fun e h=>by
    have hal:=(m.ear e h).2.1;have:=okPair_al (JN hok (he e h)) (hA _ _ _ hal).1 (fun hw=>hnd (hall e h i hw));refine ⟨this.1,fun e'=>?_⟩;have h2:=OO hdst;rw [e',this.2] at h2;cases h2
  refine ⟨d,v,(i,pr)::fp,m.lsize,m.closed,fun k hk=>?_,fun x hx=>?_,fun e h=>?_,fun x hx e h=>?_,?_,m.enodup,m.size,fun t u ht hx hxe=>?_,fun x hx=>?_,m.defers,m.st,hrest,fun t u htu=>?_⟩
  · rw [m.done k hk]
    simp only [Ba,Aw,Cs,Ab,Af,not_or]
    constructor
    · rintro (⟨h1,h2⟩ | h1)
      · refine .inl ⟨.inl h1,h2,fun e=>?_⟩
        subst e;exact hi h1
      · exact .inr h1
    · rintro (⟨h1 | h1,h2,h3⟩ | h1)
      · exact .inl ⟨h1,h2⟩
      · exact absurd h1 h3
      · exact .inr h1
  · rcases Ab.1 hx with hx | hx
    · obtain ⟨h1,h2,l',I',pr',Rx',Sx',hf,hq,hp,h3,h4,h5⟩:=m.pnd x hx
      refine ⟨Bd _ h1,h2,l',I',pr',Rx',Sx',Ag _ hf,hq,hp,h3,h4,fun t u ht hu=>?_⟩;have hne:d≠t:=fun e=>by subst e;rw [(fr x hx).1] at ht;cases ht
      rw [BS hne];exact h5 t u ht hu
    · simp only [Af] at hx;subst hx
      refine ⟨by simp,hdst,l,I,pr,Rx,Sx,Aj,hprx,hMx,hdet,Imm.le.refl I,fun t u ht hu=>?_⟩;have hne:d≠t:=fun e=>by
        subst e;have:=LP hok;simp only [okSelf,hdst,Ck] at this;rw [this] at ht;cases ht
      rw [BS hne];exact hu
  · exact ⟨he e h,(m.ear e h).2⟩
  · rcases Ab.1 hx with hx | hx
    · exact m.sep x hx e h
    · simp only [Af] at hx;subst hx
      exact ⟨(fe e h).2,(fe e h).1⟩
  · rw [Ba]
    refine Au.2 ⟨m.nodup,by simp,fun x hx y hy=>?_⟩;simp only [Aw,Cs,Af] at hy;subst hy;intro e;subst e;obtain ⟨z,hz,rfl⟩:=Ai.1 hx;exact hi (Ak (f:=Prod.fst) (m.pnd z hz).1)
  · have hne:d≠t:=hx (i,d,v) (by simp)
    rw [BS hne] at ht;exact m.slots t u ht (fun x hx'=>hx x (Bd _ hx')) hxe
  · rcases Ab.1 hx with hx | hx
    · have hne : d ≠ x.2.1 := fun e => by
        have:=OO (m.pnd x hx).2.1;rw [← e,(fr x hx).2] at this;cases this
      rw [BS hne];exact m.vals x hx
    · simp only [Af] at hx;subst hx
      exact DU _ _ _
  · by_cases e:d=t
    · subst e
      rw [hL0 u htu];exact .inr (DU _ _ _)
    · rcases m.exp t u htu with ⟨k,h1,h2⟩ | h1
      · refine .inl ⟨k,h1,fun hk=>?_⟩
        rw [Ba] at hk;rcases Ab.1 hk with h | h
        · exact h2 h
        · simp only [Aw,Cs,Af] at h
          subst h;rw [hdst] at h1;exact e (Bm h1)
      · exact .inr (by rw [BS e];exact h1)
theorem Mid.agree {i : Nat} {o : Oper} {l' : Sl} (m : Mid P N ops als al L0 F0 fp ds Kfin listed pre todo pend early l I M a w) (ho : ops[i]? = some o)
    (hall:∀ o',ops[i]?=some o'→∀ e∈o'.after,Region.binds .any e=true→HJ listed e.on)
    (hsub:∀ t u,EA ops i t=true→DL t l'=some u→DL t l=some u)
    (hw:∀ x∈pend,EA ops i x.2.1=true→wt ops i x.1=true∨x.1=i) (hself:∀ d,DZ ops i=some d→EA ops i d=false) (hear:∀ e∈early,EA ops i e.2.1=false) (hpe:∀ x∈pend,x.1∉early.map Prod.fst) :
    ∀ t∈o.looksAt ops,∀ u,DL t l'=some u→a.tmps[t]?=some u:=by
  intro t ht u hu;have htb:EA ops i t=true:=(looksB_mem ho).2 ht;refine m.slots t u (hsub t u htb hu) (fun x hx e=>?_) (fun e he e'=>?_)
  · subst e
    rcases hw x hx htb with h | h
    · have hdn:=JX m.closed i x.1 hall h
      rcases (m.done x.1 (PJ (m.pnd x hx).2.1)).1 hdn with h1 | h1
      · exact h1.2 (Ak (f:=Prod.fst) hx)
      · exact hpe x hx h1
    · have:=hself x.2.1 (by rw [← h];exact (m.pnd x hx).2.1)
      rw [htb] at this;cases this
  · subst e'
    rw [hear e he] at htb;cases htb
theorem Mid.exec {i : Nat} {K : Act → World → Prop} {x : Nat × Nat × Value} (m : Mid P N ops als al L0 F0 fp ds Kfin listed pre todo pend early l I M a w) (hx : x ∈ pend) (hix : x.1 = i) (hi : i ∈ Region.ready .any ops listed)
    (hok:GX als ops (pre++todo)=true) (hpair:∀ y∈pend,EA ops i y.2.1=true→wt ops i y.1=true∨y.1=i) (hpe:∀ x∈pend,x.1∉early.map Prod.fst)
    (hK:∀ a' w',Mid P N ops als al L0 F0 fp ds Kfin (listed.setIfInBounds i true) pre todo (pend.filter (fun y=>!(Nat.beq y.1 i))) early l I M a' w'→K a' w'):ON ρ P ops Q i K a w:=by
  subst hix;obtain ⟨h1,h2,l',I',pr,Rx,Sx,hfx,hprx,hMx,hdet0,hle,hsub⟩:=m.pnd x hx;have hdet:=hdet0 Rx hprx;obtain ⟨o,ho,hd,hN,hsel,hdet⟩:=hdet;have hlt:x.1<ops.size:=(Ap.1 ho).1;have hself:∀ d,DZ ops x.1=some d→EA ops x.1 d=false:=fun d hd'=>by
    obtain ⟨A,B,e⟩:=Cx h1;rw [e,Am,Ci] at hok;have:=LP hok
    simpa [okSelf,hd'] using this
  have hag:=m.agree ho (fun o' ho'=>by obtain ⟨_,o2,ho2,hall⟩:=DV hi;rw [ho2] at ho';cases ho';exact hall) hsub hpair hself (fun e he=>(m.sep x hx e he).2) hpe
  have fin:∀ w',St I (M++(earM early++F0)) w'→K (a.put (some x.2.1) x.2.2) w':=fun w' hst=>hK _ _ (by
    refine ⟨by simp [m.lsize],LY m.closed hi (by rw [m.lsize];exact hlt),fun k hk=>?_,fun y hy=>?_,fun e he=>?_,fun y hy e he=>?_,?_,m.enodup,by simp [Act.put,m.size],fun t u ht hy hye=>?_,fun y hy=>?_,by rw [FP];exact m.defers,hst,m.rest,m.exp⟩
    · rw [IF (by rw [m.lsize];exact hlt),m.done k hk]
      constructor
      · rintro (rfl | ⟨g1,g2⟩ | g)
        · refine .inl ⟨Ak (f:=Prod.fst) h1,fun hm=>?_⟩
          obtain ⟨y,hy,e⟩:=Ai.1 hm
          have:=(Bh.1 hy).2
          rw [e,Nat.beq_refl] at this;cases this
        · exact .inl ⟨g1, fun hm => by
            obtain ⟨y,hy,e⟩:=Ai.1 hm
            exact g2 (by rw [← e];exact Ak (f:=Prod.fst) (Bh.1 hy).1)⟩
        · exact .inr g
      · rintro (⟨g1,g2⟩ | g)
        · by_cases e:k=x.1
          · exact .inl e
          · refine .inr (.inl ⟨g1,fun hm=>g2 ?_⟩)
            obtain ⟨y,hy,e'⟩:=Ai.1 hm
            refine Ai.2 ⟨y,Bh.2 ⟨hy,?_⟩,e'⟩
            cases hb:Nat.beq y.1 x.1 with
            | false=>rfl
            | true=>exact absurd (by rw [← e'];exact Ao hb) e
        · exact .inr (.inr g)
    · obtain ⟨hy,_⟩:=Bh.1 hy
      exact m.pnd y hy
    · obtain ⟨e1,e2,e3⟩:=m.ear e he
      refine ⟨e1,e2,?_⟩
      simp only [Act.put]
      rw [Array.getElem?_setIfInBounds_ne (m.sep x hx e he).1];exact e3
    · exact m.sep y (Bh.1 hy).1 e he
    · exact (List.filter_sublist.map Prod.fst).nodup m.nodup
    · by_cases e:x.2.1=t
      · subst e
        have:=m.vals x hx
        rw [this] at ht;cases ht
        have:x.2.1<a.tmps.size:=by rw [m.size];exact hN
        simp [Act.put,this]
      · simp only [Act.put]
        rw [Array.getElem?_setIfInBounds_ne e]
        refine m.slots t u ht (fun y hy'=>?_) hye
        by_cases e2:y.1=x.1
        · intro e3
          have h3:=(m.pnd y hy').2.1
          rw [e2,h2] at h3
          exact e ((Bm h3).trans e3)
        · refine hy y (Bh.2 ⟨hy',?_⟩)
          cases hb:Nat.beq y.1 x.1 with
          | false=>rfl
          | true=>exact absurd (Ao hb) e2
    · exact m.vals y (Bh.1 hy).1)
  have hMx':(M++(earM early++F0)).Perm (Rx++(Sx++(earM early++F0))):=by rw [← Am Rx];exact List.Perm.append_right _ hMx
  unfold ON;simp only [ho];rcases hdet with ⟨hg,hv⟩ | ⟨hg,hk,hr⟩
  · rw [DI hg hag,if_neg (by simp),hd,← hv]
    exact fin w m.st
  · rw [DI hg hag,if_pos rfl]
    have:=hr I (Sx++(earM early++F0)) w hle (m.st.perm hMx');rw [← MA hsel hk hag] at this;refine Oper.wpIn_of_res hsel.2 this fun u w' ⟨hu,hst⟩=>?_
    subst hu;rw [hd];exact fin w' (hst.perm hMx'.symm)
theorem Mid.act {i : Nat} {K : Act → World → Prop} (hA : ∀ i d E, CN al i = some (d, E) → AlOk P N ops L0 i d E) (m : Mid P N ops als al L0 F0 fp ds Kfin listed pre ((i, false) :: todo) pend early l I M a w) (hal : CN al i = none) (hi : i ∈ Region.ready .any ops listed)
    (hok:GX als ops (pre++(i,false)::todo)=true) (hpre:i∉pre.map Prod.fst) (hnd:¬ HJ listed i) (halle:∀ e∈early,∀ k,wt ops e.1 k=true→HJ listed k) (he:∀ e∈early,(e.1,false)∈todo) (hpe:∀ x∈pend,x.1∉early.map Prod.fst) (hAs:∀ i d E,CN al i=some (d,E)→isAl als i=true)
    (hK:∀ l' I' M' al' L0' a' w',(∀ i d E,CN al' i=some (d,E)→AlOk P N ops L0' i d E)→(∀ i d E,CN al' i=some (d,E)→isAl als i=true)→Known ops als al' todo→Mid P N ops als al' L0' F0 fp ds Kfin (listed.setIfInBounds i true) (pre++[(i,false)]) todo pend early l' I' M' a' w'→K a' w'):ON ρ P ops Q i K a w:=by
  have hrest:=m.rest;unfold OFPX at hrest;rw [hal] at hrest;obtain ⟨hS0,hrest⟩:=hrest
  obtain ⟨o,ho,hN,hsel,hg,hk,hr⟩:=hrest (earM early++F0) (fun e0=>by
    cases hE:early with
    | nil=>rfl
    | cons e es=>
      have:=hAs _ _ _ (m.ear e (by rw [hE];simp)).2.1
      rw [e0] at this;cases this)
  have hlt:i<ops.size:=(Ap.1 ho).1;obtain ⟨_,o2,ho2,hall⟩:=DV hi;have hall':∀ o',ops[i]?=some o'→∀ e∈o'.after,Region.binds .any e=true→HJ listed e.on:=fun o' ho'=>by rw [ho2] at ho';cases ho';exact hall
  have hself:∀ d,DZ ops i=some d→EA ops i d=false:=fun d hd'=>by
    have:=LP hok
    simpa [okSelf,hd'] using this
  have pairs:∀ x∈pend,(EA ops i x.2.1=true→wt ops i x.1=true)∧(wt ops i x.1=true∨freeOf ops i x.1=true):=fun x hx=>by
    have hp:=HF hok (m.pnd x hx).1;simp only [KV,cond_true,cond_false,Ah,Bw] at hp;refine ⟨fun hl=>?_,hp.2⟩;have:=hp.1;rw [(m.pnd x hx).2.1] at this;simp only [Bw,Ck] at this;rcases this with h | h
    · rw [hl] at h;cases h
    · exact h
  have notw:∀ x∈pend,wt ops i x.1=false:=fun x hx=>by
    cases hw:wt ops i x.1 with
    | false=>rfl
    | true=>
      have hdn:=JX m.closed i x.1 hall' hw;rcases (m.done x.1 (PJ (m.pnd x hx).2.1)).1 hdn with h1 | h1
      · exact absurd (Ak (f:=Prod.fst) hx) h1.2
      · exact absurd h1 (hpe x hx)
  have fe:∀ e∈early,EA ops i e.2.1=false∧dstB ops i e.2.1=false:=fun e h=>
    okPair_al (JN hok (he e h)) (hA _ _ _ (m.ear e h).2.1).1 (fun hw=>hnd (halle e h i hw))
  have hag:=m.agree ho hall' (l':=l) (fun _ _ _ h=>h) (fun x hx hl=>.inl ((pairs x hx).1 hl)) hself (fun e h=>(fe e h).1) hpe;unfold ON;simp only [ho];rw [DI hg hag,if_pos rfl];have:=hr w m.st;rw [← MA hsel hk hag] at this;refine Oper.wpIn_of_res hsel.2 this fun v w' ⟨I',M2,hle,hst,M',al',L0',hM',hfp,hext,hkn,hrest⟩=>?_
  replace hst:=hst.perm hM';have x1:∀ i d E,CN al i=some (d,E)→CN al' i=some (d,E):=by
    rcases hext with ⟨rfl,rfl⟩ | h
    · exact fun _ _ _ h=>h
    · exact h.1
  have x2:∀ i d E,CN al' i=some (d,E)→AlOk P N ops L0' i d E∧isAl als i=true:=by
    rcases hext with ⟨rfl,rfl⟩ | h
    · exact fun i d E h=>⟨hA i d E h,hAs i d E h⟩
    · exact h.2.1
  have x3:∀ t u,DL t L0'=some u→DL t (ups o.dst v l)=some u∨DL t L0=some u:=by
    rcases hext with ⟨rfl,rfl⟩ | h
    · exact fun _ _ h=>.inr h
    · exact h.2.2
  have fr:∀ x∈pend,∀ d,o.dst=some d→EA ops x.1 d=false∧x.2.1≠d:=fun x hx d hd=>by
    have hf:freeOf ops i x.1=true:=(pairs x hx).2.resolve_left (by rw [notw x hx];simp);have hdo:DZ ops i=some d:=by simp [DZ,ho,hd]
    have:=HT hf hdo;refine ⟨this.1,fun e=>?_⟩;have h2:=OO (m.pnd x hx).2.1;rw [e,this.2] at h2;cases h2
  have fed:∀ e∈early,∀ d,o.dst=some d→d≠e.2.1:=fun e h d hd e'=>by
    have hdo:DZ ops i=some d:=by simp [DZ,ho,hd]
    have h2:=OO hdo;rw [e',(fe e h).2] at h2;cases h2
  refine hK (ups o.dst v l) I' M' al' L0' _ _ (fun i d E h=>(x2 i d E h).1) (fun i d E h=>(x2 i d E h).2) hkn ⟨by simp [m.lsize],LY m.closed hi (by rw [m.lsize];exact hlt),fun k hk=>?_,fun x hx=>?_,fun e h=>?_,m.sep,m.nodup,m.enodup,?_,fun t u ht hx hxe=>?_,fun x hx=>?_,by rw [FP];exact m.defers,hst,hrest,fun t u htu=>?_⟩
  · rw [IF (by rw [m.lsize];exact hlt),m.done k hk]
    simp only [Ba,Aw,Cs,Ab,Af]
    constructor
    · rintro (rfl | ⟨g1,g2⟩ | g)
      · exact .inl ⟨.inr rfl, fun hm => by
          obtain ⟨x,hx,e⟩:=Ai.1 hm
          exact hpre (by rw [← e];exact Ak (f:=Prod.fst) (m.pnd x hx).1)⟩
      · exact .inl ⟨.inl g1,g2⟩
      · exact .inr g
    · rintro (⟨g1 | g1,g2⟩ | g)
      · exact .inr (.inl ⟨g1,g2⟩)
      · exact .inl g1
      · exact .inr (.inr g)
  · obtain ⟨h1,h2,l',I'',pr,Rx,Sx,hf,hq,hp,h3,h4,h5⟩:=m.pnd x hx
    obtain ⟨Rx',Sx',hq',hp'⟩:=(hfp _ hf).resolve_left (by rw [notw x hx];simp);refine ⟨Bd _ h1,h2,l',I'',pr,Rx',Sx',hf,hq',hp',h3,h4.trans hle,fun t u ht hu=>?_⟩;cases hd:o.dst with
    | none=>exact h5 t u ht hu
    | some d=>
      have hne:d≠t:=fun e=>by subst e;rw [(fr x hx d hd).1] at ht;cases ht
      simp only [ups];rw [BS hne];exact h5 t u ht hu
  · refine ⟨he e h,x1 _ _ _ (m.ear e h).2.1,?_⟩
    cases hd:o.dst with
    | none=>exact (m.ear e h).2.2
    | some d=>
      simp only [Act.put];rw [Array.getElem?_setIfInBounds_ne (fed e h d hd)];exact (m.ear e h).2.2
  · cases hd:o.dst <;> simp [Act.put,m.size]
  · cases hd:o.dst with
    | none=>rw [hd] at ht;exact m.slots t u ht hx hxe
    | some d=>
      rw [hd] at ht;simp only [ups] at ht
      by_cases e:d=t
      · subst e
        rw [DU] at ht;cases ht;have:d<a.tmps.size:=by rw [m.size];exact hN d hd
        simp [Act.put,this]
      · rw [BS e] at ht
        simp only [Act.put];rw [Array.getElem?_setIfInBounds_ne e];exact m.slots t u ht hx hxe
  · cases hd:o.dst with
    | none=>exact m.vals x hx
    | some d=>
      simp only [ups];rw [BS (Ne.symm (fr x hx d hd).2)];exact m.vals x hx
  · rcases x3 t u htu with h0 | htu
    · exact .inr h0
    have hne:∀ d,o.dst=some d→d≠t:=fun d hd e=>by
      have:=hS0 d (by simp [DZ,ho,hd]);rw [e,htu] at this;cases this
    rcases m.exp t u htu with ⟨k,h1,h2⟩ | h1
    · refine .inl ⟨k,h1,fun hk=>?_⟩
      rw [Ba] at hk;rcases Ab.1 hk with h | h
      · exact h2 h
      · simp only [Aw,Cs,Af] at h
        subst h;have hd:o.dst=some t:=by simpa [DZ,ho] using h1
        exact hne t hd rfl
    · refine .inr ?_
      cases hd:o.dst with
      | none=>exact h1
      | some d=>simp only [ups];rw [BS (hne d hd)];exact h1
theorem Mid.ahead {i d : Nat} {E : Fresh} {K : Act → World → Prop} (m : Mid P N ops als al L0 F0 fp ds Kfin listed pre todo pend early l I M a w) (hal : CN al i = some (d, E)) (hA : AlOk P N ops L0 i d E) (hAll : ∀ i d E, CN al i = some (d, E) → AlOk P N ops L0 i d E) (hpe : ∀ x ∈ pend, x.1 ∉ early.map Prod.fst) (hi : i ∈ Region.ready .any ops listed) (hmem : (i, false) ∈ todo)
    (hnd:¬ HJ listed i) (hsep:∀ x∈pend,x.2.1≠d∧EA ops x.1 d=false) (hee:∀ e∈early,d≠e.2.1)
    (hK:∀ b a' w',Mid P N ops als al L0 F0 fp ds Kfin (listed.setIfInBounds i true) pre todo pend ((i,d,b,E)::early) l I M a' w'→K a' w'):ON ρ P ops Q i K a w:=by
  obtain ⟨hdst,hd0,hlk,hst⟩:=hA;obtain ⟨o,ho,hN,hsel,hg,hk,hr⟩:=hst I (M++(earM early++F0));have hlt:i<ops.size:=(Ap.1 ho).1;have hod:o.dst=some d:=by simpa [DZ,ho] using hdst
  have hag:∀ t∈o.looksAt ops,∀ u,DL t L0=some u→a.tmps[t]?=some u:=fun t ht u htu=>by
    obtain ⟨u',hu',hwt⟩:=hlk t ((looksB_mem ho).2 ht);have hdn:∀ k,DZ ops k=some t→HJ listed k:=fun k hk=>JX m.closed i k (fun o' ho'=>by obtain ⟨_,o2,ho2,hall⟩:=DV hi;rw [ho2] at ho';cases ho';exact hall) (hwt k hk)
    have hear:∀ e∈early,e.2.1≠t:=fun e he e1=>by
      have:=(hAll _ _ _ (m.ear e he).2.1).2.1;rw [e1,htu] at this;cases this
    have hl:DL t l=some u:=by
      rcases m.exp t u htu with ⟨k,h1,h2⟩ | h1
      · rcases (m.done k (PJ h1)).1 (hdn k h1) with h | h
        · exact absurd h.1 h2
        · obtain ⟨e,he,e1⟩:=Ai.1 h
          have h3:=(hAll _ _ _ (m.ear e he).2.1).1;rw [e1,h1] at h3;exact absurd (Bm h3).symm (hear e he)
      · exact h1
    refine m.slots t u hl (fun x hx e1=>?_) hear;have h1:=(m.pnd x hx).2.1;rw [e1] at h1;rcases (m.done x.1 (PJ h1)).1 (hdn x.1 h1) with h | h
    · exact h.2 (Ak (f:=Prod.fst) hx)
    · exact hpe x hx h
  unfold ON;simp only [ho];rw [DI hg hag,if_pos rfl];have:=hr w m.st;rw [← MA hsel hk hag] at this;refine Oper.wpIn_of_res hsel.2 this fun v w' ⟨I',M2,hle,hst,b,e1,e2,e3⟩=>?_
  subst e2 e3;rw [hod] at e1 ⊢;simp only [ups,List.cons.injEq,Bs,true_and,and_true] at e1;subst e1;refine hK b _ _ ⟨by simp [m.lsize],LY m.closed hi (by rw [m.lsize];exact hlt),fun k hk=>?_,m.pnd,fun e h=>?_,fun x hx e h=>?_,m.nodup,?_,by simp [Act.put,m.size],fun t u ht hx hxe=>?_,m.vals,by rw [FP];exact m.defers,?_,m.rest,m.exp⟩
  · rw [IF (by rw [m.lsize];exact hlt),m.done k hk]
    simp only [Aw,Ac]
    constructor
    · rintro (rfl | g | g)
      · exact .inr (.inl rfl)
      · exact .inl g
      · exact .inr (.inr g)
    · rintro (g | g | g)
      · exact .inr (.inl g)
      · exact .inl g
      · exact .inr (.inr g)
  · rcases Ac.1 h with rfl | h
    · refine ⟨hmem,hal,?_⟩
      have:d<a.tmps.size:=by rw [m.size];exact hN d hod
      simp [Act.put,this]
    · obtain ⟨g1,g2,g3⟩:=m.ear e h
      refine ⟨g1,g2,?_⟩;simp only [Act.put];rw [Array.getElem?_setIfInBounds_ne (hee e h)];exact g3
  · rcases Ac.1 h with rfl | h
    · exact hsep x hx
    · exact m.sep x hx e h
  · rw [Aw]
    refine Cb.2 ⟨fun hm=>hnd ((m.done i hlt).2 (.inr hm)),m.enodup⟩
  · have hne:d≠t:=hxe (i,d,b,E) (by simp)
    simp only [Act.put];rw [Array.getElem?_setIfInBounds_ne hne];exact m.slots t u ht hx (fun e h=>hxe e (Ag _ h))
  · refine hst.perm ?_
    show (emObj b E::(M++(earM early++F0))).Perm (M++(emObj b E::(earM early++F0)));exact Az.symm
theorem early_perm:∀ (early:PG) {x:Nat × Nat × Nat × Fresh},(early.map Prod.fst).Nodup→x∈early→early.Perm (x::early.filter fun e=>!(Nat.beq e.1 x.1)):=by
  intro early
  induction early with
  | nil=>intro x _ h;simp at h
  | cons y r ih=>
    intro x hn hx;rw [Aw,Cb] at hn;rcases Ac.1 hx with rfl | hx
    · have e : (x :: r).filter (fun e => !(Nat.beq e.1 x.1)) = r := by
        rw [Cr,if_neg (by rw [Nat.beq_refl];simp)];refine List.filter_eq_self.2 fun e he=>?_
        cases hb:Nat.beq e.1 x.1 with
        | false=>rfl
        | true=>exact absurd (Ao hb▸Ak (f:=Prod.fst) he) hn.1
      rw [e]
    · have hne : Nat.beq y.1 x.1 = false := by
        cases hb:Nat.beq y.1 x.1 with
        | false=>rfl
        | true=>exact absurd ((Ao hb).symm▸Ak (f:=Prod.fst) hx) hn.1
      rw [Cr,if_pos (by rw [hne];rfl)];exact (List.Perm.cons y (ih hn.2 hx)).trans (List.Perm.swap _ _ _)
theorem Mid.take {i d b : Nat} {E : Fresh} (hA : ∀ i d E, CN al i = some (d, E) → AlOk P N ops L0 i d E) (m : Mid P N ops als al L0 F0 fp ds Kfin listed pre ((i, false) :: todo) pend early l I M a w) (he : (i, d, b, E) ∈ early) (hpre : i ∉ pre.map Prod.fst) (htd : i ∉ todo.map Prod.fst) (hpe : ∀ x ∈ pend, x.1 ∉ early.map Prod.fst) :
    Mid P N ops als al L0 F0 fp ds Kfin listed (pre++[(i,false)]) todo pend (early.filter fun e=>!(Nat.beq e.1 i)) ((d,emVal E b)::l) I (emObj b E::M) a w:=by
  have hal:=(m.ear _ he).2.1;have hep:=early_perm early m.enodup he;have hrest:=m.rest;unfold OFPX at hrest;rw [show CN al i=some (d,E) from hal] at hrest;refine ⟨m.lsize,m.closed,fun k hk=>?_,fun x hx=>?_,fun e h=>?_,fun x hx e h=>m.sep x hx e (Bh.1 h).1,m.nodup,(List.filter_sublist.map Prod.fst).nodup m.enodup,m.size,fun t u ht hx hxe=>?_,fun x hx=>?_,m.defers,?_,hrest b,fun t u htu=>?_⟩
  · rw [m.done k hk]
    simp only [Ba,Aw,Cs,Ab,Af]
    constructor
    · rintro (⟨g1,g2⟩ | g)
      · exact .inl ⟨.inl g1,g2⟩
      · by_cases e:k=i
        · subst e
          refine .inl ⟨.inr rfl,fun hm=>?_⟩;obtain ⟨x,hx,e⟩:=Ai.1 hm;exact hpe x hx (by rw [e];exact g)
        · obtain ⟨y,hy,e'⟩:=Ai.1 g
          refine .inr (Ai.2 ⟨y,Bh.2 ⟨hy,?_⟩,e'⟩);cases hb:Nat.beq y.1 i with
          | false=>rfl
          | true=>exact absurd (e'.symm.trans (Ao hb)) e
    · rintro (⟨g1 | g1,g2⟩ | g)
      · exact .inl ⟨g1,g2⟩
      · exact .inr (by rw [g1];exact Ak (f:=Prod.fst) he)
      · obtain ⟨y,hy,e'⟩:=Ai.1 g
        exact .inr (Ai.2 ⟨y,(Bh.1 hy).1,e'⟩)
  · obtain ⟨h1,h2,l',I',pr,Rx,Sx,hf,hq,hp,h3,h4,h5⟩:=m.pnd x hx
    refine ⟨Bd _ h1,h2,l',I',pr,Rx,emObj b E::Sx,hf,hq,(List.Perm.cons _ hp).trans Az.symm,h3,h4,fun t u ht hu=>?_⟩;have hne:d≠t:=fun e=>by
      subst e;have:=(m.sep x hx _ he).2;simp only at this;rw [this] at ht;cases ht
    rw [BS hne];exact h5 t u ht hu
  · obtain ⟨g1,g2,g3⟩:=m.ear e (Bh.1 h).1
    refine ⟨(Ac.1 g1).resolve_left fun e'=>?_,g2,g3⟩;have h2:=(Bh.1 h).2;rw [show e.1=i from congrArg Prod.fst e',Nat.beq_refl] at h2;cases h2
  · by_cases e:d=t
    · subst e
      rw [DU] at ht;cases ht;exact (m.ear _ he).2.2
    · rw [BS e] at ht
      refine m.slots t u ht hx fun e' h'=>?_
      by_cases e2:e'.1=i
      · have g1:=(m.ear e' h').2.1
        rw [e2,hal] at g1;have:=congrArg Prod.fst (Bm g1);simp only at this;rw [← this];exact e
      · refine hxe e' (Bh.2 ⟨h',?_⟩)
        cases hb:Nat.beq e'.1 i with
        | false=>rfl
        | true=>exact absurd (Ao hb) e2
  · rw [BS (Ne.symm (m.sep x hx _ he).1)];exact m.vals x hx
  · refine m.st.perm ?_
    have h1:(earM early).Perm (emObj b E::earM (early.filter fun e=>!(Nat.beq e.1 i))):=hep.map _;have h2:(M++(earM early++F0)).Perm (M++((emObj b E::earM (early.filter fun e=>!(Nat.beq e.1 i)))++F0)):=Bo _ (List.Perm.append_right _ h1);exact h2.trans Az
  · have hdd:=hA _ _ _ hal
    have hne:d≠t:=fun e=>by
      have:=hdd.2.1;rw [e,htu] at this;cases this
    rcases m.exp t u htu with ⟨k,h1,h2⟩ | h1
    · refine .inl ⟨k,h1,fun hk=>?_⟩
      rw [Ba] at hk;rcases Ab.1 hk with h | h
      · exact h2 h
      · simp only [Aw,Cs,Af] at h
        subst h;have h3:=hdd.1;rw [h1] at h3;exact hne (Bm h3).symm
    · exact .inr (by rw [BS hne];exact h1)
theorem okPair_looks {x y:Nat × Bool} {d:Nat} (h:KV als ops x y=true) (hx:x.2=true) (hd:DZ ops x.1=some d) (hl:EA ops y.1 d=true):wt ops y.1 x.1=true:=by
  simp only [KV,hx,cond_true,hd,Ah,Bw,Ck] at h;rcases h.1 with h | h
  · rw [hl] at h;cases h
  · exact h
theorem okPair_free {x y:Nat × Bool} {d:Nat} (h:KV als ops x y=true) (hx:x.2=true) (hy:y.2=true) (hd:DZ ops y.1=some d):EA ops x.1 d=false:=by
  simp only [KV,hx,hy,cond_true,Ah] at h;exact (HT h.2 hd).1
theorem Mid.pe (m:Mid P N ops als al L0 F0 fp ds Kfin listed pre todo pend early l I M a w) (hnd:((pre++todo).map Prod.fst).Nodup):∀ x∈pend,x.1∉early.map Prod.fst:=fun x hx hm=>by
  obtain ⟨e,he,e1⟩:=Ai.1 hm;rw [Ba] at hnd;exact (Au.1 hnd).2.2 x.1 (Ak (f:=Prod.fst) (m.pnd x hx).1) x.1 (by rw [← e1];exact Ak (f:=Prod.fst) (m.ear e he).1) rfl
theorem Mid.reach (hA : ∀ i d E, CN al i = some (d, E) → AlOk P N ops L0 i d E) (hcl : Closed ops listed) : ∀ (T : List (Nat × Bool)) (pre todo : List (Nat × Bool)) (pend : List (Nat × Nat × Value)) (early : PG) (l : Sl) (M : Seg) (fp : List (Nat × (Seg → Prop))),
    (∀ x∈T,(x.2=true∧¬ HJ listed x.1)∨(x.2=false∧x.1∈early.map Prod.fst))→Mid P N ops als al L0 F0 fp ds Kfin listed pre (T++todo) pend early l I M a w →
    GX als ops (pre++(T++todo))=true→((pre++(T++todo)).map Prod.fst).Nodup →
    ∃ pend' early' l' M' fp',Mid P N ops als al L0 F0 fp' ds Kfin listed (pre++T) todo pend' early' l' I M' a w∧(∀ x∈T,x.2=true→x.1∈pend'.map Prod.fst)∧(∀ x∈pend,x∈pend'):=by
  intro T
  induction T with
  | nil=>intro pre todo pend early l M fp _ m _ _;exact ⟨pend,early,l,M,fp,by simpa using m,fun _ h=>by simp at h,fun _ h=>h⟩
  | cons x T ih=>
    intro pre todo pend early l M fp hT m hok hnd;obtain ⟨i,kd⟩:=x;have hi:i∉pre.map Prod.fst:=fun hm=>by
      rw [Ba] at hnd;exact (Au.1 hnd).2.2 i hm i (by simp) rfl
    have hi2:i∉(T++todo).map Prod.fst:=by
      rw [Ba] at hnd;have:=(Au.1 hnd).2.1;rw [Ci,Aw] at this;exact (Cb.1 this).1
    have e:(pre++[(i,kd)])++(T++todo)=pre++((i,kd)::T++todo):=by simp
    have halle:∀ e∈early,∀ k,wt ops e.1 k=true→HJ listed k:=fun e' he k hw=>by
      have hdn:HJ listed e'.1:=(m.done e'.1 (PJ (hA _ _ _ (m.ear e' he).2.1).1)).2 (.inr (Ak (f:=Prod.fst) he));exact JX hcl e'.1 k (fun o ho ed hed hb=>hcl e'.1 hdn o ho ed hed hb) hw
    cases kd with
    | true=>
      have hnd1:¬ HJ listed i:=by
        rcases hT (i,true) (by simp) with h | h
        · exact h.2
        · exact absurd h.1 (by simp)
      have he:∀ e∈early,(e.1,false)∈T++todo:=fun e' h=>(Ac.1 (m.ear e' h).1).resolve_left (by simp)
      obtain ⟨d,v,fp1,m1⟩:=m.virt hA hok hnd1 hi halle he;obtain ⟨pend',early',l',M',fp2,m2,h1,h2⟩:=ih (pre++[(i,true)]) todo (pend++[(i,d,v)]) early _ M fp1 (fun y hy=>hT y (by simp [hy])) m1 (by rw [e];exact hok) (by rw [e];exact hnd);refine ⟨pend',early',l',M',fp2,by simpa using m2,fun y hy hyk=>?_,fun y hy=>h2 y (by simp [hy])⟩;rcases Ac.1 hy with rfl | hy
      · exact Ai.2 ⟨(i,d,v),h2 _ (by simp),rfl⟩
      · exact h1 y hy hyk
    | false=>
      have hin:i∈early.map Prod.fst:=by
        rcases hT (i,false) (by simp) with h | h
        · exact absurd h.1 (by simp)
        · exact h.2
      obtain ⟨⟨i',d,b,E⟩,he,e'⟩:=Ai.1 hin;simp only at e';subst e';have m1:=m.take hA he hi hi2 (m.pe hnd)
      obtain ⟨pend',early',l',M',fp2,m2,h1,h2⟩:=ih (pre++[(i',false)]) todo pend _ _ _ fp (fun y hy=>by
        rcases hT y (by simp [hy]) with h | h
        · exact .inl h
        · refine .inr ⟨h.1,?_⟩
          obtain ⟨z,hz,ez⟩:=Ai.1 h.2
          refine Ai.2 ⟨z,Bh.2 ⟨hz,?_⟩,ez⟩
          cases hb:Nat.beq z.1 i' with
          | false=>rfl
          | true=>exact absurd (by rw [← Ao hb,ez];exact Ak (f:=Prod.fst) (Bd _ hy)) hi2) m1 (by rw [e];exact hok) (by rw [e];exact hnd)
      refine ⟨pend',early',l',M',fp2,by simpa using m2,fun y hy hyk=>?_,h2⟩;rcases Ac.1 hy with rfl | hy
      · cases hyk
      · exact h1 y hy hyk
theorem okPreds_spec:∀ (order:List (Nat × Bool)) (seen:List Nat),okPreds ops seen order=true→∀ A x B,order=A++x::B→∃ o,ops[x.1]?=some o∧∀ e∈o.after,Region.binds .any e=true→e.on∈seen∨e.on∈A.map Prod.fst:=by
  intro order
  induction order with
  | nil=>intro seen _ A x B h;simp at h
  | cons y order ih=>
    intro seen h A x B e;simp only [okPreds,Ah] at h;cases A with
    | nil=>
      simp only [De,List.cons.injEq] at e;obtain ⟨rfl,rfl⟩:=e;cases ho:ops[y.1]? with
      | none=>rw [ho] at h;simp at h
      | some o=>
        rw [ho] at h;refine ⟨o,rfl,fun e he hb=>.inl ?_⟩;have:=Array.all_eq_true_iff_forall_mem.1 h.1 e he;rw [hb] at this;simp only [Bool.not_true,Bool.false_or,List.any_eq_true] at this;obtain ⟨k,hk,e'⟩:=this;rw [← Ao e'];exact hk
    | cons z A=>
      simp only [Ci,List.cons.injEq] at e;obtain ⟨rfl,rfl⟩:=e;obtain ⟨o,ho,hall⟩:=ih (y.1::seen) h.2 A x B rfl;refine ⟨o,ho,fun e he hb=>?_⟩;rcases hall e he hb with h' | h'
      · rcases Ac.1 h' with h' | h'
        · exact .inr (by simp [h'])
        · exact .inl h'
      · exact .inr (by simp only [Aw,Ac];exact .inr h')
theorem first_undone {listed:Array Bool}:∀ (L:List (Nat × Bool)),(∃ x∈L,¬ HJ listed x.1)→∃ A x B,L=A++x::B∧(∀ y∈A,HJ listed y.1)∧¬ HJ listed x.1:=by
  intro L
  induction L with
  | nil=>rintro ⟨x,hx,_⟩;simp at hx
  | cons y L ih=>
    rintro ⟨x,hx,hn⟩
    by_cases hy:HJ listed y.1
    · rcases Ac.1 hx with rfl | hx
      · exact absurd hy hn
      · obtain ⟨A,z,B,e,h1,h2⟩:=ih ⟨x,hx,hn⟩
        exact ⟨y::A,z,B,by rw [e];rfl,fun u hu=>by
          rcases Ac.1 hu with rfl | hu
          · exact hy
          · exact h1 u hu,h2⟩
    · exact ⟨[],y,L,rfl,fun _ h=>by simp at h,hy⟩
def OJ (listed:Array Bool) (order:List (Nat × Bool)):Nat:=(order.filter fun x=>!(listed.getD x.1 false)).length
theorem undone_zero {listed:Array Bool} {order:List (Nat × Bool)} (h:OJ listed order=0):∀ x∈order,HJ listed x.1:=fun x hx=>by
  have:=List.length_eq_zero_iff.1 h;have h2:=List.filter_eq_nil_iff.1 this x hx
  simpa [HJ] using h2
theorem undone_set {listed:Array Bool} {order:List (Nat × Bool)} {i:Nat} (hi:i<listed.size) (hx:i∈order.map Prod.fst) (hnd:¬ HJ listed i):OJ (listed.setIfInBounds i true) order<OJ listed order:=by
  unfold OJ
  induction order with
  | nil=>simp at hx
  | cons y r ih=>
    have mono:∀ (r:List (Nat × Bool)),(r.filter fun x=>!((listed.setIfInBounds i true).getD x.1 false)).length≤(r.filter fun x=>!(listed.getD x.1 false)).length:=by
      intro r
      induction r with
      | nil=>simp
      | cons z r ihr=>
        rw [Cr,Cr]
        by_cases hz:HJ listed z.1
        · have h1:HJ (listed.setIfInBounds i true) z.1:=(IF hi).2 (.inr hz)
          unfold HJ at hz h1;rw [if_neg (by rw [h1];simp),if_neg (by rw [hz];simp)];exact ihr
        · have hz':listed.getD z.1 false=false:=by simpa [HJ] using hz
          rw [if_pos (show (!(listed.getD z.1 false))=true by rw [hz'];rfl)]
          split
          · simp only [Aq];omega
          · simp only [Aq];omega
    rw [Cr,Cr]
    by_cases hy:y.1=i
    · have h1:(listed.setIfInBounds i true).getD y.1 false=true:=(IF hi).2 (.inl hy)
      have h2:listed.getD y.1 false=false:=by rw [hy];simpa [HJ] using hnd
      rw [if_neg (by rw [h1];simp),if_pos (by rw [h2];rfl)];have:=mono r;simp only [Aq];omega
    · have hx' : i ∈ r.map Prod.fst := by
        rcases Ac.1 (by simpa using hx:i∈y.1::r.map Prod.fst) with h | h
        · exact absurd h.symm hy
        · exact h
      have e:(listed.setIfInBounds i true).getD y.1 false=listed.getD y.1 false:=by simp [Array.getElem?_setIfInBounds_ne (Ne.symm hy)]
      rw [e]
      split
      · simp only [Aq];have:=ih hx';omega
      · exact ih hx'
theorem Mid.finish (hA : ∀ i d E, CN al i = some (d, E) → AlOk P N ops L0 i d E) {n0 : Nat} {order : List (Nat × Bool)} (h1 : GX als ops order = true) (hnd : (order.map Prod.fst).Nodup) (hlt0 : ∀ x ∈ order, x.1 < n0) (hn0 : n0 ≤ ops.size)
    (hfin:∀ l I M,Kfin l I M→Seq (ρ:=ρ) P N ops Q ds n0 l I (M++F0)) (he:order=pre++todo) (m:Mid P N ops als al L0 F0 fp ds Kfin listed pre todo pend early l I M a w) (hd:∀ x∈order,HJ listed x.1):wpOpsIn (fen ρ) 0 P ops Q (List.range' n0 (ops.size-n0)) a w:=by
  have hpend:pend=[]:=by
    cases hp:pend with
    | nil=>rfl
    | cons y ys=>
      exfalso
      have hy:y∈pend:=by rw [hp];simp
      have h3:=(m.pnd y hy).1;have hin:(y.1,true)∈order:=by rw [he];exact Bd _ h3
      rcases (m.done y.1 (by have:=hlt0 _ hin;simp only at this;omega)).1 (hd _ hin) with h | h
      · exact h.2 (Ak (f:=Prod.fst) hy)
      · exact m.pe (by rw [← he];exact hnd) y hy h
  subst hpend;have hT:∀ x∈todo,(x.2=true∧¬ HJ listed x.1)∨(x.2=false∧x.1∈early.map Prod.fst):=fun x hx=>by
    have hin:x∈order:=by rw [he];exact Bb _ hx
    rcases (m.done x.1 (by have:=hlt0 _ hin;omega)).1 (hd _ hin) with h | h
    · rw [he,Ba] at hnd
      exact absurd rfl ((Au.1 hnd).2.2 x.1 h.1 x.1 (Ak (f:=Prod.fst) hx))
    · refine .inr ⟨?_,h⟩
      obtain ⟨e,he',e1⟩:=Ai.1 h;have h2:=(m.ear e he').1;cases hx2:x.2 with
      | false=>rfl
      | true=>
        exfalso
        rw [he,Ba] at hnd;have hn2:=(Au.1 hnd).2.1;have:∀ (t:List (Nat × Bool)),(t.map Prod.fst).Nodup→∀ a∈t,∀ b∈t,a.1=b.1→a=b:=by
          intro t
          induction t with
          | nil=>intro _ a ha;simp at ha
          | cons z t iht=>
            intro hn a ha b hb hab;rw [Aw,Cb] at hn;rcases Ac.1 ha with e1 | ha'
            · rcases Ac.1 hb with e2 | hb'
              · rw [e1,e2]
              · exact absurd (by rw [← e1,hab];exact Ak (f:=Prod.fst) hb') hn.1
            · rcases Ac.1 hb with e2 | hb'
              · exact absurd (by rw [← e2,← hab];exact Ak (f:=Prod.fst) ha') hn.1
              · exact iht hn.2 a ha' b hb' hab
        have h3:=this todo hn2 x hx (e.1,false) h2 e1.symm;rw [h3] at hx2;cases hx2
  obtain ⟨pend',early',l',M',fp',m2,_,_⟩:=Mid.reach (T:=todo) (todo:=[]) hA m.closed pre _ _ _ _ fp hT (by simpa using m) (by rw [Aa,← he];exact h1) (by rw [Aa,← he];exact hnd);have hp2:pend'=[]:=by
    cases hp:pend' with
    | nil=>rfl
    | cons y ys=>
      exfalso
      have hy:y∈pend':=by rw [hp];simp
      have h3:=(m2.pnd y hy).1;rw [← he] at h3;rcases (m2.done y.1 (by have:=hlt0 _ h3;simp only at this;omega)).1 (hd _ h3) with h | h
      · exact h.2 (Ak (f:=Prod.fst) hy)
      · obtain ⟨e,he',_⟩:=Ai.1 h
        have:=(m2.ear e he').1;simp at this
  have he2:early'=[]:=by
    cases hp:early' with
    | nil=>rfl
    | cons y ys=>have:=(m2.ear y (by rw [hp];simp)).1;simp at this
  subst hp2 he2;exact hfin l' I M' m2.rest a w ⟨m2.size,fun t u hu=>m2.slots t u hu (fun _ h=>by simp at h) (fun _ h=>by simp at h)⟩ m2.defers m2.st
theorem draw_any (hInj : ∀ i j d, isAl als i = true → isAl als j = true → DZ ops i = some d → DZ ops j = some d → i = j) {n0 : Nat} {order : List (Nat × Bool)} (h1 : GX als ops order = true) (h2 : okPreds ops [] order = true) (hnd : (order.map Prod.fst).Nodup) (hall : ∀ k, k < n0 → k ∈ order.map Prod.fst) (hlt0 : ∀ x ∈ order, x.1 < n0) (hn0 : n0 ≤ ops.size)
    (hsz:∀ j,j<ops.size→∀ i,i<j→n0≤j→wt ops j i=true) (hlt:∀ j o,n0≤j→ops[j]?=some o→∀ e∈o.after,Region.binds .any e=true→e.on<j)
    (hfin:∀ l I M,Kfin l I M→Seq (ρ:=ρ) P N ops Q ds n0 l I (M++F0)) :
    ∀ (fuel:Nat) (listed:Array Bool) (pre todo:List (Nat × Bool)) (pend:List (Nat × Nat × Value)) (early:PG) (l:Sl) (I:Imm) (M:Seg) (fp:List (Nat × (Seg→Prop))) (al:List (Nat × Nat × Fresh)) (L0:Sl) (a:Act) (w:World),(∀ i d E,CN al i=some (d,E)→AlOk P N ops L0 i d E)→(∀ i d E,CN al i=some (d,E)→isAl als i=true)→Known ops als al todo→order=pre++todo →
      Mid P N ops als al L0 F0 fp ds Kfin listed pre todo pend early l I M a w→OJ listed order+(ops.size-n0)≤fuel→wpAnyC ρ P .any ops Q fuel listed a w:=by
  intro fuel
  induction fuel with
  | zero=>
    intro listed pre todo pend early l I M fp al L0 a w hA hAs hKn he m hf;have hd:=undone_zero (listed:=listed) (order:=order) (by omega);refine tail_any hsz hlt (ops.size-n0) n0 0 listed a w (by omega) (Bj _) (by omega) m.lsize m.closed (fun j hj=>?_) (m.finish hA h1 hnd hlt0 hn0 hfin he hd)
    constructor
    · intro _
      have:ops.size-n0=0:=by omega
      omega
    · intro h;obtain ⟨x,hx,rfl⟩:=Ai.1 (hall j h);exact hd x hx
  | succ f ih=>
    intro listed pre todo pend early l I M fp al L0 a w hA hAs hKn he m hf
    by_cases hend:∀ x∈order,HJ listed x.1
    · have hz : OJ listed order = 0 := by
        unfold OJ;rw [List.length_eq_zero_iff,List.filter_eq_nil_iff];intro x hx;have:=hend x hx;unfold HJ at this;rw [this];simp
      refine tail_any hsz hlt (ops.size-n0) n0 (f+1) listed a w (by omega) (Bj _) (by omega) m.lsize m.closed (fun j hj=>?_) (m.finish hA h1 hnd hlt0 hn0 hfin he hend)
      constructor
      · intro hdn
        rcases (m.done j hj).1 hdn with h | h
        · obtain ⟨x,hx,rfl⟩:=Ai.1 h.1;exact hlt0 x (by rw [he];exact Bd _ hx)
        · obtain ⟨e,he',rfl⟩:=Ai.1 h;exact hlt0 _ (by rw [he];exact Bb _ (m.ear e he').1)
      · intro h;obtain ⟨x,hx,rfl⟩:=Ai.1 (hall j h);exact hend x hx
    · -- something of the order has not been carried out
      have hun:∃ x∈order,¬ HJ listed x.1:=by
        rcases Classical.em (∃ x∈order,¬ HJ listed x.1) with h | h
        · exact h
        · exact absurd (fun x hx=>Classical.byContradiction fun hn=>h ⟨x,hx,hn⟩) hend
      refine ⟨fun hnil=>?_,fun i hi=>?_⟩
      · exfalso
        obtain ⟨A,x,B,e,hA',hx⟩:=first_undone order hun;obtain ⟨o,ho,hpr⟩:=okPreds_spec order [] h2 A x B e;have hin:x.1∈Region.ready .any ops listed:=by
          refine mem_ready.2 ⟨?_,o,ho,fun e' he' hb=>?_⟩
          · have hlt':x.1<ops.size:=(Ap.1 ho).1
            unfold HJ at hx;simp [m.lsize,hlt'] at hx ⊢;exact hx
          · rcases hpr e' he' hb with h | h
            · simp at h
            · obtain ⟨y,hy,e2⟩:=Ai.1 h
              rw [← e2];exact hA' y hy
        rw [hnil] at hin;cases hin
      · obtain ⟨hul,o,ho,hpr⟩:=DV hi
        have hil:i<ops.size:=(Ap.1 ho).1;have hndn:¬ HJ listed i:=HK hi (by rw [m.lsize];exact hil);have hpr':∀ o',ops[i]?=some o'→∀ e∈o'.after,Region.binds .any e=true→HJ listed e.on:=fun o' ho'=>by rw [ho] at ho';cases ho';exact hpr
        have hi0:i<n0:=by
          rcases Nat.lt_or_ge i n0 with h | h
          · exact h
          · obtain ⟨x,hx,hxn⟩:=hun
            exact absurd (JX m.closed i x.1 hpr' (hsz i hil x.1 (by have:=hlt0 x hx;omega) h)) hxn
        have hless:OJ (listed.setIfInBounds i true) order+(ops.size-n0)≤f:=by
          have:=undone_set (by rw [m.lsize];exact hil) (hall i hi0) hndn;omega
        obtain ⟨⟨i',kd⟩,hmem,e⟩:=Ai.1 (hall i hi0);simp only at e;subst e
        have halle:∀ (early:PG),(∀ e∈early,CN al e.1=some (e.2.1,e.2.2.2))→(∀ e∈early,HJ listed e.1)→∀ e∈early,∀ k,wt ops e.1 k=true→HJ listed k:=fun early h3 h4 e' he k hw=>
          JX m.closed e'.1 k (fun o ho ed hed hb=>m.closed e'.1 (h4 e' he) o ho ed hed hb) hw
        have hpairs:∀ (A B:List (Nat × Bool)) (kd:Bool),order=A++(i',kd)::B→kd=true→∀ (y:Nat × Bool) (d:Nat),y∈order→y.2=true→DZ ops y.1=some d→EA ops i' d=true→wt ops i' y.1=true∨y.1=i':=by
          intro A B kd eo hkd y d hy hyk hyd hyl;rw [eo] at hy;rcases Ab.1 hy with hy | hy
          · exact .inl (okPair_looks (HF (by rw [eo] at h1;exact h1) hy) hyk hyd hyl)
          · rcases Ac.1 hy with hy | hy
            · rw [hy];exact .inr rfl
            · have:=okPair_free (JN (by rw [eo] at h1;exact h1) hy) hkd hyk hyd
              simp only at this;rw [hyl] at this;cases this
        have exec : ∀ (pre' todo' : List (Nat × Bool)) (pend' : List (Nat × Nat × Value)) (early' : PG) (l' : Sl) (M' : Seg) (fp' : List (Nat × (Seg → Prop))), Known ops als al todo' → order = pre' ++ todo' → Mid P N ops als al L0 F0 fp' ds Kfin listed pre' todo' pend' early' l' I M' a w → i' ∈ pend'.map Prod.fst →
            ON ρ P ops Q i' (wpAnyC ρ P .any ops Q f (listed.setIfInBounds i' true)) a w:=by
          intro pre' todo' pend' early' l' M' fp' hKn' he' m' hin;obtain ⟨x,hx,hxi⟩:=Ai.1 hin;refine m'.exec hx hxi hi (by rw [← he'];exact h1) (fun y hy hl=>?_) (m'.pe (by rw [← he'];exact hnd)) (fun a' w' m''=>ih _ pre' todo' _ early' l' I M' fp' al L0 a' w' hA hAs hKn' he' m'' hless);obtain ⟨hxp,_⟩:=m'.pnd x hx;rw [hxi] at hxp;obtain ⟨A,B,eA⟩:=Cx (show (i',true)∈order by rw [he'];exact Bd _ hxp);exact hpairs A B true eA rfl (y.1,true) y.2.1 (by rw [he'];exact Bd _ (m'.pnd y hy).1) rfl (m'.pnd y hy).2.1 hl
        rw [he] at hmem;rcases Ab.1 hmem with hmem | hmem
        · -- it was reckoned with already
          refine exec pre todo pend early l M fp hKn he m ?_
          by_cases hin:i'∈pend.map Prod.fst
          · exact hin
          · exact absurd ((m.done i' hil).2 (.inl ⟨Ak (f:=Prod.fst) hmem,hin⟩)) hndn
        · obtain ⟨T,B,eT⟩:=Cx hmem
          by_cases hkal:kd=false∧isAl als i'=true
          · obtain ⟨rfl,hisal⟩:=hkal
            obtain ⟨⟨d,E⟩,hal⟩:∃ p,CN al i'=some p:=by
              rcases hKn i' hisal with h | ⟨k,h1,h2,h3⟩
              · exact h
              · exfalso
                have hdn:=JX m.closed i' k hpr' h2;have hkl:k<ops.size:=by have:=hlt0 (k,false) (by rw [he];exact Bb _ h1);simp only at this;omega
                rcases (m.done k hkl).1 hdn with h | h
                · rw [he,Ba] at hnd
                  exact (Au.1 hnd).2.2 k h.1 k (Ak (f:=Prod.fst) h1) rfl
                · obtain ⟨e,he',e1⟩:=Ai.1 h
                  have:=hAs _ _ _ (m.ear e he').2.1;rw [e1,h3] at this;cases this
            have hAi:=hA i' d E hal;refine m.ahead hal hAi hA (m.pe (by rw [← he];exact hnd)) hi hmem hndn (fun x hx=>?_) (fun e he' e1=>?_) (fun b a' w' m'=>ih _ pre todo pend _ l I M fp al L0 a' w' hA hAs hKn he m' hless)
            · have hxp:=(m.pnd x hx).1
              obtain ⟨A,B',eA⟩:=Cx hmem;have hp:=HF (A:=pre++A) (B:=B') (x:=(x.1,true)) (y:=(i',false)) (by rw [he,eA] at h1;simpa using h1) (Bd _ hxp)
              have:=okPair_al hp hAi.1 (fun hw=>by
                have hdn:=JX m.closed i' x.1 hpr' hw
                rcases (m.done x.1 (PJ (m.pnd x hx).2.1)).1 hdn with h | h
                · exact h.2 (Ak (f:=Prod.fst) hx)
                · exact m.pe (by rw [← he];exact hnd) x hx h)
              refine ⟨fun e1=>?_,this.1⟩;have h3:=OO (m.pnd x hx).2.1;rw [e1,this.2] at h3;cases h3
            · have g1:=(m.ear e he').2.1
              have h3:=hInj _ _ _ hisal (hAs _ _ _ g1) hAi.1 (by rw [e1];exact (hA _ _ _ g1).1);exact hndn ((m.done i' hil).2 (.inr (by rw [h3];exact Ak (f:=Prod.fst) he')))
          · subst eT
            have hT:∀ x∈T,(x.2=true∧¬ HJ listed x.1)∨(x.2=false∧x.1∈early.map Prod.fst):=fun x hx=>by
              have hinT:x∈T++(i',kd)::B:=Bd _ hx;have notpre:x.1∉pre.map Prod.fst:=fun hm=>by
                rw [he,Ba] at hnd;exact (Au.1 hnd).2.2 x.1 hm x.1 (Ak (f:=Prod.fst) hinT) rfl
              have xlt:x.1<ops.size:=by have:=hlt0 x (by rw [he];exact Bb _ hinT);omega
              have hp:=HF (A:=pre++T) (B:=B) (x:=x) (y:=(i',kd)) (by rw [he] at h1;simpa using h1) (Bb _ hx);cases hk:x.2 with
              | true=>
                refine .inl ⟨rfl,fun hdn=>?_⟩;rcases (m.done x.1 xlt).1 hdn with h | h
                · exact notpre h.1
                · obtain ⟨e,he',e1⟩:=Ai.1 h
                  have h2:=(m.ear e he').1;have hn2:((T++(i',kd)::B).map Prod.fst).Nodup:=by
                    rw [he,Ba] at hnd;exact (Au.1 hnd).2.1
                  obtain ⟨C1,C2,eC⟩:=Cx hinT;rw [eC,Ba,Aw] at hn2;rw [eC] at h2;rcases Ab.1 h2 with h2 | h2
                  · exact (Au.1 hn2).2.2 e.1 (Ak (f:=Prod.fst) h2) x.1 (by simp) e1
                  · rcases Ac.1 h2 with h2 | h2
                    · rw [← h2] at hk;cases hk
                    · exact (Cb.1 (Au.1 hn2).2.1).1 (by rw [← e1];exact Ak (f:=Prod.fst) h2)
              | false=>
                refine .inr ⟨rfl,?_⟩;have hw:wt ops i' x.1=true:=by
                  unfold KV at hp;rw [hk] at hp;simp only [cond_false,Bw,Ah,Ck] at hp;rcases hp with h | h
                  · exact h
                  · exact absurd ⟨h.2.1,h.1⟩ hkal
                rcases (m.done x.1 xlt).1 (JX m.closed i' x.1 hpr' hw) with h | h
                · exact absurd h.1 notpre
                · exact h
            obtain ⟨pend',early',l',M',fp1,m',hp1,hp2⟩:=Mid.reach hA m.closed T pre ((i',kd)::B) pend early l M fp hT m (by rw [← he];exact h1) (by rw [← he];exact hnd);have he2:order=(pre++T)++(i',kd)::B:=by rw [he];simp
            have hi':i'∉(pre++T).map Prod.fst:=fun hm=>by
              rw [he2,Ba] at hnd;exact (Au.1 hnd).2.2 i' hm i' (by simp) rfl
            have hdE:∀ e∈early',HJ listed e.1:=fun e he'=>(m'.done e.1 (PJ (hA _ _ _ (m'.ear e he').2.1).1)).2 (.inr (Ak (f:=Prod.fst) he'))
            have hE2:∀ e∈early',(e.1,false)∈B:=fun e he'=>(Ac.1 (m'.ear e he').1).resolve_left fun e1=>hndn (by
              have:=hdE e he'
              rw [show e.1=i' from congrArg Prod.fst e1] at this;exact this)
            have hall2:=halle early' (fun e he'=>(m'.ear e he').2.1) hdE;cases kd with
            | true=>
              have hKB:Known ops als al B:=fun j hj=>by
                rcases hKn j hj with h | ⟨k,h1,h2,h3⟩
                · exact .inl h
                rcases Ab.1 h1 with h4 | h4
                · exfalso
                  rcases hT (k,false) h4 with h5 | h5
                  · cases h5.1
                  · obtain ⟨e,he',e1⟩:=Ai.1 h5.2
                    have:=hAs _ _ _ (m.ear e he').2.1;rw [e1,h3] at this;cases this
                · rcases Ac.1 h4 with h5 | h5
                  · cases h5
                  · exact .inr ⟨k,h5,h2,h3⟩
              obtain ⟨d,v,fp2,m2⟩:=m'.virt hA (by rw [← he2];exact h1) hndn hi' hall2 hE2;exact exec _ B _ _ _ _ fp2 hKB (by rw [he2];simp) m2 (by simp)
            | false=>
              have hal:CN al i'=none:=by
                cases h:CN al i' with
                | none=>rfl
                | some p=>exact absurd ⟨rfl,hAs _ p.1 p.2 h⟩ hkal
              refine m'.act hA hal hi (by rw [← he2];exact h1) hi' hndn hall2 hE2 (m'.pe (by rw [← he2];exact hnd)) hAs (fun l2 I2 M2 al2 L2 a2 w2 hA2 hAs2 hKn2 m2=>ih _ _ B pend' early' l2 I2 M2 fp1 al2 L2 a2 w2 hA2 hAs2 hKn2 (by rw [he2];simp) m2 hless)
theorem run_drawX {c : Code} {id : Nat} {M F0 : Seg} {l : Sl} {I : Imm} (als : List Nat) (al : List (Nat × Nat × Fresh)) (n0 : Nat) (order : List (Nat × Bool)) (hm : P.follows .mixedOrders = true) (hc : c = .region id ops true) (hok : okAllX als ops n0 order = true)
    (hA:∀ i d E,CN al i=some (d,E)→AlOk P N ops L0 i d E) (hAs:∀ i d E,CN al i=some (d,E)→isAl als i=true) (hKn:Known ops als al order) (hInj:∀ i j d,isAl als i=true→isAl als j=true→DZ ops i=some d→DZ ops j=some d→i=j)
    (hL:∀ t u,DL t L0=some u→(∃ k,DZ ops k=some t)∨DL t l=some u)
    (h:OFPX P N ops als F0 (fun l I M=>Seq (ρ:=ρ) P N ops Q ds n0 l I (M++F0)) al L0 [] order l I M):Run (ρ:=ρ) P N c Q ds l I (M++F0):=by
  subst hc;unfold okAllX at hok;simp only [Ah] at hok;obtain ⟨⟨⟨⟨⟨⟨g1,g2⟩,g3⟩,g4⟩,g5⟩,g6⟩,g7⟩:=hok;have gl:order.length=n0:=Ao g7;have hlt0:∀ x∈order,x.1<n0:=fun x hx=>Bn (Ax.1 g5 x hx)
  have hall:∀ k,k<n0→k∈order.map Prod.fst:=fun k hk=>by
    have:=Ax.1 g6 k (Bl.2 hk);obtain ⟨x,hx,e⟩:=List.any_eq_true.1 this;exact Ai.2 ⟨x,hx,Ao e⟩
  have hnd:(order.map Prod.fst).Nodup:=nodup_of_all n0 _ (by simp [gl]) hall;have hsz:∀ j,j<ops.size→∀ i,i<j→n0≤j→wt ops j i=true:=fun j hj i hij hn=>by
    have:=Ax.1 g3 j (Bl.2 hj);simp only [Bw,Ah] at this;rcases this with h | h
    · have:=Bn h;omega
    · exact Ax.1 h.1 i (Bl.2 hij)
  have hlt:∀ j o,n0≤j→ops[j]?=some o→∀ e∈o.after,Region.binds .any e=true→e.on<j:=fun j o hn ho e he hb=>by
    have hj:j<ops.size:=(Ap.1 ho).1;have:=Ax.1 g3 j (Bl.2 hj);simp only [Bw,Ah] at this;rcases this with h | h
    · have:=Bn h;omega
    · have h2:=h.2
      rw [ho] at h2;have:=Array.all_eq_true_iff_forall_mem.1 h2 e he;rw [hb] at this;simp only [Bool.not_true,Bool.false_or] at this;exact Bn this
  have gn:n0≤ops.size:=Bn g4;have hno:∀ k,¬ HJ (Array.replicate ops.size false) k:=fun k hk=>by
    unfold HJ at hk
    by_cases hks:k<ops.size <;> simp [hks] at hk
  intro a w hS hD hW;refine wpIn_region_any hm ?_
  refine draw_any hInj g1 g2 hnd hall hlt0 gn hsz hlt (fun _ _ _ h=>h) ops.size _ [] order [] [] l I M [] al L0 a _ hA hAs hKn rfl
    ⟨by simp,fun k hk=>absurd hk (hno k),fun k hk=>?_,fun _ h=>by simp at h,fun _ h=>by simp at h,fun _ h=>by simp at h,by simp,by simp,hS.size,fun t u hu _ _=>hS.get t u hu,fun _ h=>by simp at h,hD,?_,h,fun t u htu=>(hL t u htu).imp (fun ⟨k,hk⟩=>⟨k,hk,by simp⟩) (fun h=>h)⟩ ?_
  · constructor
    · intro h;exact absurd h (hno k)
    · rintro (⟨h,_⟩ | h) <;> simp at h
  · exact ⟨hW.os,hW.tape,hW.output,hW.imm,hW.mem,hW.nodup,hW.disj⟩
  · have:OJ (Array.replicate ops.size false) order≤order.length:=Cd _ _
    rw [gl] at this;omega
theorem run_draw {c : Code} {id : Nat} {M R S : Seg} {l : Sl} {I : Imm} (n0 : Nat) (order : List (Nat × Bool)) (hm : P.follows .mixedOrders = true) (hc : c = .region id ops true) (hok : okAll ops n0 order = true) (hM : M.Perm (R ++ S))
    (h:OFP P N ops R (fun l I S=>Seq (ρ:=ρ) P N ops Q ds n0 l I (R++S)) order l I S):Run (ρ:=ρ) P N c Q ds l I M:=by
  have h2:=OFP.x P N ops R order [] l I S M (fun _ h=>by simp at h) hM h;have h4:∀ (l:Sl) (I:Imm) (M:Seg),(∃ S,M.Perm (R++S)∧Seq (ρ:=ρ) P N ops Q ds n0 l I (R++S))→Seq (ρ:=ρ) P N ops Q ds n0 l I (M++[]):=fun l I M ⟨S,hM,hs⟩=>by
    rw [Aa];exact fun a w hS hD hW=>hs a w hS hD (hW.perm hM)
  have h3:=run_drawX (ρ:=ρ) (Q:=Q) (ds:=ds) (F0:=[]) (M:=M) (I:=I) (l:=l) [] [] n0 order hm hc hok (fun _ _ _ h=>by cases h) (fun _ _ _ h=>by cases h) (fun _ h=>by cases h) (fun _ _ _ h=>by cases h) (L0:=[]) (fun _ _ h=>by cases h) (OFPX.mono P N ops h4 order [] [] [] l I M h2);rw [Aa] at h3;exact h3
end
structure Row (sz:Nat) (I:Imm) (a:Option Addr) (b o n:Nat) (cell:Nat→Nat→Value):Prop where
  addr:0<n→a=some ⟨b,o,none⟩
  get:∀ i,i<n→∀ f,f<sz→ICell I ⟨b,o+i*sz+f,none⟩ (cell i f)
theorem Row.mono {sz:Nat} {I J:Imm} {a:Option Addr} {b o n:Nat} {cell:Nat→Nat→Value} (h:Row sz I a b o n cell) (le:I.le J):Row sz J a b o n cell:=
  ⟨h.addr,fun i hi f hf=>(h.get i hi f hf).mono le⟩
def IsSl {α:Type} (sz:Nat) (cell:α→Nat→Value) (dflt:α) (I:Imm) (v:Value) (xs:List α):Prop:=
  ∃ a c b o,v=.slice a xs.length c∧xs.length≤c∧xs.length≤140737488355328∧Row sz I a b o xs.length (fun i f=>cell (xs.getD i dflt) f)
theorem IsSl.mono {α:Type} {sz:Nat} {cell:α→Nat→Value} {dflt:α} {I J:Imm} {v:Value} {xs:List α} (h:IsSl sz cell dflt I v xs) (le:I.le J):IsSl sz cell dflt J v xs:=by
  obtain ⟨a,c,b,o,h1,h2,h3,h4⟩:=h;exact ⟨a,c,b,o,h1,h2,h3,h4.mono le⟩
def AU (x:Int) (_:Nat):Value:=.int .i64 x
abbrev AF:=IsSl 1 AU (0:Int)
def BK (x:Value) (_:Nat):Value:=x
abbrev PH:=IsSl 1 BK undef
def IsRows (I:Imm) (v:Value) (xss:List (List Int)):Prop:=
  ∃ a c b o,∃ vs:Nat→Value,v=.slice a xss.length c∧xss.length≤c∧xss.length≤140737488355328∧Row 1 I a b o xss.length (fun i _=>vs i)∧∀ i,i<xss.length→AF I (vs i) (xss.getD i [])
theorem IsRows.mono {I J:Imm} {v:Value} {xss:List (List Int)} (h:IsRows I v xss) (le:I.le J):IsRows J v xss:=by
  obtain ⟨a,c,b,o,vs,h1,h2,h3,h4,h5⟩:=h;exact ⟨a,c,b,o,vs,h1,h2,h3,h4.mono le,fun i hi=>(h5 i hi).mono le⟩
theorem JQ {I:Imm} {a:Option Addr} {b o n:Nat} {vs:Nat→Value} (h:Row 1 I a b o n (fun i _=>vs i)) {M:Seg} (i:Nat) (hi:i<n):Sees I M ⟨b,o+i*1,none⟩ (vs i):=
  (h.get i hi 0 (by decide)).sees
theorem AY {I:Imm} {a:Option Addr} {b o n:Nat} {xs:List Int} (h:Row 1 I a b o n (fun i f=>AU (xs.getD i 0) f)) {M:Seg} (i:Nat) (hi:i<n):Sees I M ⟨b,o+i*1,none⟩ (.int .i64 (xs.getD i 0)):=
  (h.get i hi 0 (by decide)).sees
theorem vals_get {I:Imm} {a:Option Addr} {b o n:Nat} {xs:List Value} (h:Row 1 I a b o n (fun i f=>BK (xs.getD i undef) f)) {M:Seg} (i:Nat) (hi:i<n):Sees I M ⟨b,o+i*1,none⟩ (xs.getD i undef):=
  (h.get i hi 0 (by decide)).sees
section
variable {ρ:Option Nat} {P:Program} {N:Nat} {ops:Array Oper} {Q:Exit→Act→World→Prop} {ds:List Deferred} {i:Nat} {l:Sl} {I:Imm} {R M:Seg} {d:Nat} {ty:TypeId} {gd:Option (Nat × Bool)}
theorem CJ {v v':Value} (h:Det P N ops i l I R d v) (e:v=v'):Det P N ops i l I R d v':=e▸h
theorem det_indexN {x y : Operand} {T e : TypeId} {sz b off n c j : Nat} {a : Option Addr} {k : IntKind} (hop : FH ops N i = some (some d, .indexAddr T x y, ty, gd)) (hg : FL ops l gd = some true)
    (hT:ID P T=some e) (hsz:CW P e=some sz) (hx:CB l x=some (.slice a n c)) (hy:CB l y=some (.int k (j:Int))) (ha:0<n→a=some ⟨b,off,none⟩) (hj:j<n) :
    Det P N ops i l I R d (.pointer (some ⟨b,off+j*sz,none⟩)):=by
  have:=NL (P:=P) (I:=I) (R:=R) hop hg hT hsz hx hy ha (by omega) (by omega)
  rwa [Bx] at this
theorem det_indexArrN {x y : Operand} {T e : TypeId} {sz b off n j : Nat} {k : IntKind} (hop : FH ops N i = some (some d, .indexAddr T x y, ty, gd)) (hg : FL ops l gd = some true)
    (hT:tyArr P T=some (n,e)) (hsz:CW P e=some sz) (hx:CB l x=some (.pointer (some ⟨b,off,none⟩))) (hy:CB l y=some (.int k (j:Int))) (hj:j<n) :
    Det P N ops i l I R d (.pointer (some ⟨b,off+j*sz,none⟩)):=by
  have:=det_indexArr (P:=P) (I:=I) (R:=R) hop hg hT hsz hx hy (by omega) (by omega)
  rwa [Bx] at this
theorem run_draw0 {c : Code} {id : Nat} (n0 : Nat) (order : List (Nat × Bool)) (hm : P.follows .mixedOrders = true) (hc : c = .region id ops true) (hok : okAll ops n0 order = true)
    (h:OFP P N ops M (fun l I S=>S=[]∧Seq (ρ:=ρ) P N ops Q ds n0 l I M) order l I []):Run (ρ:=ρ) P N c Q ds l I M:=by
  refine run_draw (R:=M) (S:=[]) n0 order hm hc hok (by rw [Aa]) ?_;have key:∀ (order:List (Nat × Bool)) (l:Sl) (I:Imm) (S:Seg),OFP P N ops M (fun l I S=>S=[]∧Seq (ρ:=ρ) P N ops Q ds n0 l I M) order l I S→OFP P N ops M (fun l I S=>Seq (ρ:=ρ) P N ops Q ds n0 l I (M++S)) order l I S:=by
    intro order
    induction order with
    | nil=>rintro l I S ⟨rfl,h⟩;show Seq (ρ:=ρ) P N ops Q ds n0 l I (M++[]);rw [Aa];exact h
    | cons x order ih=>
      obtain ⟨j,kd⟩:=x;intro l I S h;cases kd with
      | true=>obtain ⟨d,v,h1,h2⟩:=h;exact ⟨d,v,h1,ih _ _ _ h2⟩
      | false=>
        obtain ⟨o,h1,h2,h3,h4,h5,h6⟩:=h;exact ⟨o,h1,h2,h3,h4,h5,fun w st=>(h6 w st).mono fun v w' ⟨I',M',g1,g2,S',g3,g4⟩=>⟨I',M',g1,g2,S',g3,ih _ _ _ g4⟩⟩
  exact key _ _ _ _ h
theorem AD {Kfin:Sl→Imm→Seg→Prop} {rest:List (Nat × Bool)} {S:Seg} {v:Value} (h:Det P N ops i l I R d v) (next:OFP P N ops R Kfin rest ((d,v)::l) I S):OFP P N ops R Kfin ((i,true)::rest) l I S:=⟨d,v,h,next⟩
theorem BE {n0:Nat} (h:Seq (ρ:=ρ) P N ops Q ds n0 l I M):OFP P N ops M (fun l I S=>S=[]∧Seq (ρ:=ρ) P N ops Q ds n0 l I M) [] l I []:=⟨rfl,h⟩
end
theorem Sub.consE {l' l:Sl} (t:Nat) {v v':Value} (h:DL t l=some v') (e:v'=v) (s:Sub l' l):Sub ((t,v)::l') l:=.cons t (e▸h) s
theorem DY {a b:Int}:cmp .eql a b=decide (a=b):=rfl
theorem cmp_neq {a b:Int}:cmp .neq a b=decide (a≠b):=rfl
theorem cmp_gtr {a b:Int}:cmp .gtr a b=decide (b<a):=rfl
theorem BH {ρ : Option Nat} {P : Program} {N : Nat} {ops : Array Oper} {Q : Exit → Act → World → Prop} {ds : List Deferred} {i : Nat} {l : Sl} {I : Imm} {M : Seg} (t : Nat) {b : Bool} (h : DL t l = some (.bool b))
    (h1:b=true→Seq (ρ:=ρ) P N ops Q ds i ((t,.bool true)::l) I M) (h2:b=false→Seq (ρ:=ρ) P N ops Q ds i ((t,.bool false)::l) I M):Seq (ρ:=ρ) P N ops Q ds i l I M:=by
  cases b with
  | true=>exact BG t h rfl (h1 rfl)
  | false=>exact BG t h rfl (h2 rfl)
theorem OFP.sub {P : Program} {N : Nat} {ops : Array Oper} {R : Seg} {Kfin : Sl → Imm → Seg → Prop} {order : List (Nat × Bool)} {l : Sl} {I : Imm} {S : Seg} (t : Nat) {v v' : Value} (e : v = v') (h : OFP P N ops R Kfin order ((t, v') :: l) I S) :
    OFP P N ops R Kfin order ((t,v)::l) I S:=e▸h
theorem EZ {P : Program} {N : Nat} {ops : Array Oper} {R : Seg} {Kfin : Sl → Imm → Seg → Prop} {order : List (Nat × Bool)} {l : Sl} {I : Imm} {S : Seg} (t : Nat) {b : Bool}
    (h1:b=true→OFP P N ops R Kfin order ((t,.bool true)::l) I S) (h2:b=false→OFP P N ops R Kfin order ((t,.bool false)::l) I S):OFP P N ops R Kfin order ((t,.bool b)::l) I S:=by
  cases b with
  | true=>exact h1 rfl
  | false=>exact h2 rfl
theorem KZ {P : Program} {N : Nat} {ops : Array Oper} {i : Nat} {l : Sl} {I : Imm} {R : Seg} {d : Nat} {ty : TypeId} {gd : Option (Nat × Bool)} {x y : Operand} {T T' e : TypeId} {a : Option Addr} {n c : Nat}
    (hop:FH ops N i=some (some d,.binOp .eql T x y T',ty,gd)) (hg:FL ops l gd=some true) (hT:ID P T=some e) (hx:CB l x=some (.slice a n c)) (hy:CB l y=some (.slice none 0 0)) :
    Det P N ops i l I R d (.bool a.isNone):=
  FF hop hg (HE hx hy) fun I' M'=>by
    show wpL P ((do eqGuard .eql T x y (rho l x) (rho l y);binOp .eql T (rho l x) (rho l y)) >>= fun x=>pure (Next.value x)) _ I' M';rw [BI hx,BI hy];refine DB ?_;show wpL P (Op.equalIn 10000 T (.slice a n c) (.slice none 0 0) >>= fun b=>pure (Value.bool b)) _ I' M';rw [AE];unfold Op.equalIn;rw [AE,AK (DH hT)];cases a <;> exact ⟨rfl,rfl⟩
theorem and_t {a b:Bool} (h:(a&&b)=true):a=true∧b=true:=by cases a <;> cases b <;> first | exact ⟨rfl,rfl⟩ | cases h
theorem or_f {a b:Bool} (h:(a||b)=false):a=false∧b=false:=by cases a <;> cases b <;> first | exact ⟨rfl,rfl⟩ | cases h
theorem or_t {a b:Bool} (h:(a||b)=true):a=true∨b=true:=by cases a <;> first | exact .inl rfl | exact .inr h
theorem CL {a b:Int} (h:cmp .eql a b=true):a=b:=Bu h
theorem CI {a b:Int} (h:cmp .eql a b=false):a≠b:=of_decide_eq_false h
theorem BW {a b:Int} (h:cmp .lss a b=true):a<b:=Bu h
theorem CC {a b:Int} (h:cmp .lss a b=false):b≤a:=Int.not_lt.1 (of_decide_eq_false h)
theorem leq_t {a b:Int} (h:cmp .leq a b=true):a≤b:=Bu h
theorem leq_f {a b:Int} (h:cmp .leq a b=false):b<a:=Int.not_le.1 (of_decide_eq_false h)
theorem EH {a b:Int} (h:cmp .gtr a b=true):b<a:=Bu h
theorem FB {a b:Int} (h:cmp .gtr a b=false):a≤b:=Int.not_lt.1 (of_decide_eq_false h)
theorem geq_t {a b:Int} (h:cmp .geq a b=true):b≤a:=Bu h
theorem geq_f {a b:Int} (h:cmp .geq a b=false):a<b:=Int.not_le.1 (of_decide_eq_false h)
theorem CU {b:Bool} (h:(!b)=true):b=false:=by cases b <;> first | rfl | cases h
theorem CO {b:Bool} (h:(!b)=false):b=true:=by cases b <;> first | rfl | cases h
theorem KA {p:Prop} [Decidable p] (h:decide p=true):p:=Bu h
theorem JV {p:Prop} [Decidable p] (h:decide p=false):¬ p:=of_decide_eq_false h
def DM {α:Type} (sz:Nat) (cell:α→Nat→Value) (xs:List α):List Value:=xs.flatMap fun x=>(List.range sz).map (cell x)
theorem BT {α:Type} (sz:Nat) (cell:α→Nat→Value) (xs:List α):(DM sz cell xs).length=xs.length*sz:=by
  induction xs with
  | nil=>simp [DM]
  | cons x xs ih=>
    have:DM sz cell (x::xs)=(List.range sz).map (cell x)++DM sz cell xs:=by simp [DM]
    rw [this,Ad,ih];simp [Nat.succ_mul,Nat.add_comm]
theorem KJ {α:Type} (sz:Nat) (cell:α→Nat→Value) (xs ys:List α):DM sz cell (xs++ys)=DM sz cell xs++DM sz cell ys:=by simp [DM]
theorem encL_get {α:Type} (sz:Nat) (cell:α→Nat→Value) (dflt:α) (xs:List α):∀ (i f:Nat),i<xs.length→f<sz→(DM sz cell xs)[i*sz+f]?=some (cell (xs.getD i dflt) f):=by
  induction xs with
  | nil=>intro i f h;simp at h
  | cons x xs ih=>
    intro i f hi hf;have e:DM sz cell (x::xs)=(List.range sz).map (cell x)++DM sz cell xs:=by simp [DM]
    rw [e];cases i with
    | zero=>
      rw [Nat.zero_mul,Nat.zero_add,Bt (by simpa using hf)];simp [hf]
    | succ i=>
      rw [Cn (by simp [Nat.succ_mul];omega)];have:(i+1)*sz+f-((List.range sz).map (cell x)).length=i*sz+f:=by simp [Nat.succ_mul];omega
      rw [this,ih i f (by simpa using hi) hf];simp
def Own {α:Type} (E:TypeId) (sz:Nat) (cell:α→Nat→Value) (v:Value) (xs:List α) (Ms:Seg):Prop:=
  (v=.slice none 0 0∧xs=[]∧Ms=[]) ∨
  ∃ b c sp,v=.slice (some ⟨b,0,none⟩) xs.length c∧xs.length≤c∧Ms=[(b,Obj.cells (DM sz cell xs++sp).toArray E (0,0))]∧(DM sz cell xs++sp).length=c*sz
theorem Own.nil {α:Type} (E:TypeId) (sz:Nat) (cell:α→Nat→Value):Own E sz cell (.slice none 0 0) ([]:List α) []:=.inl ⟨rfl,rfl,rfl⟩
theorem Own.shape {α:Type} {E:TypeId} {sz:Nat} {cell:α→Nat→Value} {v:Value} {xs:List α} {Ms:Seg} (h:Own E sz cell v xs Ms):∃ a c,v=.slice a xs.length c∧xs.length≤c:=by
  rcases h with ⟨rfl,rfl,rfl⟩ | ⟨b,c,sp,rfl,h,_⟩
  · exact ⟨none,0,rfl,Bj _⟩
  · exact ⟨_,c,rfl,h⟩
theorem Own.freeze {α : Type} {E : TypeId} {sz : Nat} {cell : α → Nat → Value} {v : Value} {xs : List α} {Ms M : Seg} {I : Imm} {w : World} (dflt : α) (h : Own E sz cell v xs Ms) (hl : xs.length ≤ 140737488355328) (st : St I (Ms ++ M) w) :
    ∃ J,I.le J∧IsSl sz cell dflt J v xs∧St J M w:=by
  rcases h with ⟨rfl,rfl,rfl⟩ | ⟨b,c,sp,rfl,h,rfl,hc⟩
  · exact ⟨I,Imm.le.refl I,⟨none,0,0,0,rfl,Bj _,by simp,⟨fun h=>by simp at h,fun i hi=>by simp at hi⟩⟩,st⟩
  · have hb:I.blk b=none:=st.disj b (Obj.cells (DM sz cell xs++sp).toArray E (0,0)) (by simp)
    refine ⟨I.add b _,Imm.le_add hb,⟨_,c,b,0,rfl,h,hl,⟨fun _=>rfl,fun i hi f hf=>⟨rfl,_,E,(0,0),Imm.add_same I b _,?_⟩⟩⟩,St.freeze st⟩;have hlt:i*sz+f<(DM sz cell xs).length:=by
      rw [BT];have:i*sz+sz≤xs.length*sz:=by rw [← Nat.succ_mul];exact Nat.mul_le_mul_right _ hi
      omega
    simp only [List.getElem?_toArray,Nat.zero_add];rw [Bt hlt];exact encL_get sz cell dflt xs i f hi hf
theorem Own.sees {α : Type} {E : TypeId} {sz : Nat} {cell : α → Nat → Value} {xs : List α} {b c : Nat} {sp : List Value} {I : Imm} {M : Seg} (dflt : α) (hm : (b, Obj.cells (DM sz cell xs ++ sp).toArray E (0, 0)) ∈ M) (i f : Nat) (hi : i < xs.length) (hf : f < sz) :
    Sees I M ⟨b,i*sz+f,none⟩ (cell (xs.getD i dflt) f):=by
  refine ⟨rfl,_,E,(0,0),.inl hm,?_⟩;have hlt:i*sz+f<(DM sz cell xs).length:=by
    rw [BT];have:i*sz+sz≤xs.length*sz:=by rw [← Nat.succ_mul];exact Nat.mul_le_mul_right _ hi
    omega
  simp only [List.getElem?_toArray];rw [Bt hlt];exact encL_get sz cell dflt xs i f hi hf
def Src (I:Imm) (M:Seg) (v:Value) (n:Nat) (cells:List Value):Prop:=
  ∃ a c,v=.slice a n c∧(cells=[]∨∃ b o,a=some ⟨b,o,none⟩∧SeesN I M b o cells)
theorem growBy_le (need:Nat):∀ (r c:Nat),c≤2*need+1000→Builtin.growBy need r c≤2*need+1000:=by
  intro r
  induction r with
  | zero=>intro c h;exact h
  | succ r ih=>
    intro c h;simp only [Builtin.growBy]
    split
    · exact h
    · exact ih _ (by omega)
theorem LM {need old:Nat} (h:old<need):Builtin.nextslicecap need old≤2*need+1000:=by
  unfold Builtin.nextslicecap
  split
  · omega
  · split
    · omega
    · exact growBy_le need 4 old (by omega)
def KR (P:Program) (t:TypeId):Option Nat:=(P.info? t).map (·.bytes)
section
variable {ρ:Option Nat} {P:Program} {N:Nat} {ops:Array Oper} {i:Nat} {l:Sl} {I:Imm} {R M:Seg} {ty:TypeId} {gd:Option (Nat × Bool)} {K:Sl→Imm→Seg→Prop}
theorem GS {sz n:Nat} {v:Value} {cells:List Value} {Q:Array Value→Seg→Prop} (h:Src I M v n cells) (hn:cells.length=n*sz) (hq:Q cells.toArray M):wpL P (Builtin.firstCells sz n v) Q I M:=by
  obtain ⟨a,c,rfl,h⟩:=h;rcases h with rfl | ⟨b,o,rfl,h⟩
  · simp only [Cg] at hn
    cases a with
    | none=>exact hq
    | some ad=>
      show wpL P (loadCells ad (n*sz)) Q I M;rw [← hn];exact hq
  · show wpL P (loadCells ⟨b,o,none⟩ (n*sz)) Q I M
    rw [← hn];exact OM h hq
theorem IJ (vs:List Value):∀ (A B:List Value),vs.length≤B.length→(HW (A++B).toArray A.length vs).toList=A++vs++B.drop vs.length:=by
  induction vs with
  | nil=>intro A B _;simp [HW]
  | cons v vs ih=>
    intro A B h;cases B with
    | nil=>simp at h
    | cons x B=>
      have e:((A++x::B).toArray.setIfInBounds A.length v)=((A++[v])++B).toArray:=by
        apply Array.ext'
        simp
      have:=ih (A++[v]) B (by simpa using h);simp only [HW];rw [e];have hl:A.length+1=(A++[v]).length:=by simp
      rw [hl,this];simp
theorem KW (zero:Array Value) (n:Nat):(Builtin.zeroCells zero n).size=n*zero.size:=by simp [Builtin.zeroCells]
theorem wpL_mono {α:Type} {s:Sem α}:∀ {Q Q':α→Seg→Prop} {M:Seg},(∀ x M',Q x M'→Q' x M')→wpL P s Q I M→wpL P s Q' I M:=by
  induction s with
  | pure a=>intro Q Q' M h hs;exact h _ _ hs
  | load m a k ih=>rintro Q Q' M h ⟨v,h1,h2⟩;exact ⟨v,h1,ih v h h2⟩
  | store m a v k ih=>rintro Q Q' M h ⟨h1,h0,i,cs,T,fz,h2,h3,h4,h5⟩;exact ⟨h1,h0,i,cs,T,fz,h2,h3,h4,ih h h5⟩
  | new o k ih=>intro Q Q' M h hs b;exact ih b h (hs b)
  | shape r k ih=>rintro Q Q' M h ⟨o,h1,h2⟩;exact ⟨o,h1,ih _ h h2⟩
  | freeze a n k ih=>intro Q Q' M h hs;exact hs
  | frozen a k ih=>rintro Q Q' M h ⟨o,h1,h2⟩;exact ⟨o,h1,ih _ h h2⟩
  | getObj r k ih=>rintro Q Q' M h ⟨o,h1,h2,h3⟩;exact ⟨o,h1,h2,ih _ h h3⟩
  | setObj r o k ih=>rintro Q Q' M h ⟨h1,i,o',h2,h3,h4⟩;exact ⟨h1,i,o',h2,h3,ih h h4⟩
  | choose q k ih=>
    intro Q Q' M h hs;simp only [wpL] at hs ⊢
    split
    · rename_i hf;rw [if_pos hf] at hs;exact ih 0 h hs
    · rename_i hf;rw [if_neg hf] at hs;exact fun t=>ih _ h (hs t)
  | sys c k ih=>intro Q Q' M h hs;exact hs
  | program k ih=>intro Q Q' M h hs;exact ih P h hs
  | mark m k ih=>intro Q Q' M h hs;exact ih h hs
  | halt x=>intro Q Q' M h hs;exact hs
theorem IV {α : Type} {d : Nat} {x y : Operand} {T T' E E' sz bs : Nat} {z : Value} {cell : α → Nat → Value} {v u : Value} {xs ys : List α} {Ms Rest : Seg}
    (hop:FH ops N i=some (some d,.call { callee:=.builtin .append,args:=#[x,y],argTypes:=#[T,T'] },ty,gd)) (hg:FL ops l gd=some true)
    (hT:ID P T=some E) (hsz:CW P E=some sz) (hz:JI P E=some z) (hzc:z.cells.size=sz) (hb:KR P E=some bs) (hbs:1≤bs∧bs≤256) (hT':ID P T'=some E')
    (hx:CB l x=some v) (hy:CB l y=some u) (own:Own E sz cell v xs Ms) (hM:M.Perm (Ms++Rest)) (hone:∀ c∈DM sz cell ys,DF c=true) (hsrc:Src I (Ms++Rest) u ys.length (DM sz cell ys))
    (hneed:xs.length+ys.length≤274877906944)
    (next:∀ v' Ms',Own E sz cell v' (xs++ys) Ms'→K ((d,v')::l) I (Ms'++Rest)):Stp P N ops i l I M K:=by
  refine JH hop hg ?_ hM ?_
  · intro o ho
    simp only [Op.operands,Call.operands] at ho;simp at ho;rcases ho with rfl | rfl
    · exact ED hx
    · exact ED hy
  obtain ⟨av,cv,hv,hcv⟩:=own.shape;obtain ⟨au,cu,hu,hsrc'⟩:=hsrc;have hsrc:Src I (Ms++Rest) u ys.length (DM sz cell ys):=⟨au,cu,hu,hsrc'⟩;have hinfo:∃ inf,P.info? E=some inf∧inf.bytes=bs:=by
    unfold KR at hb;cases hi:P.info? E with
    | none=>rw [hi] at hb;cases hb
    | some inf=>rw [hi] at hb;exact ⟨inf,rfl,by simpa using hb⟩
  obtain ⟨inf,hinf,hbytes⟩:=hinfo;have hly:(DM sz cell ys).length=ys.length*sz:=BT sz cell ys;have hlx:(DM sz cell xs).length=xs.length*sz:=BT sz cell xs;have honeY:=hone;have main:wpL P (Builtin.append_ #[T,T'] ty #[v,u]) (fun r M'=>∃ M'',M''.Sublist M'∧∃ Ms',Own E sz cell r (xs++ys) Ms'∧M''=Ms'++Rest) I (Ms++Rest):=by
    unfold Builtin.append_;subst hv hu;simp only [List.getElem?_toArray,List.getElem?_cons_zero,List.getElem?_cons_succ,AE,AK (DH hT),CG hsz,AK (DH hT'),EG,Builtin.lenOf];simp only [Bz,if_false,Bool.not_false,if_true,EG,false_or];rw [AE,EG]
    by_cases hroom:xs.length+ys.length≤cv
    · -- there is room
      rw [if_pos hroom,AE];refine GS hsrc hly ?_;rcases own with ⟨hv',hxs,hMs⟩ | ⟨b,c,sp,hv',hc,hMs,hlen⟩
      · simp only [Value.slice.injEq] at hv'
        obtain ⟨rfl,_,rfl⟩:=hv';subst hxs hMs;have hy0:ys=[]:=by simpa using hroom
        subst hy0;exact ⟨[]++Rest,List.Sublist.refl _,[],.inl ⟨rfl,rfl,rfl⟩,rfl⟩
      · simp only [Value.slice.injEq] at hv'
        obtain ⟨rfl,_,rfl⟩:=hv';subst hMs;show wpL P (storeCells (Addr.add ⟨b,0,none⟩ (xs.length*sz)) (DM sz cell ys).toArray.toList >>= fun _=>pure (Value.slice (some ⟨b,0,none⟩) (xs.length+ys.length) _)) _ I _;rw [AE,GV,Nat.zero_add];have hsp:(DM sz cell ys).length≤sp.length:=by
          rw [Ad,hlx] at hlen;rw [hly];have:(xs.length+ys.length)*sz≤cv*sz:=Nat.mul_le_mul_right sz hroom;rw [Nat.add_mul] at this;omega
        refine GU (T:=E) (k:=0) _ 0 _ (DM sz cell xs++sp).toArray _ (by simp) ?_ (fun c hc=>honeY c (by simpa using hc)) ?_
        · simp only [List.toList_toArray,List.size_toArray,Ad,hlx] at hsp ⊢
          omega
        have hset:=IJ (DM sz cell ys) (DM sz cell xs) sp hsp;rw [hlx] at hset;have hset':HW (DM sz cell xs++sp).toArray (xs.length*sz+0) (DM sz cell ys).toArray.toList=(DM sz cell (xs++ys)++sp.drop (DM sz cell ys).length).toArray:=by
          apply Array.ext'
          rw [Nat.add_zero];simp only [List.toList_toArray];rw [hset,KJ]
        rw [hset'];refine ⟨_,List.Sublist.refl _,[(b,Obj.cells (DM sz cell (xs++ys)++sp.drop (DM sz cell ys).length).toArray E (0,0))],.inr ⟨b,cv,sp.drop (DM sz cell ys).length,by simp,by simpa using hroom,rfl,?_⟩,by simp⟩;rw [KJ,Ad,Ad,Cq];rw [Ad] at hlen;omega
    · -- a new array
      rw [if_neg hroom];have hcv':cv<xs.length+ys.length:=by omega
      rw [AE,DW hinf,if_neg (show ¬ (((xs.length+ys.length:Nat):Int)>IntKind.i64.max∧inf.bytes=0) from fun h=>by have:=h.2;omega)]
      rw [AE,DW hinf,if_neg (show ¬ (Builtin.nextslicecap (xs.length+ys.length) cv*inf.bytes>2 ^ 48) from fun h=>by
        have h1:=LM hcv'
        have h2:Builtin.nextslicecap (xs.length+ys.length) cv*inf.bytes≤(2*(xs.length+ys.length)+1000)*256:=Nat.mul_le_mul h1 (by omega)
        omega)]
      rw [AE];show (if (Question.appendCap (xs.length+ys.length) cv E).forced then _ else ∀ t,_);rw [if_neg (by simp [Question.forced])];intro t;show wpL P (typeInfo E >>= _) _ I _;rw [AE,DW hinf,AE];have hask:∀ (n:Nat) (Q:Unit→Seg→Prop),Q () (Ms++Rest)→wpL P (askRoom n) Q I (Ms++Rest):=fun n Q hq=>by
        unfold askRoom
        split <;> exact hq
      refine hask _ _ ?_;have hold:Src I (Ms++Rest) (.slice av xs.length cv) xs.length (DM sz cell xs):=by
        rcases own with ⟨hv',hxs,hMs⟩ | ⟨b,c,sp,hv',hc,hMs,hlen⟩
        · subst hxs
          exact ⟨av,cv,rfl,.inl rfl⟩
        · simp only [Value.slice.injEq] at hv'
          obtain ⟨rfl,_,rfl⟩:=hv';subst hMs;refine ⟨_,_,rfl,.inr ⟨b,0,rfl,fun k u hk=>⟨rfl,(DM sz cell xs++sp).toArray,E,(0,0),.inl (by simp),?_⟩⟩⟩;simp only [Nat.zero_add,List.getElem?_toArray];rw [Bt (Bc.1 hk).1];exact hk
      rw [AE];refine GS hold hlx ?_;rw [AE];refine GS hsrc hly ?_;rw [AE,FJ hz,AE];intro b;have hcap:xs.length+ys.length≤Question.cut (.appendCap (xs.length+ys.length) cv E) t:=by simp [Question.cut]
      generalize Question.cut (.appendCap (xs.length+ys.length) cv E) t=nc at hcap
      refine ⟨[(b,Obj.cells (DM sz cell (xs++ys)++(Builtin.zeroCells z.cells (nc-(xs.length+ys.length))).toList).toArray E (0,0))]++Rest,?_,_,.inr ⟨b,nc,_,by simp,by simpa using hcap,rfl,?_⟩,rfl⟩
      · have e : (DM sz cell xs).toArray ++ (DM sz cell ys).toArray ++ Builtin.zeroCells z.cells (nc - (xs.length + ys.length)) = (DM sz cell (xs ++ ys) ++ (Builtin.zeroCells z.cells (nc - (xs.length + ys.length))).toList).toArray := by
          apply Array.ext'
          simp [KJ]
        rw [e];exact .cons_cons _ (List.sublist_append_right _ _)
      · have e1:(Builtin.zeroCells z.cells (nc-(xs.length+ys.length))).toList.length=(nc-(xs.length+ys.length))*sz:=by rw [Array.length_toList,KW,hzc]
        have e2:=BT sz cell (xs++ys);rw [Ad,e1,e2,Ad,← Nat.add_mul,Nat.add_sub_cancel' hcap]
  unfold KB execOp resolve;simp only [List.map_toArray,Aw,Cs,BI hx,BI hy];show wpL P (Builtin.append_ #[T,T'] ty #[v,u] >>= fun x=>pure (Next.value x)) _ I _;refine DB ?_;refine wpL_mono (fun r M' ⟨M'',hsub,Ms',hown,e⟩=>?_) main;subst e;exact ⟨r,_,.inl rfl,hsub,next r Ms' hown⟩
end
end Go.Sl

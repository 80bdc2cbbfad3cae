/- A part of the proof of the laws of this seat. -/
import Derived.Orders
import Derived.Tactics
import Derived.Defers
import Derived.KernelRfl
import Derived.Below
import Derived.Deep.LoopGhost
import Derived.CallsIn
import Derived.RangeFuncIn
import Derived.RangeFuncRecord
import Derived.Conc.Own5
import Derived.IntWalk
set_option linter.unusedVariables false
set_option linter.unusedSimpArgs false
namespace Go.Sl
open Go
open Go.Conc (G)
structure Gh where
  r:Nat
  cap:Nat
  outs:List Value
structure GW where
  os:Os
  tape:Nat→Question→Nat
  output:Array (Nat × ByteArray)
  blk:Nat→Option Obj
  pub:Nat→Prop
  gh:Option Gh
structure Mod (σ:GW) (w:Go.World):Prop where
  os:w.os=σ.os
  tape:w.tape=σ.tape
  output:w.output=σ.output
  blk:∀ b o,σ.blk b=some o→w.heap[b]?=some o
  known:∀ b,σ.pub b→σ.blk b≠none
def okLocP (ext:Bool) (σ:GW) (wr:Bool):Loc→Prop
  | .cell a=>σ.blk a.block≠none∧(wr=true→¬ σ.pub a.block)
  | .obj r=>σ.blk r≠none∧(wr=true→¬ σ.pub r)
  | .mark .noRoom=>True
  | .mark (.extern _)=>ext=true
  | _=>False
def okEvP (ext:Bool) (σ:GW) (e:Event):Prop:=okLocP ext σ e.write e.loc
abbrev okEv:=okEvP false
def noExt (e:Event):Prop:=∀ f,e.loc≠.mark (.extern f)
theorem okEvP.mono {ext:Bool} {σ σ':GW} {e:Event} (h:okEvP ext σ e) (hk:∀ b,σ.blk b≠none→σ'.blk b≠none) (hp:σ'.pub=σ.pub):okEvP ext σ' e:=by
  obtain ⟨loc,wr,sy⟩:=e;unfold okEvP at *;cases loc with
  | cell a=>exact ⟨hk _ h.1,fun x=>by rw [hp];exact h.2 x⟩
  | obj r=>exact ⟨hk _ h.1,fun x=>by rw [hp];exact h.2 x⟩
  | mark m=>cases m <;> exact h
  | output=>exact h
  | goroutines=>exact h
structure GuarP (ext:Bool) (σ:GW) (w w':Go.World) (es:Array Event) (σ':GW):Prop where
  mod:Mod σ' w'
  pub:σ'.pub=σ.pub
  gh:σ'.gh=σ.gh
  size:w.heap.size≤w'.heap.size
  frame:∀ b,(σ.blk b=none∨σ.pub b)→b<w.heap.size→w'.heap[b]?=w.heap[b]?
  new:∀ b,σ'.blk b≠none→σ.blk b≠none∨w.heap.size≤b
  keep:∀ b,σ.blk b≠none→σ'.blk b≠none
  os:w'.os=w.os
  tape:w'.tape=w.tape
  output:w'.output=w.output
  evs:∀ e∈es,okEvP ext σ' e
abbrev Guar:=GuarP false
abbrev GuarX:=GuarP true
theorem GuarP.refl {ext:Bool} {σ:GW} {w:Go.World} (h:Mod σ w):GuarP ext σ w w #[] σ:=
  ⟨h,rfl,rfl,Nat.le_refl _,fun _ _ _=>rfl,fun _ h=>.inl h,fun _ h=>h,rfl,rfl,rfl,fun e he=>by simp at he⟩
theorem GuarP.trans {ext:Bool} {σ σ1 σ2:GW} {w w1 w2:Go.World} {es es2:Array Event} (h:GuarP ext σ w w1 es σ1) (k:GuarP ext σ1 w1 w2 es2 σ2):GuarP ext σ w w2 (es++es2) σ2:=by
  refine ⟨k.mod,k.pub.trans h.pub,k.gh.trans h.gh,Nat.le_trans h.size k.size,fun b hb hl=>?_,fun b hb=>?_,fun b hb=>k.keep b (h.keep b hb),k.os.trans h.os,k.tape.trans h.tape,k.output.trans h.output,fun e he=>?_⟩
  · rw [k.frame b ?_ (Nat.lt_of_lt_of_le hl h.size),h.frame b hb hl]
    rcases hb with hb | hb
    · refine .inl ?_
      cases hx:σ1.blk b with
      | none=>rfl
      | some o=>exact absurd hl (Nat.not_lt.2 ((h.new b (by simp [hx])).resolve_left (by simp [hb])))
    · exact .inr (by rw [h.pub];exact hb)
  · rcases k.new b hb with h1 | h1
    · exact h.new b h1
    · exact .inr (Nat.le_trans h.size h1)
  · rcases Array.mem_append.1 he with he | he
    · exact (h.evs e he).mono k.keep k.pub
    · exact k.evs e he
theorem GuarP.less {ext:Bool} {σ σ':GW} {w w':Go.World} {es es2:Array Event} (h:GuarP ext σ w w' es σ') (s:∀ e∈es2,e∈es∧noExt e):Guar σ w w' es2 σ':=
  ⟨h.mod,h.pub,h.gh,h.size,h.frame,h.new,h.keep,h.os,h.tape,h.output,fun e he=>by
    obtain ⟨h1,h2⟩:=s e he
    have h3:=h.evs e h1
    obtain ⟨loc,wr,sy⟩:=e
    cases loc with
    | mark m=>
      cases m with
      | extern f=>exact absurd rfl (h2 f)
      | _=>exact h3
    | _=>exact h3⟩
def SemTo (P:Program) {α:Type} (s:Sem α) (σ:GW) (K:α→GW→Prop):Prop:=
  ∀ w,Mod σ w→∃ x w' es σ',(∀ es0,s.runT P w es0=(.ok x w',es0++es))∧GuarX σ w w' es σ'∧K x σ'
theorem runT_bind {P : Program} {α β : Type} (s : Sem α) (f : α → Sem β) : ∀ (w : Go.World) (es : Array Event),
    (s >>= f).runT P w es=match s.runT P w es with
      | (.ok x w',es')=>(f x).runT P w' es'
      | (.halt h w',es')=>(.halt h w',es'):=by
  induction s with
  | pure a=>intro w es;rfl
  | load m a k ih=>
    intro w es;show (Sem.load m a fun v=>(k v).bind f).runT P w es=_;simp only [Sem.runT];cases w.cell? a with
    | some v=>exact ih v _ _
    | none=>
      cases w.farLoad P a (m == .atomic) with
      | ok r=>exact ih _ _ _
      | error h=>rfl
  | store m a v k ih=>
    intro w es;show (Sem.store m a v (k.bind f)).runT P w es=_;cases v
    all_goals first
      | rfl
      | (simp only [Sem.runT]
         cases w.cell? a with
         | some u=>
           simp only
           split
           · rfl
           · exact ih _ _
         | none=>
           simp only
           cases w.farStore P a _ (m == .atomic) with
           | ok r=>exact ih _ _
           | error h=>rfl)
  | new o k ih=>intro w es;exact ih _ _ _
  | shape r k ih=>intro w es;exact ih _ _ _
  | freeze a n k ih=>intro w es;exact ih _ _
  | frozen a k ih=>intro w es;exact ih _ _ _
  | getObj r k ih=>
    intro w es;show (Sem.getObj r fun v=>(k v).bind f).runT P w es=_;simp only [Sem.runT];cases w.heap[r]? with
    | none=>rfl
    | some o=>cases o <;> first | rfl | exact ih _ _ _
  | setObj r o k ih=>
    intro w es;show (Sem.setObj r o (k.bind f)).runT P w es=_;simp only [Sem.runT];cases w.heap[r]? with
    | none=>rfl
    | some o'=>cases o' <;> first | rfl | exact ih _ _
  | choose q k ih=>
    intro w es;show (Sem.choose q fun v=>(k v).bind f).runT P w es=_;simp only [Sem.runT]
    split
    · exact ih _ _ _
    · exact ih _ _ _
  | sys c k ih=>intro w es;exact ih _ _ _
  | program k ih=>intro w es;exact ih _ _ _
  | mark m k ih=>intro w es;exact ih _ _
  | halt h=>intro w es;rfl
section
variable {P:Program} {α β:Type} {σ:GW}
theorem SemTo.mono {s:Sem α} {K K':α→GW→Prop} (h:SemTo P s σ K) (hk:∀ x σ,K x σ→K' x σ):SemTo P s σ K':=fun w hw=>
  let ⟨x,w',es,σ',h1,h2,h3⟩:=h w hw;⟨x,w',es,σ',h1,h2,hk _ _ h3⟩
theorem SemTo.pure {x:α} {K:α→GW→Prop} (h:K x σ):SemTo P (Pure.pure x:Sem α) σ K:=fun w hw=>⟨x,w,#[],σ,fun es0=>by simp [Pure.pure,Sem.runT],.refl hw,h⟩
theorem SemTo.bind {s:Sem α} {f:α→Sem β} {K:β→GW→Prop} (h:SemTo P s σ fun x σ'=>SemTo P (f x) σ' K):SemTo P (s >>= f) σ K:=fun w hw=>by
  obtain ⟨x,w1,es1,σ1,h1,g1,h2⟩:=h w hw;obtain ⟨y,w2,es2,σ2,h3,g2,h4⟩:=h2 w1 g1.mod;exact ⟨y,w2,es1++es2,σ2,fun es0=>by rw [runT_bind,h1 es0];simp only [h3,Array.append_assoc],g1.trans g2,h4⟩
end
theorem KN {P:Program} {fn:FuncId} {es:Array Event} {e:Event} (h:e∈seen P fn es):e∈es∧noExt e:=by
  have key : ∀ (l : List Event) (x : Bool × Array Event), e ∈ (l.foldl (fun (x : Bool × Array Event) (e : Event) => match e.loc with
      | .mark (.extern f)=>((P.funcs[f]?).any (·.norace),x.2)
      | _=>(x.1,if x.1&&!e.sync then x.2 else x.2.push e)) x).2→e∈x.2∨e∈l∧noExt e:=by
    intro l
    induction l with
    | nil=>exact fun x h=>.inl h
    | cons y l ih=>
      intro x h;rw [List.foldl_cons] at h;rcases ih _ h with h | h
      · have : e ∈ x.2 ∨ e = y ∧ noExt e := by
          obtain ⟨loc,wr,sy⟩:=y;cases loc with
          | mark m=>
            cases m with
            | extern f=>exact .inl h
            | _=>
              simp only at h
              split at h
              · exact .inl h
              · exact (Array.mem_push.1 h).imp id fun q=>⟨q,fun f q2=>by rw [q] at q2;cases q2⟩
          | _=>
            simp only at h
            split at h
            · exact .inl h
            · exact (Array.mem_push.1 h).imp id fun q=>⟨q,fun f q2=>by rw [q] at q2;cases q2⟩
        exact this.imp id fun q=>⟨by simp [q.1],q.2⟩
      · exact .inr ⟨List.mem_cons_of_mem _ h.1,h.2⟩
  unfold seen at h;simp only at h;rw [← Array.foldl_toList] at h;rcases key es.toList (_,#[]) h with h | h
  · simp at h
  · exact ⟨by simpa using h.1,h.2⟩
structure Cf where
  fr:Frame
  cs:List Frame
  σ:GW
def OneStep (P:Program) (c:Cf) (Q:Cf→Prop):Prop:=
  ∀ w,Mod c.σ w→∃ fr' cs' w' es σ',(∀ main,stepG P main (G c.fr c.cs) w=.go (G fr' cs') w' es)∧Guar c.σ w w' es σ'∧Q ⟨fr',cs',σ'⟩
theorem OneStep.mono {P:Program} {c:Cf} {Q R:Cf→Prop} (h:OneStep P c Q) (k:∀ d,Q d→R d):OneStep P c R:=fun w hw=>
  let ⟨fr',cs',w',es,σ',h1,h2,h3⟩:=h w hw;⟨fr',cs',w',es,σ',h1,h2,k _ h3⟩
theorem QE {P : Program} {ops : Array Oper} {a : Act} {b : Frame} {k : List Item} {cs : List Frame} {main : Bool} {w : Go.World} {i : Nat} {rest : List Nat} {o : Oper} (ho : ops[i]? = some o) (hw : Region.wanted o (yielded ops a.tmps) = true) :
    stepG P main (G (b.atR a (.inRegion ops (i::rest)::k)) cs) w=stepG.apply P true (b.atR a (.inRegion ops (i::rest)::k)) cs none (o.semAt b.roundOf a.eval) w:=by
  have he:=Frame.eval_atR b a (.inRegion ops (i::rest)::k);simp only [Frame.atR] at he;simp only [G,stepG,stepG.exec,stepG.oper,Frame.oper?,Frame.atR,ho,hw,he,Option.map_some,Option.getD_some,if_true,Oper.semAt];cases b.roundOf <;> cases o.op <;> rfl
class Jud (P:Program) where
  gets:Cf→(Cf→Prop)→Prop
  stop:∀ {c:Cf} {Q:Cf→Prop},Q c→gets c Q
  bind:∀ {c:Cf} {Q R:Cf→Prop},gets c Q→(∀ d,Q d→gets d R)→gets c R
  one:∀ {c:Cf} {Q:Cf→Prop},OneStep P c Q→gets c Q
section
variable {P:Program} [J:Jud P] {fr fr':Frame} {cs cs':List Frame} {σ:GW} {Q:Cf→Prop}
abbrev gets (P:Program) [J:Jud P] (fr:Frame) (cs:List Frame) (σ:GW) (Q:Cf→Prop):Prop:=J.gets ⟨fr,cs,σ⟩ Q
theorem gets_mono {R:Cf→Prop} (h:gets P fr cs σ Q) (k:∀ d,Q d→R d):gets P fr cs σ R:=J.bind h fun d hd=>J.stop (k d hd)
theorem CZ (h:∀ main w,stepG P main (G fr cs) w=.go (G fr' cs') w #[]) (k:gets P fr' cs' σ Q):gets P fr cs σ Q:=
  J.bind (J.one (Q:=fun d=>d=⟨fr',cs',σ⟩) fun w hw=>⟨fr',cs',w,#[],σ,fun main=>h main w,.refl hw,rfl⟩) fun d hd=>hd▸k
def Upon (P:Program) [Jud P] (fr:Frame) (cs:List Frame) (Q:Cf→Prop):Next→GW→Prop
  | .value v,σ=>gets P (fr.finish v) cs σ Q
  | .skip,σ=>gets P (fr.finish undef) cs σ Q
  | .enter f args,σ=>gets P (Frame.enter P f args .normal) (fr::cs) σ Q
  | .round l f tmps assign body,σ=>gets P (Frame.round l f tmps assign body .normal) (fr::cs) σ Q
  | .defer d,σ=>gets P ({ fr with defers:=d::fr.defers }.finish undef) cs σ Q
  | _,_=>False
theorem apply_to {s : Sem Next} {w : Go.World} (hk : ∀ d r x k, fr.todo ≠ .call d true r x :: k)
    (h:SemTo P s σ (Upon P fr cs Q)) (hw:Mod σ w):∃ fr' cs' w' es σ',stepG.apply P true fr cs none s w=.go (G fr' cs') w' es∧Guar σ w w' es σ'∧gets P fr' cs' σ' Q:=by
  obtain ⟨n,w',es,σ',h1,h2,h3⟩:=h w hw;have h0:=h1 #[];rw [Array.empty_append] at h0;have sub:∀ e∈seen P fr.fn (if fr.kind == .early then #[] else es),e∈es∧noExt e:=fun e he=>by
    have:=KN he
    split at this
    · simp at this
    · exact this
  cases n with
  | value v=>exact ⟨fr.finish v,cs,w',_,σ',by simp only [stepG.apply,if_true,h0,GStep.after,Array.append_empty];rfl,h2.less sub,h3⟩
  | skip=>exact ⟨fr.finish undef,cs,w',_,σ',by simp only [stepG.apply,if_true,h0,GStep.after,Array.append_empty];rfl,h2.less sub,h3⟩
  | enter f args=>
    refine ⟨Frame.enter P f args .normal,fr::cs,w',_,σ',?_,h2.less sub,h3⟩;simp only [stepG.apply,if_true,h0,GStep.after,Array.append_empty];refine congrArg (fun kd=>GStep.go (G (Frame.enter P f args kd) (fr::cs)) w' _) ?_
    first
      | rfl
      | (split
         · rename_i ht;exact absurd ht (hk _ _ _ _)
         · rfl)
  | round l f tmps assign body=>exact ⟨_,fr::cs,w',_,σ',by simp only [stepG.apply,if_true,h0,GStep.after,Array.append_empty];rfl,h2.less sub,h3⟩
  | defer d=>exact ⟨_,cs,w',_,σ',by simp only [stepG.apply,if_true,h0,GStep.after,Array.append_empty];rfl,h2.less sub,h3⟩
  | _=>exact h3.elim
theorem QY {s : Sem Next} (hs : ∀ main w, stepG P main (G fr cs) w = stepG.apply P true fr cs none s w) (hk : ∀ d r x k, fr.todo ≠ .call d true r x :: k)
    (h:SemTo P s σ (Upon P fr cs Q)):gets P fr cs σ Q:=
  J.bind (J.one (Q:=fun d=>J.gets d Q) fun w hw=>by
    obtain ⟨fr',cs',w',es,σ',h1,h2,h3⟩:=apply_to hk h hw
    exact ⟨fr',cs',w',es,σ',fun main=>(hs main w).trans h1,h2,h3⟩) fun d hd=>hd
end
inductive Arr (Q:Exit→Act→GW→Prop) (b:Frame) (k:List Item) (cs:List Frame):Cf→Prop
  | normal {a:Act} {σ:GW} (h:Q .normal a σ):Arr Q b k cs ⟨b.atR a k,cs,σ⟩
  | exit {a:Act} {σ:GW} {id:Nat} (k₁:List Item) (hk:exitTo id k₁=exitTo id k) (h:Q (.exit id) a σ):Arr Q b k cs ⟨b.atR a (.code (.exit id)::k₁),cs,σ⟩
  | goto {a:Act} {σ:GW} {l:Nat} (k₁:List Item) (hk:gotoIn l k₁=gotoIn l k) (h:Q (.goto l) a σ):Arr Q b k cs ⟨b.atR a (.code (.goto l)::k₁),cs,σ⟩
  | ret {a:Act} {σ:GW} (k₁:List Item) (h:Q .ret a σ):Arr Q b k cs ⟨b.atR a (.code .ret::k₁),cs,σ⟩
def wpc (ρ:Option Nat) (P:Program) [Jud P] (c:Code) (Q:Exit→Act→GW→Prop) (a:Act) (σ:GW):Prop:=
  ∀ (b:Frame) (k:List Item) (cs:List Frame),b.roundOf=ρ→gets P (b.atR a (.code c::k)) cs σ (Arr Q b k cs)
def RO (ρ:Option Nat) (P:Program) [Jud P] (ops:Array Oper) (Q:Exit→Act→GW→Prop) (l:List Nat) (a:Act) (σ:GW):Prop:=
  ∀ (b:Frame) (k:List Item) (cs:List Frame),b.roundOf=ρ→gets P (b.atR a (.inRegion ops l::k)) cs σ (Arr Q b k cs)
def Exit.then (next:Act→GW→Prop) (Q:Exit→Act→GW→Prop):Exit→Act→GW→Prop
  | .normal=>next
  | e=>Q e
def Exit.inBlock (id:Nat) (Q:Exit→Act→GW→Prop):Exit→Act→GW→Prop
  | .exit id'=>if id'=id then Q .normal else Q (.exit id')
  | e=>Q e
def Exit.noGoto (Q:Exit→Act→GW→Prop):Exit→Act→GW→Prop
  | .goto _,_,_=>False
  | e,a,σ=>Q e a σ
section
variable {ρ:Option Nat} {P:Program} [J:Jud P] {Q Q':Exit→Act→GW→Prop} {a:Act} {σ:GW} {b:Frame} {k:List Item} {cs:List Frame} {d:Cf}
theorem Arr.mono (h:Arr Q b k cs d) (hq:∀ e a σ,Q e a σ→Q' e a σ):Arr Q' b k cs d:=by
  cases h with
  | normal h=>exact .normal (hq _ _ _ h)
  | exit k₁ hk h=>exact .exit k₁ hk (hq _ _ _ h)
  | goto k₁ hk h=>exact .goto k₁ hk (hq _ _ _ h)
  | ret k₁ h=>exact .ret k₁ (hq _ _ _ h)
theorem NQ {c:Code} (h:wpc ρ P c Q a σ) (hq:∀ e a σ,Q e a σ→Q' e a σ):wpc ρ P c Q' a σ:=fun b k cs hb=>gets_mono (h b k cs hb) fun _ hd=>hd.mono hq
theorem wpc_skip (h:Q .normal a σ):wpc ρ P .skip Q a σ:=fun b k cs _=>CZ (fun main w=>by simp [G,stepG,stepG.exec,Frame.atR]) (J.stop (.normal h))
theorem wpc_label {l:Nat} (h:Q .normal a σ):wpc ρ P (.label l) Q a σ:=fun b k cs _=>CZ (fun main w=>by simp [G,stepG,stepG.exec,Frame.atR]) (J.stop (.normal h))
theorem wpc_exit {id:Nat} (h:Q (.exit id) a σ):wpc ρ P (.exit id) Q a σ:=fun _ k _ _=>J.stop (.exit k rfl h)
theorem wpc_ret (h:Q .ret a σ):wpc ρ P .ret Q a σ:=fun _ k _ _=>J.stop (.ret k h)
theorem wpc_seq {x y:Code} (h:wpc ρ P x (Exit.then (wpc ρ P y Q) Q) a σ):wpc ρ P (.seq x y) Q a σ:=fun b k cs hb=>by
  refine CZ (fr':=b.atR a (.code x::.code y::k)) (cs':=cs) (fun main w=>by simp [G,stepG,stepG.exec,Frame.atR]) (J.bind (h b (.code y::k) cs hb) fun d hd=>?_);cases hd with
  | normal h=>exact h b k cs hb
  | exit k₁ hk h=>exact J.stop (.exit k₁ hk h)
  | goto k₁ hk h=>exact J.stop (.goto k₁ hk h)
  | ret k₁ h=>exact J.stop (.ret k₁ h)
theorem wpc_cond {c:Operand} {x y:Code} {t:Bool} (hc:a.eval c=.bool t) (h:wpc ρ P (if t then x else y) Q a σ):wpc ρ P (.cond c x y) Q a σ:=fun b k cs hb=>
  CZ (fun main w=>by
    have:=congrFun (Frame.eval_atR b a (.code (.cond c x y)::k)) c
    simp only [Frame.atR] at this
    simp [G,stepG,stepG.exec,Frame.atR,this,hc]) (h b k cs hb)
theorem wpc_cond_split {c:Operand} {x y:Code} {t:Bool} (hc:a.eval c=.bool t) (ht:t=true→wpc ρ P x Q a σ) (hf:t=false→wpc ρ P y Q a σ):wpc ρ P (.cond c x y) Q a σ:=by
  cases t
  · exact wpc_cond hc (hf rfl)
  · exact wpc_cond hc (ht rfl)
theorem wpc_block {id:Nat} {c:Code} (h:wpc ρ P c (Exit.inBlock id Q) a σ):wpc ρ P (.block id c) Q a σ:=fun b k cs hb=>by
  refine CZ (fr':=b.atR a (.code c::.inBlock id::k)) (cs':=cs) (fun main w=>by simp [G,stepG,stepG.exec,Frame.atR]) (J.bind (h b (.inBlock id::k) cs hb) fun d hd=>?_);cases hd with
  | normal h=>exact CZ (fun main w=>by simp [G,stepG,stepG.exec,Frame.atR]) (J.stop (.normal h))
  | exit k₁ hk h1=>
    rename_i a₁ σ₁ id'
    by_cases hid:id'=id
    · simp only [Exit.inBlock,hid,if_true] at h1
      have hx:exitTo id' k₁=some k:=hk.trans (by simp [exitTo,hid]);exact CZ (fr':=b.atR a₁ k) (cs':=cs) (fun main w=>by simp [G,stepG,stepG.exec,Frame.atR,hx]) (J.stop (.normal h1))
    · simp only [Exit.inBlock,hid,if_false] at h1
      have this:(id == id')=false:=by simp;exact fun h=>hid h.symm
      exact J.stop (.exit k₁ (hk.trans (by simp [exitTo,this])) h1)
  | goto k₁ hk h=>exact J.stop (.goto k₁ (hk.trans (by simp [gotoIn])) h)
  | ret k₁ h=>exact J.stop (.ret k₁ h)
theorem wpc_scope {c:Code} (h:wpc ρ P c (Exit.noGoto Q) a σ):wpc ρ P (.scope c) Q a σ:=fun b k cs hb=>by
  refine CZ (fr':=b.atR a (.code c::.inScope c::k)) (cs':=cs) (fun main w=>by simp [G,stepG,stepG.exec,Frame.atR]) (J.bind (h b (.inScope c::k) cs hb) fun d hd=>?_);cases hd with
  | normal h=>exact CZ (fun main w=>by simp [G,stepG,stepG.exec,Frame.atR]) (J.stop (.normal h))
  | exit k₁ hk h=>exact J.stop (.exit k₁ (hk.trans (by simp [exitTo])) h)
  | goto k₁ hk h=>exact h.elim
  | ret k₁ h=>exact J.stop (.ret k₁ h)
theorem wpc_loop {c : Code} (I : Act → GW → Prop) (μ : Act → GW → Nat) (h₀ : I a σ)
    (round:∀ a σ,I a σ→wpc ρ P c (Exit.then (fun a' σ'=>I a' σ'∧μ a' σ'<μ a σ) Q) a σ):wpc ρ P (.loop c) Q a σ:=by
  intro b k cs hb;have key:∀ j a σ,μ a σ=j→I a σ→gets P (b.atR a (.code c::.inLoop c::k)) cs σ (Arr Q b k cs):=by
    intro j
    induction j using Nat.strongRecOn with
    | _ j ih=>
      intro a σ hn hI;refine J.bind (round a σ hI b (.inLoop c::k) cs hb) fun d hd=>?_
      cases hd with
      | normal h=>exact CZ (fun main w=>by simp [G,stepG,stepG.exec,Frame.atR]) (ih _ (hn▸h.2) _ _ rfl h.1)
      | exit k₁ hk h=>exact J.stop (.exit k₁ (hk.trans (by simp [exitTo])) h)
      | goto k₁ hk h=>exact J.stop (.goto k₁ (hk.trans (by simp [gotoIn])) h)
      | ret k₁ h=>exact J.stop (.ret k₁ h)
  exact CZ (fun main w=>by simp [G,stepG,stepG.exec,Frame.atR]) (key _ a σ rfl h₀)
variable {ops:Array Oper}
theorem wpOps_nil (h:Q .normal a σ):RO ρ P ops Q [] a σ:=fun b k cs _=>CZ (fun main w=>by simp [G,stepG,stepG.exec,Frame.atR]) (J.stop (.normal h))
theorem RR {i:Nat} {rest:List Nat} (hw:((ops[i]?).map (Region.wanted · (yielded ops a.tmps))).getD false=false) (h:RO ρ P ops Q rest (a.put ((ops[i]?).bind (·.dst)) undef) σ):RO ρ P ops Q (i::rest) a σ:=fun b k cs hb=>
  CZ (fr':=b.atR (a.put ((ops[i]?).bind (·.dst)) undef) (.inRegion ops rest::k)) (cs':=cs) (fun main w=>by
    rw [← Frame.finish_atR]
    have h':=hw
    simp only [Frame.atR] at *
    simp [G,stepG,stepG.exec,h']) (h b k cs hb)
theorem wpc_region {id:Nat} (h:RO ρ P ops Q (List.range ops.size) a σ):wpc ρ P (.region id ops false) Q a σ:=fun b k cs hb=>
  CZ (fun main w=>by simp [G,stepG,stepG.exec,Frame.atR]) (h b k cs hb)
theorem wpc_region_draw {id:Nat} (h:∀ t,RO ρ P ops Q (Region.schedule (P.follows .mixedOrders) ops t) a σ):wpc ρ P (.region id ops true) Q a σ:=fun b k cs hb=>
  J.bind (J.one (Q:=fun d=>∃ t,d=⟨b.atR a (.inRegion ops (Region.schedule (P.follows .mixedOrders) ops t)::k),cs,σ⟩) fun w hw=>
    ⟨b.atR a (.inRegion ops (Region.schedule (P.follows .mixedOrders) ops (w.tape w.drawn (.order b.fn id)))::k),cs,{ w with drawn:=w.drawn+1 },#[],σ,
      fun main=>by simp [G,stepG,stepG.exec,Frame.atR,choose,Sem.run,Question.forced,Question.cut],
      ⟨⟨hw.os,hw.tape,hw.output,hw.blk,hw.known⟩,rfl,rfl,Nat.le_refl _,fun _ _ _=>rfl,fun _ h=>.inl h,fun _ h=>h,rfl,rfl,rfl,fun e he=>by simp at he⟩,⟨_,rfl⟩⟩)
    fun d ⟨t,hd⟩=>hd▸h t b k cs hb
structure Lv (P:Program) (f:FuncId) (cs:List Frame) (kd:CallKind) (R:Value→GW→Prop) (d:Cf):Prop where
  cs:d.cs=cs
  fn:d.fr.fn=f
  mode:d.fr.mode=.returning
  defers:d.fr.defers=[]
  kind:d.fr.kind=kd
  res:∃ fn,P.funcs[f]?=some fn∧SemTo P (results fn d.fr.tmps) d.σ R
def Calls (P:Program) [Jud P] (f:FuncId) (args:Array Value) (σ:GW) (R:Value→GW→Prop):Prop:=
  ∀ cs,gets P (Frame.enter P f args .normal) cs σ (Lv P f cs .normal R)
theorem Calls.mono {f:FuncId} {args:Array Value} {R R':Value→GW→Prop} (h:Calls P f args σ R) (hr:∀ v σ,R v σ→R' v σ):Calls P f args σ R':=fun cs=>gets_mono (h cs) fun d hd=>
  ⟨hd.cs,hd.fn,hd.mode,hd.defers,hd.kind,let ⟨fn,h1,h2⟩:=hd.res;⟨fn,h1,h2.mono hr⟩⟩
theorem QZ {f:FuncId} {c:Frame} {R:Value→GW→Prop} {S:Cf→Prop} (h:Lv P f (c::cs) .normal R d) (k:∀ v σ,R v σ→gets P (c.finish v) cs σ S):J.gets d S:=by
  obtain ⟨fr,cs',σ⟩:=d;obtain ⟨rfl,rfl,hm,hd,hk,fn,hf,hr⟩:=h;simp only at hm hd hk hf hr;refine J.bind (J.one (Q:=fun d=>∃ v σ',d=⟨c.finish v,cs,σ'⟩∧R v σ') fun w hw=>?_) fun d ⟨v,σ',e,hv⟩=>e▸k v σ' hv
  obtain ⟨v,w',es,σ',h1,h2,h3⟩:=hr w hw;have h0:=h1 #[];rw [Array.empty_append] at h0;refine ⟨c.finish v,cs,w',seen P fr.fn es,σ',fun main=>?_,h2.less fun e he=>KN he,v,σ',rfl,h3⟩;simp only [G,stepG,hm,unwind,hd,hf,h0,doReturn,hk,GStep.after,Array.append_empty]
def RoundJ (P:Program) [Jud P] (l:Nat) (f:FuncId) (tmps:Array Value) (assign body:Code) (σ:GW) (R:Value→GW→Prop):Prop:=
  ∀ (c:Frame) (cs:List Frame),gets P (Frame.round l f tmps assign body .normal) (c::cs) σ fun d=>∃ v,R v d.σ∧d.fr=c.finish v∧d.cs=cs
theorem RoundJ.mono {l:Nat} {f:FuncId} {tmps:Array Value} {assign body:Code} {R R':Value→GW→Prop} (h:RoundJ P l f tmps assign body σ R) (hr:∀ v σ,R v σ→R' v σ):RoundJ P l f tmps assign body σ R':=
  fun c cs=>gets_mono (h c cs) fun _ ⟨v,h1,h2⟩=>⟨v,hr _ _ h1,h2⟩
def UponO (P:Program) [Jud P] (o:Oper) (a:Act) (next:Act→GW→Prop):Next→GW→Prop
  | .value v,σ=>next (a.put o.dst v) σ
  | .skip,σ=>next (a.put o.dst undef) σ
  | .defer d,σ=>next ({ a with defers:=d::a.defers }.put o.dst undef) σ
  | .enter f args,σ=>Calls P f args σ fun v σ'=>next (a.put o.dst v) σ'
  | .round l f tmps assign body,σ=>RoundJ P l f tmps assign body σ fun v σ'=>next (a.put o.dst v) σ'
  | _,_=>False
theorem UponO.mono {o:Oper} {next next':Act→GW→Prop} (hk:∀ a σ,next a σ→next' a σ):∀ {n:Next} {σ:GW},UponO P o a next n σ→UponO P o a next' n σ
  | .value _,_,h=>hk _ _ h
  | .skip,_,h=>hk _ _ h
  | .defer _,_,h=>hk _ _ h
  | .enter _ _,_,h=>Calls.mono h fun _ _=>hk _ _
  | .round ..,_,h=>RoundJ.mono h fun _ _=>hk _ _
def wpOp (ρ:Option Nat) (P:Program) [Jud P] (o:Oper) (a:Act) (σ:GW) (K:Act→GW→Prop):Prop:=SemTo P (o.semAt ρ a.eval) σ (UponO P o a K)
theorem wpOps_op {i:Nat} {rest:List Nat} {o:Oper} (ho:ops[i]?=some o) (hw:Region.wanted o (yielded ops a.tmps)=true) (h:wpOp ρ P o a σ (RO ρ P ops Q rest)):RO ρ P ops Q (i::rest) a σ:=by
  intro b k cs hb;have hfin:∀ v,(b.atR a (.inRegion ops (i::rest)::k)).finish v=b.atR (a.put o.dst v) (.inRegion ops rest::k):=by
    intro v;rw [Frame.finish_atR,ho];rfl
  refine QY (fun main w=>QE ho hw) (fun d r x k e=>by simp [Frame.atR] at e) ?_;rw [hb];refine h.mono fun n σ' hn=>?_
  cases n with
  | value v=>show gets P (Frame.finish _ v) cs σ' _;rw [hfin];exact hn b k cs hb
  | skip=>show gets P (Frame.finish _ undef) cs σ' _;rw [hfin];exact hn b k cs hb
  | defer d=>
    show gets P (Frame.finish _ undef) cs σ' _;have:({ b.atR a (.inRegion ops (i::rest)::k) with defers:=d::a.defers }:Frame).finish undef=b.atR ({ a with defers:=d::a.defers }.put o.dst undef) (.inRegion ops rest::k):=by
      have:=Frame.finish_atR b { a with defers:=d::a.defers } ops i rest k undef;rw [ho] at this;exact this
    exact this▸hn b k cs hb
  | enter f args=>exact J.bind (hn (b.atR a (.inRegion ops (i::rest)::k)::cs)) fun d hd=>QZ hd fun v σ' hv=>by rw [hfin];exact hv b k cs hb
  | round l f tmps assign body=>
    refine J.bind (hn (b.atR a (.inRegion ops (i::rest)::k)) cs) fun d hd=>?_
    obtain ⟨fr,cs',σ⟩:=d;obtain ⟨v,h1,h2,h3⟩:=hd;simp only at h1 h2 h3;subst h2 h3;rw [hfin];exact h1 b k cs' hb
  | _=>exact hn.elim
def bodyQ (P:Program) (fn:Func) (R:Value→GW→Prop):Exit→Act→GW→Prop
  | .normal,a,σ | .ret,a,σ=>a.defers=[]∧SemTo P (results fn a.tmps) σ R
  | _,_,_=>False
theorem gets_body {f : FuncId} {fn : Func} {c : Code} {args : Array Value} {kd : CallKind} {R : Value → GW → Prop} (hf : P.funcs[f]? = some fn) (hb : fn.body = some c)
    (h:wpc none P c (bodyQ P fn R) { tmps:=args++Array.replicate (fn.ntmps-args.size) undef,defers:=[] } σ):gets P (Frame.enter P f args kd) cs σ (Lv P f cs kd R):=by
  let b:Frame:={ (default:Frame) with fn:=f,kind:=kd,roundOf:=none }
  have henter:Frame.enter P f args kd=b.atR { tmps:=args++Array.replicate (fn.ntmps-args.size) undef,defers:=[] } [.code c]:=by
    simp [Frame.enter,Frame.atR,hf,hb,b]
  have hro:b.roundOf=none:=rfl;rw [henter];refine J.bind (h b [] cs rfl) fun d hd=>?_
  cases hd with
  | normal h=>exact CZ (fr':={ b.atR _ [] with mode:=.returning }) (fun main w=>by simp [G,stepG,stepG.exec,Frame.atR,hro]) (J.stop ⟨rfl,rfl,rfl,h.1,rfl,fn,hf,h.2⟩)
  | ret k₁ h=>exact CZ (fr':={ b.atR _ (.code .ret::k₁) with mode:=.returning }) (fun main w=>by simp [G,stepG,stepG.exec,Frame.atR,hro]) (J.stop ⟨rfl,rfl,rfl,h.1,rfl,fn,hf,h.2⟩)
  | exit k₁ hk h=>exact h.elim
  | goto k₁ hk h=>exact h.elim
theorem calls_of_wpc {f : FuncId} {fn : Func} {c : Code} {args : Array Value} {R : Value → GW → Prop} (hf : P.funcs[f]? = some fn) (hb : fn.body = some c)
    (h:wpc none P c (bodyQ P fn R) { tmps:=args++Array.replicate (fn.ntmps-args.size) undef,defers:=[] } σ):Calls P f args σ R:=fun _=>gets_body hf hb h
def LvM (P:Program) (fn:Func) (tm:Array Value) (R:Value→GW→Prop):List Deferred→GW→Prop
  | [],σ=>SemTo P (results fn tm) σ R
  | d::ds,σ=>∃ D,d={ target:=.collected D,args:=#[] }∧SemTo P (Instr.takeDeferred D) σ fun calls σ'=>calls=[]∧LvM P fn tm R ds σ'
def bodyQM (P:Program) (fn:Func) (R:Value→GW→Prop):Exit→Act→GW→Prop
  | .normal,a,σ | .ret,a,σ=>LvM P fn a.tmps R a.defers σ
  | _,_,_=>False
theorem gets_marks {f : FuncId} {fn : Func} {tm : Array Value} {R : Value → GW → Prop} (hf : P.funcs[f]? = some fn) : ∀ (ds : List Deferred) (fr : Frame) (σ : GW), fr.mode = .returning → fr.defers = ds → fr.tmps = tm → fr.fn = f → fr.kind = .normal →
    LvM P fn tm R ds σ→gets P fr cs σ (Lv P f cs .normal R):=by
  intro ds
  induction ds with
  | nil=>rintro fr σ hm hd rfl hfn hk h;exact J.stop ⟨rfl,hfn,hm,hd,hk,fn,hf,h⟩
  | cons d ds ih=>
    rintro fr σ hm hd rfl hfn hk ⟨D,rfl,h⟩
    refine J.bind (J.one (Q:=fun d=>∃ σ',d=⟨{ fr with defers:=ds },cs,σ'⟩∧LvM P fn fr.tmps R ds σ') fun w hw=>?_) fun d ⟨σ',e,h'⟩=>e▸ih { fr with defers:=ds } σ' hm rfl rfl hfn hk h'
    obtain ⟨calls,w',es,σ',h1,h2,rfl,h3⟩:=h w hw;have h0:=h1 #[];rw [Array.empty_append] at h0;refine ⟨{ fr with defers:=ds },cs,w',seen P fr.fn es,σ',fun main=>?_,h2.less fun e he=>KN he,σ',rfl,h3⟩;simp only [G,stepG,hm,unwind,hd,h0,GStep.after,Array.append_empty,List.nil_append]
theorem calls_of_marks {f : FuncId} {fn : Func} {c : Code} {args : Array Value} {R : Value → GW → Prop} (hf : P.funcs[f]? = some fn) (hb : fn.body = some c)
    (h:wpc none P c (bodyQM P fn R) { tmps:=args++Array.replicate (fn.ntmps-args.size) undef,defers:=[] } σ):Calls P f args σ R:=by
  intro cs
  let b:Frame:={ (default:Frame) with fn:=f,kind:=.normal,roundOf:=none }
  have henter:Frame.enter P f args .normal=b.atR { tmps:=args++Array.replicate (fn.ntmps-args.size) undef,defers:=[] } [.code c]:=by
    simp [Frame.enter,Frame.atR,hf,hb,b]
  have hro:b.roundOf=none:=rfl;rw [henter];refine J.bind (h b [] cs rfl) fun d hd=>?_
  cases hd with
  | normal h=>exact CZ (fr':={ b.atR _ [] with mode:=.returning }) (fun main w=>by simp [G,stepG,stepG.exec,Frame.atR,hro]) (gets_marks hf _ _ _ rfl rfl rfl rfl rfl h)
  | ret k₁ h=>exact CZ (fr':={ b.atR _ (.code .ret::k₁) with mode:=.returning }) (fun main w=>by simp [G,stepG,stepG.exec,Frame.atR,hro]) (gets_marks hf _ _ _ rfl rfl rfl rfl rfl h)
  | exit k₁ hk h=>exact h.elim
  | goto k₁ hk h=>exact h.elim
def roundQ (P:Program) (l:Nat) (R:Value→GW→Prop):Exit→Act→GW→Prop
  | .normal,_,σ=>SemTo P (Instr.endRound l none) σ R
  | .ret,_,σ=>SemTo P (Instr.endRound l (some .ret)) σ R
  | .exit id,_,σ=>SemTo P (Instr.endRound l (some (.exit id))) σ R
  | .goto t,_,σ=>SemTo P (Instr.endRound l (some (.goto t))) σ R
  | _,_,_=>False
theorem MG {fr c : Frame} {cs : List Frame} {l : Nat} {jump : Option Code} {R : Value → GW → Prop} (hro : fr.roundOf = some l) (hk : fr.kind = .normal)
    (hstep:∀ main w,stepG P main (G fr (c::cs)) w=GStep.after (seen P fr.fn ((Instr.endRound l jump).runT P w #[]).2) (match ((Instr.endRound l jump).runT P w #[]).1 with
      | .ok v w=>doReturn P main fr (c::cs) none v w
      | .halt _ w=>.ended (.stuck "range over a function: no such loop" (fr.pos P)) w))
    (h:SemTo P (Instr.endRound l jump) σ R):gets P fr (c::cs) σ fun d=>∃ v,R v d.σ∧d.fr=c.finish v∧d.cs=cs:=by
  refine J.one fun w hw=>?_
  obtain ⟨v,w',es,σ',h1,h2,h3⟩:=h w hw;have h0:=h1 #[];rw [Array.empty_append] at h0;refine ⟨c.finish v,cs,w',seen P fr.fn es,σ',fun main=>?_,h2.less fun e he=>KN he,v,h3,rfl,rfl⟩;rw [hstep];simp only [h0,doReturn,hk,GStep.after,Array.append_empty,G]
theorem SO {l : Nat} {f : FuncId} {tmps : Array Value} {assign body : Code} {R : Value → GW → Prop}
    (h:wpc (some l) P assign (Exit.then (fun a₁ σ₁=>SemTo P (Instr.beginRound l) σ₁ fun _ σ₂=>wpc (some l) P body (roundQ P l R) a₁ σ₂) (fun _ _ _=>False)) { tmps:=tmps,defers:=[] } σ) :
    RoundJ P l f tmps assign body σ R:=by
  intro c cs
  let b:Frame:={ (default:Frame) with fn:=f,kind:=.normal,roundOf:=some l }
  have hb0:Frame.round l f tmps assign body .normal=b.atR { tmps:=tmps,defers:=[] } [.code assign,.beginRound,.code body]:=by
    simp [Frame.round,Frame.atR,b]
  have hro:b.roundOf=some l:=rfl;rw [hb0];refine J.bind (h b [.beginRound,.code body] (c::cs) rfl) fun d hd=>?_
  cases hd with
  | normal h=>
    rename_i a₁ σ₁
    refine QY (s:=do Instr.beginRound l;pure .skip) (fun main w=>by simp only [G,stepG,stepG.exec,Frame.atR,hro,Option.elim]) (fun d r x k e=>by simp [Frame.atR] at e) (SemTo.bind (h.mono fun _ σ₂ hbody=>SemTo.pure ?_));have hfin:(b.atR a₁ [.beginRound,.code body]).finish undef=b.atR a₁ [.code body]:=by simp [Frame.finish,Frame.atR]
    show gets P (Frame.finish _ undef) (c::cs) σ₂ _;rw [hfin];refine J.bind (hbody b [] (c::cs) rfl) fun d hd=>?_
    cases hd with
    | normal h=>exact MG rfl rfl (fun main w=>by simp only [G,stepG,stepG.exec,Frame.atR,hro];rfl) h
    | ret k₁ h=>exact MG rfl rfl (fun main w=>by simp only [G,stepG,stepG.exec,Frame.atR,hro];rfl) h
    | exit k₁ hk h => exact MG rfl rfl (fun main w => by
        have hx:exitTo _ k₁=none:=hk.trans (by simp [exitTo])
        simp only [G,stepG,stepG.exec,Frame.atR,hro,hx,Option.elim];rfl) h
    | goto k₁ hk h => exact MG rfl rfl (fun main w => by
        have hx:gotoIn _ k₁=none:=hk.trans (by simp [gotoIn])
        simp only [G,stepG,stepG.exec,Frame.atR,hro,hx,Option.elim];rfl) h
  | exit k₁ hk h=>exact h.elim
  | goto k₁ hk h=>exact h.elim
  | ret k₁ h=>exact h.elim
theorem QK {g : Operand} {ps : Array Tmp} {assign body : Code} {gf : FuncId} {cv : Array Value} (hg : a.eval g = .func (.func gf) #[] cv)
    (hcall:∀ args σ (K:Next→GW→Prop),K (.enter gf args) σ→SemTo P (callFunc gf args) σ K)
    (h:∀ fn,SemTo P (Instr.enterLoop fn a.tmps ps assign body ρ) σ fun lm σ₁=>Calls P gf (#[.func (.yield lm.1) #[] #[]]++cv) σ₁ fun _ σ₃=>SemTo P (Instr.endLoop lm.1) σ₃ fun jump σ₄=>
      match jump with
      | none=>Q .normal { a with defers:=lm.2++a.defers } σ₄
      | some c=>wpc ρ P c Q { a with defers:=lm.2++a.defers } σ₄):wpc ρ P (.rangeFunc g ps assign body) Q a σ:=by
  intro b k cs hb;subst hb
  refine J.bind (J.one (Q := fun d => ∃ (lm : Nat × List Deferred) (σ₁ : GW), d = ⟨Frame.enter P gf (#[.func (.yield lm.1) #[] #[]] ++ cv) .normal, b.atR { a with defers := lm.2 ++ a.defers } (.inRangeFunc lm.1 :: k) :: cs, σ₁⟩ ∧
      Calls P gf (#[.func (.yield lm.1) #[] #[]]++cv) σ₁ fun _ σ₃=>SemTo P (Instr.endLoop lm.1) σ₃ fun jump σ₄=>
      match jump with
      | none=>Q .normal { a with defers:=lm.2++a.defers } σ₄
      | some c=>wpc b.roundOf P c Q { a with defers:=lm.2++a.defers } σ₄) fun w hw=>?_) fun d ⟨lm,σ₁,e,hc⟩=>?_
  · obtain ⟨lm,w₁,es,σ₁,h1,h2,h3⟩:=h b.fn w hw
    have h0:=h1 #[];rw [Array.empty_append] at h0;obtain ⟨l,mk⟩:=lm;have hev:=Frame.eval_atR b { a with defers:=mk++a.defers } (.inRangeFunc l::k);have hs:SemTo P (do let d ← resolve ({ a with defers:=mk++a.defers }:Act).eval { callee:=.value g,args:=#[.const (.func (.yield l) #[] #[])],argTypes:=#[] } 0;invoke d.target d.args:Sem Next) σ₁ (fun n σ₂=>n=.enter gf (#[.func (.yield l) #[] #[]]++cv)∧σ₂=σ₁):=by
      have hg':({ a with defers:=mk++a.defers }:Act).eval g=.func (.func gf) #[] cv:=by rw [← hg];cases g <;> rfl
      unfold resolve;have hm:Array.map ({ a with defers:=mk++a.defers }:Act).eval #[.const (.func (.yield l) #[] #[])]=#[.func (.yield l) #[] #[]]:=by simp [Act.eval]
      simp only [hg',Deferred.ofValue,hm];show SemTo P (callFunc gf ((#[]++#[.func (.yield l) #[] #[]])++cv)) σ₁ _;exact hcall _ _ _ ⟨by simp,rfl⟩
    obtain ⟨n,w₂,es2,σ₂,k1,k2,rfl,rfl⟩:=hs w₁ h2.mod;have k0:=k1 #[];rw [Array.empty_append] at k0;refine ⟨_,_,w₂,seen P b.fn es++seen P b.fn (if b.kind == .early then #[] else es2),σ₂,fun main=>?_,(h2.less fun e he=>KN he).trans (k2.less fun e he=>?_),(l,mk),σ₂,rfl,h3⟩
    · simp only [Frame.atR] at hev
      simp only [G,stepG,stepG.exec,Frame.atR,h0,GStep.after,stepG.apply,hev,k0,if_true,Array.append_empty]
    · have:=KN he
      split at this
      · simp at this
      · exact this
  · subst e
    refine J.bind (hc _) fun d hd=>QZ hd fun v σ₃ h3=>?_
    rw [finish_atR_inRangeFunc]
    refine J.bind (J.one (Q:=fun d=>∃ (jump:Option Code) (σ₄:GW),d=⟨b.atR { a with defers:=lm.2++a.defers } ((jump.map Item.code).toList++k),cs,σ₄⟩∧match jump with
      | none=>Q .normal { a with defers:=lm.2++a.defers } σ₄
      | some c=>wpc b.roundOf P c Q { a with defers:=lm.2++a.defers } σ₄) fun w hw=>?_) fun d ⟨jump,σ₄,e,hj⟩=>?_
    · obtain ⟨jump,w',es,σ₄,h1,h2,h4⟩:=h3 w hw
      have h0:=h1 #[];rw [Array.empty_append] at h0;refine ⟨_,cs,w',seen P b.fn es,σ₄,fun main=>?_,h2.less fun e he=>KN he,jump,σ₄,rfl,h4⟩;simp only [G,stepG,stepG.exec,Frame.atR,h0,GStep.after,Array.append_empty]
    · subst e
      cases jump with
      | none=>exact J.stop (.normal hj)
      | some c=>exact hj b k cs rfl
end
section
variable {ρ:Option Nat} {P:Program} [J:Jud P] {ops:Array Oper} {Q:Exit→Act→GW→Prop}
def NF (ρ:Option Nat) (P:Program) [Jud P] (ops:Array Oper) (i:Nat) (K:Act→GW→Prop) (a:Act) (w:GW):Prop:=
  match ops[i]? with
  | none=>K a w
  | some o=>if Region.wanted o (yielded ops a.tmps) then wpOp ρ P o a w K else K (a.put o.dst undef) w
theorem wpOpsM_cons (i:Nat) (rest:List Nat) (a:Act) (w:GW) (h:NF ρ P ops i (RO ρ P ops Q rest) a w):RO ρ P ops Q (i::rest) a w:=by
  unfold NF at h;cases ho:ops[i]? with
  | none=>
    rw [ho] at h;exact RR (by simp [ho]) (by simpa [ho,Act.put] using h)
  | some o=>
    rw [ho] at h;simp only at h
    split at h
    · rename_i hw;exact wpOps_op ho hw h
    · rename_i hw;exact RR (by simp [ho];simpa using hw) (by simpa [ho] using h)
theorem RN {i:Nat} {a:Act} {w:GW} {K K':Act→GW→Prop} (h:∀ a w,K a w→K' a w) (hh:NF ρ P ops i K a w):NF ρ P ops i K' a w:=by
  unfold NF at *;cases ho:ops[i]? with
  | none=>rw [ho] at hh;exact h _ _ hh
  | some o=>
    rw [ho] at hh;simp only at hh ⊢
    split
    · rename_i hw;rw [if_pos hw] at hh;exact hh.mono fun n σ hn=>UponO.mono h hn
    · rename_i hw;rw [if_neg hw] at hh;exact h _ _ hh
def QJ (ρ:Option Nat) (P:Program) [Jud P] (ops:Array Oper) (Q:Exit→Act→GW→Prop):List Nat→Act→GW→Prop
  | [],a,w=>Q .normal a w
  | i::rest,a,w=>NF ρ P ops i (QJ ρ P ops Q rest) a w
theorem wpOpsC_cons (i:Nat) (rest:List Nat) (a:Act) (w:GW):QJ ρ P ops Q (i::rest) a w↔NF ρ P ops i (QJ ρ P ops Q rest) a w:=Iff.rfl
theorem wpOps_of_R:∀ (is:List Nat) (a:Act) (w:GW),QJ ρ P ops Q is a w→RO ρ P ops Q is a w:=by
  intro is
  induction is with
  | nil=>exact fun a w h=>wpOps_nil h
  | cons i is ih=>exact fun a w h=>wpOpsM_cons _ _ _ _ (RN ih h)
def wpAnyC (ρ:Option Nat) (P:Program) [Jud P] (md:Region.Mode) (ops:Array Oper) (Q:Exit→Act→GW→Prop):Nat→Array Bool→Act→GW→Prop
  | 0,listed,a,w=>Region.ready md ops listed=[]∧Q .normal a w
  | fuel+1,listed,a,w=>
    (Region.ready md ops listed=[]→Q .normal a w) ∧
    ∀ i∈Region.ready md ops listed,NF ρ P ops i (wpAnyC ρ P md ops Q fuel (listed.setIfInBounds i true)) a w
theorem wpAnyC_sound {md : Region.Mode} : ∀ (fuel t : Nat) (listed : Array Bool) (a : Act) (w : GW), wpAnyC ρ P md ops Q fuel listed a w →
    RO ρ P ops Q (Region.linearise.go md ops fuel t listed []) a w:=by
  intro fuel
  induction fuel with
  | zero=>intro t listed a w h;simp only [Region.linearise.go];exact wpOps_nil h.2
  | succ fuel ih=>
    intro t listed a w h;obtain ⟨h₀,h₁⟩:=h;simp only [Region.linearise.go]
    change RO ρ P ops Q (match (Region.ready md ops listed)[t%(Region.ready md ops listed).length]? with
      | some i=>Region.linearise.go md ops fuel (t/(Region.ready md ops listed).length) (listed.setIfInBounds i true) [i]
      | none=>[].reverse) a w
    cases hi:(Region.ready md ops listed)[t%(Region.ready md ops listed).length]? with
    | none=>
      have hnil:Region.ready md ops listed=[]:=by
        cases hr:Region.ready md ops listed with
        | nil=>rfl
        | cons x xs=>
          rw [hr] at hi;have hlt:t%(x::xs).length<(x::xs).length:=Nat.mod_lt _ (by simp);simp at hi;simp at hlt;omega
      exact wpOps_nil (h₀ hnil)
    | some i=>
      simp only [];rw [linearise_go_acc,List.reverse_singleton,List.singleton_append];exact wpOpsM_cons _ _ _ _ (RN (fun a w=>ih _ _ a w) (h₁ i (List.mem_of_getElem? hi)))
theorem wpc_region_any {id : Nat} {a : Act} {w : GW} (hm : P.follows .mixedOrders = true)
    (h:wpAnyC ρ P .any ops Q ops.size (Array.replicate ops.size false) a w):wpc ρ P (.region id ops true) Q a w:=
  wpc_region_draw fun t=>by
    simp only [Region.schedule,hm,Bool.true_or,if_true];exact wpAnyC_sound ops.size t _ a _ h
end
section
variable {α:Type} {l₁ l₂ l₃:List α}
theorem PC (a:α) (h:l₁.Perm l₂):(a::l₁).Perm (a::l₂):=.cons a h
theorem PR (l:List α):l.Perm l:=.refl l
theorem PS (a b:α) (l:List α):(b::a::l).Perm (a::b::l):=.swap a b l
theorem PM {a:α} {l₁ l₂:List α}:(l₁++a::l₂).Perm (a::(l₁++l₂)):=List.perm_middle
theorem PA (l:List α) (h:l₁.Perm l₂):(l++l₁).Perm (l++l₂):=.append_left l h
theorem PO (l₁ l₂ l₃:List α):(l₁++(l₂++l₃)).Perm (l₂++(l₁++l₃)):=List.perm_append_comm_assoc l₁ l₂ l₃
theorem PU {a:α} {l m n:List α} (h:l.Perm (m++n)):(a::l).Perm (m++a::n):=(PC a h).trans PM.symm
theorem PV {k l m n:List α} (h:l.Perm (m++n)):(k++l).Perm (m++(k++n)):=(PA k h).trans (PO _ _ _)
theorem PW {a:α} {l m n:List α} (h:(l++m).Perm n):(l++a::m).Perm (a::n):=PM.trans (PC a h)
theorem TC (a:α) (h:l₁.Sublist l₂):l₁.Sublist (a::l₂):=.cons a h
theorem TK (a:α) (h:l₁.Sublist l₂):(a::l₁).Sublist (a::l₂):=h.cons_cons a
theorem TR (l:List α):l.Sublist l:=.refl l
theorem TT (h:l₁.Sublist l₂) (k:l₂.Sublist l₃):l₁.Sublist l₃:=h.trans k
theorem TA (h:l₁.Sublist l₂) (l:List α):(l++l₁).Sublist (l++l₂):=h.append_left l
theorem TB (l₁ l₂:List α):l₂.Sublist (l₁++l₂):=List.sublist_append_right l₁ l₂
theorem LA {l₁ l₂:List α}:(l₁++l₂).length=l₁.length+l₂.length:=List.length_append
theorem LC {a:α} {l:List α}:(a::l).length=l.length+1:=List.length_cons
theorem LN:([]:List α).length=0:=List.length_nil
theorem LK {i:Nat} {l:List α}:(l.take i).length=min i l.length:=List.length_take
theorem LD {i:Nat} {l:List α}:(l.drop i).length=l.length-i:=List.length_drop
theorem LS {l:List α} {i:Nat} {a:α}:(l.set i a).length=l.length:=List.length_set
theorem AA (l₁ l₂ l₃:List α):(l₁++l₂)++l₃=l₁++(l₂++l₃):=List.append_assoc l₁ l₂ l₃
theorem CA (a:α) (l₁ l₂:List α):(a::l₁)++l₂=a::(l₁++l₂):=rfl
theorem NA (l:List α):[]++l=l:=rfl
end
abbrev vI (n:Int):Value:=.int .i64 n
abbrev vP (b o:Nat):Value:=.pointer (some ⟨b,o,none⟩)
abbrev vN:Value:=.slice none 0 0
abbrev vS (p:Option Addr) (n c:Nat):Value:=.slice p n c
abbrev bX (b:Nat) (cs:Array Value) (T:TypeId):Nat × Obj:=(b,Obj.cells cs T (0,0))
theorem kA (b:Bool):(true&&b)=b:=Bool.true_and b
theorem kB (b:Bool):(false&&b)=false:=Bool.false_and b
theorem kC (b:Bool):(b&&true)=b:=Bool.and_true b
theorem kD (b:Bool):(b&&false)=false:=Bool.and_false b
theorem kE (b:Bool):(true||b)=true:=Bool.true_or b
theorem kF (b:Bool):(false||b)=b:=Bool.false_or b
theorem kG (b:Bool):(b||true)=true:=Bool.or_true b
theorem kH (b:Bool):(b||false)=b:=Bool.or_false b
theorem kI {α:Type} (a b:α):(bif true then a else b)=a:=cond_true a b
theorem kJ {α:Type} (a b:α):(bif false then a else b)=b:=cond_false a b
structure Imm where
  os:Os
  tape:Nat→Question→Nat
  output:Array (Nat × ByteArray)
  blk:Nat→Option Obj
  pub:Nat→Prop
  gh:Option Gh
abbrev Seg:=List (Nat × Obj)
structure Imm.le (I J:Imm):Prop where
  os:J.os=I.os
  tape:J.tape=I.tape
  output:J.output=I.output
  pub:J.pub=I.pub
  gh:J.gh=I.gh
  blk:∀ b o,I.blk b=some o→J.blk b=some o
theorem Imm.le.refl (I:Imm):I.le I:=⟨rfl,rfl,rfl,rfl,rfl,fun _ _ h=>h⟩
theorem Imm.le.trans {I J K:Imm} (h:I.le J) (k:J.le K):I.le K:=
  ⟨k.os.trans h.os,k.tape.trans h.tape,k.output.trans h.output,k.pub.trans h.pub,k.gh.trans h.gh,fun b o x=>k.blk b o (h.blk b o x)⟩
structure St (I:Imm) (M:Seg) (w:GW):Prop where
  os:w.os=I.os
  tape:w.tape=I.tape
  output:w.output=I.output
  pub:w.pub=I.pub
  gh:w.gh=I.gh
  imm:∀ b o,I.blk b=some o→w.blk b=some o
  mem:∀ b o,(b,o)∈M→w.blk b=some o
  own:∀ b o,(b,o)∈M→¬ I.pub b
  nodup:(M.map Prod.fst).Nodup
  disj:∀ b o,(b,o)∈M→I.blk b=none
theorem St.perm {I:Imm} {M M':Seg} {w:GW} (h:St I M w) (p:M.Perm M'):St I M' w:=
  ⟨h.os,h.tape,h.output,h.pub,h.gh,h.imm,fun b o hm=>h.mem b o (p.mem_iff.2 hm),fun b o hm=>h.own b o (p.mem_iff.2 hm),(p.map Prod.fst).nodup_iff.1 h.nodup,fun b o hm=>h.disj b o (p.mem_iff.2 hm)⟩
theorem St.drop {I:Imm} {x:Nat × Obj} {M:Seg} {w:GW} (h:St I (x::M) w):St I M w:=
  ⟨h.os,h.tape,h.output,h.pub,h.gh,h.imm,fun b o hm=>h.mem b o (List.mem_cons_of_mem _ hm),fun b o hm=>h.own b o (List.mem_cons_of_mem _ hm),(List.nodup_cons.1 h.nodup).2,fun b o hm=>h.disj b o (List.mem_cons_of_mem _ hm)⟩
theorem St.sub {I:Imm} {M M':Seg} {w:GW} (h:St I M w) (s:M'.Sublist M):St I M' w:=
  ⟨h.os,h.tape,h.output,h.pub,h.gh,h.imm,fun b o hm=>h.mem b o (s.subset hm),fun b o hm=>h.own b o (s.subset hm),(s.map Prod.fst).nodup h.nodup,fun b o hm=>h.disj b o (s.subset hm)⟩
theorem St.less {I J:Imm} {M:Seg} {w:GW} (h:St J M w) (le:I.le J):St I M w:=
  ⟨h.os.trans le.os,h.tape.trans le.tape,h.output.trans le.output,h.pub.trans le.pub,h.gh.trans le.gh,fun b o hb=>h.imm b o (le.blk b o hb),h.mem,fun b o hm=>le.pub▸h.own b o hm,h.nodup,fun b o hm=>by
    have:=h.disj b o hm
    cases hb:I.blk b with
    | none=>rfl
    | some x=>rw [le.blk b x hb] at this;cases this⟩
def Imm.add (I:Imm) (b:Nat) (o:Obj):Imm:={ I with blk:=fun c=>if c=b then some o else I.blk c }
theorem IR (I:Imm):I.le I:=Imm.le.refl I
theorem IT {I J K:Imm} (h:I.le J) (k:J.le K):I.le K:=Imm.le.trans h k
theorem Imm.le_add {I:Imm} {b:Nat} {o:Obj} (h:I.blk b=none):I.le (I.add b o):=
  ⟨rfl,rfl,rfl,rfl,rfl,fun c x hx=>by
    show (if c=b then some o else I.blk c)=some x
    split
    · rename_i e;subst e;rw [h] at hx;cases hx
    · exact hx⟩
theorem Imm.add_same (I:Imm) (b:Nat) (o:Obj):(I.add b o).blk b=some o:=by simp [Imm.add]
theorem St.freeze {I:Imm} {b:Nat} {o:Obj} {M:Seg} {w:GW} (h:St I ((b,o)::M) w):St (I.add b o) M w:=
  ⟨h.os, h.tape, h.output, h.pub, h.gh, fun c x hx => by
      simp only [Imm.add] at hx
      split at hx
      · rename_i e;subst e;cases hx;exact h.mem _ _ (List.mem_cons_self)
      · exact h.imm c x hx,
    fun c x hm=>h.mem c x (List.mem_cons_of_mem _ hm),fun c x hm=>h.own c x (List.mem_cons_of_mem _ hm),(List.nodup_cons.1 h.nodup).2,fun c x hm=>by
      simp only [Imm.add]
      split
      · rename_i e;subst e
        exact absurd (List.mem_map_of_mem (f:=Prod.fst) hm) (List.nodup_cons.1 h.nodup).1
      · exact h.disj c x (List.mem_cons_of_mem _ hm)⟩
def Obj.cell (o:Obj) (off:Nat):Option Value:=
  match o with
  | .cells c _ _=>c[off]?
  | _=>none
def Sees (I:Imm) (M:Seg) (a:Addr) (v:Value):Prop:=
  a.spot=none∧∃ cs T fz,((a.block,Obj.cells cs T fz)∈M∨I.blk a.block=some (.cells cs T fz))∧cs[a.off]?=some v
def Holds (I:Imm) (M:Seg) (r:Nat) (o:Obj):Prop:=(r,o)∈M∨I.blk r=some o
theorem Holds.blk {I:Imm} {M:Seg} {σ:GW} {r:Nat} {o:Obj} (h:Holds I M r o) (s:St I M σ):σ.blk r=some o:=h.elim (s.mem r o) (s.imm r o)
theorem Sees.blk {I:Imm} {M:Seg} {σ:GW} {a:Addr} {v:Value} (h:Sees I M a v) (s:St I M σ):σ.blk a.block≠none:=by
  obtain ⟨h1,cs,T,fz,hb,hc⟩:=h;have hh:σ.blk a.block=some (.cells cs T fz):=hb.elim (s.mem _ _) (s.imm _ _);simp [hh]
theorem Sees.cell {I:Imm} {M:Seg} {σ:GW} {w:Go.World} {a:Addr} {v:Value} (h:Sees I M a v) (s:St I M σ) (hw:Mod σ w):w.cell? a=some v:=by
  obtain ⟨h1,cs,T,fz,hb,hc⟩:=h;have hh:w.heap[a.block]?=some (.cells cs T fz):=hw.blk _ _ (hb.elim (s.mem _ _) (s.imm _ _));simp [World.cell?,hh,h1,hc]
def MS:Obj→Bool
  | .cells ..=>true
  | _=>false
def CS:Value→Bool
  | .agg _ | .tuple _=>false
  | _=>true
def okMark:Mark→Prop
  | .noRoom=>True
  | .extern _=>True
  | _=>False
def wpL (P:Program) {α:Type}:Sem α→(α→Seg→Prop)→Imm→Seg→Prop
  | .pure a,Q,_,M=>Q a M
  | .load _ a k,Q,I,M=>∃ v,Sees I M a v∧wpL P (k v) Q I M
  | .store _ a v k, Q, I, M => CS v = true ∧ a.spot = none ∧ ∃ i cs T fz, M[i]? = some (a.block, Obj.cells cs T fz) ∧ a.off < cs.size ∧ ¬ (fz.1 ≤ a.off ∧ a.off < fz.2) ∧
      wpL P k Q I (M.set i (a.block,.cells (cs.setIfInBounds a.off v) T fz))
  | .new o k,Q,I,M=>∀ b,wpL P (k b) Q I ((b,o)::M)
  | .shape r k,Q,I,M=>∃ o,Holds I M r o∧wpL P (k (match o with | .cells c e _=>some (e,c.size) | _=>none)) Q I M
  | .freeze a n k,Q,I,M=>0<n∧∃ i cs T,M[i]?=some (a.block,Obj.cells cs T (0,0))∧wpL P k Q I (M.set i (a.block,.cells cs T (a.off,a.off+n)))
  | .frozen a k,Q,I,M=>∃ o,Holds I M a.block o∧wpL P (k (match o with | .cells _ _ (lo,hi)=>lo≤a.off&&a.off<hi | _=>false)) Q I M
  | .getObj r k,Q,I,M=>∃ o,Holds I M r o∧MS o=false∧wpL P (k o) Q I M
  | .setObj r o k,Q,I,M=>MS o=false∧∃ i o',M[i]?=some (r,o')∧MS o'=false∧wpL P k Q I (M.set i (r,o))
  | .choose q k,Q,I,M=>if q.forced then wpL P (k 0) Q I M else ∀ t,wpL P (k (q.cut t)) Q I M
  | .sys _ _,_,_,_=>False
  | .program k,Q,I,M=>wpL P (k P) Q I M
  | .mark m k,Q,I,M=>okMark m∧wpL P k Q I M
  | .halt _,_,_,_=>False
theorem set_fst {M:Seg} {i:Nat} {r:Nat} {o o':Obj} (h:M[i]?=some (r,o')):(M.set i (r,o)).map Prod.fst=M.map Prod.fst:=by
  rw [List.map_set]
  apply List.ext_getElem?
  intro j;rw [List.getElem?_set]
  split
  · rename_i e;subst e
    have hl:i<M.length:=(List.getElem?_eq_some_iff.1 h).1;have h2:M[i]=(r,o'):=by rw [List.getElem?_eq_getElem hl] at h;exact Option.some.inj h
    simp [hl,h2]
  · rfl
theorem Mod.fresh {σ:GW} {w:Go.World} (h:Mod σ w) {b:Nat} (hb:w.heap.size≤b):σ.blk b=none:=by
  cases hx:σ.blk b with
  | none=>rfl
  | some o=>exact absurd (Array.getElem?_eq_some_iff.1 (h.blk b o hx)).1 (Nat.not_lt.2 hb)
theorem Mod.fresh_pub {σ:GW} {w:Go.World} (h:Mod σ w) {b:Nat} (hb:w.heap.size≤b):¬ σ.pub b:=fun hp=>h.known b hp (h.fresh hb)
def GW.upd (σ:GW) (b:Nat) (o:Obj):GW:={ σ with blk:=fun c=>if c=b then some o else σ.blk c }
theorem St.put {I:Imm} {M:Seg} {σ:GW} {i r:Nat} {o o':Obj} (h:St I M σ) (hi:M[i]?=some (r,o')):St I (M.set i (r,o)) (σ.upd r o):=by
  have hin:(r,o')∈M:=List.mem_of_getElem? hi;have hI:I.blk r=none:=h.disj r o' hin;have back:∀ b x,(b,x)∈M.set i (r,o)→(b,x)=(r,o)∨((b,x)∈M∧b≠r):=fun b x hm=>by
    rcases List.mem_or_eq_of_mem_set hm with hm' | e
    · by_cases hbr:b=r
      · subst hbr
        obtain ⟨j,hj⟩:=List.mem_iff_getElem?.1 hm
        by_cases hji:j=i
        · subst hji
          have hl:j<M.length:=(List.getElem?_eq_some_iff.1 hi).1;rw [List.getElem?_set_self hl] at hj;exact .inl (Option.some.inj hj).symm
        · rw [List.getElem?_set_ne (Ne.symm hji)] at hj
          exfalso
          have h1:(M.map Prod.fst)[j]?=some b:=by simp [hj]
          have h2:(M.map Prod.fst)[i]?=some b:=by simp [hi]
          obtain ⟨l1,e1⟩:=List.getElem?_eq_some_iff.1 h1;obtain ⟨l2,e2⟩:=List.getElem?_eq_some_iff.1 h2;exact hji ((List.getElem_inj h.nodup).1 (e1.trans e2.symm))
      · exact .inr ⟨hm',hbr⟩
    · exact .inl e
  refine ⟨h.os,h.tape,h.output,h.pub,h.gh,fun b x hb=>?_,fun b x hm=>?_,fun b x hm=>?_,by rw [set_fst hi];exact h.nodup,fun b x hm=>?_⟩
  · show (if b=r then some o else σ.blk b)=some x
    rw [if_neg (fun e=>by rw [e,hI] at hb;cases hb)];exact h.imm b x hb
  · show (if b=r then some o else σ.blk b)=some x
    rcases back b x hm with e | ⟨hm',hbr⟩
    · cases e;rw [if_pos rfl]
    · rw [if_neg hbr];exact h.mem b x hm'
  · rcases back b x hm with e | ⟨hm',_⟩
    · cases e;exact h.own _ _ hin
    · exact h.own b x hm'
  · rcases back b x hm with e | ⟨hm',_⟩
    · cases e;exact hI
    · exact h.disj b x hm'
theorem St.new {I:Imm} {M:Seg} {σ:GW} {w:Go.World} (h:St I M σ) (hw:Mod σ w) (o:Obj):St I ((w.heap.size,o)::M) (σ.upd w.heap.size o):=by
  have fresh:∀ b x,σ.blk b=some x→b≠w.heap.size:=fun b x hb e=>by rw [e,hw.fresh (Nat.le_refl _)] at hb;cases hb
  refine ⟨h.os,h.tape,h.output,h.pub,h.gh,fun b x hb=>?_,fun b x hm=>?_,fun b x hm=>?_,?_,fun b x hm=>?_⟩
  · show (if b=w.heap.size then some o else σ.blk b)=some x
    rw [if_neg (fresh b x (h.imm b x hb))];exact h.imm b x hb
  · show (if b=w.heap.size then some o else σ.blk b)=some x
    rcases List.mem_cons.1 hm with e | hm
    · cases e;rw [if_pos rfl]
    · rw [if_neg (fresh b x (h.mem b x hm))];exact h.mem b x hm
  · rcases List.mem_cons.1 hm with e | hm
    · cases e;rw [← h.pub];exact hw.fresh_pub (Nat.le_refl _)
    · exact h.own b x hm
  · refine List.nodup_cons.2 ⟨fun hm=>?_,h.nodup⟩
    obtain ⟨⟨c,x⟩,hm,e⟩:=List.mem_map.1 hm;exact fresh c x (h.mem c x hm) e
  · rcases List.mem_cons.1 hm with e | hm
    · cases e
      cases hI:I.blk w.heap.size with
      | none=>rfl
      | some y=>exact absurd rfl (fresh _ y (h.imm _ y hI))
    · exact h.disj b x hm
theorem GuarX.ev {σ:GW} {w:Go.World} {e:Event} (h:Mod σ w) (he:okEvP true σ e):GuarX σ w w #[e] σ:=
  ⟨h,rfl,rfl,Nat.le_refl _,fun _ _ _=>rfl,fun _ h=>.inl h,fun _ h=>h,rfl,rfl,rfl,fun x hx=>by simp at hx;subst hx;exact he⟩
theorem GuarX.put {σ : GW} {w w' : Go.World} {r : Nat} {o o' : Obj} {es : Array Event} (h : Mod σ w) (hr : σ.blk r = some o') (hp : ¬ σ.pub r) (ho : w'.os = w.os) (ht : w'.tape = w.tape) (hout : w'.output = w.output)
    (hsz:w'.heap.size=w.heap.size) (hn:w'.heap[r]?=some o) (hk:∀ b,b≠r→w'.heap[b]?=w.heap[b]?) (hes:∀ e∈es,okEvP true (σ.upd r o) e):GuarX σ w w' es (σ.upd r o):=by
  refine ⟨⟨ho.trans h.os,ht.trans h.tape,hout.trans h.output,fun b x hb=>?_,fun b hb=>?_⟩,rfl,rfl,by omega,fun b hb _=>hk b fun e=>?_,fun b hb=>.inl ?_,fun b hb=>?_,ho,ht,hout,hes⟩
  · simp only [GW.upd] at hb
    split at hb
    · rename_i e;subst e;cases hb;exact hn
    · rename_i e;rw [hk b e];exact h.blk b x hb
  · simp only [GW.upd]
    split
    · simp
    · exact h.known b hb
  · subst e
    rcases hb with hb | hb
    · rw [hr] at hb;cases hb
    · exact hp hb
  · simp only [GW.upd] at hb
    split at hb
    · rename_i e;subst e;simp [hr]
    · exact hb
  · simp only [GW.upd]
    split
    · simp
    · exact hb
theorem GuarX.fresh {σ:GW} {w:Go.World} (h:Mod σ w) (o:Obj):GuarX σ w { w with heap:=w.heap.push o } #[] (σ.upd w.heap.size o):=by
  have ne:∀ b x,σ.blk b=some x→b≠w.heap.size:=fun b x hb e=>by rw [e,h.fresh (Nat.le_refl _)] at hb;cases hb
  refine ⟨⟨h.os,h.tape,h.output,fun b x hb=>?_,fun b hb=>?_⟩,rfl,rfl,by simp,fun b _ hl=>?_,fun b hb=>?_,fun b hb=>?_,rfl,rfl,rfl,fun e he=>by simp at he⟩
  · simp only [GW.upd] at hb
    split at hb
    · rename_i e;subst e;cases hb;simp
    · have:=h.blk b x hb
      have hl:b<w.heap.size:=(Array.getElem?_eq_some_iff.1 this).1;show (w.heap.push o)[b]?=_;rw [Array.getElem?_push,if_neg (by omega)];exact this
  · simp only [GW.upd]
    split
    · simp
    · exact h.known b hb
  · show (w.heap.push o)[b]?=_
    rw [Array.getElem?_push,if_neg (by omega)]
  · simp only [GW.upd] at hb
    split at hb
    · rename_i e;exact .inr (by omega)
    · exact .inl hb
  · simp only [GW.upd]
    split
    · simp
    · exact hb
theorem IX {P:Program} {α:Type} (s:Sem α):∀ (Q:α→Seg→Prop) (I:Imm) (M:Seg) (σ:GW),wpL P s Q I M→St I M σ→SemTo P s σ fun x σ'=>∃ M',Q x M'∧St I M' σ':=by
  induction s with
  | pure a=>intro Q I M σ h st;exact SemTo.pure ⟨M,h,st⟩
  | load m a k ih=>
    intro Q I M σ h st w hw;obtain ⟨v,hs,h⟩:=h;obtain ⟨x,w',es,σ',hr,g,hq⟩:=ih v Q I M σ h st w hw;exact ⟨x,w',#[⟨.cell a,false,m == .atomic⟩]++es,σ',fun es0=>by simp only [Sem.runT,hs.cell st hw,hr,Array.push_eq_append,Array.append_assoc],(GuarX.ev (e:=⟨.cell a,false,m == .atomic⟩) hw ⟨hs.blk st,fun h=>by cases h⟩).trans g,hq⟩
  | store m a v k ih=>
    intro Q I M σ h st w hw;obtain ⟨h1,h0,i,cs,T,fz,hi,hoff,hfz,h⟩:=h;have hin:=List.mem_of_getElem? hi;have hσ:σ.blk a.block=some (.cells cs T fz):=st.mem _ _ hin;have hh:w.heap[a.block]?=some (.cells cs T fz):=hw.blk _ _ hσ;have hcell:w.cell? a=some cs[a.off]:=by simp [World.cell?,hh,h0,hoff]
    have hfr:w.frozen? a=false:=by
      simp only [World.frozen?,hh];rcases fz with ⟨lo,hi'⟩
      simp only [Bool.and_eq_false_iff,decide_eq_false_iff_not]
      by_cases hlo:lo≤a.off
      · exact Or.inr (fun hh'=>hfz ⟨hlo,hh'⟩)
      · exact Or.inl hlo
    have hp:¬ σ.pub a.block:=by rw [st.pub];exact st.own _ _ hin
    have hn:(w.setCell a v).heap[a.block]?=some (.cells (cs.setIfInBounds a.off v) T fz):=by
      simp only [World.setCell,Array.getElem?_modify,if_true,hh,Option.map_some,h0];simp
    have g1:GuarX σ w (w.setCell a v) #[⟨.cell a,true,m == .atomic⟩] (σ.upd a.block (.cells (cs.setIfInBounds a.off v) T fz)):=
      .put hw hσ hp rfl rfl rfl (by simp [World.setCell]) hn (fun b hb=>Go.RowKit.Below.heap_setCell _ _ _ _ hb) (fun e he=>by
        simp at he;subst he
        exact ⟨by simp [GW.upd],fun _=>hp⟩)
    obtain ⟨x,w',es,σ',hr,g,hq⟩:=ih Q I _ _ h (st.put hi) _ g1.mod;refine ⟨x,w',#[⟨.cell a,true,m == .atomic⟩]++es,σ',fun es0=>?_,g1.trans g,hq⟩;cases v <;> first | (simp [CS] at h1;done) | (simp only [Sem.runT,hcell,hfr,Bool.false_eq_true,if_false,hr,Array.push_eq_append,Array.append_assoc])
  | new o k ih=>
    intro Q I M σ h st w hw;have g1:=GuarX.fresh hw o;obtain ⟨x,w',es,σ',hr,g,hq⟩:=ih w.heap.size Q I _ _ (h _) (st.new hw o) _ g1.mod;exact ⟨x,w',#[]++es,σ',fun es0=>by simp only [Sem.runT,hr,Array.empty_append],g1.trans g,hq⟩
  | shape r k ih=>
    intro Q I M σ h st w hw;obtain ⟨o,ho,h⟩:=h;obtain ⟨x,w',es,σ',hr,g,hq⟩:=ih _ Q I M σ h st w hw;refine ⟨x,w',es,σ',fun es0=>?_,g,hq⟩;have hh:=hw.blk _ _ (ho.blk st);simp only [Sem.runT,World.shape?,hh];cases o <;> exact hr es0
  | freeze a n k ih=>
    intro Q I M σ h st w hw;obtain ⟨h0,i,cs,T,hi,h⟩:=h;have hin:=List.mem_of_getElem? hi;have hσ:σ.blk a.block=some (.cells cs T (0,0)):=st.mem _ _ hin;have hh:w.heap[a.block]?=some (.cells cs T (0,0)):=hw.blk _ _ hσ;have hp:¬ σ.pub a.block:=by rw [st.pub];exact st.own _ _ hin
    have e0:n≠0:=by omega
    have hn:(w.freeze a n).heap[a.block]?=some (.cells cs T (a.off,a.off+n)):=by
      simp [World.freeze,e0,Array.getElem?_modify,hh]
    have g1:GuarX σ w (w.freeze a n) #[] (σ.upd a.block (.cells cs T (a.off,a.off+n))):=
      .put hw hσ hp (by simp [World.freeze,e0]) (by simp [World.freeze,e0]) (by simp [World.freeze,e0]) (by simp [World.freeze,e0]) hn (fun b hb=>by simp [World.freeze,e0,Array.getElem?_modify,Ne.symm hb]) (fun e he=>by simp at he)
    obtain ⟨x,w',es,σ',hr,g,hq⟩:=ih Q I _ _ h (st.put hi) _ g1.mod;exact ⟨x,w',#[]++es,σ',fun es0=>by simp only [Sem.runT,hr,Array.empty_append],g1.trans g,hq⟩
  | frozen a k ih=>
    intro Q I M σ h st w hw;obtain ⟨o,ho,h⟩:=h;obtain ⟨x,w',es,σ',hr,g,hq⟩:=ih _ Q I M σ h st w hw;refine ⟨x,w',es,σ',fun es0=>?_,g,hq⟩;have hh:=hw.blk _ _ (ho.blk st);simp only [Sem.runT,World.frozen?,hh];cases o <;> exact hr es0
  | getObj r k ih=>
    intro Q I M σ h st w hw;obtain ⟨o,ho,hc,h⟩:=h;obtain ⟨x,w',es,σ',hr,g,hq⟩:=ih _ Q I M σ h st w hw;have hσ:=ho.blk st;have hh:=hw.blk _ _ hσ;refine ⟨x,w',#[⟨.obj r,false,o.isChan⟩]++es,σ',fun es0=>?_,(GuarX.ev (e:=⟨.obj r,false,o.isChan⟩) hw ⟨by rw [hσ];simp,fun h=>by cases h⟩).trans g,hq⟩;simp only [Sem.runT,hh];cases o <;> first | (simp [MS] at hc;done) | simp only [hr,Array.push_eq_append,Array.append_assoc]
  | setObj r o k ih=>
    intro Q I M σ h st w hw;obtain ⟨_,i,o',hi,hc,h⟩:=h;have hin:=List.mem_of_getElem? hi;have hσ:σ.blk r=some o':=st.mem _ _ hin;have hh:w.heap[r]?=some o':=hw.blk _ _ hσ;have hl:r<w.heap.size:=(Array.getElem?_eq_some_iff.1 hh).1;have hp:¬ σ.pub r:=by rw [st.pub];exact st.own _ _ hin
    have g1:GuarX σ w { w with heap:=w.heap.setIfInBounds r o } #[⟨.obj r,true,o.isChan⟩] (σ.upd r o):=
      .put hw hσ hp rfl rfl rfl (by simp) (by simp [hl]) (fun b hb=>by simp only [];rw [Array.getElem?_setIfInBounds_ne (Ne.symm hb)]) (fun e he=>by
        simp at he;subst he
        exact ⟨by simp [GW.upd],fun _=>hp⟩)
    obtain ⟨x,w',es,σ',hr,g,hq⟩:=ih Q I _ _ h (st.put hi) _ g1.mod;refine ⟨x,w',#[⟨.obj r,true,o.isChan⟩]++es,σ',fun es0=>?_,g1.trans g,hq⟩;simp only [Sem.runT,hh];cases o' <;> first | (simp [MS] at hc;done) | simp only [hr,Array.push_eq_append,Array.append_assoc]
  | choose q k ih=>
    intro Q I M σ h st w hw;simp only [wpL] at h
    by_cases hf:q.forced=true
    · rw [if_pos hf] at h
      obtain ⟨x,w',es,σ',hr,g,hq⟩:=ih 0 Q I M σ h st w hw;exact ⟨x,w',es,σ',fun es0=>by simp only [Sem.runT,hf,if_true];exact hr es0,g,hq⟩
    · rw [if_neg hf] at h
      have g1:GuarX σ w { w with drawn:=w.drawn+1 } #[] σ:=⟨⟨hw.os,hw.tape,hw.output,hw.blk,hw.known⟩,rfl,rfl,Nat.le_refl _,fun _ _ _=>rfl,fun _ h=>.inl h,fun _ h=>h,rfl,rfl,rfl,fun e he=>by simp at he⟩;obtain ⟨x,w',es,σ',hr,g,hq⟩:=ih _ Q I M σ (h (w.tape w.drawn q)) st _ g1.mod;exact ⟨x,w',#[]++es,σ',fun es0=>by simp only [Sem.runT,hf,Array.empty_append];exact hr es0,g1.trans g,hq⟩
  | sys c k ih=>intro Q I M σ h st;exact h.elim
  | program k ih=>
    intro Q I M σ h st w hw;obtain ⟨x,w',es,σ',hr,g,hq⟩:=ih P Q I M σ h st w hw;exact ⟨x,w',es,σ',fun es0=>by simp only [Sem.runT];exact hr es0,g,hq⟩
  | mark m k ih=>
    intro Q I M σ h st w hw;obtain ⟨x,w',es,σ',hr,g,hq⟩:=ih Q I M σ h.2 st w hw;refine ⟨x,w',#[⟨.mark m,false,true⟩]++es,σ',fun es0=>by simp only [Sem.runT,hr,Array.push_eq_append,Array.append_assoc],(GuarX.ev (e:=⟨.mark m,false,true⟩) hw ?_).trans g,hq⟩;have:=h.1;cases m <;> first | exact this | exact rfl
  | halt hlt=>intro Q I M σ h st;exact h.elim
theorem AD {P : Program} {α β : Type} (s : Sem α) : ∀ (f : α → Sem β) (Q : β → Seg → Prop) (I : Imm) (M : Seg),
    wpL P (s >>= f) Q I M↔wpL P s (fun x M'=>wpL P (f x) Q I M') I M:=by
  induction s with
  | pure a=>intro f Q I M;exact Iff.rfl
  | load m a k ih=>intro f Q I M;exact exists_congr fun v=>and_congr Iff.rfl (ih v f Q I M)
  | store m a v k ih=>
    intro f Q I M;refine and_congr Iff.rfl (and_congr Iff.rfl (exists_congr fun i=>exists_congr fun cs=>exists_congr fun T=>exists_congr fun fz=>and_congr Iff.rfl (and_congr Iff.rfl (and_congr Iff.rfl ?_))));exact ih f Q I _
  | new o k ih=>intro f Q I M;exact forall_congr' fun b=>ih b f Q I _
  | shape r k ih=>intro f Q I M;exact exists_congr fun o=>and_congr Iff.rfl (ih _ f Q I M)
  | freeze a n k ih=>
    intro f Q I M;exact and_congr Iff.rfl (exists_congr fun i=>exists_congr fun cs=>exists_congr fun T=>and_congr Iff.rfl (ih f Q I _))
  | frozen a k ih=>intro f Q I M;exact exists_congr fun o=>and_congr Iff.rfl (ih _ f Q I M)
  | getObj r k ih=>intro f Q I M;exact exists_congr fun o=>and_congr Iff.rfl (and_congr Iff.rfl (ih _ f Q I M))
  | setObj r o k ih=>
    intro f Q I M;exact and_congr Iff.rfl (exists_congr fun i=>exists_congr fun o'=>and_congr Iff.rfl (and_congr Iff.rfl (ih f Q I _)))
  | choose q k ih=>
    intro f Q I M;show (if q.forced then wpL P ((k 0).bind f) Q I M else ∀ t,wpL P ((k (q.cut t)).bind f) Q I M)↔(if q.forced then wpL P (k 0) _ I M else ∀ t,wpL P (k (q.cut t)) _ I M)
    split
    · exact ih 0 f Q I M
    · exact forall_congr' fun t=>ih _ f Q I M
  | sys c k ih=>intro f Q I M;exact Iff.rfl
  | program k ih=>intro f Q I M;exact ih P f Q I M
  | mark m k ih=>intro f Q I M;exact and_congr Iff.rfl (ih f Q I M)
  | halt h=>intro f Q I M;exact Iff.rfl
def look (t:Nat):List (Nat × Value)→Option Value
  | []=>none
  | (k,v)::r=>bif Nat.beq k t then some v else look t r
abbrev Sl:=List (Nat × Value)
structure Slots (N:Nat) (l:Sl) (a:Act):Prop where
  size:a.tmps.size=N
  get:∀ t v,look t l=some v→a.tmps[t]?=some v
theorem CR (d:Nat) (v:Value) (l:Sl):look d ((d,v)::l)=some v:=by simp [look]
theorem BF {d t:Nat} (h:d≠t) (v:Value) (l:Sl):look t ((d,v)::l)=look t l:=by
  have:Nat.beq d t=false:=by
    cases e:Nat.beq d t with
    | false=>rfl
    | true=>exact absurd (Nat.eq_of_beq_eq_true e) h
  simp [look,this]
theorem Slots.put {N:Nat} {l:Sl} {a:Act} (h:Slots N l a) {d:Nat} (hd:d<N) (v:Value):Slots N ((d,v)::l) (a.put (some d) v):=by
  refine ⟨by simp [Act.put,h.size],fun t u hu=>?_⟩
  by_cases e:d=t
  · subst e
    rw [CR] at hu;cases hu;have:d<a.tmps.size:=by rw [h.size];exact hd
    simp [Act.put,this]
  · rw [BF e] at hu
    simp only [Act.put];rw [Array.getElem?_setIfInBounds_ne e];exact h.get t u hu
def Sub (l' l:Sl):Prop:=∀ t v,look t l'=some v→look t l=some v
theorem Sub.nil (l:Sl):Sub [] l:=fun _ _ h=>by cases h
theorem Sub.cons {l' l:Sl} (t:Nat) {v:Value} (h:look t l=some v) (s:Sub l' l):Sub ((t,v)::l') l:=fun u w hu=>by
  by_cases e:t=u
  · subst e;rw [CR] at hu;cases hu;exact h
  · rw [BF e] at hu;exact s u w hu
theorem Sub.refl (l:Sl):Sub l l:=fun _ _ h=>h
theorem Slots.sub {N:Nat} {l l':Sl} {a:Act} (h:Slots N l a) (s:Sub l' l):Slots N l' a:=⟨h.size,fun t v hv=>h.get t v (s t v hv)⟩
def BK (l:Sl):Operand→Option Value
  | .tmp t=>look t l
  | .const v=>some v
  | .global g=>some (.pointer (some ⟨g,0,none⟩))
  | .func f=>some (.func (.func f) #[] #[])
def rho (l:Sl) (x:Operand):Value:=(BK l x).getD undef
theorem AU {l:Sl} {x:Operand} {v:Value} (h:BK l x=some v):rho l x=v:=by simp [rho,h]
def known (l:Sl) (x:Operand):Prop:=∃ v,BK l x=some v
def ResN (P:Program) [Jud P] (K:Value→GW→Prop):Next→GW→Prop
  | .value v,w=>K v w
  | .skip,w=>K undef w
  | .enter f args,w=>Calls P f args w K
  | .round l f tmps assign body,w=>RoundJ P l f tmps assign body w K
  | _,_=>False
theorem resN_round {P:Program} [Jud P] {K:Value→GW→Prop} {l:Nat} {f:FuncId} {tmps:Array Value} {assign body:Code} {w:GW} (h:RoundJ P l f tmps assign body w K):ResN P K (.round l f tmps assign body) w:=h
def Res (P:Program) [Jud P] (K:Value→GW→Prop) (s:Sem Next) (w:GW):Prop:=SemTo P s w (ResN P K)
theorem Res.mono {P:Program} [Jud P] {K K':Value→GW→Prop} {s:Sem Next} {w:GW} (h:Res P K s w) (hk:∀ v w,K v w→K' v w):Res P K' s w:=
  SemTo.mono h fun n σ hn=>by cases n <;> first | exact hk _ _ hn | exact Calls.mono hn hk | exact RoundJ.mono hn hk | exact hn
theorem HH {ρ : Option Nat} {P : Program} [Jud P] {o : Oper} {a : Act} {w : GW} {K : Value → GW → Prop} {next : Act → GW → Prop} (hd : ∀ c, o.op ≠ .defer c)
    (h:Res P K (execOp a.eval o) w) (hk:∀ v w',K v w'→next (a.put o.dst v) w'):wpOp ρ P o a w next:=by
  unfold wpOp;rw [Oper.semAt_eq _ _ o hd];refine SemTo.mono h fun n σ hn=>?_
  cases n
  case value v=>exact hk _ _ hn
  case skip=>exact hk _ _ hn
  case enter f args=>exact Calls.mono hn fun v σ'=>hk v σ'
  case round l f tmps assign body=>exact RoundJ.mono hn fun v σ'=>hk v σ'
  all_goals exact hn.elim
def EK (ops:Array Oper) (l:Sl):Option (Nat × Bool)→Option Bool
  | none=>some true
  | some (j,want)=>
    match (ops[j]?).bind (·.dst) with
    | none=>some false
    | some t=>match look t l with
      | some (.bool b)=>some (b == want)
      | some _=>some false
      | none=>none
theorem CK {ops : Array Oper} {l : Sl} {o : Oper} {b : Bool} {tm : Array Value} (hg : EK ops l o.guard = some b)
    (h:∀ t∈o.looksAt ops,∀ v,look t l=some v→tm[t]?=some v):Region.wanted o (yielded ops tm)=b:=by
  unfold Region.wanted;cases hgd:o.guard with
  | none=>rw [hgd] at hg;simp only [EK] at hg;cases hg;rfl
  | some gw=>
    obtain ⟨j,want⟩:=gw;rw [hgd] at hg;simp only [EK] at hg;simp only [yielded];cases hj:(ops[j]?).bind (·.dst) with
    | none=>rw [hj] at hg;simp only at hg;cases hg;simp
    | some t=>
      rw [hj] at hg;simp only at hg;have hmem:t∈o.looksAt ops:=by simp [Oper.looksAt,hgd,hj]
      cases ht:look t l with
      | none=>rw [ht] at hg;cases hg
      | some u=>
        rw [ht] at hg;have hu:=h t hmem u ht;simp only [Option.bind_some,hu];cases u <;> simp only at hg <;> cases hg <;> simp
def opOk (o:Oper) (N:Nat):Bool:=(match o.dst with | some d=>Nat.blt d N | none=>true)&&!(match o.op with | .select ..=>true | .defer _=>true | _=>false)
def PlainOp (o:Oper):Prop:=(∀ cs b,o.op≠.select cs b)∧(∀ c,o.op≠.defer c)
def EL (ops:Array Oper) (N i:Nat):Option (Option Tmp × Op × TypeId × Option (Nat × Bool)):=
  match ops[i]? with
  | some o=>bif opOk o N then some (o.dst,o.op,o.type,o.guard) else none
  | none=>none
theorem FN {ops : Array Oper} {N i : Nat} {dst : Option Tmp} {op : Op} {ty : TypeId} {gd : Option (Nat × Bool)} (h : EL ops N i = some (dst, op, ty, gd)) :
    ∃ o,ops[i]?=some o∧o.dst=dst∧o.op=op∧o.type=ty∧o.guard=gd∧(∀ d,dst=some d→d<N)∧PlainOp o:=by
  unfold EL at h;cases ho:ops[i]? with
  | none=>rw [ho] at h;cases h
  | some o=>
    rw [ho] at h;simp only at h;cases hc:opOk o N with
    | false=>rw [hc] at h;cases h
    | true=>
      rw [hc] at h;simp only [cond_true,Option.some.injEq,Prod.mk.injEq] at h;obtain ⟨rfl,rfl,rfl,rfl⟩:=h;unfold opOk at hc;rw [Bool.and_eq_true] at hc;refine ⟨o,rfl,rfl,rfl,rfl,rfl,fun d hd=>?_,fun cs b e=>?_,fun c e=>?_⟩
      · have h1:=hc.1
        rw [hd] at h1;exact Nat.le_of_ble_eq_true h1
      · have h2:=hc.2
        rw [e] at h2;cases h2
      · have h2:=hc.2
        rw [e] at h2;cases h2
def Det (P:Program) [Jud P] (N:Nat) (ops:Array Oper) (i:Nat) (l:Sl) (I:Imm) (R:Seg) (d:Nat) (v:Value):Prop:=
  ∃ o,ops[i]?=some o∧o.dst=some d∧d<N∧PlainOp o ∧
    ((EK ops l o.guard=some false∧v=undef) ∨
     (EK ops l o.guard=some true∧(∀ x∈o.op.operands,known l x) ∧
       ∀ I' N' w,I.le I'→St I' (R++N') w→Res P (fun u w'=>u=v∧St I' (R++N') w') (execOp (rho l) o) w))
def ups (dst:Option Tmp) (v:Value) (l:Sl):Sl:=
  match dst with
  | some d=>(d,v)::l
  | none=>l
def Stp (P:Program) [Jud P] (N:Nat) (ops:Array Oper) (i:Nat) (l:Sl) (I:Imm) (M:Seg) (K:Sl→Imm→Seg→Prop):Prop:=
  ∃ o,ops[i]?=some o∧(∀ d,o.dst=some d→d<N)∧PlainOp o∧EK ops l o.guard=some true∧(∀ x∈o.op.operands,known l x) ∧
    ∀ w,St I M w→Res P (fun v w'=>∃ I' M',I.le I'∧St I' M' w'∧K (ups o.dst v l) I' M') (execOp (rho l) o) w
theorem mem_looksAt {ops:Array Oper} {o:Oper} {t:Nat} (h:Operand.tmp t∈o.op.operands):t∈o.looksAt ops:=
  List.mem_append_left _ (List.mem_filterMap.2 ⟨.tmp t,by simpa using h,rfl⟩)
theorem LX {ops : Array Oper} {l : Sl} {o : Oper} {a : Act} (hs : PlainOp o) (hk : ∀ x ∈ o.op.operands, known l x)
    (h:∀ t∈o.looksAt ops,∀ v,look t l=some v→a.tmps[t]?=some v):execOp a.eval o=execOp (rho l) o:=
  execOp_congr o hs.1 fun x hx=>by
    obtain ⟨v,hv⟩:=hk x hx;rw [AU hv];cases x with
    | tmp t=>simp only [BK] at hv;simp [Act.eval,h t (mem_looksAt hx) v hv]
    | const u=>simp only [BK] at hv;cases hv;rfl
    | global g=>simp only [BK] at hv;cases hv;rfl
    | func f=>simp only [BK] at hv;cases hv;rfl
def Seq {ρ:Option Nat} (P:Program) [Jud P] (N:Nat) (ops:Array Oper) (Q:Exit→Act→GW→Prop) (ds:List Deferred) (i:Nat) (l:Sl) (I:Imm) (M:Seg):Prop:=
  ∀ a w,Slots N l a→a.defers=ds→St I M w→QJ ρ P ops Q (List.range' i (ops.size-i)) a w
def Run {ρ:Option Nat} (P:Program) [Jud P] (N:Nat) (c:Code) (Q:Exit→Act→GW→Prop) (ds:List Deferred) (l:Sl) (I:Imm) (M:Seg):Prop:=
  ∀ a w,Slots N l a→a.defers=ds→St I M w→wpc ρ P c Q a w
def Pst (N:Nat) (Q:Exit→Act→GW→Prop) (e:Exit) (ds:List Deferred) (l:Sl) (I:Imm) (M:Seg):Prop:=
  ∀ a w,Slots N l a→a.defers=ds→St I M w→Q e a w
section
variable {ρ:Option Nat} {P:Program} [Jud P] {N:Nat} {ops:Array Oper} {Q:Exit→Act→GW→Prop} {ds:List Deferred} {i:Nat} {l:Sl} {I:Imm} {M:Seg}
theorem AW {c:Code} {a:Act} {w:GW} (h1:Slots N l a) (h2:a.defers=ds) (h3:St I M w) (h:Run (ρ:=ρ) P N c Q ds l I M):wpc ρ P c Q a w:=h a w h1 h2 h3
theorem FB (a:Act) (x:Option Tmp) (v:Value):(a.put x v).defers=a.defers:=by cases x <;> rfl
theorem LL (h:i<ops.size):List.range' i (ops.size-i)=i::List.range' (i+1) (ops.size-(i+1)):=by
  have:ops.size-i=(ops.size-(i+1))+1:=by omega
  rw [this,List.range'_succ]
theorem seq_det {d:Nat} {v:Value} (h:Det P N ops i l I M d v) (next:Seq (ρ:=ρ) P N ops Q ds (i+1) ((d,v)::l) I M):Seq (ρ:=ρ) P N ops Q ds i l I M:=by
  obtain ⟨o,ho,hd,hN,hs,h⟩:=h;intro a w hS hD hW;have hlt:i<ops.size:=(Array.getElem?_eq_some_iff.1 ho).1;rw [LL hlt];simp only [QJ,NF,ho];have hag:∀ t∈o.looksAt ops,∀ u,look t l=some u→a.tmps[t]?=some u:=fun t _ u hu=>hS.get t u hu
  rcases h with ⟨hg,rfl⟩ | ⟨hg,hk,hr⟩
  · rw [CK hg hag,if_neg (by simp),hd]
    exact next _ _ (hS.put hN _) (by rw [FB];exact hD) hW
  · rw [CK hg hag,if_pos rfl]
    have:=hr I [] w (Imm.le.refl I) (by rw [List.append_nil];exact hW);rw [← LX hs hk hag] at this;refine HH hs.2 this fun u w' ⟨hu,hst⟩=>?_
    subst hu;rw [hd];exact next _ _ (hS.put hN _) (by rw [FB];exact hD) (by rw [List.append_nil] at hst;exact hst)
theorem seq_stp (h:Stp P N ops i l I M (fun l' I' M'=>Seq (ρ:=ρ) P N ops Q ds (i+1) l' I' M')):Seq (ρ:=ρ) P N ops Q ds i l I M:=by
  obtain ⟨o,ho,hN,hs,hg,hk,hr⟩:=h;intro a w hS hD hW;have hlt:i<ops.size:=(Array.getElem?_eq_some_iff.1 ho).1;rw [LL hlt];simp only [QJ,NF,ho];have hag:∀ t∈o.looksAt ops,∀ u,look t l=some u→a.tmps[t]?=some u:=fun t _ u hu=>hS.get t u hu
  rw [CK hg hag,if_pos rfl];have:=hr w hW;rw [← LX hs hk hag] at this;refine HH hs.2 this fun v w' ⟨I',M',_,hst,hK⟩=>?_
  cases hd:o.dst with
  | none=>rw [hd] at hK;exact hK _ _ hS hD hst
  | some d=>rw [hd] at hK;exact hK _ _ (hS.put (hN d hd) v) (by rw [FB];exact hD) hst
theorem seq_end (h:ops.size=i) (next:Pst N Q .normal ds l I M):Seq (ρ:=ρ) P N ops Q ds i l I M:=by
  intro a w hS hD hW;subst h;rw [Nat.sub_self];simp only [List.range'_zero];exact next a w hS hD hW
theorem CM (t:Nat) {v v':Value} (h:look t l=some v) (e:v=v') (next:Seq (ρ:=ρ) P N ops Q ds i ((t,v')::l) I M):Seq (ρ:=ρ) P N ops Q ds i l I M:=by
  subst e;intro a w hS hD hW;exact next a w (hS.sub (.cons t h (.refl l))) hD hW
theorem run_re {c:Code} (t:Nat) {v v':Value} (h:look t l=some v) (e:v=v') (next:Run (ρ:=ρ) P N c Q ds ((t,v')::l) I M):Run (ρ:=ρ) P N c Q ds l I M:=by
  subst e;intro a w hS hD hW;exact next a w (hS.sub (.cons t h (.refl l))) hD hW
theorem OL {c:Code} {l':Sl} (s:Sub l' l) (next:Run (ρ:=ρ) P N c Q ds l' I M):Run (ρ:=ρ) P N c Q ds l I M:=
  fun a w hS hD hW=>next a w (hS.sub s) hD hW
theorem run_mem {c:Code} {I':Imm} {M':Seg} (s:∀ w,St I M w→St I' M' w) (next:Run (ρ:=ρ) P N c Q ds l I' M'):Run (ρ:=ρ) P N c Q ds l I M:=
  fun a w hS hD hW=>next a w hS hD (s w hW)
theorem BA {I':Imm} {M':Seg} (s:∀ w,St I M w→St I' M' w) (next:Seq (ρ:=ρ) P N ops Q ds i l I' M'):Seq (ρ:=ρ) P N ops Q ds i l I M:=
  fun a w hS hD hW=>next a w hS hD (s w hW)
theorem run_region {c:Code} {id:Nat} (hc:c=.region id ops false) (h:Seq (ρ:=ρ) P N ops Q ds 0 l I M):Run (ρ:=ρ) P N c Q ds l I M:=by
  subst hc;intro a w hS hD hW;have:=h a w hS hD hW;rw [Nat.sub_zero,← List.range_eq_range'] at this;exact wpc_region (wpOps_of_R _ _ _ this)
theorem run_seq {c x y:Code} (hc:c=.seq x y) (h:Run (ρ:=ρ) P N x (Exit.then (fun a w=>wpc ρ P y Q a w) Q) ds l I M):Run (ρ:=ρ) P N c Q ds l I M:=by
  subst hc;exact fun a w hS hD hW=>wpc_seq (h a w hS hD hW)
theorem pst_next {y:Code} {Q':Exit→Act→GW→Prop} (h:Run (ρ:=ρ) P N y Q ds l I M):Pst N (Exit.then (fun a w=>wpc ρ P y Q a w) Q') .normal ds l I M:=h
theorem pst_ret_pass {next:Act→GW→Prop} (h:Pst N Q .ret ds l I M):Pst N (Exit.then next Q) .ret ds l I M:=h
theorem pst_exit_pass {next:Act→GW→Prop} {id:Nat} (h:Pst N Q (.exit id) ds l I M):Pst N (Exit.then next Q) (.exit id) ds l I M:=h
theorem pst_ret_block {id:Nat} (h:Pst N Q .ret ds l I M):Pst N (Exit.inBlock id Q) .ret ds l I M:=h
theorem SZ {id:Nat} (h:Pst N Q .normal ds l I M):Pst N (Exit.inBlock id Q) .normal ds l I M:=h
theorem pst_exit_block {id:Nat} (h:Pst N Q .normal ds l I M):Pst N (Exit.inBlock id Q) (.exit id) ds l I M:=
  fun a w hS hD hW=>by simp only [Exit.inBlock,if_true];exact h a w hS hD hW
theorem run_block {c x:Code} {id:Nat} (hc:c=.block id x) (h:Run (ρ:=ρ) P N x (Exit.inBlock id Q) ds l I M):Run (ρ:=ρ) P N c Q ds l I M:=by
  subst hc;exact fun a w hS hD hW=>wpc_block (h a w hS hD hW)
theorem run_exit {c:Code} {id:Nat} (hc:c=.exit id) (h:Pst N Q (.exit id) ds l I M):Run (ρ:=ρ) P N c Q ds l I M:=by
  subst hc;exact fun a w hS hD hW=>wpc_exit (h a w hS hD hW)
theorem run_label {c:Code} {id:Nat} (hc:c=.label id) (h:Pst N Q .normal ds l I M):Run (ρ:=ρ) P N c Q ds l I M:=by
  subst hc;exact fun a w hS hD hW=>wpc_label (h a w hS hD hW)
theorem run_ret {c:Code} (hc:c=.ret) (h:Pst N Q .ret ds l I M):Run (ρ:=ρ) P N c Q ds l I M:=by
  subst hc;exact fun a w hS hD hW=>wpc_ret (h a w hS hD hW)
theorem run_skip {c:Code} (hc:c=.skip) (h:Pst N Q .normal ds l I M):Run (ρ:=ρ) P N c Q ds l I M:=by
  subst hc;exact fun a w hS hD hW=>wpc_skip (h a w hS hD hW)
theorem MP {l:Sl} {a:Act} {x:Operand} {v:Value} (hS:Slots N l a) (h:BK l x=some v):a.eval x=v:=by
  cases x with
  | tmp t=>simp only [BK] at h;simp [Act.eval,hS.get t v h]
  | const u=>simp only [BK] at h;cases h;rfl
  | global g=>simp only [BK] at h;cases h;rfl
  | func f=>simp only [BK] at h;cases h;rfl
theorem run_cond {c x y : Code} {t : Operand} {b : Bool} (hc : c = .cond t x y) (ht : BK l t = some (.bool b)) (h1 : b = true → Run (ρ := ρ) P N x Q ds l I M) (h2 : b = false → Run (ρ := ρ) P N y Q ds l I M) :
    Run (ρ:=ρ) P N c Q ds l I M:=by
  subst hc;exact fun a w hS hD hW=>wpc_cond_split (MP hS ht) (fun hb=>h1 hb a w hS hD hW) (fun hb=>h2 hb a w hS hD hW)
theorem run_cond_true {c x y:Code} {t:Operand} (hc:c=.cond t x y) (ht:BK l t=some (.bool true)) (h:Run (ρ:=ρ) P N x Q ds l I M):Run (ρ:=ρ) P N c Q ds l I M:=
  run_cond hc ht (fun _=>h) (fun h=>by cases h)
theorem NY {c x y:Code} {t:Operand} (hc:c=.cond t x y) (ht:BK l t=some (.bool false)) (h:Run (ρ:=ρ) P N y Q ds l I M):Run (ρ:=ρ) P N c Q ds l I M:=
  run_cond hc ht (fun h=>by cases h) (fun _=>h)
theorem wpc_loop_ghost {a : Act} {w : GW} {c : Code} (I : Nat → Act → GW → Prop) (n₀ : Nat) (h₀ : I n₀ a w)
    (round:∀ m a w,I m a w→wpc ρ P c (Exit.then (fun a' w'=>∃ n',n'<m∧I n' a' w') Q) a w):wpc ρ P (Code.loop c) Q a w:=by
  refine wpc_loop (fun a w=>∃ n,I n a w) (fun a w=>leastOf (fun n=>I n a w)) ⟨n₀,h₀⟩ ?_;intro a w hI;refine NQ (round _ a w (leastOf_spec hI).1) ?_;intro e a' w' hq;cases e with
  | normal=>
    obtain ⟨n',hlt,hI'⟩:=hq;exact show (∃ n,I n a' w')∧leastOf (fun n=>I n a' w')<leastOf (fun n=>I n a w) from ⟨⟨n',hI'⟩,Nat.lt_of_le_of_lt ((leastOf_spec ⟨n',hI'⟩).2 n' hI') hlt⟩
  | exit id=>exact hq
  | goto l=>exact hq
  | ret=>exact hq
  | panic ch=>exact hq
  | outgrown=>exact hq
theorem run_loop {c x : Code} (hc : c = .loop x) (J : Nat → Act → GW → Prop) (h0 : ∀ a w, Slots N l a → a.defers = ds → St I M w → ∃ n0, J n0 a w)
    (round:∀ n a w,J n a w→wpc ρ P x (Exit.then (fun a' w'=>∃ n',n'<n∧J n' a' w') Q) a w):Run (ρ:=ρ) P N c Q ds l I M:=by
  subst hc;exact fun a w hS hD hW=>let ⟨n0,h⟩:=h0 a w hS hD hW;wpc_loop_ghost J n0 h round
theorem AN {J : Nat → Act → GW → Prop} {n : Nat} (n' : Nat) (hn : n' < n) (h : ∀ a w, Slots N l a → a.defers = ds → St I M w → J n' a w) :
    Pst N (Exit.then (fun a' w'=>∃ n',n'<n∧J n' a' w') Q) .normal ds l I M:=
  fun a w hS hD hW=>⟨n',hn,h a w hS hD hW⟩
theorem DS {c:Code} {J':Act→GW→Prop} (J:Act→GW→Prop) (h1:Run (ρ:=ρ) P N c (Exit.then J Q) ds l I M) (h2:∀ a w,J a w→J' a w):Run (ρ:=ρ) P N c (Exit.then J' Q) ds l I M:=fun a w hS hD hW=>
  NQ (h1 a w hS hD hW) fun e a' w' hq=>by cases e <;> first | exact h2 _ _ hq | exact hq
theorem AO {J:Act→GW→Prop} (h:∀ a w,Slots N l a→a.defers=ds→St I M w→J a w):Pst N (Exit.then J Q) .normal ds l I M:=h
end
def sub:Code→List Nat→Code
  | c,[]=>c
  | .seq a b,k::p=>match k with | 0=>sub a p | _=>sub b p
  | .cond _ a b,k::p=>match k with | 0=>sub a p | _=>sub b p
  | .block _ a,_::p=>sub a p
  | .loop a,_::p=>sub a p
  | .scope a,_::p=>sub a p
  | .rangeFunc _ _ a b,k::p=>match k with | 0=>sub a p | _=>sub b p
  | _,_=>.skip
def LB (fn:Func):Code:=fn.body.getD .skip
def FY:Code→Array Oper
  | .region _ ops _=>ops
  | _=>#[]
abbrev RQ (I:Imm) (post:Value→Imm→Seg→Prop) (F:Seg):Value→GW→Prop:=fun v w'=>∃ I' M',I.le I'∧post v I' M'∧St I' (M'++F) w'
def CtA (P:Program) [Jud P] (f:FuncId) (args:Array Value) (I:Imm) (pre:Seg) (post:Value→Imm→Seg→Prop):Prop:=
  ∀ (F:Seg) (w:GW),St I (pre++F) w→Calls P f args w (RQ I post F)
structure Ct (P:Program) (f:FuncId) (args:Array Value) (I:Imm) (pre:Seg) (post:Value→Imm→Seg→Prop):Prop where
  all:∀ [Jud P],CtA P f args I pre post
def CtV (P:Program) (f:FuncId) (args:Array Value) (I:Imm) (v:Value):Prop:=Ct P f args I [] (fun u _ M'=>u=v∧M'=[])
def RetQ (P:Program) (fn:Func) (I:Imm) (post:Value→Imm→Seg→Prop) (F:Seg):Exit→Act→GW→Prop:=bodyQ P fn (RQ I post F)
def FE (k:Nat):List Value→Sl
  | []=>[]
  | v::r=>(k,v)::FE (k+1) r
theorem MD (vs:List Value):∀ (k t:Nat) (v:Value),look t (FE k vs)=some v→k≤t∧vs[t-k]?=some v:=by
  induction vs with
  | nil=>intro k t v h;cases h
  | cons x vs ih=>
    intro k t v h
    by_cases e:k=t
    · subst e
      rw [FE,CR] at h;cases h;simp
    · rw [FE,BF e] at h
      obtain ⟨h1,h2⟩:=ih _ _ _ h;refine ⟨by omega,?_⟩;have:t-k=(t-(k+1))+1:=by omega
      rw [this]
      simpa using h2
theorem QU {P : Program} [Jud P] {f : FuncId} {fn : Func} {args : List Value} {I : Imm} {pre : Seg} {post : Value → Imm → Seg → Prop} {N : Nat} (hf : P.funcs[f]? = some fn) (hb : fn.body.isSome = true)
    (hN:fn.ntmps=N) (hle:args.length≤N)
    (h:∀ F,Run (ρ:=none) P N (LB fn) (RetQ P fn I post F) [] (FE 0 args) I (pre++F)):CtA P f args.toArray I pre post:=by
  intro F w st;have hbody:fn.body=some (LB fn):=by
    cases hx:fn.body with
    | none=>rw [hx] at hb;cases hb
    | some c=>simp [LB,hx]
  refine calls_of_wpc hf hbody (h F _ w ⟨?_,fun t v hv=>?_⟩ rfl st)
  · simp;omega
  obtain ⟨_,h2⟩:=MD args 0 t v hv;rw [Nat.sub_zero] at h2;have hlt:t<args.length:=(List.getElem?_eq_some_iff.1 h2).1;rw [Array.getElem?_append_left (by simpa using hlt)]
  simpa using h2
theorem fn_of_run {P : Program} {f : FuncId} {fn : Func} {args : List Value} {I : Imm} {pre : Seg} {post : Value → Imm → Seg → Prop} {N : Nat} (hf : P.funcs[f]? = some fn) (hb : fn.body.isSome = true)
    (hN:fn.ntmps=N) (hle:args.length≤N)
    (h:∀ [Jud P] (F:Seg),Run (ρ:=none) P N (LB fn) (RetQ P fn I post F) [] (FE 0 args) I (pre++F)):Ct P f args.toArray I pre post:=
  ⟨QU hf hb hN hle h⟩
def readR (tm:Array Value):ResultVar→Sem Value
  | .tmp t=>pure (tm.getD t undef)
  | .cell a t=>do loadVar t (← asAddr (tm.getD a undef))
theorem results_0 {fn:Func} (h:fn.results=#[]) (tm:Array Value):results fn tm=pure (.tuple #[]):=by simp [results,h]
theorem results_1 {fn:Func} {x:ResultVar} (h:fn.results=#[x]) (tm:Array Value):results fn tm=readR tm x:=by
  cases x <;> simp [results,h,readR]
theorem results_2 {fn:Func} {x y:ResultVar} (h:fn.results=#[x,y]) (tm:Array Value):results fn tm=(do let u ← readR tm x;let v ← readR tm y;pure (.tuple #[u,v])):=by
  cases x <;> cases y <;> simp [results,h,readR]
theorem TN {P:Program} {N t:Nat} {l:Sl} {a:Act} {v:Value} {σ:GW} {K:Value→GW→Prop} (hS:Slots N l a) (hv:look t l=some v) (h:K v σ):SemTo P (readR a.tmps (.tmp t)) σ K:=by
  have e:a.tmps.getD t undef=v:=by simp [hS.get t v hv]
  show SemTo P (pure (a.tmps.getD t undef)) σ K;rw [e];exact .pure h
section
variable {P:Program} {N:Nat} {fn:Func} {I I₀:Imm} {post:Value→Imm→Seg→Prop} {F M:Seg} {l:Sl}
theorem NO {t : Nat} {v : Value} (M' : Seg) (hr : fn.results = #[.tmp t]) (hv : look t l = some v) (hs : (M' ++ F).Sublist M) (hle : I₀.le I) (hp : post v I M') :
    Pst N (RetQ P fn I₀ post F) .ret [] l I M:=fun a w hS hD hW=>
  ⟨hD,by rw [results_1 hr];exact TN hS hv ⟨I,M',hle,hp,hW.sub hs⟩⟩
theorem EE {t u : Nat} {v x : Value} (M' : Seg) (hr : fn.results = #[.tmp t, .tmp u]) (hv : look t l = some v) (hx : look u l = some x) (hs : (M' ++ F).Sublist M) (hle : I₀.le I) (hp : post (.tuple #[v, x]) I M') :
    Pst N (RetQ P fn I₀ post F) .ret [] l I M:=fun a w hS hD hW=>
  ⟨hD,by rw [results_2 hr];exact .bind (TN hS hv (.bind (TN hS hx (.pure ⟨I,M',hle,hp,hW.sub hs⟩))))⟩
theorem DP (M' : Seg) (hr : fn.results = #[]) (hs : (M' ++ F).Sublist M) (hle : I₀.le I) (hp : post (.tuple #[]) I M') :
    Pst N (RetQ P fn I₀ post F) .normal [] l I M:=fun a w _ hD hW=>
  ⟨hD,by rw [results_0 hr];exact .pure ⟨I,M',hle,hp,hW.sub hs⟩⟩
theorem pst_ret0 (M' : Seg) (hr : fn.results = #[]) (hs : (M' ++ F).Sublist M) (hle : I₀.le I) (hp : post (.tuple #[]) I M') :
    Pst N (RetQ P fn I₀ post F) .ret [] l I M:=fun a w _ hD hW=>
  ⟨hD,by rw [results_0 hr];exact .pure ⟨I,M',hle,hp,hW.sub hs⟩⟩
end
abbrev RP:=@pst_ret_pass
abbrev EP:=@pst_exit_pass
abbrev NX:=@pst_next
abbrev NB:=@SZ
abbrev RB:=@pst_ret_block
abbrev EB:=@pst_exit_block
def EJ (P:Program) (t:TypeId):Option Bool:=
  match P.underlying t with
  | some (.struct _)=>some true
  | some (.array _ _)=>some true
  | some _=>some false
  | none=>none
def DR (P:Program) (t:TypeId):Option Nat:=(P.info? t).map (·.size)
def HK (P:Program) (t:TypeId):Option Value:=(P.info? t).bind (·.zero)
def HU (P:Program) (t:TypeId):Option TypeId:=
  match P.underlying t with
  | some (.slice e)=>some e
  | _=>none
def tyArr (P:Program) (t:TypeId):Option (Nat × TypeId):=
  match P.underlying t with
  | some (.array n e)=>some (n,e)
  | _=>none
def tyOff (P:Program) (t:TypeId) (k:Nat):Option Nat:=
  match P.underlying t with
  | some (.struct fs)=>match fs[k]? with
    | some f=>match DR P f.type with
      | some (_+1)=>some f.offset
      | _=>none
    | none=>none
  | _=>none
theorem CT {P:Program} {t e:TypeId} (h:HU P t=some e):P.underlying t=some (.slice e):=by
  unfold HU at h
  split at h
  · cases h;assumption
  · cases h
section
variable {P:Program} {I:Imm} {M:Seg}
theorem CL {α:Type} (x:α) (Q:α→Seg→Prop):wpL P (pure x:Sem α) Q I M↔Q x M:=Iff.rfl
theorem AJ {t:TypeId} {d:TypeDesc} (h:P.underlying t=some d) (Q:TypeDesc→Seg→Prop):wpL P (underlying t) Q I M↔Q d M:=by
  unfold underlying;rw [AD];show wpL P (match P.underlying t with | some d=>pure d | none=>stuck "no such type") Q I M↔_;rw [h];exact Iff.rfl
theorem CF {t:TypeId} {i:TypeInfo} (h:P.info? t=some i) (Q:TypeInfo→Seg→Prop):wpL P (typeInfo t) Q I M↔Q i M:=by
  unfold typeInfo;rw [AD];show wpL P (match P.info? t with | some i=>pure i | none=>stuck "no such type") Q I M↔_;rw [h];exact Iff.rfl
theorem BL {t:TypeId} {n:Nat} (h:DR P t=some n) (Q:Nat→Seg→Prop):wpL P (sizeOf t) Q I M↔Q n M:=by
  unfold DR at h;cases hi:P.info? t with
  | none=>rw [hi] at h;cases h
  | some i=>
    rw [hi] at h;cases h;unfold sizeOf;rw [AD,CF hi];exact Iff.rfl
theorem DI {t:TypeId} {z:Value} (h:HK P t=some z) (Q:Value→Seg→Prop):wpL P (zeroValue t) Q I M↔Q z M:=by
  unfold HK at h;cases hi:P.info? t with
  | none=>rw [hi] at h;cases h
  | some i=>
    rw [hi] at h;simp only [Option.bind_some] at h;unfold zeroValue;rw [AD,CF hi,h];exact Iff.rfl
theorem KG {t:TypeId} {b:Bool} (h:EJ P t=some b) (Q:Bool→Seg→Prop):wpL P (isAgg t) Q I M↔Q b M:=by
  unfold EJ at h;unfold isAgg;rw [AD];cases hu:P.underlying t with
  | none=>rw [hu] at h;cases h
  | some d=>
    rw [AJ hu];rw [hu] at h;cases d <;> simp only [Option.some.injEq] at h <;> subst h <;> exact Iff.rfl
theorem Sees.mono {I J:Imm} {R N:Seg} {a:Addr} {v:Value} (h:Sees I R a v) (le:I.le J):Sees J (R++N) a v:=by
  obtain ⟨h1,cs,T,fz,hb,hc⟩:=h;exact ⟨h1,cs,T,fz,hb.elim (fun hm=>.inl (List.mem_append_left _ hm)) (fun hi=>.inr (le.blk _ _ hi)),hc⟩
def ICell (I:Imm) (a:Addr) (v:Value):Prop:=a.spot=none∧∃ cs T fz,I.blk a.block=some (Obj.cells cs T fz)∧cs[a.off]?=some v
theorem ICell.mono {I J:Imm} {a:Addr} {v:Value} (h:ICell I a v) (le:I.le J):ICell J a v:=by
  obtain ⟨h1,cs,T,fz,hb,hc⟩:=h;exact ⟨h1,cs,T,fz,le.blk _ _ hb,hc⟩
theorem ICell.sees {a:Addr} {v:Value} (h:ICell I a v):Sees I M a v:=by
  obtain ⟨h1,cs,T,fz,hb,hc⟩:=h;exact ⟨h1,cs,T,fz,.inr hb,hc⟩
theorem sees_at {b off:Nat} {cs:Array Value} {T:TypeId} {fz:Nat × Nat} {v:Value} (k:Nat) (h:M[k]?=some (b,Obj.cells cs T fz)) (hc:cs[off]?=some v):Sees I M ⟨b,off,none⟩ v:=
  ⟨rfl,cs,T,fz,.inl (List.mem_of_getElem? h),hc⟩
theorem GY (b off n:Nat):Addr.add ⟨b,off,none⟩ n=⟨b,off+n,none⟩:=by
  unfold Addr.add
  split
  · rename_i h;subst h;rfl
  · rfl
def SeesN (I:Imm) (M:Seg) (b off:Nat) (vs:List Value):Prop:=∀ k v,vs[k]?=some v→Sees I M ⟨b,off+k,none⟩ v
theorem SeesN.mono {I J:Imm} {R N:Seg} {b off:Nat} {vs:List Value} (h:SeesN I R b off vs) (le:I.le J):SeesN J (R++N) b off vs:=fun k v hv=>(h k v hv).mono le
theorem RM {b off : Nat} : ∀ (vs : List Value) (i : Nat) (acc : Array Value) (Q : Array Value → Seg → Prop), (∀ k v, vs[k]? = some v → Sees I M ⟨b, off + (i + k), none⟩ v) →
    Q (acc++vs.toArray) M→wpL P (loadCellsFrom ⟨b,off,none⟩ i vs.length acc) Q I M:=by
  intro vs
  induction vs with
  | nil=>intro i acc Q _ hq;simpa [loadCellsFrom,CL] using hq
  | cons x vs ih=>
    intro i acc Q h hq;simp only [List.length_cons,loadCellsFrom];rw [AD];refine ⟨x,by rw [GY];exact h 0 x (by simp),?_⟩;show wpL P (loadCellsFrom ⟨b,off,none⟩ (i+1) vs.length (acc.push x)) Q I M;refine ih (i+1) (acc.push x) Q (fun k v hv=>?_) ?_
    · have:=h (k+1) v (by simpa using hv)
      rwa [show i+1+k=i+(k+1) by omega]
    · simpa using hq
theorem MK {b off:Nat} {vs:List Value} {Q:Array Value→Seg→Prop} (h:SeesN I M b off vs) (hq:Q vs.toArray M):wpL P (loadCells ⟨b,off,none⟩ vs.length) Q I M:=by
  refine RM vs 0 #[] Q (fun k v hv=>?_) (by simpa using hq);have:=h k v hv
  rwa [Nat.zero_add]
def KC (cs:Array Value) (off:Nat):List Value→Array Value
  | []=>cs
  | v::r=>KC (cs.setIfInBounds off v) (off+1) r
theorem FR {b off : Nat} {T : TypeId} {k : Nat} : ∀ (vs : List Value) (i : Nat) (M : Seg) (cs : Array Value) (Q : Unit → Seg → Prop), M[k]? = some (b, Obj.cells cs T (0, 0)) →
    off+i+vs.length≤cs.size→(∀ v∈vs,CS v=true)→Q () (M.set k (b,.cells (KC cs (off+i) vs) T (0,0)))→wpL P (storeCells ⟨b,off,none⟩ vs i) Q I M:=by
  intro vs
  induction vs with
  | nil=>
    intro i M cs Q hk _ _ hq;have hl:k<M.length:=(List.getElem?_eq_some_iff.1 hk).1;have:M.set k (b,Obj.cells cs T (0,0))=M:=by
      apply List.ext_getElem?
      intro j
      by_cases e:k=j
      · subst e;rw [List.getElem?_set_self hl,hk]
      · rw [List.getElem?_set_ne e]
    simp only [KC] at hq;rw [this] at hq;exact hq
  | cons v vs ih=>
    intro i M cs Q hk hlen hone hq;have hl:k<M.length:=(List.getElem?_eq_some_iff.1 hk).1;simp only [List.length_cons] at hlen;simp only [storeCells];rw [AD];refine ⟨hone v (by simp),by rw [GY],k,cs,T,(0,0),by rw [GY];exact hk,by rw [GY];simp only;omega,by simp,?_⟩;rw [GY];refine ih (i+1) _ (cs.setIfInBounds (off+i) v) Q (by rw [List.getElem?_set_self hl]) (by simp;omega) (fun u hu=>hone u (by simp [hu])) ?_;rw [List.set_set];exact hq
end
def IJ (ρ:Operand→Value) (op:Op) (ty:TypeId):Sem Next:=execOp ρ { dst:=none,op,type:=ty,pos:="",after:=#[],guard:=none }
theorem FL (ρ:Operand→Value) (o:Oper):execOp ρ o=IJ ρ o.op o.type:=by cases o;rfl
section
variable {P:Program} [Jud P] {N:Nat} {ops:Array Oper} {i:Nat} {l:Sl} {I:Imm} {R M:Seg} {d:Nat} {ty:TypeId} {gd:Option (Nat × Bool)}
theorem LG {op : Op} {v : Value} (hop : EL ops N i = some (some d, op, ty, gd)) (hg : EK ops l gd = some true) (hk : ∀ x ∈ op.operands, known l x)
    (h:∀ I' N',I.le I'→wpL P (IJ (rho l) op ty) (fun n M'=>n=.value v∧M'=R++N') I' (R++N')):Det P N ops i l I R d v:=by
  obtain ⟨o,ho,hd,rfl,rfl,rfl,hN,hs⟩:=FN hop;refine ⟨o,ho,hd,hN d rfl,hs,.inr ⟨hg,hk,fun I' N' w hle st=>?_⟩⟩;rw [FL];refine (IX _ _ I' _ w (h I' N' hle) st).mono fun n σ' ⟨M',⟨hn,hm⟩,st'⟩=>?_
  subst hn hm;exact ⟨rfl,st'⟩
theorem det_skip {op:Op} (hop:EL ops N i=some (some d,op,ty,gd)) (hg:EK ops l gd=some false):Det P N ops i l I R d undef:=by
  obtain ⟨o,ho,hd,_,_,rfl,hN,hs⟩:=FN hop;exact ⟨o,ho,hd,hN d rfl,hs,.inl ⟨hg,rfl⟩⟩
theorem FT {op : Op} {v : Value} (hop : EL ops N i = some (some d, op, ty, gd)) (hg : EK ops l gd = some true) (hk : ∀ x ∈ op.operands, known l x)
    (h:∀ I' M',wpL P (IJ (rho l) op ty) (fun n M''=>n=.value v∧M''=M') I' M'):Det P N ops i l I R d v:=
  LG hop hg hk fun I' N' _=>h I' (R++N')
theorem DG {x:Operand} {v:Value} (h:BK l x=some v):known l x:=⟨v,h⟩
theorem HO {x y:Operand} {v u:Value} (hx:BK l x=some v) (hy:BK l y=some u):∀ z∈#[x,y],known l z:=fun z hz=>by
  simp at hz;rcases hz with rfl | rfl
  · exact DG hx
  · exact DG hy
theorem JX {x:Operand} {v:Value} (hx:BK l x=some v):∀ z∈#[x],known l z:=fun z hz=>by
  simp at hz;subst hz;exact DG hx
theorem known3 {x y z:Operand} {v u t:Value} (hx:BK l x=some v) (hy:BK l y=some u) (hz:BK l z=some t):∀ o∈#[x,y,z],known l o:=fun o ho=>by
  simp at ho;rcases ho with rfl | rfl | rfl
  · exact DG hx
  · exact DG hy
  · exact DG hz
def cmp (op:BinOp) (a b:Int):Bool:=
  match op with
  | .eql=>decide (a=b)
  | .neq=>decide (a≠b)
  | .lss=>decide (a<b)
  | .leq=>decide (a≤b)
  | .gtr=>decide (b<a)
  | .geq=>decide (b≤a)
  | _=>false
def isCmp:BinOp→Bool
  | .eql | .neq | .lss | .leq | .gtr | .geq=>true
  | _=>false
theorem det_cmp {op : BinOp} {x y : Operand} {T T' : TypeId} {k : IntKind} {a b : Int} (hop : EL ops N i = some (some d, .binOp op T x y T', ty, gd)) (hg : EK ops l gd = some true)
    (hx:BK l x=some (.int k a)) (hy:BK l y=some (.int k b)) (hc:isCmp op=true):Det P N ops i l I R d (.bool (cmp op a b)):=
  FT hop hg (HO hx hy) fun I' M'=>by
    show wpL P ((do eqGuard op T x y (rho l x) (rho l y);binOp op T (rho l x) (rho l y)) >>= fun x=>pure (Next.value x)) _ I' M';rw [AU hx,AU hy];have hne:∀ a b:Int,(a != b)=decide (a≠b):=fun a b=>by by_cases h:a=b <;> simp [h]
    have heq:∀ a b:Int,(a == b)=decide (a=b):=fun a b=>by by_cases h:a=b <;> simp [h]
    cases op <;> simp only [isCmp] at hc <;> first
      | (cases hc;done)
      | (simp only [eqGuard,binOp,Op.intCmp,cmp,ne_eq,not_true_eq_false,if_false]
         refine ⟨congrArg (fun b=>Next.value (.bool b)) ?_,rfl⟩
         first | rfl | exact heq a b | exact hne a b)
theorem det_cmp' {op : BinOp} {x y : Operand} {T T' : TypeId} {k : IntKind} {a b : Int} {c : Bool} (hop : EL ops N i = some (some d, .binOp op T x y T', ty, gd)) (hg : EK ops l gd = some true)
    (hx:BK l x=some (.int k a)) (hy:BK l y=some (.int k b)) (hc:isCmp op=true) (hb:cmp op a b=c):Det P N ops i l I R d (.bool c):=by
  subst hb;exact det_cmp hop hg hx hy hc
def arith (op:BinOp) (a b:Int):Int:=
  match op with
  | .add=>a+b
  | .sub=>a-b
  | _=>a*b
def isArith:BinOp→Bool
  | .add | .sub | .mul=>true
  | _=>false
theorem det_wrap {op : BinOp} {x y : Operand} {T T' : TypeId} {k : IntKind} {a b : Int} (hop : EL ops N i = some (some d, .binOp op T x y T', ty, gd)) (hg : EK ops l gd = some true)
    (hx:BK l x=some (.int k a)) (hy:BK l y=some (.int k b)) (hc:isArith op=true):Det P N ops i l I R d (.int k (k.wrap (arith op a b))):=
  FT hop hg (HO hx hy) fun I' M'=>by
    show wpL P ((do eqGuard op T x y (rho l x) (rho l y);binOp op T (rho l x) (rho l y)) >>= fun x=>pure (Next.value x)) _ I' M';rw [AU hx,AU hy]
    cases op <;> simp only [isArith] at hc <;> first
      | (cases hc;done)
      | (simp only [eqGuard,binOp,Op.intArith,arith,ne_eq,not_true_eq_false,if_false];exact ⟨rfl,rfl⟩)
theorem QL {n:Int} (h:-9223372036854775808≤n∧n≤9223372036854775807):IntKind.i64.wrap n=n:=IntWalk.i64_in n h
end
section
variable {P:Program} [Jud P] {N:Nat} {ops:Array Oper} {i:Nat} {l:Sl} {I:Imm} {R M:Seg} {d:Nat} {ty:TypeId} {gd:Option (Nat × Bool)}
theorem CB {P:Program} {s:Sem Value} {Q:Next→Seg→Prop} (h:wpL P s (fun x M'=>Q (.value x) M') I M):wpL P (s >>= fun x=>pure (Next.value x)) Q I M:=(AD s _ Q I M).2 h
theorem det_i64 {op : BinOp} {x y : Operand} {T T' : TypeId} {a b : Int} (hop : EL ops N i = some (some d, .binOp op T x y T', ty, gd)) (hg : EK ops l gd = some true)
    (hx:BK l x=some (.int .i64 a)) (hy:BK l y=some (.int .i64 b)) (hc:isArith op=true) (hr:-9223372036854775808≤arith op a b∧arith op a b≤9223372036854775807) :
    Det P N ops i l I R d (.int .i64 (arith op a b)):=by
  have:=det_wrap (P:=P) (I:=I) (R:=R) hop hg hx hy hc
  rwa [QL hr] at this
theorem det_add {x y : Operand} {T T' : TypeId} {a b : Int} (hop : EL ops N i = some (some d, .binOp .add T x y T', ty, gd)) (hg : EK ops l gd = some true)
    (hx:BK l x=some (.int .i64 a)) (hy:BK l y=some (.int .i64 b)) (hr:-9223372036854775808≤a+b∧a+b≤9223372036854775807):Det P N ops i l I R d (.int .i64 (a+b)):=
  det_i64 hop hg hx hy rfl hr
theorem det_sub {x y : Operand} {T T' : TypeId} {a b : Int} (hop : EL ops N i = some (some d, .binOp .sub T x y T', ty, gd)) (hg : EK ops l gd = some true)
    (hx:BK l x=some (.int .i64 a)) (hy:BK l y=some (.int .i64 b)) (hr:-9223372036854775808≤a-b∧a-b≤9223372036854775807):Det P N ops i l I R d (.int .i64 (a-b)):=
  det_i64 hop hg hx hy rfl hr
theorem det_mul {x y : Operand} {T T' : TypeId} {a b : Int} (hop : EL ops N i = some (some d, .binOp .mul T x y T', ty, gd)) (hg : EK ops l gd = some true)
    (hx:BK l x=some (.int .i64 a)) (hy:BK l y=some (.int .i64 b)) (hr:-9223372036854775808≤a*b∧a*b≤9223372036854775807):Det P N ops i l I R d (.int .i64 (a*b)):=
  det_i64 hop hg hx hy rfl hr
theorem det_bin {op : BinOp} {x y : Operand} {T T' : TypeId} {k k' : IntKind} {a b : Int} {v : Value} (hop : EL ops N i = some (some d, .binOp op T x y T', ty, gd)) (hg : EK ops l gd = some true)
    (hx:BK l x=some (.int k a)) (hy:BK l y=some (.int k' b)) (h:∀ I' M',wpL P (binOp op T (.int k a) (.int k' b)) (fun n M''=>n=v∧M''=M') I' M'):Det P N ops i l I R d v:=
  FT hop hg (HO hx hy) fun I' M'=>by
    show wpL P ((do eqGuard op T x y (rho l x) (rho l y);binOp op T (rho l x) (rho l y)) >>= fun x=>pure (Next.value x)) _ I' M';rw [AU hx,AU hy];have e:∀ s:Sem Value,(eqGuard op T x y (.int k a) (.int k' b) >>= fun _=>s)=s:=fun s=>by
      cases op <;> rfl
    rw [e];refine CB ?_;refine (?_:wpL P _ _ I' M');have:=h I' M';have hq:(fun (x:Value) (M'':Seg)=>Next.value x=Next.value v∧M''=M')=(fun n M''=>n=v∧M''=M'):=by
      funext x M'';simp
    rw [hq];exact this
theorem det_quo {x y : Operand} {T T' : TypeId} {a b : Int} (hop : EL ops N i = some (some d, .binOp .quo T x y T', ty, gd)) (hg : EK ops l gd = some true)
    (hx:BK l x=some (.int .i64 a)) (hy:BK l y=some (.int .i64 b)) (ha:0≤a∧a≤9223372036854775807) (hb:1≤b):Det P N ops i l I R d (.int .i64 (a/b)):=
  det_bin hop hg hx hy fun I' M'=>by
    have hne:b≠0:=by omega
    simp only [binOp,Op.intDiv,ne_eq,not_true_eq_false,if_false,if_neg hne];exact ⟨congrArg (Value.int .i64) (IntWalk.i64_quo a b ⟨ha.1,ha.2,hb⟩),rfl⟩
theorem det_rem {x y : Operand} {T T' : TypeId} {k : IntKind} {a b : Int} (hop : EL ops N i = some (some d, .binOp .rem T x y T', ty, gd)) (hg : EK ops l gd = some true)
    (hx:BK l x=some (.int k a)) (hy:BK l y=some (.int k b)) (ha:0≤a) (hb:1≤b):Det P N ops i l I R d (.int k (a%b)):=
  det_bin hop hg hx hy fun I' M'=>by
    have hne:b≠0:=by omega
    simp only [binOp,Op.intDiv,ne_eq,not_true_eq_false,if_false,if_neg hne];exact ⟨congrArg (Value.int k) (Int.tmod_eq_emod_of_nonneg ha),rfl⟩
theorem IZ {b : Builtin} {args : Array Operand} {tys : Array TypeId} {v : Value} {vals : List Value}
    (hop:EL ops N i=some (some d,.call { callee:=.builtin b,args,argTypes:=tys },ty,gd)) (hg:EK ops l gd=some true) (hk:∀ x∈args,known l x) (hvals:args.toList.map (rho l)=vals)
    (h:∀ I' N' (cs:Array Bool),I.le I'→wpL P (builtin b tys ty cs vals.toArray) (fun n M''=>n=.value v∧M''=R++N') I' (R++N')):Det P N ops i l I R d v:=
  LG hop hg (by simpa [Op.operands,Call.operands] using hk) fun I' N' hle=>by
    have e:args.map (rho l)=vals.toArray:=by
      apply Array.ext'
      simp [hvals]
    show wpL P (do let d ← resolve (rho l) { callee:=.builtin b,args,argTypes:=tys } ty;invoke d.target d.args) _ I' (R++N');unfold resolve;simp only [e];exact h I' N' _ hle
theorem FP {x : Operand} {T : TypeId} {s : ByteArray} (hop : EL ops N i = some (some d, .call { callee := .builtin .len, args := #[x], argTypes := #[T] }, ty, gd)) (hg : EK ops l gd = some true)
    (hT:P.underlying T=some .string) (hx:BK l x=some (.string s)):Det P N ops i l I R d (.int .i64 s.size):=
  IZ (vals:=[.string s]) hop hg (JX hx) (by simp [AU hx]) fun I' N' cs _=>by
    show wpL P (Builtin.len_ #[T] ty #[.string s] >>= fun x=>pure (Next.value x)) _ I' (R++N');refine CB ?_;unfold Builtin.len_;show wpL P (underlying T >>= _) _ I' (R++N');rw [AD,AJ hT];exact ⟨rfl,rfl⟩
theorem LW {x : Operand} {T : TypeId} {b off k o : Nat} (hop : EL ops N i = some (some d, .fieldAddr T x k, ty, gd)) (hg : EK ops l gd = some true) (hT : tyOff P T k = some o)
    (hx:BK l x=some (.pointer (some ⟨b,off,none⟩))):Det P N ops i l I R d (.pointer (some ⟨b,off+o,none⟩)):=
  FT hop hg (JX hx) fun I' M'=>by
    show wpL P (Instr.fieldAt T (rho l x) k >>= fun x=>pure (Next.value x)) _ I' M';rw [AU hx];refine CB ?_;unfold tyOff at hT
    split at hT
    · rename_i fs hu
      split at hT
      · rename_i f hf
        split at hT
        · rename_i n hn
          cases hT;unfold Instr.fieldAt;rw [AD,AJ hu];simp only [hf];show wpL P (do let a ← (pure ⟨b,off,none⟩:Sem Addr);pure (Value.pointer (some (← fieldPlace a f)))) _ I' M';show wpL P (fieldPlace ⟨b,off,none⟩ f >>= fun p=>pure (Value.pointer (some p))) _ I' M';rw [AD];unfold fieldPlace;rw [AD,BL hn];show wpL P (pure (Addr.add ⟨b,off,none⟩ f.offset)) _ I' M';rw [GY];exact ⟨rfl,rfl⟩
        · cases hT
      · cases hT
    · cases hT
theorem det_indexAddr {x y : Operand} {T e : TypeId} {sz b off n c : Nat} {a : Option Addr} {k : IntKind} {j : Int} (hop : EL ops N i = some (some d, .indexAddr T x y, ty, gd)) (hg : EK ops l gd = some true)
    (hT:HU P T=some e) (hsz:DR P e=some sz) (hx:BK l x=some (.slice a n c)) (hy:BK l y=some (.int k j)) (ha:0<n→a=some ⟨b,off,none⟩) (hj:0≤j) (hj':j<n) :
    Det P N ops i l I R d (.pointer (some ⟨b,off+j.toNat*sz,none⟩)):=
  FT hop hg (HO hx hy) fun I' M'=>by
    obtain rfl:=ha (by omega);show wpL P (Instr.indexAt T (rho l x) (rho l y) >>= fun x=>pure (Next.value x)) _ I' M';rw [AU hx,AU hy];refine CB ?_;unfold Instr.indexAt;show wpL P (underlying T >>= _) _ I' M';rw [AD,AJ (CT hT)];show wpL P (underlying T >>= _) _ I' M';rw [AD,AJ (CT hT)];simp only;rw [if_pos ⟨hj,hj'⟩];rw [AD,BL hsz];show _∧_;rw [GY];exact ⟨rfl,rfl⟩
theorem OY {x : Operand} {T : TypeId} {b off : Nat} {v : Value} (hop : EL ops N i = some (some d, .load T x, ty, gd)) (hg : EK ops l gd = some true) (hT : EJ P T = some false)
    (hx:BK l x=some (.pointer (some ⟨b,off,none⟩))) (hs:Sees I R ⟨b,off,none⟩ v):Det P N ops i l I R d v:=
  LG hop hg (JX hx) fun I' N' hle=>by
    show wpL P (Instr.loadAt T (rho l x) >>= fun x=>pure (Next.value x)) _ I' (R++N');rw [AU hx];refine CB ?_;show wpL P (loadVar T ⟨b,off,none⟩) _ I' (R++N');unfold loadVar;rw [AD,KG hT];exact ⟨v,hs.mono hle,rfl,rfl⟩
theorem GP {x : Operand} {T : TypeId} {b off n : Nat} {vs : List Value} (hop : EL ops N i = some (some d, .load T x, ty, gd)) (hg : EK ops l gd = some true) (hT : EJ P T = some true) (hsz : DR P T = some n)
    (hx:BK l x=some (.pointer (some ⟨b,off,none⟩))) (hn:vs.length=n) (hs:SeesN I R b off vs):Det P N ops i l I R d (.agg vs.toArray):=
  LG hop hg (JX hx) fun I' N' hle=>by
    show wpL P (Instr.loadAt T (rho l x) >>= fun x=>pure (Next.value x)) _ I' (R++N');rw [AU hx];refine CB ?_;show wpL P (loadVar T ⟨b,off,none⟩) _ I' (R++N');unfold loadVar;rw [AD,KG hT];simp only [if_true];rw [AD,BL hsz,AD];subst hn;exact MK (hs.mono hle) ⟨rfl,rfl⟩
theorem seesN_at {b off n:Nat} {cs:Array Value} {T:TypeId} {fz:Nat × Nat} {vs:List Value} (k:Nat) (h:M[k]?=some (b,Obj.cells cs T fz)) (hv:(cs.toList.drop off).take n=vs):SeesN I M b off vs:=fun j v hj=>by
  subst hv;refine sees_at k h ?_;rw [List.getElem?_take] at hj
  split at hj
  · rw [List.getElem?_drop] at hj
    rw [← Array.getElem?_toList];exact hj
  · cases hj
theorem det_build {T : TypeId} {parts : Array (Nat × Operand)} {vals : List (Nat × Value)} {v : Value} (hop : EL ops N i = some (some d, .build T parts, ty, gd)) (hg : EK ops l gd = some true)
    (hk:∀ x∈(Op.build T parts).operands,known l x) (hv:parts.toList.map (fun x=>(x.1,rho l x.2))=vals)
    (h:∀ x:Go.World × Array Event,(Instr.build T vals.toArray).runT P x.1 x.2=(.ok v x.1,x.2)):Det P N ops i l I R d v:=by
  obtain ⟨o,ho,hd,he,rfl,rfl,hN,hs⟩:=FN hop;refine ⟨o,ho,hd,hN d rfl,hs,.inr ⟨hg,by rw [he];exact hk,fun I' N' w hle st=>?_⟩⟩;rw [FL,he];have e:(parts.map fun x=>(x.1,rho l x.2))=vals.toArray:=by
    apply Array.ext'
    simp [← hv]
  show Res P _ (Instr.build T (parts.map fun x=>(x.1,rho l x.2)) >>= fun x=>pure (Next.value x)) w;rw [e];exact SemTo.bind fun w1 hw=>⟨v,w1,#[],w,fun es0=>by rw [h (w1,es0)];simp,.refl hw,SemTo.pure ⟨rfl,st⟩⟩
theorem EO {P:Program} {x:Value} {k:IntKind} {j:Int} {y:Nat} {code:BoundsCode} {Q:Nat→Seg→Prop} (hx:x=.int k j) (h:0≤j∧j≤y) (hq:Q j.toNat M):wpL P (Instr.sliceBound x y code) Q I M:=by
  subst hx;unfold Instr.sliceBound;show wpL P (if 0≤j∧j≤y then pure j.toNat else boundsPanic k j y code) _ I M;rw [if_pos h];exact hq
theorem HN {x : Operand} {lo hi : Option Operand} {T e : TypeId} {sz n c : Nat} {a : Option Addr} (L H : Nat) (hop : EL ops N i = some (some d, .slice T x lo hi none, ty, gd)) (hg : EK ops l gd = some true)
    (hT:HU P T=some e) (hsz:DR P e=some sz) (hx:BK l x=some (.slice a n c))
    (hlo:(lo=none∧L=0)∨∃ y k,lo=some y∧BK l y=some (.int k (L:Int)))
    (hhi:(hi=none∧H=n)∨∃ y k,hi=some y∧BK l y=some (.int k (H:Int)))
    (hL:L≤H) (hH:H≤c):Det P N ops i l I R d (.slice (if c=L then a else a.map (·.add (L*sz))) (H-L) (c-L)):=
  FT hop hg (by
    intro z hz
    simp only [Op.operands] at hz
    simp only [Array.mem_append] at hz
    rcases hz with ((hz | hz) | hz) | hz
    · exact JX hx z hz
    · rcases hlo with ⟨rfl,_⟩ | ⟨y,k,rfl,hy⟩
      · simp at hz
      · simp at hz;subst hz;exact DG hy
    · rcases hhi with ⟨rfl,_⟩ | ⟨y,k,rfl,hy⟩
      · simp at hz
      · simp at hz;subst hz;exact DG hy
    · simp at hz) fun I' M'=>by
    show wpL P (Instr.sliceAt T (rho l x) (lo.map (rho l)) (hi.map (rho l)) none >>= fun x=>pure (Next.value x)) _ I' M';rw [AU hx];refine CB ?_;unfold Instr.sliceAt;rw [AD,AJ (CT hT)];show wpL P (Instr.slice T _ _ _ _) _ I' M';unfold Instr.slice;rw [AD,AJ (CT hT)];simp only;rw [AD];unfold Instr.sliceBounds;have hcap:(H:Int)≤(c:Int):=by omega
    rcases hhi with ⟨rfl,rfl⟩ | ⟨y,k,rfl,hy⟩
    · rcases hlo with ⟨rfl,rfl⟩ | ⟨z,k',rfl,hz⟩
      · simp only [Option.map_none,AD,CL]
        rw [BL hsz];exact ⟨rfl,rfl⟩
      · simp only [Option.map_none,Option.map_some,AD,CL]
        refine EO (AU hz) ⟨by omega,by omega⟩ ?_;rw [BL hsz];simp only [Int.toNat_natCast]
        first | exact ⟨rfl,rfl⟩ | exact ⟨trivial,trivial⟩
    · rcases hlo with ⟨rfl,rfl⟩ | ⟨z,k',rfl,hz⟩
      · simp only [Option.map_none,Option.map_some,AD,CL]
        refine EO (AU hy) ⟨by omega,hcap⟩ ?_;rw [BL hsz];simp only [Int.toNat_natCast]
        first | exact ⟨rfl,rfl⟩ | exact ⟨trivial,trivial⟩
      · simp only [Option.map_none,Option.map_some,AD,CL]
        refine EO (AU hy) ⟨by omega,hcap⟩ ?_;simp only [Int.toNat_natCast];refine EO (AU hz) ⟨by omega,by omega⟩ ?_;rw [BL hsz];simp only [Int.toNat_natCast]
        first | exact ⟨rfl,rfl⟩ | exact ⟨trivial,trivial⟩
end
section
variable {P:Program} [Jud P] {N:Nat} {ops:Array Oper} {i:Nat} {l:Sl} {I:Imm} {R M:Seg} {ty:TypeId} {gd:Option (Nat × Bool)} {K:Sl→Imm→Seg→Prop}
theorem CI {op : Op} {dst : Option Tmp} (hop : EL ops N i = some (dst, op, ty, gd)) (hg : EK ops l gd = some true) (hk : ∀ x ∈ op.operands, known l x)
    (h:wpL P (IJ (rho l) op ty) (fun n M'=>∃ v,(n=.value v∨(n=.skip∧v=undef))∧K (ups dst v l) I M') I M):Stp P N ops i l I M K:=by
  obtain ⟨o,ho,rfl,rfl,rfl,rfl,hN,hs⟩:=FN hop;refine ⟨o,ho,hN,hs,hg,hk,fun w st=>?_⟩;rw [FL];refine (IX _ _ I M w h st).mono fun n σ' ⟨M',⟨v,hn,hK⟩,st'⟩=>?_
  rcases hn with rfl | ⟨rfl,rfl⟩
  · exact ⟨I,M',Imm.le.refl I,st',hK⟩
  · exact ⟨I,M',Imm.le.refl I,st',hK⟩
theorem KD {op : Op} {dst : Option Tmp} {M0 : Seg} (hop : EL ops N i = some (dst, op, ty, gd)) (hg : EK ops l gd = some true) (hk : ∀ x ∈ op.operands, known l x) (hM : M.Perm M0)
    (h:wpL P (IJ (rho l) op ty) (fun n M'=>∃ v M'',(n=.value v∨(n=.skip∧v=undef))∧M''.Sublist M'∧K (ups dst v l) I M'') I M0):Stp P N ops i l I M K:=by
  obtain ⟨o,ho,rfl,rfl,rfl,rfl,hN,hs⟩:=FN hop;refine ⟨o,ho,hN,hs,hg,hk,fun w st=>?_⟩;rw [FL];refine (IX _ _ I M0 w h (st.perm hM)).mono fun n σ' ⟨M',⟨v,M'',hn,hsub,hK⟩,st'⟩=>?_
  rcases hn with rfl | ⟨rfl,rfl⟩
  · exact ⟨I,M'',Imm.le.refl I,st'.sub hsub,hK⟩
  · exact ⟨I,M'',Imm.le.refl I,st'.sub hsub,hK⟩
theorem wpL_newVar {P:Program} {T:TypeId} {v:Value} {Q:Addr→Seg→Prop} (h:∀ b,Q ⟨b,0,none⟩ ((b,.cells v.cells T)::M)):wpL P (newVar T v) Q I M:=fun b=>h b
theorem stp_box {d : Nat} {T : TypeId} {x : Operand} {v : Value} {cs : Array Value} (hop : EL ops N i = some (some d, .box T x, ty, gd)) (hg : EK ops l gd = some true) (hx : BK l x = some v) (hcs : v.cells = cs)
    (h:∀ b,K ((d,.pointer (some ⟨b,0,none⟩))::l) I ((b,.cells cs T)::M)):Stp P N ops i l I M K:=
  CI hop hg (JX hx) (by
    show wpL P (Instr.box T (rho l x) >>= fun x=>pure (Next.value x)) _ I M
    rw [AU hx]
    refine CB ?_
    unfold Instr.box
    rw [AD]
    refine wpL_newVar fun b=>?_
    subst hcs
    exact ⟨_,.inl rfl,h b⟩)
theorem stp_alloc {d : Nat} {T : TypeId} {z : Value} {cs : Array Value} (hop : EL ops N i = some (some d, .alloc T, ty, gd)) (hg : EK ops l gd = some true) (hz : HK P T = some z) (hcs : z.cells = cs)
    (h:∀ b,K ((d,.pointer (some ⟨b,0,none⟩))::l) I ((b,.cells cs T)::M)):Stp P N ops i l I M K:=
  CI hop hg (by simp [Op.operands]) (by
    show wpL P (Instr.alloc T true (.tuple #[]) >>= fun x=>pure (Next.value x)) _ I M
    refine CB ?_
    unfold Instr.alloc
    rw [AD,DI hz]
    show wpL P (newVar T z >>= fun a=>pure (Value.pointer (some a))) _ I M
    rw [AD]
    refine wpL_newVar fun b=>?_
    subst hcs
    exact ⟨_,.inl rfl,h b⟩)
theorem IC {d : Nat} {T : TypeId} (hop : EL ops N i = some (some d, .makeMap T none, ty, gd)) (hg : EK ops l gd = some true)
    (h:∀ b,K ((d,.map (some b))::l) I ((b,.map #[] 0)::M)):Stp P N ops i l I M K:=
  CI hop hg (by simp [Op.operands]) (fun b=>⟨_,.inl rfl,h b⟩)
theorem stp_buildSlice {d : Nat} {T e : TypeId} {n sz : Nat} {z : Value} {parts : Array (Nat × Operand)} {vals : List (Nat × Value)} {cs : Array Value} (hop : EL ops N i = some (some d, .buildSlice T n parts, ty, gd)) (hg : EK ops l gd = some true)
    (hT:HU P T=some e) (hsz:DR P e=some sz) (hz:HK P e=some z)
    (hk:∀ x∈(Op.buildSlice T n parts).operands,known l x) (hv:parts.toList.map (fun x=>(x.1,rho l x.2))=vals) (hn:n*sz≤16777216)
    (hf:Instr.fill (fun i=>some (i*sz,sz)) ((Array.range (n*sz)).map (fun k=>(if n*sz=0 then #[] else z.cells)[k%(if n*sz=0 then (#[]:Array Value) else z.cells).size]!)) vals=some cs)
    (h:∀ b,K ((d,.slice (some ⟨b,0,none⟩) n n)::l) I ((b,.cells cs e)::M)):Stp P N ops i l I M K:=
  CI hop hg hk (by
    have e1:(parts.map fun x=>(x.1,rho l x.2)).toList=vals:=by simp [← hv]
    unfold IJ execOp
    simp only
    refine CB ?_
    unfold Instr.buildSlice
    rw [AD,AJ (CT hT)]
    show wpL P (sizeOf e >>= _) _ I M
    rw [AD,BL hsz]
    rw [if_neg (show ¬ n*sz>2 ^ 24 by omega)]
    have key : ∀ (zz : Array Value), zz = (if n * sz = 0 then #[] else z.cells) → wpL P (do
        let some cells:=Instr.fill (fun i=>some (i*sz,sz)) ((Array.range (n*sz)).map (zz[·%zz.size]!)) (parts.map fun x=>(x.1,rho l x.2)).toList | stuck "buildSlice: a part of the wrong size"
        pure (Value.slice (some (← newRow e cells)) n n)) (fun x M'=>∃ v,(Next.value x=.value v∨(Next.value x=.skip∧v=undef))∧K ((d,v)::l) I M') I M:=fun zz hzz=>by
      subst hzz
      rw [e1,hf]
      show wpL P (newRow e cs >>= fun a=>pure (Value.slice (some a) n n)) _ I M
      rw [AD]
      exact fun b=>⟨_,.inl rfl,h b⟩
    dsimp only
    by_cases h0:n*sz=0
    · rw [if_pos h0]
      exact key #[] (by rw [if_pos h0])
    · rw [if_neg h0,AD,DI hz]
      exact key z.cells (by rw [if_neg h0]))
theorem stp_store {T : TypeId} {x y : Operand} {v : Value} {cs cs' vs : List Value} {S : TypeId} {b off n : Nat} {M' : Seg} (k : Nat) (hop : EL ops N i = some (none, .store T x y, ty, gd)) (hg : EK ops l gd = some true)
    (hx:BK l x=some (.pointer (some ⟨b,off,none⟩))) (hy:BK l y=some v) (hsz:DR P T=some n) (hvs:v.cells.toList=vs) (hn:vs.length=n) (hone:vs.all CS=true)
    (hk:M[k]?=some (b,Obj.cells cs.toArray S (0,0))) (hle:off+vs.length≤cs.length) (hset:(KC cs.toArray off vs).toList=cs') (hM:M.set k (b,Obj.cells cs'.toArray S (0,0))=M')
    (h:K l I M'):Stp P N ops i l I M K:=
  CI hop hg (HO hx hy) (by
    show wpL P (Instr.storeAt T (rho l x) (rho l y) >>= fun _=>pure Next.skip) _ I M
    rw [AU hx,AU hy,AD]
    show wpL P (storeVar T ⟨b,off,none⟩ v) _ I M
    unfold storeVar
    rw [AD,BL hsz]
    have hl:v.cells.size=n:=by rw [← Array.length_toList,hvs,hn]
    rw [if_neg (by simp [hl])]
    show wpL P (storeCells ⟨b,off,none⟩ v.cells.toList) _ I M
    rw [hvs]
    refine FR vs 0 M cs.toArray _ hk (by simpa using hle) (fun u hu=>List.all_eq_true.1 hone u hu) ?_
    rw [Nat.add_zero]
    have:KC cs.toArray off vs=cs'.toArray:=by apply Array.ext';simp [hset]
    rw [this,hM]
    exact ⟨undef,.inr ⟨rfl,rfl⟩,h⟩)
def NT (l:Sl):List Operand→Option (List Value)
  | []=>some []
  | x::r=>match BK l x with
    | some v=>match NT l r with
      | some vs=>some (v::vs)
      | none=>none
    | none=>none
theorem HF {xs:List Operand}:∀ {vs:List Value},NT l xs=some vs→(∀ x∈xs,known l x)∧xs.map (rho l)=vs:=by
  induction xs with
  | nil=>intro vs h;simp [NT] at h;subst h;exact ⟨fun _ h=>by simp at h,rfl⟩
  | cons x xs ih=>
    intro vs h;simp only [NT] at h;cases hx:BK l x with
    | none=>rw [hx] at h;cases h
    | some v=>
      rw [hx] at h;simp only at h;cases hr:NT l xs with
      | none=>rw [hr] at h;cases h
      | some us=>
        rw [hr] at h;cases h;obtain ⟨h1,h2⟩:=ih hr
        exact ⟨fun z hz=>by
          rcases List.mem_cons.1 hz with rfl | hz
          · exact DG hx
          · exact h1 z hz,by simp [AU hx,h2]⟩
def CX (P:Program) (f:FuncId):Bool:=
  match P.funcs[f]? with
  | some fn=>!(fn.name == "runtime.NumGoroutine")&&fn.body.isSome
  | none=>false
theorem LV {P:Program} {f:FuncId} (h:CX P f=true) (args:Array Value) (w:GW) (K:Next→GW→Prop) (hk:K (.enter f args) w):SemTo P (callFunc f args) w K:=by
  unfold CX at h;cases hf:P.funcs[f]? with
  | none=>rw [hf] at h;cases h
  | some fn=>
    rw [hf] at h;simp only [Bool.and_eq_true,Bool.not_eq_true'] at h;have h1:(fn.name == "runtime.NumGoroutine")=false:=h.1;have h2:fn.body.isNone=false:=by cases hb:fn.body <;> simp_all
    unfold callFunc;refine SemTo.bind fun w1 hw=>⟨P,w1,#[],w,fun es0=>by rw [Array.append_empty];rfl,.refl hw,?_⟩
    simp only [hf,h1,h2,Bool.false_eq_true,if_false];exact SemTo.pure hk
theorem call_to {P : Program} {f : Operand} {fid : FuncId} {args : Array Operand} {tys : Array TypeId} {vals cv : List Value} {ρ : Operand → Value} {w : GW} {K : Next → GW → Prop} (hf : ρ f = .func (.func fid) #[] cv.toArray) (hvals : args.toList.map ρ = vals) (hc : CX P fid = true)
    (hk:K (.enter fid (vals++cv).toArray) w):SemTo P (IJ ρ (.call { callee:=.value f,args,argTypes:=tys }) ty) w K:=by
  have e:args.map ρ=vals.toArray:=by apply Array.ext';simp [hvals]
  show SemTo P (do let d ← resolve ρ { callee:=.value f,args,argTypes:=tys } ty;invoke d.target d.args:Sem Next) w K;unfold resolve;simp only [e,hf,Deferred.ofValue];show SemTo P (callFunc fid ((#[]++vals.toArray)++cv.toArray)) w K;refine LV hc _ _ _ ?_
  simpa using hk
theorem KR {d : Option Tmp} {f : Operand} {fid : FuncId} {args : Array Operand} {tys : Array TypeId} {vals cv : List Value} {pre F : Seg} {post : Value → Imm → Seg → Prop} {argv : Array Value}
    (hop:EL ops N i=some (d,.call { callee:=.value f,args,argTypes:=tys },ty,gd)) (hg:EK ops l gd=some true) (hf:BK l f=some (.func (.func fid) #[] cv.toArray)) (hv:NT l args.toList=some vals)
    (hc:CX P fid=true) (ha:(vals++cv).toArray=argv) (ct:Ct P fid argv I pre post) (hM:M.Perm (pre++F))
    (h:∀ v I' M',I.le I'→post v I' M'→K (ups d v l) I' (M'++F)):Stp P N ops i l I M K:=by
  obtain ⟨o,ho,rfl,he,rfl,rfl,hN,hs⟩:=FN hop;obtain ⟨h1,h2⟩:=HF hv;refine ⟨o,ho,hN,hs,hg,?_,fun w st=>?_⟩
  · rw [he]
    intro x hx;simp only [Op.operands,Call.operands] at hx;rcases Array.mem_append.1 hx with hx | hx
    · simp at hx;subst hx;exact DG hf
    · exact h1 x (by simpa using hx)
  · rw [FL,he]
    refine call_to (AU hf) h2 hc ?_;rw [ha];exact (ct.all F w (st.perm hM)).mono fun v w' ⟨I',M',hle,hp,st'⟩=>⟨I',M'++F,hle,st',h v I' M' hle hp⟩
theorem NH {d : Nat} {f : Operand} {fid : FuncId} {args : Array Operand} {tys : Array TypeId} {vals cv : List Value} {v : Value} {argv : Array Value}
    (hop:EL ops N i=some (some d,.call { callee:=.value f,args,argTypes:=tys },ty,gd)) (hg:EK ops l gd=some true) (hf:BK l f=some (.func (.func fid) #[] cv.toArray)) (hv:NT l args.toList=some vals)
    (hc:CX P fid=true) (ha:(vals++cv).toArray=argv) (ct:∀ I',I.le I'→CtV P fid argv I' v):Det P N ops i l I R d v:=by
  obtain ⟨o,ho,hd,he,rfl,rfl,hN,hs⟩:=FN hop;obtain ⟨h1,h2⟩:=HF hv;refine ⟨o,ho,hd,hN d rfl,hs,.inr ⟨hg,?_,fun I' N' w hle st=>?_⟩⟩
  · rw [he]
    intro x hx;simp only [Op.operands,Call.operands] at hx;rcases Array.mem_append.1 hx with hx | hx
    · simp at hx;subst hx;exact DG hf
    · exact h1 x (by simpa using hx)
  · rw [FL,he]
    refine call_to (AU hf) h2 hc ?_;rw [ha];exact ((ct I' hle).all (R++N') w st).mono fun u w' ⟨I'',M',hle',⟨hu,hm⟩,st'⟩=>by
      subst hu hm;exact ⟨rfl,st'.less hle'⟩
end
end Go.Sl

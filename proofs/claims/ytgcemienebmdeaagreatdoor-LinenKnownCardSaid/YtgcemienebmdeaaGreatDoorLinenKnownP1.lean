/- A part of the proof of the laws of this seat. -/
import Derived.Test.YtgcemienebmdeaaGreatDoorLinenKnownP0
import Derived.KernelRfl
set_option linter.unusedVariables false
set_option linter.unusedSimpArgs false
namespace Go.Sl
open Go
def waits (ops:Array Oper):Nat→Nat→Nat→Bool
  | 0,_,_=>false
  | f+1,j,i=>
    match ops[j]? with
    | some o=>o.after.any (fun e=>Region.binds .any e&&Nat.beq e.on i)||o.after.any (fun e=>Region.binds .any e&&waits ops f e.on i)
    | none=>false
def GO (listed:Array Bool) (k:Nat):Prop:=listed.getD k false=true
def RU (ops:Array Oper) (listed:Array Bool):Prop:=
  ∀ k,GO listed k→∀ o,ops[k]?=some o→∀ e∈o.after,Region.binds .any e=true→GO listed e.on
theorem waits_done {ops : Array Oper} {listed : Array Bool} (hc : RU ops listed) : ∀ (f j i : Nat), (∀ o, ops[j]? = some o → ∀ e ∈ o.after, Region.binds .any e = true → GO listed e.on) →
    waits ops f j i=true→GO listed i:=by
  intro f
  induction f with
  | zero=>intro j i _ h;cases h
  | succ f ih=>
    intro j i hj h;simp only [waits] at h;cases ho:ops[j]? with
    | none=>rw [ho] at h;cases h
    | some o=>
      rw [ho] at h;simp only [Bool.or_eq_true,Array.any_eq_true] at h;rcases h with ⟨k,hk,h⟩ | ⟨k,hk,h⟩
      · rw [Bool.and_eq_true] at h
        have:=hj o ho _ (Array.getElem_mem hk) h.1;rw [Nat.eq_of_beq_eq_true h.2] at this;exact this
      · rw [Bool.and_eq_true] at h
        have hd:=hj o ho _ (Array.getElem_mem hk) h.1;exact ih _ i (fun o' ho' e he hb=>hc _ hd o' ho' e he hb) h.2
def rowM (W M:Nat):List Edge→Nat
  | []=>0
  | e::es=>bif Region.binds .any e then Nat.lor (Nat.lor (2 ^ e.on) (Nat.shiftRight M (e.on*W))) (rowM W M es) else rowM W M es
def goM (W:Nat):List Oper→Nat→Nat→Nat
  | [],_,M=>M
  | o::r,j,M=>goM W r (j+1) (Nat.lor M (Nat.shiftLeft (rowM W M o.after.toList%2 ^ W) (j*W)))
def wbits (ops:Array Oper):Nat:=goM ops.size ops.toList 0 0
def wt (ops:Array Oper) (j i:Nat):Bool:=Nat.blt i ops.size&&Nat.testBit (wbits ops) (j*ops.size+i)
def Behind (ops:Array Oper) (j i:Nat):Prop:=∃ f,waits ops f j i=true
theorem behind_edge {ops:Array Oper} {j i:Nat} {o:Oper} (ho:ops[j]?=some o) {e:Edge} (he:e∈o.after.toList) (hb:Region.binds .any e=true) (h:e.on=i∨Behind ops e.on i):Behind ops j i:=by
  rcases h with h | ⟨f,h⟩
  · exact ⟨1, by
      simp only [waits,ho,Bool.or_eq_true,Array.any_eq_true']
      exact .inl ⟨e,by simpa using he,by rw [hb,h];simp⟩⟩
  · exact ⟨f + 1, by
      simp only [waits,ho,Bool.or_eq_true,Array.any_eq_true']
      exact .inr ⟨e,by simpa using he,by rw [hb,h];rfl⟩⟩
def BitsOk (ops:Array Oper) (W j M:Nat):Prop:=∀ k i,i<W→Nat.testBit M (k*W+i)=true→k<j∧Behind ops k i
theorem rowM_spec {ops:Array Oper} {W j M:Nat} (hM:BitsOk ops W j M) {o:Oper} (ho:ops[j]?=some o):∀ (es:List Edge),(∀ e∈es,e∈o.after.toList)→∀ i,i<W→Nat.testBit (rowM W M es) i=true→Behind ops j i:=by
  intro es
  induction es with
  | nil=>intro _ i _ h;simp [rowM] at h
  | cons e es ih=>
    intro hs i hi h;simp only [rowM] at h;cases hb:Region.binds .any e with
    | false=>rw [hb] at h;exact ih (fun x hx=>hs x (List.mem_cons_of_mem _ hx)) i hi h
    | true=>
      rw [hb] at h;simp only [cond_true] at h;have h':Nat.testBit ((2 ^ e.on ||| (M >>> (e.on*W))) ||| rowM W M es) i=true:=h;rw [Nat.testBit_or,Nat.testBit_or,Bool.or_eq_true,Bool.or_eq_true] at h';rcases h' with (h1 | h1) | h1
      · rw [Nat.testBit_two_pow] at h1
        exact behind_edge ho (hs e (by simp)) hb (.inl (of_decide_eq_true h1))
      · rw [Nat.testBit_shiftRight] at h1
        exact behind_edge ho (hs e (by simp)) hb (.inr (hM e.on i hi h1).2)
      · exact ih (fun x hx=>hs x (List.mem_cons_of_mem _ hx)) i hi h1
theorem goM_spec {ops:Array Oper} {W:Nat}:∀ (r:List Oper) (j M:Nat),(∀ k o,r[k]?=some o→ops[j+k]?=some o)→BitsOk ops W j M→∃ J,BitsOk ops W J (goM W r j M):=by
  intro r
  induction r with
  | nil=>intro j M _ h;exact ⟨j,h⟩
  | cons o r ih=>
    intro j M hr hM;simp only [goM];refine ih (j+1) _ (fun k q hk=>by rw [show j+1+k=j+(k+1) by omega];exact hr (k+1) q hk) ?_;intro k i hi h;have h':Nat.testBit (M ||| ((rowM W M o.after.toList%2 ^ W) <<< (j*W))) (k*W+i)=true:=h;rw [Nat.testBit_or,Bool.or_eq_true] at h';rcases h' with h1 | h1
    · obtain ⟨a,b⟩:=hM k i hi h1
      exact ⟨by omega,b⟩
    · rw [Nat.testBit_shiftLeft,Bool.and_eq_true,Nat.testBit_mod_two_pow,Bool.and_eq_true] at h1
      obtain ⟨g1,g2,g3⟩:=h1;have g1:=of_decide_eq_true g1;have g2:=of_decide_eq_true g2;have hW:0<W:=by omega
      have e:k=j:=by
        have h1:(k*W+i)/W=k:=by rw [Nat.mul_comm,Nat.mul_add_div hW,Nat.div_eq_of_lt hi,Nat.add_zero]
        have h2:(j*W+(k*W+i-j*W))/W=j:=by rw [Nat.mul_comm j W,Nat.mul_add_div hW,Nat.div_eq_of_lt (by rw [Nat.mul_comm W j];exact g2),Nat.add_zero]
        rw [show j*W+(k*W+i-j*W)=k*W+i by omega] at h2;omega
      subst e;rw [show k*W+i-k*W=i by omega] at g3;exact ⟨by omega,rowM_spec hM (hr 0 o rfl) _ (fun _ hx=>hx) i hi g3⟩
theorem wt_behind {ops:Array Oper} {j i:Nat} (h:wt ops j i=true):Behind ops j i:=by
  unfold wt at h;rw [Bool.and_eq_true] at h;obtain ⟨J,hJ⟩:=goM_spec (ops:=ops) (W:=ops.size) ops.toList 0 0 (fun k o hk=>by simpa using hk) (fun k i _ h=>by simp at h);exact (hJ j i (Nat.le_of_ble_eq_true h.1) h.2).2
theorem KH {ops:Array Oper} {listed:Array Bool} (hc:RU ops listed) (j i:Nat) (h1:∀ o,ops[j]?=some o→∀ e∈o.after,Region.binds .any e=true→GO listed e.on) (h:wt ops j i=true):GO listed i:=
  let ⟨f,hf⟩:=wt_behind h
  waits_done hc f j i h1 hf
def EA (ops:Array Oper) (i t:Nat):Bool:=
  match ops[i]? with
  | some o=>(o.looksAt ops).any (fun u=>Nat.beq u t)
  | none=>false
def dstB (ops:Array Oper) (i t:Nat):Bool:=
  match ops[i]? with
  | some o=>match o.dst with
    | some d=>Nat.beq d t
    | none=>false
  | none=>false
def DW (ops:Array Oper) (i:Nat):Option Nat:=(ops[i]?).bind (·.dst)
def freeOf (ops:Array Oper) (j i:Nat):Bool:=
  match DW ops j with
  | some d=>!EA ops i d&&!dstB ops i d
  | none=>true
inductive Fresh
  | sl (E:TypeId)
  | cl (T:TypeId) (cs:Array Value)
  | bs (T:TypeId) (n:Nat) (cs:Array Value)
def CC:List (Nat × Nat × Fresh)→Nat→Option (Nat × Fresh)
  | [],_=>none
  | x::r,i=>bif Nat.beq x.1 i then some x.2 else CC r i
def isAl (als:List Nat) (i:Nat):Bool:=als.any fun k=>Nat.beq k i
def ML (als:List Nat) (ops:Array Oper) (x y:Nat × Bool):Bool:=
  bif x.2 then
    (match DW ops x.1 with | some d=>!EA ops y.1 d||wt ops y.1 x.1 | none=>true) &&
    (bif y.2 then freeOf ops y.1 x.1 else (wt ops y.1 x.1||freeOf ops y.1 x.1))
  else wt ops y.1 x.1||(isAl als y.1&&(!y.2&&freeOf ops y.1 x.1))
def okSelf (ops:Array Oper) (x:Nat × Bool):Bool:=match DW ops x.1 with | some d=>!EA ops x.1 d | none=>true
def HD (als:List Nat) (ops:Array Oper):List (Nat × Bool)→Bool
  | []=>true
  | x::r=>(r.all (ML als ops x)&&okSelf ops x)&&HD als ops r
def okPreds (ops:Array Oper):List Nat→List (Nat × Bool)→Bool
  | _,[]=>true
  | seen,x::r=>(match ops[x.1]? with | some o=>o.after.all (fun e=>!Region.binds .any e||seen.any (fun k=>Nat.beq k e.on)) | none=>false)&&okPreds ops (x.1::seen) r
def okTail (ops:Array Oper) (n0:Nat):Bool:=
  (List.range ops.size).all fun j=>Nat.blt j n0||((List.range j).all (fun i=>wt ops j i)&&(match ops[j]? with | some o=>o.after.all (fun e=>!Region.binds .any e||Nat.blt e.on j) | none=>false))
def okAllX (als:List Nat) (ops:Array Oper) (n0:Nat) (order:List (Nat × Bool)):Bool:=
  HD als ops order&&okPreds ops [] order&&okTail ops n0&&Nat.ble n0 ops.size&&order.all (fun x=>Nat.blt x.1 n0)&&(List.range n0).all (fun k=>order.any (fun x=>Nat.beq x.1 k)) &&
  Nat.beq order.length n0
def okAll (ops:Array Oper) (n0:Nat) (order:List (Nat × Bool)):Bool:=okAllX [] ops n0 order
section
variable (P:Program) [Jud P] (N:Nat) (ops:Array Oper) (R:Seg)
def OFP (Kfin:Sl→Imm→Seg→Prop):List (Nat × Bool)→Sl→Imm→Seg→Prop
  | [],l,I,S=>Kfin l I S
  | (i,true)::rest,l,I,S=>∃ d v,Det P N ops i l I R d v∧OFP Kfin rest ((d,v)::l) I S
  | (i,false)::rest,l,I,S=>Stp P N ops i l I (R++S) fun l' I' M'=>∃ S',M'.Perm (R++S')∧OFP Kfin rest l' I' S'
theorem Stp.mono {P:Program} [Jud P] {N:Nat} {ops:Array Oper} {i:Nat} {l:Sl} {I:Imm} {M:Seg} {K K':Sl→Imm→Seg→Prop} (h:Stp P N ops i l I M K) (hk:∀ l I M,K l I M→K' l I M):Stp P N ops i l I M K':=by
  obtain ⟨o,h1,h2,h3,h4,h5,h6⟩:=h;exact ⟨o,h1,h2,h3,h4,h5,fun w st=>(h6 w st).mono fun v w' ⟨I',M',a,b,c⟩=>⟨I',M',a,b,hk _ _ _ c⟩⟩
theorem Stp.perm {P:Program} [Jud P] {N:Nat} {ops:Array Oper} {i:Nat} {l:Sl} {I:Imm} {M M':Seg} {K:Sl→Imm→Seg→Prop} (hM:M.Perm M') (h:Stp P N ops i l I M' K):Stp P N ops i l I M K:=by
  obtain ⟨o,h1,h2,h3,h4,h5,h6⟩:=h;exact ⟨o,h1,h2,h3,h4,h5,fun w st=>h6 w (st.perm hM)⟩
def emVal (E:Fresh) (b:Nat):Value:=match E with | .sl _=>.slice (some ⟨b,0,none⟩) 0 0 | .cl _ _=>.pointer (some ⟨b,0,none⟩) | .bs _ n _=>.slice (some ⟨b,0,none⟩) n n
def emObj (b:Nat) (E:Fresh):Nat × Obj:=match E with | .sl T=>(b,Obj.cells #[] T (0,0)) | .cl T cs=>(b,Obj.cells cs T (0,0)) | .bs T _ cs=>(b,Obj.cells cs T (0,0))
def AlOk (L0:Sl) (i d:Nat) (E:Fresh):Prop:=
  DW ops i=some d∧look d L0=none∧(∀ t,EA ops i t=true→∃ u,look t L0=some u∧∀ k,DW ops k=some t→wt ops i k=true)∧∀ (I:Imm) (M:Seg),Stp P N ops i L0 I M fun l' I' M'=>∃ b,l'=(d,emVal E b)::L0∧I'=I∧M'=emObj b E::M
def Known (als:List Nat) (al:List (Nat × Nat × Fresh)) (rest:List (Nat × Bool)):Prop:=∀ j,isAl als j=true→(∃ p,CC al j=some p)∨∃ a,(a,false)∈rest∧wt ops j a=true∧isAl als a=false
def Ext (als:List Nat) (al:List (Nat × Nat × Fresh)) (L0:Sl) (al':List (Nat × Nat × Fresh)) (L0' l':Sl):Prop:=
  (al'=al∧L0'=L0)∨((∀ i d E,CC al i=some (d,E)→CC al' i=some (d,E))∧(∀ i d E,CC al' i=some (d,E)→AlOk P N ops L0' i d E∧isAl als i=true)∧(∀ t u,look t L0'=some u→look t l'=some u∨look t L0=some u))
def OFPX (als:List Nat) (F0:Seg) (Kfin:Sl→Imm→Seg→Prop):List (Nat × Nat × Fresh)→Sl→List (Nat × (Seg→Prop))→List (Nat × Bool)→Sl→Imm→Seg→Prop
  | _,_,_,[],l,I,M=>Kfin l I M
  | al,L0,fp,(i,true)::rest,l,I,M=>∃ (d:Nat) (v:Value) (pr:Seg→Prop) (Rx Sx:Seg),(∀ X,pr X→Det P N ops i l I X d v)∧pr Rx∧M.Perm (Rx++Sx)∧(∀ u,look d L0=some u→v=u)∧OFPX als F0 Kfin al L0 ((i,pr)::fp) rest ((d,v)::l) I M
  | al,L0,fp,(i,false)::rest,l,I,M=>match CC al i with
    | some (d,E)=>∀ b,OFPX als F0 Kfin al L0 fp rest ((d,emVal E b)::l) I (emObj b E::M)
    | none=>(∀ d,DW ops i=some d→look d L0=none)∧∀ F,(als=[]→F=F0)→Stp P N ops i l I (M++F) fun l' I' M'=>∃ M1 al' L0',M'.Perm (M1++F)∧(∀ p∈fp,wt ops i p.1=true∨∃ Rx Sx,p.2 Rx∧M1.Perm (Rx++Sx))∧Ext P N ops als al L0 al' L0' l'∧Known ops als al' rest∧OFPX als F0 Kfin al' L0' fp rest l' I' M1
theorem OFPX.mono {K K':Sl→Imm→Seg→Prop} (hk:∀ l I M,K l I M→K' l I M) {als:List Nat} {F0:Seg}:∀ (order:List (Nat × Bool)) (al:List (Nat × Nat × Fresh)) (L0:Sl) (fp:List (Nat × (Seg→Prop))) (l:Sl) (I:Imm) (M:Seg),OFPX P N ops als F0 K al L0 fp order l I M→OFPX P N ops als F0 K' al L0 fp order l I M:=by
  intro order
  induction order with
  | nil=>intro al L0 fp l I M h;exact hk l I M h
  | cons x rest ih=>
    intro al L0 fp l I M h;obtain ⟨i,kd⟩:=x;cases kd with
    | true=>
      obtain ⟨d,v,pr,Rx,Sx,h1,hpr,h2,h0,h3⟩:=h;exact ⟨d,v,pr,Rx,Sx,h1,hpr,h2,h0,ih _ _ _ _ _ _ h3⟩
    | false=>
      unfold OFPX at h ⊢;cases ha:CC al i with
      | some p=>rw [ha] at h;exact fun b=>ih _ _ _ _ _ _ (h b)
      | none=>
        rw [ha] at h;exact ⟨h.1,fun F hF=>Stp.mono (h.2 F hF) fun l' I' M' ⟨M1,al',L0',a,b,e1,e2,c⟩=>⟨M1,al',L0',a,b,e1,e2,ih _ _ _ _ _ _ c⟩⟩
theorem OFP.x {Kfin : Sl → Imm → Seg → Prop} : ∀ (order : List (Nat × Bool)) (fp : List (Nat × (Seg → Prop))) (l : Sl) (I : Imm) (S M : Seg), (∀ p ∈ fp, p.2 R) → M.Perm (R ++ S) → OFP P N ops R Kfin order l I S →
    OFPX P N ops [] [] (fun l I M=>∃ S,M.Perm (R++S)∧Kfin l I S) [] [] fp order l I M:=by
  intro order
  induction order with
  | nil=>intro fp l I S M _ hM h;exact ⟨S,hM,h⟩
  | cons x rest ih=>
    intro fp l I S M hfp hM h;obtain ⟨i,kd⟩:=x;cases kd with
    | true=>
      obtain ⟨d,v,h1,h2⟩:=h
      exact ⟨d,v,(fun X=>X=R),R,S,fun X hX=>hX▸h1,rfl,hM,(fun _ h=>by cases h),ih _ _ _ S M (fun p hp=>by
        rcases List.mem_cons.1 hp with rfl | hp
        · rfl
        · exact hfp p hp) hM h2⟩
    | false=>
      refine ⟨fun _ _=>rfl,fun F hF=>?_⟩;obtain rfl:=hF rfl;rw [List.append_nil];have h':Stp P N ops i l I M fun l' I' M'=>∃ S',M'.Perm (R++S')∧OFP P N ops R Kfin rest l' I' S':=Stp.perm hM h
      refine h'.mono fun l' I' M' ⟨S',hM',hr⟩=>⟨M',[],[],by rw [List.append_nil],fun p hp=>.inr ⟨R,S',hfp p hp,hM'⟩,.inl ⟨rfl,rfl⟩,(fun j hj=>by cases hj),ih fp l' I' S' M' hfp hM' hr⟩
end
theorem long_enough:∀ (n:Nat) (l:List Nat),(∀ k,k<n→k∈l)→n≤l.length:=by
  intro n
  induction n with
  | zero=>intro l _;omega
  | succ n ih=>
    intro l h;obtain ⟨A,B,rfl⟩:=List.append_of_mem (h n (by omega))
    have:=ih (A++B) (fun k hk=>by
      have:=h k (by omega)
      simp only [List.mem_append,List.mem_cons] at this ⊢
      rcases this with h | h | h
      · exact .inl h
      · omega
      · exact .inr h)
    simp at this ⊢;omega
theorem nodup_of_all:∀ (n:Nat) (l:List Nat),l.length≤n→(∀ k,k<n→k∈l)→l.Nodup:=by
  intro n
  induction n with
  | zero=>intro l hl _;have:l=[]:=List.length_eq_zero_iff.1 (by omega);subst this;simp
  | succ n ih=>
    intro l hl h;obtain ⟨A,B,rfl⟩:=List.append_of_mem (h n (by omega))
    have hAB:(A++B).Nodup:=ih (A++B) (by simp at hl ⊢;omega) (fun k hk=>by
      have:=h k (by omega)
      simp only [List.mem_append,List.mem_cons] at this ⊢
      rcases this with h | h | h
      · exact .inl h
      · omega
      · exact .inr h)
    have hn:n∉A++B:=fun hm=>by
      obtain ⟨C,D,e⟩:=List.append_of_mem hm;have h2:∀ k,k<n→k∈C++D:=fun k hk=>by
        have:=h k (by omega);have h3:k∈A++B:=by
          simp only [List.mem_append,List.mem_cons] at this ⊢;rcases this with h | h | h
          · exact .inl h
          · omega
          · exact .inr h
        rw [e] at h3;simp only [List.mem_append,List.mem_cons] at h3 ⊢;rcases h3 with h | h | h
        · exact .inl h
        · omega
        · exact .inr h
      have hlen:(C++D).length<n:=by
        have:(A++B).length=(C++D).length+1:=by rw [e];simp;omega
        simp at hl this ⊢;omega
      exact absurd (long_enough n (C++D) h2) (by omega)
    have hp:(A++n::B).Perm (n::(A++B)):=List.perm_middle;exact hp.nodup_iff.2 (List.nodup_cons.2 ⟨hn,hAB⟩)
section
variable {ρ:Option Nat} {P:Program} [Jud P] {N:Nat} {ops:Array Oper} {R:Seg} {Q:Exit→Act→GW→Prop} {ds:List Deferred}
theorem DH {listed : Array Bool} {i : Nat} (h : i ∈ Region.ready .any ops listed) :
    listed.getD i true=false∧∃ o,ops[i]?=some o∧∀ e∈o.after,Region.binds .any e=true→GO listed e.on:=mem_ready.1 h
theorem GZ {listed:Array Bool} {i k:Nat} (hi:i<listed.size):GO (listed.setIfInBounds i true) k↔k=i∨GO listed k:=by
  unfold GO
  by_cases e:i=k
  · subst e
    simp [hi]
  · have:(listed.setIfInBounds i true).getD k false=listed.getD k false:=by simp [Array.getElem?_setIfInBounds_ne e]
    rw [this];exact ⟨.inr,fun h=>h.resolve_left (fun h'=>e h'.symm)⟩
theorem LF {listed:Array Bool} {i:Nat} (hc:RU ops listed) (hi:i∈Region.ready .any ops listed) (hs:i<listed.size):RU ops (listed.setIfInBounds i true):=by
  intro k hk o ho e he hb;obtain ⟨_,o',ho',hall⟩:=DH hi;rcases (GZ hs).1 hk with rfl | hk
  · rw [ho'] at ho;cases ho
    exact (GZ hs).2 (.inr (hall e he hb))
  · exact (GZ hs).2 (.inr (hc k hk o ho e he hb))
theorem HZ {listed:Array Bool} {i:Nat} (hi:i∈Region.ready .any ops listed) (hs:i<listed.size):¬ GO listed i:=by
  have:=(DH hi).1;unfold GO;simp [hs] at this ⊢;exact this
theorem tail_any {n0 : Nat} (hsz : ∀ j, j < ops.size → ∀ i, i < j → n0 ≤ j → wt ops j i = true) (hlt : ∀ j o, n0 ≤ j → ops[j]? = some o → ∀ e ∈ o.after, Region.binds .any e = true → e.on < j) :
    ∀ (m k:Nat) (fuel:Nat) (listed:Array Bool) (a:Act) (w:GW),
    k+m=ops.size→n0≤k→m≤fuel→listed.size=ops.size→RU ops listed→(∀ j,j<ops.size→(GO listed j↔j<k))→QJ ρ P ops Q (List.range' k m) a w→wpAnyC ρ P .any ops Q fuel listed a w:=by
  intro m
  induction m with
  | zero=>
    intro k fuel listed a w hk _ _ hl _ hd h;have hr:Region.ready .any ops listed=[]:=by
      apply List.eq_nil_iff_forall_not_mem.2
      intro i hi;obtain ⟨_,o,ho,_⟩:=DH hi;have hlt:i<ops.size:=(Array.getElem?_eq_some_iff.1 ho).1;exact HZ hi (by omega) ((hd i hlt).2 (by omega))
    cases fuel with
    | zero=>exact ⟨hr,h⟩
    | succ f=>exact ⟨fun _=>h,fun i hi=>by rw [hr] at hi;cases hi⟩
  | succ m ih=>
    intro k fuel listed a w hk hn hf hl hc hd h;obtain ⟨f,rfl⟩:∃ f,fuel=f+1:=⟨fuel-1,by omega⟩;have hklt:k<ops.size:=by omega
    have only:∀ i∈Region.ready .any ops listed,i=k:=fun i hi=>by
      obtain ⟨_,o,ho,hall⟩:=DH hi;have hlt:i<ops.size:=(Array.getElem?_eq_some_iff.1 ho).1;have hnd:=HZ hi (by omega);rcases Nat.lt_trichotomy i k with h1 | h1 | h1
      · exact absurd ((hd i hlt).2 h1) hnd
      · exact h1
      · have:=KH hc i k (fun o' ho' e he hb=>by rw [ho] at ho';cases ho';exact hall e he hb) (hsz i hlt k h1 (by omega))
        exact absurd ((hd k hklt).1 this) (by omega)
    rw [List.range'_succ,wpOpsC_cons] at h;refine ⟨fun hnil=>?_,fun i hi=>?_⟩
    · exfalso
      have hin:k∈Region.ready .any ops listed:=by
        have ho:ops[k]?=some ops[k]:=by simp [hklt]
        refine mem_ready.2 ⟨?_,_,ho,fun e he hb=>?_⟩
        · have:¬ GO listed k:=fun hh=>by have:=(hd k hklt).1 hh;omega
          unfold GO at this;simp [hl,hklt] at this ⊢;exact this
        · have:=hlt k _ hn ho e he hb
          exact (hd e.on (by omega)).2 this
      rw [hnil] at hin;cases hin
    · obtain rfl:=only i hi
      refine RN (fun a' w' h'=>?_) h;refine ih (i+1) f _ a' w' (by omega) (by omega) (by omega) (by simp [hl]) (LF hc hi (by omega)) (fun j hj=>?_) h';rw [GZ (by omega),hd j hj];omega
abbrev RV:=List (Nat × Nat × Nat × Fresh)
def earM (early:RV):Seg:=early.map fun e=>emObj e.2.2.1 e.2.2.2
structure Mid (P:Program) [Jud P] (N:Nat) (ops:Array Oper) (als:List Nat) (al:List (Nat × Nat × Fresh)) (L0:Sl) (F0:Seg) (fp:List (Nat × (Seg→Prop))) (ds:List Deferred) (Kfin:Sl→Imm→Seg→Prop) (listed:Array Bool) (pre todo:List (Nat × Bool)) (pend:List (Nat × Nat × Value)) (early:RV) (l:Sl) (I:Imm) (M:Seg) (a:Act) (w:GW):Prop where
  lsize:listed.size=ops.size
  closed:RU ops listed
  done:∀ k,k<ops.size→(GO listed k↔((k∈pre.map Prod.fst∧k∉pend.map Prod.fst)∨k∈early.map Prod.fst))
  pnd:∀ x∈pend,(x.1,true)∈pre∧DW ops x.1=some x.2.1∧∃ (l':Sl) (I':Imm) (pr:Seg→Prop) (Rx Sx:Seg),(x.1,pr)∈fp∧pr Rx∧M.Perm (Rx++Sx)∧(∀ X,pr X→Det P N ops x.1 l' I' X x.2.1 x.2.2)∧I'.le I∧∀ t u,EA ops x.1 t=true→look t l'=some u→look t l=some u
  ear:∀ e∈early,(e.1,false)∈todo∧CC al e.1=some (e.2.1,e.2.2.2)∧a.tmps[e.2.1]?=some (emVal e.2.2.2 e.2.2.1)
  sep:∀ x∈pend,∀ e∈early,x.2.1≠e.2.1∧EA ops x.1 e.2.1=false
  nodup:(pend.map Prod.fst).Nodup
  enodup:(early.map Prod.fst).Nodup
  size:a.tmps.size=N
  slots:∀ t u,look t l=some u→(∀ x∈pend,x.2.1≠t)→(∀ e∈early,e.2.1≠t)→a.tmps[t]?=some u
  vals:∀ x∈pend,look x.2.1 l=some x.2.2
  defers:a.defers=ds
  st:St I (M++(earM early++F0)) w
  rest:OFPX P N ops als F0 Kfin al L0 fp todo l I M
  exp:∀ t u,look t L0=some u→(∃ k,DW ops k=some t∧k∉pre.map Prod.fst)∨look t l=some u
theorem IK {j i d:Nat} (h:freeOf ops j i=true) (hd:DW ops j=some d):EA ops i d=false∧dstB ops i d=false:=by
  unfold freeOf at h;rw [hd] at h
  simpa using h
theorem looksB_mem {i t:Nat} {o:Oper} (ho:ops[i]?=some o):EA ops i t=true↔t∈o.looksAt ops:=by
  unfold EA;rw [ho];simp only [List.any_eq_true]
  constructor
  · rintro ⟨u,hu,e⟩;rw [← Nat.eq_of_beq_eq_true e];exact hu
  · intro h;exact ⟨t,h,Nat.beq_refl t⟩
theorem QR {i d:Nat} (h:DW ops i=some d):dstB ops i d=true:=by
  unfold DW at h;unfold dstB;cases ho:ops[i]? with
  | none=>rw [ho] at h;cases h
  | some o=>
    rw [ho] at h;simp only [Option.bind_some] at h;simp only [h];exact Nat.beq_refl d
variable {als:List Nat} {al:List (Nat × Nat × Fresh)} {L0:Sl} {F0:Seg} {fp:List (Nat × (Seg→Prop))} {Kfin:Sl→Imm→Seg→Prop} {listed:Array Bool} {pre todo:List (Nat × Bool)} {pend:List (Nat × Nat × Value)} {early:RV} {l:Sl} {I:Imm} {M:Seg} {a:Act} {w:GW}
theorem KP {A B:List (Nat × Bool)} {x y:Nat × Bool} (h:HD als ops (A++x::B)=true) (hy:y∈B):ML als ops x y=true:=by
  induction A with
  | nil=>
    simp only [List.nil_append,HD,Bool.and_eq_true] at h;exact List.all_eq_true.1 h.1.1 y hy
  | cons z A ih=>
    simp only [List.cons_append,HD,Bool.and_eq_true] at h;exact ih h.2
theorem HP {A B:List (Nat × Bool)} {x y:Nat × Bool} (h:HD als ops (A++y::B)=true) (hx:x∈A):ML als ops x y=true:=by
  obtain ⟨A1,A2,rfl⟩:=List.append_of_mem hx;rw [List.append_assoc,List.cons_append] at h;exact KP h (by simp)
theorem MV {A B:List (Nat × Bool)} {x:Nat × Bool} (h:HD als ops (A++x::B)=true):okSelf ops x=true:=by
  induction A with
  | nil=>
    simp only [List.nil_append,HD,Bool.and_eq_true] at h;exact h.1.2
  | cons z A ih=>
    simp only [List.cons_append,HD,Bool.and_eq_true] at h;exact ih h.2
theorem okPair_al {x:Nat × Bool} {y d:Nat} (h:ML als ops x (y,false)=true) (hd:DW ops y=some d) (hw:¬ wt ops y x.1=true):EA ops x.1 d=false∧dstB ops x.1 d=false:=by
  unfold ML at h;cases hx:x.2 with
  | true=>
    rw [hx] at h;simp only [cond_true,cond_false,Bool.and_eq_true,Bool.or_eq_true] at h;exact IK (h.2.resolve_left hw) hd
  | false=>
    rw [hx] at h;simp only [cond_false,Bool.or_eq_true,Bool.and_eq_true,Bool.not_false,true_and] at h;exact IK (h.resolve_left hw).2 hd
theorem SA {i d:Nat} (h:DW ops i=some d):i<ops.size:=by
  unfold DW at h;cases ho:ops[i]? with
  | none=>rw [ho] at h;cases h
  | some _=>exact (Array.getElem?_eq_some_iff.1 ho).1
theorem Mid.virt {i : Nat} (hA : ∀ i d E, CC al i = some (d, E) → AlOk P N ops L0 i d E) (m : Mid P N ops als al L0 F0 fp ds Kfin listed pre ((i, true) :: todo) pend early l I M a w) (hok : HD als ops (pre ++ (i, true) :: todo) = true) (hnd : ¬ GO listed i) (hi : i ∉ pre.map Prod.fst) (hall : ∀ e ∈ early, ∀ k, wt ops e.1 k = true → GO listed k) (he : ∀ e ∈ early, (e.1, false) ∈ todo) :
    ∃ d v fp',Mid P N ops als al L0 F0 fp' ds Kfin listed (pre++[(i,true)]) todo (pend++[(i,d,v)]) early ((d,v)::l) I M a w:=by
  obtain ⟨d,v,pr,Rx,Sx,hdet,hprx,hMx,hL0,hrest⟩:=m.rest;have hdst:DW ops i=some d:=by
    obtain ⟨o,ho,hd,_⟩:=hdet Rx hprx;simp [DW,ho,hd]
  have fr:∀ x∈pend,EA ops x.1 d=false∧dstB ops x.1 d=false:=fun x hx=>by
    have hp:=HP hok (m.pnd x hx).1;simp only [ML,cond_true,Bool.and_eq_true] at hp;exact IK hp.2 hdst
  have fe:∀ e∈early,EA ops i e.2.1=false∧d≠e.2.1:=fun e h=>by
    have hal:=(m.ear e h).2.1;have:=okPair_al (KP hok (he e h)) (hA _ _ _ hal).1 (fun hw=>hnd (hall e h i hw));refine ⟨this.1,fun e'=>?_⟩;have h2:=QR hdst;rw [e',this.2] at h2;cases h2
  refine ⟨d,v,(i,pr)::fp,m.lsize,m.closed,fun k hk=>?_,fun x hx=>?_,fun e h=>?_,fun x hx e h=>?_,?_,m.enodup,m.size,fun t u ht hx hxe=>?_,fun x hx=>?_,m.defers,m.st,hrest,fun t u htu=>?_⟩
  · rw [m.done k hk]
    simp only [List.map_append,List.map_cons,List.map_nil,List.mem_append,List.mem_singleton,not_or]
    constructor
    · rintro (⟨h1,h2⟩ | h1)
      · refine .inl ⟨.inl h1,h2,fun e=>?_⟩
        subst e;exact hi h1
      · exact .inr h1
    · rintro (⟨h1 | h1,h2,h3⟩ | h1)
      · exact .inl ⟨h1,h2⟩
      · exact absurd h1 h3
      · exact .inr h1
  · rcases List.mem_append.1 hx with hx | hx
    · obtain ⟨h1,h2,l',I',pr',Rx',Sx',hf,hq,hp,h3,h4,h5⟩:=m.pnd x hx
      refine ⟨List.mem_append_left _ h1,h2,l',I',pr',Rx',Sx',List.mem_cons_of_mem _ hf,hq,hp,h3,h4,fun t u ht hu=>?_⟩;have hne:d≠t:=fun e=>by subst e;rw [(fr x hx).1] at ht;cases ht
      rw [BF hne];exact h5 t u ht hu
    · simp only [List.mem_singleton] at hx;subst hx
      refine ⟨by simp,hdst,l,I,pr,Rx,Sx,List.mem_cons_self,hprx,hMx,hdet,Imm.le.refl I,fun t u ht hu=>?_⟩;have hne:d≠t:=fun e=>by
        subst e;have:=MV hok;simp only [okSelf,hdst,Bool.not_eq_true'] at this;rw [this] at ht;cases ht
      rw [BF hne];exact hu
  · exact ⟨he e h,(m.ear e h).2⟩
  · rcases List.mem_append.1 hx with hx | hx
    · exact m.sep x hx e h
    · simp only [List.mem_singleton] at hx;subst hx
      exact ⟨(fe e h).2,(fe e h).1⟩
  · rw [List.map_append]
    refine List.nodup_append.2 ⟨m.nodup,by simp,fun x hx y hy=>?_⟩;simp only [List.map_cons,List.map_nil,List.mem_singleton] at hy;subst hy;intro e;subst e;obtain ⟨z,hz,rfl⟩:=List.mem_map.1 hx;exact hi (List.mem_map_of_mem (f:=Prod.fst) (m.pnd z hz).1)
  · have hne:d≠t:=hx (i,d,v) (by simp)
    rw [BF hne] at ht;exact m.slots t u ht (fun x hx'=>hx x (List.mem_append_left _ hx')) hxe
  · rcases List.mem_append.1 hx with hx | hx
    · have hne : d ≠ x.2.1 := fun e => by
        have:=QR (m.pnd x hx).2.1;rw [← e,(fr x hx).2] at this;cases this
      rw [BF hne];exact m.vals x hx
    · simp only [List.mem_singleton] at hx;subst hx
      exact CR _ _ _
  · by_cases e:d=t
    · subst e
      rw [hL0 u htu];exact .inr (CR _ _ _)
    · rcases m.exp t u htu with ⟨k,h1,h2⟩ | h1
      · refine .inl ⟨k,h1,fun hk=>?_⟩
        rw [List.map_append] at hk;rcases List.mem_append.1 hk with h | h
        · exact h2 h
        · simp only [List.map_cons,List.map_nil,List.mem_singleton] at h
          subst h;rw [hdst] at h1;exact e (Option.some.inj h1)
      · exact .inr (by rw [BF e];exact h1)
theorem Mid.agree {i : Nat} {o : Oper} {l' : Sl} (m : Mid P N ops als al L0 F0 fp ds Kfin listed pre todo pend early l I M a w) (ho : ops[i]? = some o)
    (hall:∀ o',ops[i]?=some o'→∀ e∈o'.after,Region.binds .any e=true→GO listed e.on)
    (hsub:∀ t u,EA ops i t=true→look t l'=some u→look t l=some u)
    (hw:∀ x∈pend,EA ops i x.2.1=true→wt ops i x.1=true∨x.1=i) (hself:∀ d,DW ops i=some d→EA ops i d=false) (hear:∀ e∈early,EA ops i e.2.1=false) (hpe:∀ x∈pend,x.1∉early.map Prod.fst) :
    ∀ t∈o.looksAt ops,∀ u,look t l'=some u→a.tmps[t]?=some u:=by
  intro t ht u hu;have htb:EA ops i t=true:=(looksB_mem ho).2 ht;refine m.slots t u (hsub t u htb hu) (fun x hx e=>?_) (fun e he e'=>?_)
  · subst e
    rcases hw x hx htb with h | h
    · have hdn:=KH m.closed i x.1 hall h
      rcases (m.done x.1 (SA (m.pnd x hx).2.1)).1 hdn with h1 | h1
      · exact h1.2 (List.mem_map_of_mem (f:=Prod.fst) hx)
      · exact hpe x hx h1
    · have:=hself x.2.1 (by rw [← h];exact (m.pnd x hx).2.1)
      rw [htb] at this;cases this
  · subst e'
    rw [hear e he] at htb;cases htb
theorem Mid.exec {i : Nat} {K : Act → GW → Prop} {x : Nat × Nat × Value} (m : Mid P N ops als al L0 F0 fp ds Kfin listed pre todo pend early l I M a w) (hx : x ∈ pend) (hix : x.1 = i) (hi : i ∈ Region.ready .any ops listed)
    (hok:HD als ops (pre++todo)=true) (hpair:∀ y∈pend,EA ops i y.2.1=true→wt ops i y.1=true∨y.1=i) (hpe:∀ x∈pend,x.1∉early.map Prod.fst)
    (hK:∀ a' w',Mid P N ops als al L0 F0 fp ds Kfin (listed.setIfInBounds i true) pre todo (pend.filter (fun y=>!(Nat.beq y.1 i))) early l I M a' w'→K a' w'):NF ρ P ops i K a w:=by
  subst hix;obtain ⟨h1,h2,l',I',pr,Rx,Sx,hfx,hprx,hMx,hdet0,hle,hsub⟩:=m.pnd x hx;have hdet:=hdet0 Rx hprx;obtain ⟨o,ho,hd,hN,hsel,hdet⟩:=hdet;have hlt:x.1<ops.size:=(Array.getElem?_eq_some_iff.1 ho).1;have hself:∀ d,DW ops x.1=some d→EA ops x.1 d=false:=fun d hd'=>by
    obtain ⟨A,B,e⟩:=List.append_of_mem h1;rw [e,List.append_assoc,List.cons_append] at hok;have:=MV hok
    simpa [okSelf,hd'] using this
  have hag:=m.agree ho (fun o' ho'=>by obtain ⟨_,o2,ho2,hall⟩:=DH hi;rw [ho2] at ho';cases ho';exact hall) hsub hpair hself (fun e he=>(m.sep x hx e he).2) hpe
  have fin:∀ w',St I (M++(earM early++F0)) w'→K (a.put (some x.2.1) x.2.2) w':=fun w' hst=>hK _ _ (by
    refine ⟨by simp [m.lsize],LF m.closed hi (by rw [m.lsize];exact hlt),fun k hk=>?_,fun y hy=>?_,fun e he=>?_,fun y hy e he=>?_,?_,m.enodup,by simp [Act.put,m.size],fun t u ht hy hye=>?_,fun y hy=>?_,by rw [FB];exact m.defers,hst,m.rest,m.exp⟩
    · rw [GZ (by rw [m.lsize];exact hlt),m.done k hk]
      constructor
      · rintro (rfl | ⟨g1,g2⟩ | g)
        · refine .inl ⟨List.mem_map_of_mem (f:=Prod.fst) h1,fun hm=>?_⟩
          obtain ⟨y,hy,e⟩:=List.mem_map.1 hm
          have:=(List.mem_filter.1 hy).2
          rw [e,Nat.beq_refl] at this;cases this
        · exact .inl ⟨g1, fun hm => by
            obtain ⟨y,hy,e⟩:=List.mem_map.1 hm
            exact g2 (by rw [← e];exact List.mem_map_of_mem (f:=Prod.fst) (List.mem_filter.1 hy).1)⟩
        · exact .inr g
      · rintro (⟨g1,g2⟩ | g)
        · by_cases e:k=x.1
          · exact .inl e
          · refine .inr (.inl ⟨g1,fun hm=>g2 ?_⟩)
            obtain ⟨y,hy,e'⟩:=List.mem_map.1 hm
            refine List.mem_map.2 ⟨y,List.mem_filter.2 ⟨hy,?_⟩,e'⟩
            cases hb:Nat.beq y.1 x.1 with
            | false=>rfl
            | true=>exact absurd (by rw [← e'];exact Nat.eq_of_beq_eq_true hb) e
        · exact .inr (.inr g)
    · obtain ⟨hy,_⟩:=List.mem_filter.1 hy
      exact m.pnd y hy
    · obtain ⟨e1,e2,e3⟩:=m.ear e he
      refine ⟨e1,e2,?_⟩
      simp only [Act.put]
      rw [Array.getElem?_setIfInBounds_ne (m.sep x hx e he).1];exact e3
    · exact m.sep y (List.mem_filter.1 hy).1 e he
    · exact (List.filter_sublist.map Prod.fst).nodup m.nodup
    · by_cases e:x.2.1=t
      · subst e
        have:=m.vals x hx
        rw [this] at ht;cases ht
        have:x.2.1<a.tmps.size:=by rw [m.size];exact hN
        simp [Act.put,this]
      · simp only [Act.put]
        rw [Array.getElem?_setIfInBounds_ne e]
        refine m.slots t u ht (fun y hy'=>?_) hye
        by_cases e2:y.1=x.1
        · intro e3
          have h3:=(m.pnd y hy').2.1
          rw [e2,h2] at h3
          exact e ((Option.some.inj h3).trans e3)
        · refine hy y (List.mem_filter.2 ⟨hy',?_⟩)
          cases hb:Nat.beq y.1 x.1 with
          | false=>rfl
          | true=>exact absurd (Nat.eq_of_beq_eq_true hb) e2
    · exact m.vals y (List.mem_filter.1 hy).1)
  have hMx':(M++(earM early++F0)).Perm (Rx++(Sx++(earM early++F0))):=by rw [← List.append_assoc Rx];exact List.Perm.append_right _ hMx
  unfold NF;simp only [ho];rcases hdet with ⟨hg,hv⟩ | ⟨hg,hk,hr⟩
  · rw [CK hg hag,if_neg (by simp),hd,← hv]
    exact fin w m.st
  · rw [CK hg hag,if_pos rfl]
    have:=hr I (Sx++(earM early++F0)) w hle (m.st.perm hMx');rw [← LX hsel hk hag] at this;refine HH hsel.2 this fun u w' ⟨hu,hst⟩=>?_
    subst hu;rw [hd];exact fin w' (hst.perm hMx'.symm)
theorem Mid.act {i : Nat} {K : Act → GW → Prop} (hA : ∀ i d E, CC al i = some (d, E) → AlOk P N ops L0 i d E) (m : Mid P N ops als al L0 F0 fp ds Kfin listed pre ((i, false) :: todo) pend early l I M a w) (hal : CC al i = none) (hi : i ∈ Region.ready .any ops listed)
    (hok:HD als ops (pre++(i,false)::todo)=true) (hpre:i∉pre.map Prod.fst) (hnd:¬ GO listed i) (halle:∀ e∈early,∀ k,wt ops e.1 k=true→GO listed k) (he:∀ e∈early,(e.1,false)∈todo) (hpe:∀ x∈pend,x.1∉early.map Prod.fst) (hAs:∀ i d E,CC al i=some (d,E)→isAl als i=true)
    (hK:∀ l' I' M' al' L0' a' w',(∀ i d E,CC al' i=some (d,E)→AlOk P N ops L0' i d E)→(∀ i d E,CC al' i=some (d,E)→isAl als i=true)→Known ops als al' todo→Mid P N ops als al' L0' F0 fp ds Kfin (listed.setIfInBounds i true) (pre++[(i,false)]) todo pend early l' I' M' a' w'→K a' w'):NF ρ P ops i K a w:=by
  have hrest:=m.rest;unfold OFPX at hrest;rw [hal] at hrest;obtain ⟨hS0,hrest⟩:=hrest
  obtain ⟨o,ho,hN,hsel,hg,hk,hr⟩:=hrest (earM early++F0) (fun e0=>by
    cases hE:early with
    | nil=>rfl
    | cons e es=>
      have:=hAs _ _ _ (m.ear e (by rw [hE];simp)).2.1
      rw [e0] at this;cases this)
  have hlt:i<ops.size:=(Array.getElem?_eq_some_iff.1 ho).1;obtain ⟨_,o2,ho2,hall⟩:=DH hi;have hall':∀ o',ops[i]?=some o'→∀ e∈o'.after,Region.binds .any e=true→GO listed e.on:=fun o' ho'=>by rw [ho2] at ho';cases ho';exact hall
  have hself:∀ d,DW ops i=some d→EA ops i d=false:=fun d hd'=>by
    have:=MV hok
    simpa [okSelf,hd'] using this
  have pairs:∀ x∈pend,(EA ops i x.2.1=true→wt ops i x.1=true)∧(wt ops i x.1=true∨freeOf ops i x.1=true):=fun x hx=>by
    have hp:=HP hok (m.pnd x hx).1;simp only [ML,cond_true,cond_false,Bool.and_eq_true,Bool.or_eq_true] at hp;refine ⟨fun hl=>?_,hp.2⟩;have:=hp.1;rw [(m.pnd x hx).2.1] at this;simp only [Bool.or_eq_true,Bool.not_eq_true'] at this;rcases this with h | h
    · rw [hl] at h;cases h
    · exact h
  have notw:∀ x∈pend,wt ops i x.1=false:=fun x hx=>by
    cases hw:wt ops i x.1 with
    | false=>rfl
    | true=>
      have hdn:=KH m.closed i x.1 hall' hw;rcases (m.done x.1 (SA (m.pnd x hx).2.1)).1 hdn with h1 | h1
      · exact absurd (List.mem_map_of_mem (f:=Prod.fst) hx) h1.2
      · exact absurd h1 (hpe x hx)
  have fe:∀ e∈early,EA ops i e.2.1=false∧dstB ops i e.2.1=false:=fun e h=>
    okPair_al (KP hok (he e h)) (hA _ _ _ (m.ear e h).2.1).1 (fun hw=>hnd (halle e h i hw))
  have hag:=m.agree ho hall' (l':=l) (fun _ _ _ h=>h) (fun x hx hl=>.inl ((pairs x hx).1 hl)) hself (fun e h=>(fe e h).1) hpe;unfold NF;simp only [ho];rw [CK hg hag,if_pos rfl];have:=hr w m.st;rw [← LX hsel hk hag] at this;refine HH hsel.2 this fun v w' ⟨I',M2,hle,hst,M',al',L0',hM',hfp,hext,hkn,hrest⟩=>?_
  replace hst:=hst.perm hM';have x1:∀ i d E,CC al i=some (d,E)→CC al' i=some (d,E):=by
    rcases hext with ⟨rfl,rfl⟩ | h
    · exact fun _ _ _ h=>h
    · exact h.1
  have x2:∀ i d E,CC al' i=some (d,E)→AlOk P N ops L0' i d E∧isAl als i=true:=by
    rcases hext with ⟨rfl,rfl⟩ | h
    · exact fun i d E h=>⟨hA i d E h,hAs i d E h⟩
    · exact h.2.1
  have x3:∀ t u,look t L0'=some u→look t (ups o.dst v l)=some u∨look t L0=some u:=by
    rcases hext with ⟨rfl,rfl⟩ | h
    · exact fun _ _ h=>.inr h
    · exact h.2.2
  have fr:∀ x∈pend,∀ d,o.dst=some d→EA ops x.1 d=false∧x.2.1≠d:=fun x hx d hd=>by
    have hf:freeOf ops i x.1=true:=(pairs x hx).2.resolve_left (by rw [notw x hx];simp);have hdo:DW ops i=some d:=by simp [DW,ho,hd]
    have:=IK hf hdo;refine ⟨this.1,fun e=>?_⟩;have h2:=QR (m.pnd x hx).2.1;rw [e,this.2] at h2;cases h2
  have fed:∀ e∈early,∀ d,o.dst=some d→d≠e.2.1:=fun e h d hd e'=>by
    have hdo:DW ops i=some d:=by simp [DW,ho,hd]
    have h2:=QR hdo;rw [e',(fe e h).2] at h2;cases h2
  refine hK (ups o.dst v l) I' M' al' L0' _ _ (fun i d E h=>(x2 i d E h).1) (fun i d E h=>(x2 i d E h).2) hkn ⟨by simp [m.lsize],LF m.closed hi (by rw [m.lsize];exact hlt),fun k hk=>?_,fun x hx=>?_,fun e h=>?_,m.sep,m.nodup,m.enodup,?_,fun t u ht hx hxe=>?_,fun x hx=>?_,by rw [FB];exact m.defers,hst,hrest,fun t u htu=>?_⟩
  · rw [GZ (by rw [m.lsize];exact hlt),m.done k hk]
    simp only [List.map_append,List.map_cons,List.map_nil,List.mem_append,List.mem_singleton]
    constructor
    · rintro (rfl | ⟨g1,g2⟩ | g)
      · exact .inl ⟨.inr rfl, fun hm => by
          obtain ⟨x,hx,e⟩:=List.mem_map.1 hm
          exact hpre (by rw [← e];exact List.mem_map_of_mem (f:=Prod.fst) (m.pnd x hx).1)⟩
      · exact .inl ⟨.inl g1,g2⟩
      · exact .inr g
    · rintro (⟨g1 | g1,g2⟩ | g)
      · exact .inr (.inl ⟨g1,g2⟩)
      · exact .inl g1
      · exact .inr (.inr g)
  · obtain ⟨h1,h2,l',I'',pr,Rx,Sx,hf,hq,hp,h3,h4,h5⟩:=m.pnd x hx
    obtain ⟨Rx',Sx',hq',hp'⟩:=(hfp _ hf).resolve_left (by rw [notw x hx];simp);refine ⟨List.mem_append_left _ h1,h2,l',I'',pr,Rx',Sx',hf,hq',hp',h3,h4.trans hle,fun t u ht hu=>?_⟩;cases hd:o.dst with
    | none=>exact h5 t u ht hu
    | some d=>
      have hne:d≠t:=fun e=>by subst e;rw [(fr x hx d hd).1] at ht;cases ht
      simp only [ups];rw [BF hne];exact h5 t u ht hu
  · refine ⟨he e h,x1 _ _ _ (m.ear e h).2.1,?_⟩
    cases hd:o.dst with
    | none=>exact (m.ear e h).2.2
    | some d=>
      simp only [Act.put];rw [Array.getElem?_setIfInBounds_ne (fed e h d hd)];exact (m.ear e h).2.2
  · cases hd:o.dst <;> simp [Act.put,m.size]
  · cases hd:o.dst with
    | none=>rw [hd] at ht;exact m.slots t u ht hx hxe
    | some d=>
      rw [hd] at ht;simp only [ups] at ht
      by_cases e:d=t
      · subst e
        rw [CR] at ht;cases ht;have:d<a.tmps.size:=by rw [m.size];exact hN d hd
        simp [Act.put,this]
      · rw [BF e] at ht
        simp only [Act.put];rw [Array.getElem?_setIfInBounds_ne e];exact m.slots t u ht hx hxe
  · cases hd:o.dst with
    | none=>exact m.vals x hx
    | some d=>
      simp only [ups];rw [BF (Ne.symm (fr x hx d hd).2)];exact m.vals x hx
  · rcases x3 t u htu with h0 | htu
    · exact .inr h0
    have hne:∀ d,o.dst=some d→d≠t:=fun d hd e=>by
      have:=hS0 d (by simp [DW,ho,hd]);rw [e,htu] at this;cases this
    rcases m.exp t u htu with ⟨k,h1,h2⟩ | h1
    · refine .inl ⟨k,h1,fun hk=>?_⟩
      rw [List.map_append] at hk;rcases List.mem_append.1 hk with h | h
      · exact h2 h
      · simp only [List.map_cons,List.map_nil,List.mem_singleton] at h
        subst h;have hd:o.dst=some t:=by simpa [DW,ho] using h1
        exact hne t hd rfl
    · refine .inr ?_
      cases hd:o.dst with
      | none=>exact h1
      | some d=>simp only [ups];rw [BF (hne d hd)];exact h1
theorem Mid.ahead {i d : Nat} {E : Fresh} {K : Act → GW → Prop} (m : Mid P N ops als al L0 F0 fp ds Kfin listed pre todo pend early l I M a w) (hal : CC al i = some (d, E)) (hA : AlOk P N ops L0 i d E) (hAll : ∀ i d E, CC al i = some (d, E) → AlOk P N ops L0 i d E) (hpe : ∀ x ∈ pend, x.1 ∉ early.map Prod.fst) (hi : i ∈ Region.ready .any ops listed) (hmem : (i, false) ∈ todo)
    (hnd:¬ GO listed i) (hsep:∀ x∈pend,x.2.1≠d∧EA ops x.1 d=false) (hee:∀ e∈early,d≠e.2.1)
    (hK:∀ b a' w',Mid P N ops als al L0 F0 fp ds Kfin (listed.setIfInBounds i true) pre todo pend ((i,d,b,E)::early) l I M a' w'→K a' w'):NF ρ P ops i K a w:=by
  obtain ⟨hdst,hd0,hlk,hst⟩:=hA;obtain ⟨o,ho,hN,hsel,hg,hk,hr⟩:=hst I (M++(earM early++F0));have hlt:i<ops.size:=(Array.getElem?_eq_some_iff.1 ho).1;have hod:o.dst=some d:=by simpa [DW,ho] using hdst
  have hag:∀ t∈o.looksAt ops,∀ u,look t L0=some u→a.tmps[t]?=some u:=fun t ht u htu=>by
    obtain ⟨u',hu',hwt⟩:=hlk t ((looksB_mem ho).2 ht);have hdn:∀ k,DW ops k=some t→GO listed k:=fun k hk=>KH m.closed i k (fun o' ho'=>by obtain ⟨_,o2,ho2,hall⟩:=DH hi;rw [ho2] at ho';cases ho';exact hall) (hwt k hk)
    have hear:∀ e∈early,e.2.1≠t:=fun e he e1=>by
      have:=(hAll _ _ _ (m.ear e he).2.1).2.1;rw [e1,htu] at this;cases this
    have hl:look t l=some u:=by
      rcases m.exp t u htu with ⟨k,h1,h2⟩ | h1
      · rcases (m.done k (SA h1)).1 (hdn k h1) with h | h
        · exact absurd h.1 h2
        · obtain ⟨e,he,e1⟩:=List.mem_map.1 h
          have h3:=(hAll _ _ _ (m.ear e he).2.1).1;rw [e1,h1] at h3;exact absurd (Option.some.inj h3).symm (hear e he)
      · exact h1
    refine m.slots t u hl (fun x hx e1=>?_) hear;have h1:=(m.pnd x hx).2.1;rw [e1] at h1;rcases (m.done x.1 (SA h1)).1 (hdn x.1 h1) with h | h
    · exact h.2 (List.mem_map_of_mem (f:=Prod.fst) hx)
    · exact hpe x hx h
  unfold NF;simp only [ho];rw [CK hg hag,if_pos rfl];have:=hr w m.st;rw [← LX hsel hk hag] at this;refine HH hsel.2 this fun v w' ⟨I',M2,hle,hst,b,e1,e2,e3⟩=>?_
  subst e2 e3;rw [hod] at e1 ⊢;simp only [ups,List.cons.injEq,Prod.mk.injEq,true_and,and_true] at e1;subst e1;refine hK b _ _ ⟨by simp [m.lsize],LF m.closed hi (by rw [m.lsize];exact hlt),fun k hk=>?_,m.pnd,fun e h=>?_,fun x hx e h=>?_,m.nodup,?_,by simp [Act.put,m.size],fun t u ht hx hxe=>?_,m.vals,by rw [FB];exact m.defers,?_,m.rest,m.exp⟩
  · rw [GZ (by rw [m.lsize];exact hlt),m.done k hk]
    simp only [List.map_cons,List.mem_cons]
    constructor
    · rintro (rfl | g | g)
      · exact .inr (.inl rfl)
      · exact .inl g
      · exact .inr (.inr g)
    · rintro (g | g | g)
      · exact .inr (.inl g)
      · exact .inl g
      · exact .inr (.inr g)
  · rcases List.mem_cons.1 h with rfl | h
    · refine ⟨hmem,hal,?_⟩
      have:d<a.tmps.size:=by rw [m.size];exact hN d hod
      simp [Act.put,this]
    · obtain ⟨g1,g2,g3⟩:=m.ear e h
      refine ⟨g1,g2,?_⟩;simp only [Act.put];rw [Array.getElem?_setIfInBounds_ne (hee e h)];exact g3
  · rcases List.mem_cons.1 h with rfl | h
    · exact hsep x hx
    · exact m.sep x hx e h
  · rw [List.map_cons]
    refine List.nodup_cons.2 ⟨fun hm=>hnd ((m.done i hlt).2 (.inr hm)),m.enodup⟩
  · have hne:d≠t:=hxe (i,d,b,E) (by simp)
    simp only [Act.put];rw [Array.getElem?_setIfInBounds_ne hne];exact m.slots t u ht hx (fun e h=>hxe e (List.mem_cons_of_mem _ h))
  · refine hst.perm ?_
    show (emObj b E::(M++(earM early++F0))).Perm (M++(emObj b E::(earM early++F0)));exact List.perm_middle.symm
theorem early_perm:∀ (early:RV) {x:Nat × Nat × Nat × Fresh},(early.map Prod.fst).Nodup→x∈early→early.Perm (x::early.filter fun e=>!(Nat.beq e.1 x.1)):=by
  intro early
  induction early with
  | nil=>intro x _ h;simp at h
  | cons y r ih=>
    intro x hn hx;rw [List.map_cons,List.nodup_cons] at hn;rcases List.mem_cons.1 hx with rfl | hx
    · have e : (x :: r).filter (fun e => !(Nat.beq e.1 x.1)) = r := by
        rw [List.filter_cons,if_neg (by rw [Nat.beq_refl];simp)];refine List.filter_eq_self.2 fun e he=>?_
        cases hb:Nat.beq e.1 x.1 with
        | false=>rfl
        | true=>exact absurd (Nat.eq_of_beq_eq_true hb▸List.mem_map_of_mem (f:=Prod.fst) he) hn.1
      rw [e]
    · have hne : Nat.beq y.1 x.1 = false := by
        cases hb:Nat.beq y.1 x.1 with
        | false=>rfl
        | true=>exact absurd ((Nat.eq_of_beq_eq_true hb).symm▸List.mem_map_of_mem (f:=Prod.fst) hx) hn.1
      rw [List.filter_cons,if_pos (by rw [hne];rfl)];exact (List.Perm.cons y (ih hn.2 hx)).trans (List.Perm.swap _ _ _)
theorem Mid.take {i d b : Nat} {E : Fresh} (hA : ∀ i d E, CC al i = some (d, E) → AlOk P N ops L0 i d E) (m : Mid P N ops als al L0 F0 fp ds Kfin listed pre ((i, false) :: todo) pend early l I M a w) (he : (i, d, b, E) ∈ early) (hpre : i ∉ pre.map Prod.fst) (htd : i ∉ todo.map Prod.fst) (hpe : ∀ x ∈ pend, x.1 ∉ early.map Prod.fst) :
    Mid P N ops als al L0 F0 fp ds Kfin listed (pre++[(i,false)]) todo pend (early.filter fun e=>!(Nat.beq e.1 i)) ((d,emVal E b)::l) I (emObj b E::M) a w:=by
  have hal:=(m.ear _ he).2.1;have hep:=early_perm early m.enodup he;have hrest:=m.rest;unfold OFPX at hrest;rw [show CC al i=some (d,E) from hal] at hrest;refine ⟨m.lsize,m.closed,fun k hk=>?_,fun x hx=>?_,fun e h=>?_,fun x hx e h=>m.sep x hx e (List.mem_filter.1 h).1,m.nodup,(List.filter_sublist.map Prod.fst).nodup m.enodup,m.size,fun t u ht hx hxe=>?_,fun x hx=>?_,m.defers,?_,hrest b,fun t u htu=>?_⟩
  · rw [m.done k hk]
    simp only [List.map_append,List.map_cons,List.map_nil,List.mem_append,List.mem_singleton]
    constructor
    · rintro (⟨g1,g2⟩ | g)
      · exact .inl ⟨.inl g1,g2⟩
      · by_cases e:k=i
        · subst e
          refine .inl ⟨.inr rfl,fun hm=>?_⟩;obtain ⟨x,hx,e⟩:=List.mem_map.1 hm;exact hpe x hx (by rw [e];exact g)
        · obtain ⟨y,hy,e'⟩:=List.mem_map.1 g
          refine .inr (List.mem_map.2 ⟨y,List.mem_filter.2 ⟨hy,?_⟩,e'⟩);cases hb:Nat.beq y.1 i with
          | false=>rfl
          | true=>exact absurd (e'.symm.trans (Nat.eq_of_beq_eq_true hb)) e
    · rintro (⟨g1 | g1,g2⟩ | g)
      · exact .inl ⟨g1,g2⟩
      · exact .inr (by rw [g1];exact List.mem_map_of_mem (f:=Prod.fst) he)
      · obtain ⟨y,hy,e'⟩:=List.mem_map.1 g
        exact .inr (List.mem_map.2 ⟨y,(List.mem_filter.1 hy).1,e'⟩)
  · obtain ⟨h1,h2,l',I',pr,Rx,Sx,hf,hq,hp,h3,h4,h5⟩:=m.pnd x hx
    refine ⟨List.mem_append_left _ h1,h2,l',I',pr,Rx,emObj b E::Sx,hf,hq,(List.Perm.cons _ hp).trans List.perm_middle.symm,h3,h4,fun t u ht hu=>?_⟩;have hne:d≠t:=fun e=>by
      subst e;have:=(m.sep x hx _ he).2;simp only at this;rw [this] at ht;cases ht
    rw [BF hne];exact h5 t u ht hu
  · obtain ⟨g1,g2,g3⟩:=m.ear e (List.mem_filter.1 h).1
    refine ⟨(List.mem_cons.1 g1).resolve_left fun e'=>?_,g2,g3⟩;have h2:=(List.mem_filter.1 h).2;rw [show e.1=i from congrArg Prod.fst e',Nat.beq_refl] at h2;cases h2
  · by_cases e:d=t
    · subst e
      rw [CR] at ht;cases ht;exact (m.ear _ he).2.2
    · rw [BF e] at ht
      refine m.slots t u ht hx fun e' h'=>?_
      by_cases e2:e'.1=i
      · have g1:=(m.ear e' h').2.1
        rw [e2,hal] at g1;have:=congrArg Prod.fst (Option.some.inj g1);simp only at this;rw [← this];exact e
      · refine hxe e' (List.mem_filter.2 ⟨h',?_⟩)
        cases hb:Nat.beq e'.1 i with
        | false=>rfl
        | true=>exact absurd (Nat.eq_of_beq_eq_true hb) e2
  · rw [BF (Ne.symm (m.sep x hx _ he).1)];exact m.vals x hx
  · refine m.st.perm ?_
    have h1:(earM early).Perm (emObj b E::earM (early.filter fun e=>!(Nat.beq e.1 i))):=hep.map _;have h2:(M++(earM early++F0)).Perm (M++((emObj b E::earM (early.filter fun e=>!(Nat.beq e.1 i)))++F0)):=List.Perm.append_left _ (List.Perm.append_right _ h1);exact h2.trans List.perm_middle
  · have hdd:=hA _ _ _ hal
    have hne:d≠t:=fun e=>by
      have:=hdd.2.1;rw [e,htu] at this;cases this
    rcases m.exp t u htu with ⟨k,h1,h2⟩ | h1
    · refine .inl ⟨k,h1,fun hk=>?_⟩
      rw [List.map_append] at hk;rcases List.mem_append.1 hk with h | h
      · exact h2 h
      · simp only [List.map_cons,List.map_nil,List.mem_singleton] at h
        subst h;have h3:=hdd.1;rw [h1] at h3;exact hne (Option.some.inj h3).symm
    · exact .inr (by rw [BF hne];exact h1)
theorem okPair_looks {x y:Nat × Bool} {d:Nat} (h:ML als ops x y=true) (hx:x.2=true) (hd:DW ops x.1=some d) (hl:EA ops y.1 d=true):wt ops y.1 x.1=true:=by
  simp only [ML,hx,cond_true,hd,Bool.and_eq_true,Bool.or_eq_true,Bool.not_eq_true'] at h;rcases h.1 with h | h
  · rw [hl] at h;cases h
  · exact h
theorem okPair_free {x y:Nat × Bool} {d:Nat} (h:ML als ops x y=true) (hx:x.2=true) (hy:y.2=true) (hd:DW ops y.1=some d):EA ops x.1 d=false:=by
  simp only [ML,hx,hy,cond_true,Bool.and_eq_true] at h;exact (IK h.2 hd).1
theorem Mid.pe (m:Mid P N ops als al L0 F0 fp ds Kfin listed pre todo pend early l I M a w) (hnd:((pre++todo).map Prod.fst).Nodup):∀ x∈pend,x.1∉early.map Prod.fst:=fun x hx hm=>by
  obtain ⟨e,he,e1⟩:=List.mem_map.1 hm;rw [List.map_append] at hnd;exact (List.nodup_append.1 hnd).2.2 x.1 (List.mem_map_of_mem (f:=Prod.fst) (m.pnd x hx).1) x.1 (by rw [← e1];exact List.mem_map_of_mem (f:=Prod.fst) (m.ear e he).1) rfl
theorem Mid.reach (hA : ∀ i d E, CC al i = some (d, E) → AlOk P N ops L0 i d E) (hcl : RU ops listed) : ∀ (T : List (Nat × Bool)) (pre todo : List (Nat × Bool)) (pend : List (Nat × Nat × Value)) (early : RV) (l : Sl) (M : Seg) (fp : List (Nat × (Seg → Prop))),
    (∀ x∈T,(x.2=true∧¬ GO listed x.1)∨(x.2=false∧x.1∈early.map Prod.fst))→Mid P N ops als al L0 F0 fp ds Kfin listed pre (T++todo) pend early l I M a w →
    HD als ops (pre++(T++todo))=true→((pre++(T++todo)).map Prod.fst).Nodup →
    ∃ pend' early' l' M' fp',Mid P N ops als al L0 F0 fp' ds Kfin listed (pre++T) todo pend' early' l' I M' a w∧(∀ x∈T,x.2=true→x.1∈pend'.map Prod.fst)∧(∀ x∈pend,x∈pend'):=by
  intro T
  induction T with
  | nil=>intro pre todo pend early l M fp _ m _ _;exact ⟨pend,early,l,M,fp,by simpa using m,fun _ h=>by simp at h,fun _ h=>h⟩
  | cons x T ih=>
    intro pre todo pend early l M fp hT m hok hnd;obtain ⟨i,kd⟩:=x;have hi:i∉pre.map Prod.fst:=fun hm=>by
      rw [List.map_append] at hnd;exact (List.nodup_append.1 hnd).2.2 i hm i (by simp) rfl
    have hi2:i∉(T++todo).map Prod.fst:=by
      rw [List.map_append] at hnd;have:=(List.nodup_append.1 hnd).2.1;rw [List.cons_append,List.map_cons] at this;exact (List.nodup_cons.1 this).1
    have e:(pre++[(i,kd)])++(T++todo)=pre++((i,kd)::T++todo):=by simp
    have halle:∀ e∈early,∀ k,wt ops e.1 k=true→GO listed k:=fun e' he k hw=>by
      have hdn:GO listed e'.1:=(m.done e'.1 (SA (hA _ _ _ (m.ear e' he).2.1).1)).2 (.inr (List.mem_map_of_mem (f:=Prod.fst) he));exact KH hcl e'.1 k (fun o ho ed hed hb=>hcl e'.1 hdn o ho ed hed hb) hw
    cases kd with
    | true=>
      have hnd1:¬ GO listed i:=by
        rcases hT (i,true) (by simp) with h | h
        · exact h.2
        · exact absurd h.1 (by simp)
      have he:∀ e∈early,(e.1,false)∈T++todo:=fun e' h=>(List.mem_cons.1 (m.ear e' h).1).resolve_left (by simp)
      obtain ⟨d,v,fp1,m1⟩:=m.virt hA hok hnd1 hi halle he;obtain ⟨pend',early',l',M',fp2,m2,h1,h2⟩:=ih (pre++[(i,true)]) todo (pend++[(i,d,v)]) early _ M fp1 (fun y hy=>hT y (by simp [hy])) m1 (by rw [e];exact hok) (by rw [e];exact hnd);refine ⟨pend',early',l',M',fp2,by simpa using m2,fun y hy hyk=>?_,fun y hy=>h2 y (by simp [hy])⟩;rcases List.mem_cons.1 hy with rfl | hy
      · exact List.mem_map.2 ⟨(i,d,v),h2 _ (by simp),rfl⟩
      · exact h1 y hy hyk
    | false=>
      have hin:i∈early.map Prod.fst:=by
        rcases hT (i,false) (by simp) with h | h
        · exact absurd h.1 (by simp)
        · exact h.2
      obtain ⟨⟨i',d,b,E⟩,he,e'⟩:=List.mem_map.1 hin;simp only at e';subst e';have m1:=m.take hA he hi hi2 (m.pe hnd)
      obtain ⟨pend',early',l',M',fp2,m2,h1,h2⟩:=ih (pre++[(i',false)]) todo pend _ _ _ fp (fun y hy=>by
        rcases hT y (by simp [hy]) with h | h
        · exact .inl h
        · refine .inr ⟨h.1,?_⟩
          obtain ⟨z,hz,ez⟩:=List.mem_map.1 h.2
          refine List.mem_map.2 ⟨z,List.mem_filter.2 ⟨hz,?_⟩,ez⟩
          cases hb:Nat.beq z.1 i' with
          | false=>rfl
          | true=>exact absurd (by rw [← Nat.eq_of_beq_eq_true hb,ez];exact List.mem_map_of_mem (f:=Prod.fst) (List.mem_append_left _ hy)) hi2) m1 (by rw [e];exact hok) (by rw [e];exact hnd)
      refine ⟨pend',early',l',M',fp2,by simpa using m2,fun y hy hyk=>?_,h2⟩;rcases List.mem_cons.1 hy with rfl | hy
      · cases hyk
      · exact h1 y hy hyk
theorem okPreds_spec:∀ (order:List (Nat × Bool)) (seen:List Nat),okPreds ops seen order=true→∀ A x B,order=A++x::B→∃ o,ops[x.1]?=some o∧∀ e∈o.after,Region.binds .any e=true→e.on∈seen∨e.on∈A.map Prod.fst:=by
  intro order
  induction order with
  | nil=>intro seen _ A x B h;simp at h
  | cons y order ih=>
    intro seen h A x B e;simp only [okPreds,Bool.and_eq_true] at h;cases A with
    | nil=>
      simp only [List.nil_append,List.cons.injEq] at e;obtain ⟨rfl,rfl⟩:=e;cases ho:ops[y.1]? with
      | none=>rw [ho] at h;simp at h
      | some o=>
        rw [ho] at h;refine ⟨o,rfl,fun e he hb=>.inl ?_⟩;have:=Array.all_eq_true_iff_forall_mem.1 h.1 e he;rw [hb] at this;simp only [Bool.not_true,Bool.false_or,List.any_eq_true] at this;obtain ⟨k,hk,e'⟩:=this;rw [← Nat.eq_of_beq_eq_true e'];exact hk
    | cons z A=>
      simp only [List.cons_append,List.cons.injEq] at e;obtain ⟨rfl,rfl⟩:=e;obtain ⟨o,ho,hall⟩:=ih (y.1::seen) h.2 A x B rfl;refine ⟨o,ho,fun e he hb=>?_⟩;rcases hall e he hb with h' | h'
      · rcases List.mem_cons.1 h' with h' | h'
        · exact .inr (by simp [h'])
        · exact .inl h'
      · exact .inr (by simp only [List.map_cons,List.mem_cons];exact .inr h')
theorem first_undone {listed:Array Bool}:∀ (L:List (Nat × Bool)),(∃ x∈L,¬ GO listed x.1)→∃ A x B,L=A++x::B∧(∀ y∈A,GO listed y.1)∧¬ GO listed x.1:=by
  intro L
  induction L with
  | nil=>rintro ⟨x,hx,_⟩;simp at hx
  | cons y L ih=>
    rintro ⟨x,hx,hn⟩
    by_cases hy:GO listed y.1
    · rcases List.mem_cons.1 hx with rfl | hx
      · exact absurd hy hn
      · obtain ⟨A,z,B,e,h1,h2⟩:=ih ⟨x,hx,hn⟩
        exact ⟨y::A,z,B,by rw [e];rfl,fun u hu=>by
          rcases List.mem_cons.1 hu with rfl | hu
          · exact hy
          · exact h1 u hu,h2⟩
    · exact ⟨[],y,L,rfl,fun _ h=>by simp at h,hy⟩
def QI (listed:Array Bool) (order:List (Nat × Bool)):Nat:=(order.filter fun x=>!(listed.getD x.1 false)).length
theorem undone_zero {listed:Array Bool} {order:List (Nat × Bool)} (h:QI listed order=0):∀ x∈order,GO listed x.1:=fun x hx=>by
  have:=List.length_eq_zero_iff.1 h;have h2:=List.filter_eq_nil_iff.1 this x hx
  simpa [GO] using h2
theorem undone_set {listed:Array Bool} {order:List (Nat × Bool)} {i:Nat} (hi:i<listed.size) (hx:i∈order.map Prod.fst) (hnd:¬ GO listed i):QI (listed.setIfInBounds i true) order<QI listed order:=by
  unfold QI
  induction order with
  | nil=>simp at hx
  | cons y r ih=>
    have mono:∀ (r:List (Nat × Bool)),(r.filter fun x=>!((listed.setIfInBounds i true).getD x.1 false)).length≤(r.filter fun x=>!(listed.getD x.1 false)).length:=by
      intro r
      induction r with
      | nil=>simp
      | cons z r ihr=>
        rw [List.filter_cons,List.filter_cons]
        by_cases hz:GO listed z.1
        · have h1:GO (listed.setIfInBounds i true) z.1:=(GZ hi).2 (.inr hz)
          unfold GO at hz h1;rw [if_neg (by rw [h1];simp),if_neg (by rw [hz];simp)];exact ihr
        · have hz':listed.getD z.1 false=false:=by simpa [GO] using hz
          rw [if_pos (show (!(listed.getD z.1 false))=true by rw [hz'];rfl)]
          split
          · simp only [List.length_cons];omega
          · simp only [List.length_cons];omega
    rw [List.filter_cons,List.filter_cons]
    by_cases hy:y.1=i
    · have h1:(listed.setIfInBounds i true).getD y.1 false=true:=(GZ hi).2 (.inl hy)
      have h2:listed.getD y.1 false=false:=by rw [hy];simpa [GO] using hnd
      rw [if_neg (by rw [h1];simp),if_pos (by rw [h2];rfl)];have:=mono r;simp only [List.length_cons];omega
    · have hx' : i ∈ r.map Prod.fst := by
        rcases List.mem_cons.1 (by simpa using hx:i∈y.1::r.map Prod.fst) with h | h
        · exact absurd h.symm hy
        · exact h
      have e:(listed.setIfInBounds i true).getD y.1 false=listed.getD y.1 false:=by simp [Array.getElem?_setIfInBounds_ne (Ne.symm hy)]
      rw [e]
      split
      · simp only [List.length_cons];have:=ih hx';omega
      · exact ih hx'
theorem Mid.finish (hA : ∀ i d E, CC al i = some (d, E) → AlOk P N ops L0 i d E) {n0 : Nat} {order : List (Nat × Bool)} (h1 : HD als ops order = true) (hnd : (order.map Prod.fst).Nodup) (hlt0 : ∀ x ∈ order, x.1 < n0) (hn0 : n0 ≤ ops.size)
    (hfin:∀ l I M,Kfin l I M→Seq (ρ:=ρ) P N ops Q ds n0 l I (M++F0)) (he:order=pre++todo) (m:Mid P N ops als al L0 F0 fp ds Kfin listed pre todo pend early l I M a w) (hd:∀ x∈order,GO listed x.1):QJ ρ P ops Q (List.range' n0 (ops.size-n0)) a w:=by
  have hpend:pend=[]:=by
    cases hp:pend with
    | nil=>rfl
    | cons y ys=>
      exfalso
      have hy:y∈pend:=by rw [hp];simp
      have h3:=(m.pnd y hy).1;have hin:(y.1,true)∈order:=by rw [he];exact List.mem_append_left _ h3
      rcases (m.done y.1 (by have:=hlt0 _ hin;simp only at this;omega)).1 (hd _ hin) with h | h
      · exact h.2 (List.mem_map_of_mem (f:=Prod.fst) hy)
      · exact m.pe (by rw [← he];exact hnd) y hy h
  subst hpend;have hT:∀ x∈todo,(x.2=true∧¬ GO listed x.1)∨(x.2=false∧x.1∈early.map Prod.fst):=fun x hx=>by
    have hin:x∈order:=by rw [he];exact List.mem_append_right _ hx
    rcases (m.done x.1 (by have:=hlt0 _ hin;omega)).1 (hd _ hin) with h | h
    · rw [he,List.map_append] at hnd
      exact absurd rfl ((List.nodup_append.1 hnd).2.2 x.1 h.1 x.1 (List.mem_map_of_mem (f:=Prod.fst) hx))
    · refine .inr ⟨?_,h⟩
      obtain ⟨e,he',e1⟩:=List.mem_map.1 h;have h2:=(m.ear e he').1;cases hx2:x.2 with
      | false=>rfl
      | true=>
        exfalso
        rw [he,List.map_append] at hnd;have hn2:=(List.nodup_append.1 hnd).2.1;have:∀ (t:List (Nat × Bool)),(t.map Prod.fst).Nodup→∀ a∈t,∀ b∈t,a.1=b.1→a=b:=by
          intro t
          induction t with
          | nil=>intro _ a ha;simp at ha
          | cons z t iht=>
            intro hn a ha b hb hab;rw [List.map_cons,List.nodup_cons] at hn;rcases List.mem_cons.1 ha with e1 | ha'
            · rcases List.mem_cons.1 hb with e2 | hb'
              · rw [e1,e2]
              · exact absurd (by rw [← e1,hab];exact List.mem_map_of_mem (f:=Prod.fst) hb') hn.1
            · rcases List.mem_cons.1 hb with e2 | hb'
              · exact absurd (by rw [← e2,← hab];exact List.mem_map_of_mem (f:=Prod.fst) ha') hn.1
              · exact iht hn.2 a ha' b hb' hab
        have h3:=this todo hn2 x hx (e.1,false) h2 e1.symm;rw [h3] at hx2;cases hx2
  obtain ⟨pend',early',l',M',fp',m2,_,_⟩:=Mid.reach (T:=todo) (todo:=[]) hA m.closed pre _ _ _ _ fp hT (by simpa using m) (by rw [List.append_nil,← he];exact h1) (by rw [List.append_nil,← he];exact hnd);have hp2:pend'=[]:=by
    cases hp:pend' with
    | nil=>rfl
    | cons y ys=>
      exfalso
      have hy:y∈pend':=by rw [hp];simp
      have h3:=(m2.pnd y hy).1;rw [← he] at h3;rcases (m2.done y.1 (by have:=hlt0 _ h3;simp only at this;omega)).1 (hd _ h3) with h | h
      · exact h.2 (List.mem_map_of_mem (f:=Prod.fst) hy)
      · obtain ⟨e,he',_⟩:=List.mem_map.1 h
        have:=(m2.ear e he').1;simp at this
  have he2:early'=[]:=by
    cases hp:early' with
    | nil=>rfl
    | cons y ys=>have:=(m2.ear y (by rw [hp];simp)).1;simp at this
  subst hp2 he2;exact hfin l' I M' m2.rest a w ⟨m2.size,fun t u hu=>m2.slots t u hu (fun _ h=>by simp at h) (fun _ h=>by simp at h)⟩ m2.defers m2.st
theorem draw_any (hInj : ∀ i j d, isAl als i = true → isAl als j = true → DW ops i = some d → DW ops j = some d → i = j) {n0 : Nat} {order : List (Nat × Bool)} (h1 : HD als ops order = true) (h2 : okPreds ops [] order = true) (hnd : (order.map Prod.fst).Nodup) (hall : ∀ k, k < n0 → k ∈ order.map Prod.fst) (hlt0 : ∀ x ∈ order, x.1 < n0) (hn0 : n0 ≤ ops.size)
    (hsz:∀ j,j<ops.size→∀ i,i<j→n0≤j→wt ops j i=true) (hlt:∀ j o,n0≤j→ops[j]?=some o→∀ e∈o.after,Region.binds .any e=true→e.on<j)
    (hfin:∀ l I M,Kfin l I M→Seq (ρ:=ρ) P N ops Q ds n0 l I (M++F0)) :
    ∀ (fuel:Nat) (listed:Array Bool) (pre todo:List (Nat × Bool)) (pend:List (Nat × Nat × Value)) (early:RV) (l:Sl) (I:Imm) (M:Seg) (fp:List (Nat × (Seg→Prop))) (al:List (Nat × Nat × Fresh)) (L0:Sl) (a:Act) (w:GW),(∀ i d E,CC al i=some (d,E)→AlOk P N ops L0 i d E)→(∀ i d E,CC al i=some (d,E)→isAl als i=true)→Known ops als al todo→order=pre++todo →
      Mid P N ops als al L0 F0 fp ds Kfin listed pre todo pend early l I M a w→QI listed order+(ops.size-n0)≤fuel→wpAnyC ρ P .any ops Q fuel listed a w:=by
  intro fuel
  induction fuel with
  | zero=>
    intro listed pre todo pend early l I M fp al L0 a w hA hAs hKn he m hf;have hd:=undone_zero (listed:=listed) (order:=order) (by omega);refine tail_any hsz hlt (ops.size-n0) n0 0 listed a w (by omega) (Nat.le_refl _) (by omega) m.lsize m.closed (fun j hj=>?_) (m.finish hA h1 hnd hlt0 hn0 hfin he hd)
    constructor
    · intro _
      have:ops.size-n0=0:=by omega
      omega
    · intro h;obtain ⟨x,hx,rfl⟩:=List.mem_map.1 (hall j h);exact hd x hx
  | succ f ih=>
    intro listed pre todo pend early l I M fp al L0 a w hA hAs hKn he m hf
    by_cases hend:∀ x∈order,GO listed x.1
    · have hz : QI listed order = 0 := by
        unfold QI;rw [List.length_eq_zero_iff,List.filter_eq_nil_iff];intro x hx;have:=hend x hx;unfold GO at this;rw [this];simp
      refine tail_any hsz hlt (ops.size-n0) n0 (f+1) listed a w (by omega) (Nat.le_refl _) (by omega) m.lsize m.closed (fun j hj=>?_) (m.finish hA h1 hnd hlt0 hn0 hfin he hend)
      constructor
      · intro hdn
        rcases (m.done j hj).1 hdn with h | h
        · obtain ⟨x,hx,rfl⟩:=List.mem_map.1 h.1;exact hlt0 x (by rw [he];exact List.mem_append_left _ hx)
        · obtain ⟨e,he',rfl⟩:=List.mem_map.1 h;exact hlt0 _ (by rw [he];exact List.mem_append_right _ (m.ear e he').1)
      · intro h;obtain ⟨x,hx,rfl⟩:=List.mem_map.1 (hall j h);exact hend x hx
    · -- something of the order has not been carried out
      have hun:∃ x∈order,¬ GO listed x.1:=by
        rcases Classical.em (∃ x∈order,¬ GO listed x.1) with h | h
        · exact h
        · exact absurd (fun x hx=>Classical.byContradiction fun hn=>h ⟨x,hx,hn⟩) hend
      refine ⟨fun hnil=>?_,fun i hi=>?_⟩
      · exfalso
        obtain ⟨A,x,B,e,hA',hx⟩:=first_undone order hun;obtain ⟨o,ho,hpr⟩:=okPreds_spec order [] h2 A x B e;have hin:x.1∈Region.ready .any ops listed:=by
          refine mem_ready.2 ⟨?_,o,ho,fun e' he' hb=>?_⟩
          · have hlt':x.1<ops.size:=(Array.getElem?_eq_some_iff.1 ho).1
            unfold GO at hx;simp [m.lsize,hlt'] at hx ⊢;exact hx
          · rcases hpr e' he' hb with h | h
            · simp at h
            · obtain ⟨y,hy,e2⟩:=List.mem_map.1 h
              rw [← e2];exact hA' y hy
        rw [hnil] at hin;cases hin
      · obtain ⟨hul,o,ho,hpr⟩:=DH hi
        have hil:i<ops.size:=(Array.getElem?_eq_some_iff.1 ho).1;have hndn:¬ GO listed i:=HZ hi (by rw [m.lsize];exact hil);have hpr':∀ o',ops[i]?=some o'→∀ e∈o'.after,Region.binds .any e=true→GO listed e.on:=fun o' ho'=>by rw [ho] at ho';cases ho';exact hpr
        have hi0:i<n0:=by
          rcases Nat.lt_or_ge i n0 with h | h
          · exact h
          · obtain ⟨x,hx,hxn⟩:=hun
            exact absurd (KH m.closed i x.1 hpr' (hsz i hil x.1 (by have:=hlt0 x hx;omega) h)) hxn
        have hless:QI (listed.setIfInBounds i true) order+(ops.size-n0)≤f:=by
          have:=undone_set (by rw [m.lsize];exact hil) (hall i hi0) hndn;omega
        obtain ⟨⟨i',kd⟩,hmem,e⟩:=List.mem_map.1 (hall i hi0);simp only at e;subst e
        have halle:∀ (early:RV),(∀ e∈early,CC al e.1=some (e.2.1,e.2.2.2))→(∀ e∈early,GO listed e.1)→∀ e∈early,∀ k,wt ops e.1 k=true→GO listed k:=fun early h3 h4 e' he k hw=>
          KH m.closed e'.1 k (fun o ho ed hed hb=>m.closed e'.1 (h4 e' he) o ho ed hed hb) hw
        have hpairs:∀ (A B:List (Nat × Bool)) (kd:Bool),order=A++(i',kd)::B→kd=true→∀ (y:Nat × Bool) (d:Nat),y∈order→y.2=true→DW ops y.1=some d→EA ops i' d=true→wt ops i' y.1=true∨y.1=i':=by
          intro A B kd eo hkd y d hy hyk hyd hyl;rw [eo] at hy;rcases List.mem_append.1 hy with hy | hy
          · exact .inl (okPair_looks (HP (by rw [eo] at h1;exact h1) hy) hyk hyd hyl)
          · rcases List.mem_cons.1 hy with hy | hy
            · rw [hy];exact .inr rfl
            · have:=okPair_free (KP (by rw [eo] at h1;exact h1) hy) hkd hyk hyd
              simp only at this;rw [hyl] at this;cases this
        have exec : ∀ (pre' todo' : List (Nat × Bool)) (pend' : List (Nat × Nat × Value)) (early' : RV) (l' : Sl) (M' : Seg) (fp' : List (Nat × (Seg → Prop))), Known ops als al todo' → order = pre' ++ todo' → Mid P N ops als al L0 F0 fp' ds Kfin listed pre' todo' pend' early' l' I M' a w → i' ∈ pend'.map Prod.fst →
            NF ρ P ops i' (wpAnyC ρ P .any ops Q f (listed.setIfInBounds i' true)) a w:=by
          intro pre' todo' pend' early' l' M' fp' hKn' he' m' hin;obtain ⟨x,hx,hxi⟩:=List.mem_map.1 hin;refine m'.exec hx hxi hi (by rw [← he'];exact h1) (fun y hy hl=>?_) (m'.pe (by rw [← he'];exact hnd)) (fun a' w' m''=>ih _ pre' todo' _ early' l' I M' fp' al L0 a' w' hA hAs hKn' he' m'' hless);obtain ⟨hxp,_⟩:=m'.pnd x hx;rw [hxi] at hxp;obtain ⟨A,B,eA⟩:=List.append_of_mem (show (i',true)∈order by rw [he'];exact List.mem_append_left _ hxp);exact hpairs A B true eA rfl (y.1,true) y.2.1 (by rw [he'];exact List.mem_append_left _ (m'.pnd y hy).1) rfl (m'.pnd y hy).2.1 hl
        rw [he] at hmem;rcases List.mem_append.1 hmem with hmem | hmem
        · -- it was reckoned with already
          refine exec pre todo pend early l M fp hKn he m ?_
          by_cases hin:i'∈pend.map Prod.fst
          · exact hin
          · exact absurd ((m.done i' hil).2 (.inl ⟨List.mem_map_of_mem (f:=Prod.fst) hmem,hin⟩)) hndn
        · obtain ⟨T,B,eT⟩:=List.append_of_mem hmem
          by_cases hkal:kd=false∧isAl als i'=true
          · obtain ⟨rfl,hisal⟩:=hkal
            obtain ⟨⟨d,E⟩,hal⟩:∃ p,CC al i'=some p:=by
              rcases hKn i' hisal with h | ⟨k,h1,h2,h3⟩
              · exact h
              · exfalso
                have hdn:=KH m.closed i' k hpr' h2;have hkl:k<ops.size:=by have:=hlt0 (k,false) (by rw [he];exact List.mem_append_right _ h1);simp only at this;omega
                rcases (m.done k hkl).1 hdn with h | h
                · rw [he,List.map_append] at hnd
                  exact (List.nodup_append.1 hnd).2.2 k h.1 k (List.mem_map_of_mem (f:=Prod.fst) h1) rfl
                · obtain ⟨e,he',e1⟩:=List.mem_map.1 h
                  have:=hAs _ _ _ (m.ear e he').2.1;rw [e1,h3] at this;cases this
            have hAi:=hA i' d E hal;refine m.ahead hal hAi hA (m.pe (by rw [← he];exact hnd)) hi hmem hndn (fun x hx=>?_) (fun e he' e1=>?_) (fun b a' w' m'=>ih _ pre todo pend _ l I M fp al L0 a' w' hA hAs hKn he m' hless)
            · have hxp:=(m.pnd x hx).1
              obtain ⟨A,B',eA⟩:=List.append_of_mem hmem;have hp:=HP (A:=pre++A) (B:=B') (x:=(x.1,true)) (y:=(i',false)) (by rw [he,eA] at h1;simpa using h1) (List.mem_append_left _ hxp)
              have:=okPair_al hp hAi.1 (fun hw=>by
                have hdn:=KH m.closed i' x.1 hpr' hw
                rcases (m.done x.1 (SA (m.pnd x hx).2.1)).1 hdn with h | h
                · exact h.2 (List.mem_map_of_mem (f:=Prod.fst) hx)
                · exact m.pe (by rw [← he];exact hnd) x hx h)
              refine ⟨fun e1=>?_,this.1⟩;have h3:=QR (m.pnd x hx).2.1;rw [e1,this.2] at h3;cases h3
            · have g1:=(m.ear e he').2.1
              have h3:=hInj _ _ _ hisal (hAs _ _ _ g1) hAi.1 (by rw [e1];exact (hA _ _ _ g1).1);exact hndn ((m.done i' hil).2 (.inr (by rw [h3];exact List.mem_map_of_mem (f:=Prod.fst) he')))
          · subst eT
            have hT:∀ x∈T,(x.2=true∧¬ GO listed x.1)∨(x.2=false∧x.1∈early.map Prod.fst):=fun x hx=>by
              have hinT:x∈T++(i',kd)::B:=List.mem_append_left _ hx;have notpre:x.1∉pre.map Prod.fst:=fun hm=>by
                rw [he,List.map_append] at hnd;exact (List.nodup_append.1 hnd).2.2 x.1 hm x.1 (List.mem_map_of_mem (f:=Prod.fst) hinT) rfl
              have xlt:x.1<ops.size:=by have:=hlt0 x (by rw [he];exact List.mem_append_right _ hinT);omega
              have hp:=HP (A:=pre++T) (B:=B) (x:=x) (y:=(i',kd)) (by rw [he] at h1;simpa using h1) (List.mem_append_right _ hx);cases hk:x.2 with
              | true=>
                refine .inl ⟨rfl,fun hdn=>?_⟩;rcases (m.done x.1 xlt).1 hdn with h | h
                · exact notpre h.1
                · obtain ⟨e,he',e1⟩:=List.mem_map.1 h
                  have h2:=(m.ear e he').1;have hn2:((T++(i',kd)::B).map Prod.fst).Nodup:=by
                    rw [he,List.map_append] at hnd;exact (List.nodup_append.1 hnd).2.1
                  obtain ⟨C1,C2,eC⟩:=List.append_of_mem hinT;rw [eC,List.map_append,List.map_cons] at hn2;rw [eC] at h2;rcases List.mem_append.1 h2 with h2 | h2
                  · exact (List.nodup_append.1 hn2).2.2 e.1 (List.mem_map_of_mem (f:=Prod.fst) h2) x.1 (by simp) e1
                  · rcases List.mem_cons.1 h2 with h2 | h2
                    · rw [← h2] at hk;cases hk
                    · exact (List.nodup_cons.1 (List.nodup_append.1 hn2).2.1).1 (by rw [← e1];exact List.mem_map_of_mem (f:=Prod.fst) h2)
              | false=>
                refine .inr ⟨rfl,?_⟩;have hw:wt ops i' x.1=true:=by
                  unfold ML at hp;rw [hk] at hp;simp only [cond_false,Bool.or_eq_true,Bool.and_eq_true,Bool.not_eq_true'] at hp;rcases hp with h | h
                  · exact h
                  · exact absurd ⟨h.2.1,h.1⟩ hkal
                rcases (m.done x.1 xlt).1 (KH m.closed i' x.1 hpr' hw) with h | h
                · exact absurd h.1 notpre
                · exact h
            obtain ⟨pend',early',l',M',fp1,m',hp1,hp2⟩:=Mid.reach hA m.closed T pre ((i',kd)::B) pend early l M fp hT m (by rw [← he];exact h1) (by rw [← he];exact hnd);have he2:order=(pre++T)++(i',kd)::B:=by rw [he];simp
            have hi':i'∉(pre++T).map Prod.fst:=fun hm=>by
              rw [he2,List.map_append] at hnd;exact (List.nodup_append.1 hnd).2.2 i' hm i' (by simp) rfl
            have hdE:∀ e∈early',GO listed e.1:=fun e he'=>(m'.done e.1 (SA (hA _ _ _ (m'.ear e he').2.1).1)).2 (.inr (List.mem_map_of_mem (f:=Prod.fst) he'))
            have hE2:∀ e∈early',(e.1,false)∈B:=fun e he'=>(List.mem_cons.1 (m'.ear e he').1).resolve_left fun e1=>hndn (by
              have:=hdE e he'
              rw [show e.1=i' from congrArg Prod.fst e1] at this;exact this)
            have hall2:=halle early' (fun e he'=>(m'.ear e he').2.1) hdE;cases kd with
            | true=>
              have hKB:Known ops als al B:=fun j hj=>by
                rcases hKn j hj with h | ⟨k,h1,h2,h3⟩
                · exact .inl h
                rcases List.mem_append.1 h1 with h4 | h4
                · exfalso
                  rcases hT (k,false) h4 with h5 | h5
                  · cases h5.1
                  · obtain ⟨e,he',e1⟩:=List.mem_map.1 h5.2
                    have:=hAs _ _ _ (m.ear e he').2.1;rw [e1,h3] at this;cases this
                · rcases List.mem_cons.1 h4 with h5 | h5
                  · cases h5
                  · exact .inr ⟨k,h5,h2,h3⟩
              obtain ⟨d,v,fp2,m2⟩:=m'.virt hA (by rw [← he2];exact h1) hndn hi' hall2 hE2;exact exec _ B _ _ _ _ fp2 hKB (by rw [he2];simp) m2 (by simp)
            | false=>
              have hal:CC al i'=none:=by
                cases h:CC al i' with
                | none=>rfl
                | some p=>exact absurd ⟨rfl,hAs _ p.1 p.2 h⟩ hkal
              refine m'.act hA hal hi (by rw [← he2];exact h1) hi' hndn hall2 hE2 (m'.pe (by rw [← he2];exact hnd)) hAs (fun l2 I2 M2 al2 L2 a2 w2 hA2 hAs2 hKn2 m2=>ih _ _ B pend' early' l2 I2 M2 fp1 al2 L2 a2 w2 hA2 hAs2 hKn2 (by rw [he2];simp) m2 hless)
theorem run_drawX {c : Code} {id : Nat} {M F0 : Seg} {l : Sl} {I : Imm} (als : List Nat) (al : List (Nat × Nat × Fresh)) (n0 : Nat) (order : List (Nat × Bool)) (hm : P.follows .mixedOrders = true) (hc : c = .region id ops true) (hok : okAllX als ops n0 order = true)
    (hA:∀ i d E,CC al i=some (d,E)→AlOk P N ops L0 i d E) (hAs:∀ i d E,CC al i=some (d,E)→isAl als i=true) (hKn:Known ops als al order) (hInj:∀ i j d,isAl als i=true→isAl als j=true→DW ops i=some d→DW ops j=some d→i=j)
    (hL:∀ t u,look t L0=some u→(∃ k,DW ops k=some t)∨look t l=some u)
    (h:OFPX P N ops als F0 (fun l I M=>Seq (ρ:=ρ) P N ops Q ds n0 l I (M++F0)) al L0 [] order l I M):Run (ρ:=ρ) P N c Q ds l I (M++F0):=by
  subst hc;unfold okAllX at hok;simp only [Bool.and_eq_true] at hok;obtain ⟨⟨⟨⟨⟨⟨g1,g2⟩,g3⟩,g4⟩,g5⟩,g6⟩,g7⟩:=hok;have gl:order.length=n0:=Nat.eq_of_beq_eq_true g7;have hlt0:∀ x∈order,x.1<n0:=fun x hx=>Nat.le_of_ble_eq_true (List.all_eq_true.1 g5 x hx)
  have hall:∀ k,k<n0→k∈order.map Prod.fst:=fun k hk=>by
    have:=List.all_eq_true.1 g6 k (List.mem_range.2 hk);obtain ⟨x,hx,e⟩:=List.any_eq_true.1 this;exact List.mem_map.2 ⟨x,hx,Nat.eq_of_beq_eq_true e⟩
  have hnd:(order.map Prod.fst).Nodup:=nodup_of_all n0 _ (by simp [gl]) hall;have hsz:∀ j,j<ops.size→∀ i,i<j→n0≤j→wt ops j i=true:=fun j hj i hij hn=>by
    have:=List.all_eq_true.1 g3 j (List.mem_range.2 hj);simp only [Bool.or_eq_true,Bool.and_eq_true] at this;rcases this with h | h
    · have:=Nat.le_of_ble_eq_true h;omega
    · exact List.all_eq_true.1 h.1 i (List.mem_range.2 hij)
  have hlt:∀ j o,n0≤j→ops[j]?=some o→∀ e∈o.after,Region.binds .any e=true→e.on<j:=fun j o hn ho e he hb=>by
    have hj:j<ops.size:=(Array.getElem?_eq_some_iff.1 ho).1;have:=List.all_eq_true.1 g3 j (List.mem_range.2 hj);simp only [Bool.or_eq_true,Bool.and_eq_true] at this;rcases this with h | h
    · have:=Nat.le_of_ble_eq_true h;omega
    · have h2:=h.2
      rw [ho] at h2;have:=Array.all_eq_true_iff_forall_mem.1 h2 e he;rw [hb] at this;simp only [Bool.not_true,Bool.false_or] at this;exact Nat.le_of_ble_eq_true this
  have gn:n0≤ops.size:=Nat.le_of_ble_eq_true g4;have hno:∀ k,¬ GO (Array.replicate ops.size false) k:=fun k hk=>by
    unfold GO at hk
    by_cases hks:k<ops.size <;> simp [hks] at hk
  intro a w hS hD hW;refine wpc_region_any hm ?_
  refine draw_any hInj g1 g2 hnd hall hlt0 gn hsz hlt (fun _ _ _ h=>h) ops.size _ [] order [] [] l I M [] al L0 a _ hA hAs hKn rfl
    ⟨by simp,fun k hk=>absurd hk (hno k),fun k hk=>?_,fun _ h=>by simp at h,fun _ h=>by simp at h,fun _ h=>by simp at h,by simp,by simp,hS.size,fun t u hu _ _=>hS.get t u hu,fun _ h=>by simp at h,hD,?_,h,fun t u htu=>(hL t u htu).imp (fun ⟨k,hk⟩=>⟨k,hk,by simp⟩) (fun h=>h)⟩ ?_
  · constructor
    · intro h;exact absurd h (hno k)
    · rintro (⟨h,_⟩ | h) <;> simp at h
  · exact hW
  · have:QI (Array.replicate ops.size false) order≤order.length:=List.length_filter_le _ _
    rw [gl] at this;omega
theorem run_draw {c : Code} {id : Nat} {M R S : Seg} {l : Sl} {I : Imm} (n0 : Nat) (order : List (Nat × Bool)) (hm : P.follows .mixedOrders = true) (hc : c = .region id ops true) (hok : okAll ops n0 order = true) (hM : M.Perm (R ++ S))
    (h:OFP P N ops R (fun l I S=>Seq (ρ:=ρ) P N ops Q ds n0 l I (R++S)) order l I S):Run (ρ:=ρ) P N c Q ds l I M:=by
  have h2:=OFP.x P N ops R order [] l I S M (fun _ h=>by simp at h) hM h;have h4:∀ (l:Sl) (I:Imm) (M:Seg),(∃ S,M.Perm (R++S)∧Seq (ρ:=ρ) P N ops Q ds n0 l I (R++S))→Seq (ρ:=ρ) P N ops Q ds n0 l I (M++[]):=fun l I M ⟨S,hM,hs⟩=>by
    rw [List.append_nil];exact fun a w hS hD hW=>hs a w hS hD (hW.perm hM)
  have h3:=run_drawX (ρ:=ρ) (Q:=Q) (ds:=ds) (F0:=[]) (M:=M) (I:=I) (l:=l) [] [] n0 order hm hc hok (fun _ _ _ h=>by cases h) (fun _ _ _ h=>by cases h) (fun _ h=>by cases h) (fun _ _ _ h=>by cases h) (L0:=[]) (fun _ _ h=>by cases h) (OFPX.mono P N ops h4 order [] [] [] l I M h2);rw [List.append_nil] at h3;exact h3
end
structure Row (sz:Nat) (I:Imm) (a:Option Addr) (b o n:Nat) (cell:Nat→Nat→Value):Prop where
  addr:0<n→a=some ⟨b,o,none⟩
  get:∀ i,i<n→∀ f,f<sz→ICell I ⟨b,o+i*sz+f,none⟩ (cell i f)
theorem Row.mono {sz:Nat} {I J:Imm} {a:Option Addr} {b o n:Nat} {cell:Nat→Nat→Value} (h:Row sz I a b o n cell) (le:I.le J):Row sz J a b o n cell:=
  ⟨h.addr,fun i hi f hf=>(h.get i hi f hf).mono le⟩
def IsSl {α:Type} (sz:Nat) (cell:α→Nat→Value) (dflt:α) (I:Imm) (v:Value) (xs:List α):Prop:=
  ∃ a c b o,v=.slice a xs.length c∧xs.length≤c∧xs.length≤140737488355328∧Row sz I a b o xs.length (fun i f=>cell (xs.getD i dflt) f)
theorem IsSl.mono {α:Type} {sz:Nat} {cell:α→Nat→Value} {dflt:α} {I J:Imm} {v:Value} {xs:List α} (h:IsSl sz cell dflt I v xs) (le:I.le J):IsSl sz cell dflt J v xs:=by
  obtain ⟨a,c,b,o,h1,h2,h3,h4⟩:=h;exact ⟨a,c,b,o,h1,h2,h3,h4.mono le⟩
def AK (x:Int) (_:Nat):Value:=.int .i64 x
abbrev DB:=IsSl 1 AK (0:Int)
def KF (x:Value) (_:Nat):Value:=x
abbrev IsVals:=IsSl 1 KF undef
def IsRows (I:Imm) (v:Value) (xss:List (List Int)):Prop:=
  ∃ a c b o,∃ vs:Nat→Value,v=.slice a xss.length c∧xss.length≤c∧xss.length≤140737488355328∧Row 1 I a b o xss.length (fun i _=>vs i)∧∀ i,i<xss.length→DB I (vs i) (xss.getD i [])
theorem IsRows.mono {I J:Imm} {v:Value} {xss:List (List Int)} (h:IsRows I v xss) (le:I.le J):IsRows J v xss:=by
  obtain ⟨a,c,b,o,vs,h1,h2,h3,h4,h5⟩:=h;exact ⟨a,c,b,o,vs,h1,h2,h3,h4.mono le,fun i hi=>(h5 i hi).mono le⟩
theorem IF {I:Imm} {a:Option Addr} {b o n:Nat} {vs:Nat→Value} (h:Row 1 I a b o n (fun i _=>vs i)) {M:Seg} (i:Nat) (hi:i<n):Sees I M ⟨b,o+i*1,none⟩ (vs i):=
  (h.get i hi 0 (by decide)).sees
theorem EM {I:Imm} {a:Option Addr} {b o n:Nat} {xs:List Int} (h:Row 1 I a b o n (fun i f=>AK (xs.getD i 0) f)) {M:Seg} (i:Nat) (hi:i<n):Sees I M ⟨b,o+i*1,none⟩ (.int .i64 (xs.getD i 0)):=
  (h.get i hi 0 (by decide)).sees
section
variable {ρ:Option Nat} {P:Program} [Jud P] {N:Nat} {ops:Array Oper} {Q:Exit→Act→GW→Prop} {ds:List Deferred} {i:Nat} {l:Sl} {I:Imm} {R M:Seg} {d:Nat} {ty:TypeId} {gd:Option (Nat × Bool)}
theorem JG {v v':Value} (h:Det P N ops i l I R d v) (e:v=v'):Det P N ops i l I R d v':=e▸h
theorem run_draw0 {c : Code} {id : Nat} (n0 : Nat) (order : List (Nat × Bool)) (hm : P.follows .mixedOrders = true) (hc : c = .region id ops true) (hok : okAll ops n0 order = true)
    (h:OFP P N ops M (fun l I S=>S=[]∧Seq (ρ:=ρ) P N ops Q ds n0 l I M) order l I []):Run (ρ:=ρ) P N c Q ds l I M:=by
  refine run_draw (R:=M) (S:=[]) n0 order hm hc hok (by rw [List.append_nil]) ?_;have key:∀ (order:List (Nat × Bool)) (l:Sl) (I:Imm) (S:Seg),OFP P N ops M (fun l I S=>S=[]∧Seq (ρ:=ρ) P N ops Q ds n0 l I M) order l I S→OFP P N ops M (fun l I S=>Seq (ρ:=ρ) P N ops Q ds n0 l I (M++S)) order l I S:=by
    intro order
    induction order with
    | nil=>rintro l I S ⟨rfl,h⟩;show Seq (ρ:=ρ) P N ops Q ds n0 l I (M++[]);rw [List.append_nil];exact h
    | cons x order ih=>
      obtain ⟨j,kd⟩:=x;intro l I S h;cases kd with
      | true=>obtain ⟨d,v,h1,h2⟩:=h;exact ⟨d,v,h1,ih _ _ _ h2⟩
      | false=>
        obtain ⟨o,h1,h2,h3,h4,h5,h6⟩:=h;exact ⟨o,h1,h2,h3,h4,h5,fun w st=>(h6 w st).mono fun v w' ⟨I',M',g1,g2,S',g3,g4⟩=>⟨I',M',g1,g2,S',g3,ih _ _ _ g4⟩⟩
  exact key _ _ _ _ h
theorem AE {Kfin:Sl→Imm→Seg→Prop} {rest:List (Nat × Bool)} {S:Seg} {v:Value} (h:Det P N ops i l I R d v) (next:OFP P N ops R Kfin rest ((d,v)::l) I S):OFP P N ops R Kfin ((i,true)::rest) l I S:=⟨d,v,h,next⟩
theorem BT {n0:Nat} (h:Seq (ρ:=ρ) P N ops Q ds n0 l I M):OFP P N ops M (fun l I S=>S=[]∧Seq (ρ:=ρ) P N ops Q ds n0 l I M) [] l I []:=⟨rfl,h⟩
end
theorem Sub.consE {l' l:Sl} (t:Nat) {v v':Value} (h:look t l=some v') (e:v'=v) (s:Sub l' l):Sub ((t,v)::l') l:=.cons t (e▸h) s
theorem JU {a b:Int}:cmp .eql a b=decide (a=b):=rfl
theorem cmp_lss {a b:Int}:cmp .lss a b=decide (a<b):=rfl
theorem cmp_leq {a b:Int}:cmp .leq a b=decide (a≤b):=rfl
theorem cmp_gtr {a b:Int}:cmp .gtr a b=decide (b<a):=rfl
theorem BU {ρ : Option Nat} {P : Program} [Jud P] {N : Nat} {ops : Array Oper} {Q : Exit → Act → GW → Prop} {ds : List Deferred} {i : Nat} {l : Sl} {I : Imm} {M : Seg} (t : Nat) {b : Bool} (h : look t l = some (.bool b))
    (h1:b=true→Seq (ρ:=ρ) P N ops Q ds i ((t,.bool true)::l) I M) (h2:b=false→Seq (ρ:=ρ) P N ops Q ds i ((t,.bool false)::l) I M):Seq (ρ:=ρ) P N ops Q ds i l I M:=by
  cases b with
  | true=>exact CM t h rfl (h1 rfl)
  | false=>exact CM t h rfl (h2 rfl)
theorem OFP.sub {P : Program} [Jud P] {N : Nat} {ops : Array Oper} {R : Seg} {Kfin : Sl → Imm → Seg → Prop} {order : List (Nat × Bool)} {l : Sl} {I : Imm} {S : Seg} (t : Nat) {v v' : Value} (e : v = v') (h : OFP P N ops R Kfin order ((t, v') :: l) I S) :
    OFP P N ops R Kfin order ((t,v)::l) I S:=e▸h
theorem MU {P : Program} [Jud P] {N : Nat} {ops : Array Oper} {R : Seg} {Kfin : Sl → Imm → Seg → Prop} {order : List (Nat × Bool)} {l : Sl} {I : Imm} {S : Seg} (t : Nat) {b : Bool}
    (h1:b=true→OFP P N ops R Kfin order ((t,.bool true)::l) I S) (h2:b=false→OFP P N ops R Kfin order ((t,.bool false)::l) I S):OFP P N ops R Kfin order ((t,.bool b)::l) I S:=by
  cases b with
  | true=>exact h1 rfl
  | false=>exact h2 rfl
theorem OX {P : Program} [Jud P] {N : Nat} {ops : Array Oper} {i : Nat} {l : Sl} {I : Imm} {R : Seg} {d : Nat} {ty : TypeId} {gd : Option (Nat × Bool)} {x y : Operand} {T T' e : TypeId} {a : Option Addr} {n c : Nat}
    (hop:EL ops N i=some (some d,.binOp .eql T x y T',ty,gd)) (hg:EK ops l gd=some true) (hT:HU P T=some e) (hx:BK l x=some (.slice a n c)) (hy:BK l y=some (.slice none 0 0)) :
    Det P N ops i l I R d (.bool a.isNone):=
  FT hop hg (HO hx hy) fun I' M'=>by
    show wpL P ((do eqGuard .eql T x y (rho l x) (rho l y);binOp .eql T (rho l x) (rho l y)) >>= fun x=>pure (Next.value x)) _ I' M';rw [AU hx,AU hy];refine CB ?_;show wpL P (Op.equalIn 10000 T (.slice a n c) (.slice none 0 0) >>= fun b=>pure (Value.bool b)) _ I' M';rw [AD];unfold Op.equalIn;rw [AD,AJ (CT hT)];cases a <;> exact ⟨rfl,rfl⟩
theorem and_t {a b:Bool} (h:(a&&b)=true):a=true∧b=true:=by cases a <;> cases b <;> first | exact ⟨rfl,rfl⟩ | cases h
theorem or_f {a b:Bool} (h:(a||b)=false):a=false∧b=false:=by cases a <;> cases b <;> first | exact ⟨rfl,rfl⟩ | cases h
theorem BQ {a b:Int} (h:cmp .eql a b=true):a=b:=of_decide_eq_true h
theorem BV {a b:Int} (h:cmp .eql a b=false):a≠b:=of_decide_eq_false h
theorem CQ {a b:Int} (h:cmp .lss a b=true):a<b:=of_decide_eq_true h
theorem CU {a b:Int} (h:cmp .lss a b=false):b≤a:=Int.not_lt.1 (of_decide_eq_false h)
theorem leq_t {a b:Int} (h:cmp .leq a b=true):a≤b:=of_decide_eq_true h
theorem leq_f {a b:Int} (h:cmp .leq a b=false):b<a:=Int.not_le.1 (of_decide_eq_false h)
theorem SW {a b:Int} (h:cmp .gtr a b=true):b<a:=of_decide_eq_true h
theorem gtr_f {a b:Int} (h:cmp .gtr a b=false):a≤b:=Int.not_lt.1 (of_decide_eq_false h)
theorem geq_t {a b:Int} (h:cmp .geq a b=true):b≤a:=of_decide_eq_true h
theorem geq_f {a b:Int} (h:cmp .geq a b=false):a<b:=Int.not_le.1 (of_decide_eq_false h)
theorem BM {b:Bool} (h:(!b)=true):b=false:=by cases b <;> first | rfl | cases h
theorem BE {b:Bool} (h:(!b)=false):b=true:=by cases b <;> first | rfl | cases h
theorem NR {p:Prop} [Decidable p] (h:decide p=true):p:=of_decide_eq_true h
theorem QQ {p:Prop} [Decidable p] (h:decide p=false):¬ p:=of_decide_eq_false h
def BX {α:Type} (sz:Nat) (cell:α→Nat→Value) (xs:List α):List Value:=xs.flatMap fun x=>(List.range sz).map (cell x)
theorem BG {α:Type} (sz:Nat) (cell:α→Nat→Value) (xs:List α):(BX sz cell xs).length=xs.length*sz:=by
  induction xs with
  | nil=>simp [BX]
  | cons x xs ih=>
    have:BX sz cell (x::xs)=(List.range sz).map (cell x)++BX sz cell xs:=by simp [BX]
    rw [this,List.length_append,ih];simp [Nat.succ_mul,Nat.add_comm]
theorem HW {α:Type} (sz:Nat) (cell:α→Nat→Value) (xs ys:List α):BX sz cell (xs++ys)=BX sz cell xs++BX sz cell ys:=by simp [BX]
theorem TI {α:Type} (sz:Nat) (cell:α→Nat→Value) (dflt:α) (xs:List α):∀ (i f:Nat),i<xs.length→f<sz→(BX sz cell xs)[i*sz+f]?=some (cell (xs.getD i dflt) f):=by
  induction xs with
  | nil=>intro i f h;simp at h
  | cons x xs ih=>
    intro i f hi hf;have e:BX sz cell (x::xs)=(List.range sz).map (cell x)++BX sz cell xs:=by simp [BX]
    rw [e];cases i with
    | zero=>
      rw [Nat.zero_mul,Nat.zero_add,List.getElem?_append_left (by simpa using hf)];simp [hf]
    | succ i=>
      rw [List.getElem?_append_right (by simp [Nat.succ_mul];omega)];have:(i+1)*sz+f-((List.range sz).map (cell x)).length=i*sz+f:=by simp [Nat.succ_mul];omega
      rw [this,ih i f (by simpa using hi) hf];simp
def Own {α:Type} (E:TypeId) (sz:Nat) (cell:α→Nat→Value) (v:Value) (xs:List α) (Ms:Seg):Prop:=
  (v=.slice none 0 0∧xs=[]∧Ms=[]) ∨
  ∃ b c sp,v=.slice (some ⟨b,0,none⟩) xs.length c∧xs.length≤c∧Ms=[(b,Obj.cells (BX sz cell xs++sp).toArray E (0,0))]∧(BX sz cell xs++sp).length=c*sz
theorem Own.nil {α:Type} (E:TypeId) (sz:Nat) (cell:α→Nat→Value):Own E sz cell (.slice none 0 0) ([]:List α) []:=.inl ⟨rfl,rfl,rfl⟩
theorem Own.shape {α:Type} {E:TypeId} {sz:Nat} {cell:α→Nat→Value} {v:Value} {xs:List α} {Ms:Seg} (h:Own E sz cell v xs Ms):∃ a c,v=.slice a xs.length c∧xs.length≤c:=by
  rcases h with ⟨rfl,rfl,rfl⟩ | ⟨b,c,sp,rfl,h,_⟩
  · exact ⟨none,0,rfl,Nat.le_refl _⟩
  · exact ⟨_,c,rfl,h⟩
theorem Own.freeze {α : Type} {E : TypeId} {sz : Nat} {cell : α → Nat → Value} {v : Value} {xs : List α} {Ms M : Seg} {I : Imm} {w : GW} (dflt : α) (h : Own E sz cell v xs Ms) (hl : xs.length ≤ 140737488355328) (st : St I (Ms ++ M) w) :
    ∃ J,I.le J∧IsSl sz cell dflt J v xs∧St J M w:=by
  rcases h with ⟨rfl,rfl,rfl⟩ | ⟨b,c,sp,rfl,h,rfl,hc⟩
  · exact ⟨I,Imm.le.refl I,⟨none,0,0,0,rfl,Nat.le_refl _,by simp,⟨fun h=>by simp at h,fun i hi=>by simp at hi⟩⟩,st⟩
  · have hb:I.blk b=none:=st.disj b (Obj.cells (BX sz cell xs++sp).toArray E (0,0)) (by simp)
    refine ⟨I.add b _,Imm.le_add hb,⟨_,c,b,0,rfl,h,hl,⟨fun _=>rfl,fun i hi f hf=>⟨rfl,_,E,(0,0),Imm.add_same I b _,?_⟩⟩⟩,St.freeze st⟩;have hlt:i*sz+f<(BX sz cell xs).length:=by
      rw [BG];have:i*sz+sz≤xs.length*sz:=by rw [← Nat.succ_mul];exact Nat.mul_le_mul_right _ hi
      omega
    simp only [List.getElem?_toArray,Nat.zero_add];rw [List.getElem?_append_left hlt];exact TI sz cell dflt xs i f hi hf
theorem Own.sees {α : Type} {E : TypeId} {sz : Nat} {cell : α → Nat → Value} {xs : List α} {b c : Nat} {sp : List Value} {I : Imm} {M : Seg} (dflt : α) (hm : (b, Obj.cells (BX sz cell xs ++ sp).toArray E (0, 0)) ∈ M) (i f : Nat) (hi : i < xs.length) (hf : f < sz) :
    Sees I M ⟨b,i*sz+f,none⟩ (cell (xs.getD i dflt) f):=by
  refine ⟨rfl,_,E,(0,0),.inl hm,?_⟩;have hlt:i*sz+f<(BX sz cell xs).length:=by
    rw [BG];have:i*sz+sz≤xs.length*sz:=by rw [← Nat.succ_mul];exact Nat.mul_le_mul_right _ hi
    omega
  simp only [List.getElem?_toArray];rw [List.getElem?_append_left hlt];exact TI sz cell dflt xs i f hi hf
def Src (I:Imm) (M:Seg) (v:Value) (n:Nat) (cells:List Value):Prop:=
  ∃ a c,v=.slice a n c∧(cells=[]∨∃ b o,a=some ⟨b,o,none⟩∧SeesN I M b o cells)
theorem growBy_le (need:Nat):∀ (r c:Nat),c≤2*need+1000→Builtin.growBy need r c≤2*need+1000:=by
  intro r
  induction r with
  | zero=>intro c h;exact h
  | succ r ih=>
    intro c h;simp only [Builtin.growBy]
    split
    · exact h
    · exact ih _ (by omega)
theorem JZ {need old:Nat} (h:old<need):Builtin.nextslicecap need old≤2*need+1000:=by
  unfold Builtin.nextslicecap
  split
  · omega
  · split
    · omega
    · exact growBy_le need 4 old (by omega)
def JD (P:Program) (t:TypeId):Option Nat:=(P.info? t).map (·.bytes)
section
variable {ρ:Option Nat} {P:Program} [Jud P] {N:Nat} {ops:Array Oper} {i:Nat} {l:Sl} {I:Imm} {R M:Seg} {ty:TypeId} {gd:Option (Nat × Bool)} {K:Sl→Imm→Seg→Prop}
theorem IG {P:Program} {sz n:Nat} {v:Value} {cells:List Value} {Q:Array Value→Seg→Prop} (h:Src I M v n cells) (hn:cells.length=n*sz) (hq:Q cells.toArray M):wpL P (Builtin.firstCells sz n v) Q I M:=by
  obtain ⟨a,c,rfl,h⟩:=h;rcases h with rfl | ⟨b,o,rfl,h⟩
  · simp only [List.length_nil] at hn
    cases a with
    | none=>exact hq
    | some ad=>
      show wpL P (loadCells ad (n*sz)) Q I M;rw [← hn];exact hq
  · show wpL P (loadCells ⟨b,o,none⟩ (n*sz)) Q I M
    rw [← hn];exact MK h hq
theorem JN (vs:List Value):∀ (A B:List Value),vs.length≤B.length→(KC (A++B).toArray A.length vs).toList=A++vs++B.drop vs.length:=by
  induction vs with
  | nil=>intro A B _;simp [KC]
  | cons v vs ih=>
    intro A B h;cases B with
    | nil=>simp at h
    | cons x B=>
      have e:((A++x::B).toArray.setIfInBounds A.length v)=((A++[v])++B).toArray:=by
        apply Array.ext'
        simp
      have:=ih (A++[v]) B (by simpa using h);simp only [KC];rw [e];have hl:A.length+1=(A++[v]).length:=by simp
      rw [hl,this];simp
theorem JF (zero:Array Value) (n:Nat):(Builtin.zeroCells zero n).size=n*zero.size:=by simp [Builtin.zeroCells]
theorem TP {P:Program} {α:Type} {s:Sem α}:∀ {Q Q':α→Seg→Prop} {M:Seg},(∀ x M',Q x M'→Q' x M')→wpL P s Q I M→wpL P s Q' I M:=by
  induction s with
  | pure a=>intro Q Q' M h hs;exact h _ _ hs
  | load m a k ih=>rintro Q Q' M h ⟨v,h1,h2⟩;exact ⟨v,h1,ih v h h2⟩
  | store m a v k ih=>rintro Q Q' M h ⟨h1,h0,i,cs,T,fz,h2,h3,h4,h5⟩;exact ⟨h1,h0,i,cs,T,fz,h2,h3,h4,ih h h5⟩
  | new o k ih=>intro Q Q' M h hs b;exact ih b h (hs b)
  | shape r k ih=>rintro Q Q' M h ⟨o,h1,h2⟩;exact ⟨o,h1,ih _ h h2⟩
  | freeze a n k ih=>rintro Q Q' M h ⟨h0,i,cs,T,h1,h2⟩;exact ⟨h0,i,cs,T,h1,ih h h2⟩
  | frozen a k ih=>rintro Q Q' M h ⟨o,h1,h2⟩;exact ⟨o,h1,ih _ h h2⟩
  | getObj r k ih=>rintro Q Q' M h ⟨o,h1,h2,h3⟩;exact ⟨o,h1,h2,ih _ h h3⟩
  | setObj r o k ih=>rintro Q Q' M h ⟨h1,i,o',h2,h3,h4⟩;exact ⟨h1,i,o',h2,h3,ih h h4⟩
  | choose q k ih=>
    intro Q Q' M h hs;simp only [wpL] at hs ⊢
    split
    · rename_i hf;rw [if_pos hf] at hs;exact ih 0 h hs
    · rename_i hf;rw [if_neg hf] at hs;exact fun t=>ih _ h (hs t)
  | sys c k ih=>intro Q Q' M h hs;exact hs
  | program k ih=>intro Q Q' M h hs;exact ih P h hs
  | mark m k ih=>intro Q Q' M h hs;exact ⟨hs.1,ih h hs.2⟩
  | halt x=>intro Q Q' M h hs;exact hs
theorem LP {α : Type} {d : Nat} {x y : Operand} {T T' E E' sz bs : Nat} {z : Value} {cell : α → Nat → Value} {v u : Value} {xs ys : List α} {Ms Rest : Seg}
    (hop:EL ops N i=some (some d,.call { callee:=.builtin .append,args:=#[x,y],argTypes:=#[T,T'] },ty,gd)) (hg:EK ops l gd=some true)
    (hT:HU P T=some E) (hsz:DR P E=some sz) (hz:HK P E=some z) (hzc:z.cells.size=sz) (hb:JD P E=some bs) (hbs:1≤bs∧bs≤256) (hT':HU P T'=some E')
    (hx:BK l x=some v) (hy:BK l y=some u) (own:Own E sz cell v xs Ms) (hM:M.Perm (Ms++Rest)) (hone:∀ c∈BX sz cell ys,CS c=true) (hsrc:Src I (Ms++Rest) u ys.length (BX sz cell ys))
    (hneed:xs.length+ys.length≤274877906944)
    (next:∀ v' Ms',Own E sz cell v' (xs++ys) Ms'→K ((d,v')::l) I (Ms'++Rest)):Stp P N ops i l I M K:=by
  refine KD hop hg ?_ hM ?_
  · intro o ho
    simp only [Op.operands,Call.operands] at ho;simp at ho;rcases ho with rfl | rfl
    · exact DG hx
    · exact DG hy
  obtain ⟨av,cv,hv,hcv⟩:=own.shape;obtain ⟨au,cu,hu,hsrc'⟩:=hsrc;have hsrc:Src I (Ms++Rest) u ys.length (BX sz cell ys):=⟨au,cu,hu,hsrc'⟩;have hinfo:∃ inf,P.info? E=some inf∧inf.bytes=bs:=by
    unfold JD at hb;cases hi:P.info? E with
    | none=>rw [hi] at hb;cases hb
    | some inf=>rw [hi] at hb;exact ⟨inf,rfl,by simpa using hb⟩
  obtain ⟨inf,hinf,hbytes⟩:=hinfo;have hly:(BX sz cell ys).length=ys.length*sz:=BG sz cell ys;have hlx:(BX sz cell xs).length=xs.length*sz:=BG sz cell xs;have honeY:=hone;have main:wpL P (Builtin.append_ #[T,T'] ty #[v,u]) (fun r M'=>∃ M'',M''.Sublist M'∧∃ Ms',Own E sz cell r (xs++ys) Ms'∧M''=Ms'++Rest) I (Ms++Rest):=by
    unfold Builtin.append_;subst hv hu;simp only [List.getElem?_toArray,List.getElem?_cons_zero,List.getElem?_cons_succ,AD,AJ (CT hT),BL hsz,AJ (CT hT'),CL,Builtin.lenOf];simp only [Bool.false_eq_true,if_false,Bool.not_false,if_true,CL,false_or];rw [AD,CL]
    by_cases hroom:xs.length+ys.length≤cv
    · -- there is room
      rw [if_pos hroom,AD];refine IG hsrc hly ?_;rcases own with ⟨hv',hxs,hMs⟩ | ⟨b,c,sp,hv',hc,hMs,hlen⟩
      · simp only [Value.slice.injEq] at hv'
        obtain ⟨rfl,_,rfl⟩:=hv';subst hxs hMs;have hy0:ys=[]:=by simpa using hroom
        subst hy0;exact ⟨[]++Rest,List.Sublist.refl _,[],.inl ⟨rfl,rfl,rfl⟩,rfl⟩
      · simp only [Value.slice.injEq] at hv'
        obtain ⟨rfl,_,rfl⟩:=hv';subst hMs;show wpL P (storeCells (Addr.add ⟨b,0,none⟩ (xs.length*sz)) (BX sz cell ys).toArray.toList >>= fun _=>pure (Value.slice (some ⟨b,0,none⟩) (xs.length+ys.length) _)) _ I _;rw [AD,GY,Nat.zero_add];have hsp:(BX sz cell ys).length≤sp.length:=by
          rw [List.length_append,hlx] at hlen;rw [hly];have:(xs.length+ys.length)*sz≤cv*sz:=Nat.mul_le_mul_right sz hroom;rw [Nat.add_mul] at this;omega
        refine FR (T:=E) (k:=0) _ 0 _ (BX sz cell xs++sp).toArray _ (by simp) ?_ (fun c hc=>honeY c (by simpa using hc)) ?_
        · simp only [List.toList_toArray,List.size_toArray,List.length_append,hlx] at hsp ⊢
          omega
        have hset:=JN (BX sz cell ys) (BX sz cell xs) sp hsp;rw [hlx] at hset;have hset':KC (BX sz cell xs++sp).toArray (xs.length*sz+0) (BX sz cell ys).toArray.toList=(BX sz cell (xs++ys)++sp.drop (BX sz cell ys).length).toArray:=by
          apply Array.ext'
          rw [Nat.add_zero];simp only [List.toList_toArray];rw [hset,HW]
        rw [hset'];refine ⟨_,List.Sublist.refl _,[(b,Obj.cells (BX sz cell (xs++ys)++sp.drop (BX sz cell ys).length).toArray E (0,0))],.inr ⟨b,cv,sp.drop (BX sz cell ys).length,by simp,by simpa using hroom,rfl,?_⟩,by simp⟩;rw [HW,List.length_append,List.length_append,List.length_drop];rw [List.length_append] at hlen;omega
    · -- a new array
      rw [if_neg hroom];have hcv':cv<xs.length+ys.length:=by omega
      rw [AD,CF hinf,if_neg (show ¬ (((xs.length+ys.length:Nat):Int)>IntKind.i64.max∧inf.bytes=0) from fun h=>by have:=h.2;omega)]
      rw [AD,CF hinf,if_neg (show ¬ (Builtin.nextslicecap (xs.length+ys.length) cv*inf.bytes>2 ^ 48) from fun h=>by
        have h1:=JZ hcv'
        have h2:Builtin.nextslicecap (xs.length+ys.length) cv*inf.bytes≤(2*(xs.length+ys.length)+1000)*256:=Nat.mul_le_mul h1 (by omega)
        omega)]
      rw [AD];show (if (Question.appendCap (xs.length+ys.length) cv E).forced then _ else ∀ t,_);rw [if_neg (by simp [Question.forced])];intro t;show wpL P (typeInfo E >>= _) _ I _;rw [AD,CF hinf,AD];have hask:∀ (n:Nat) (Q:Unit→Seg→Prop),Q () (Ms++Rest)→wpL P (askRoom n) Q I (Ms++Rest):=fun n Q hq=>by
        unfold askRoom
        split
        · exact ⟨trivial,hq⟩
        · exact hq
      refine hask _ _ ?_;have hold:Src I (Ms++Rest) (.slice av xs.length cv) xs.length (BX sz cell xs):=by
        rcases own with ⟨hv',hxs,hMs⟩ | ⟨b,c,sp,hv',hc,hMs,hlen⟩
        · subst hxs
          exact ⟨av,cv,rfl,.inl rfl⟩
        · simp only [Value.slice.injEq] at hv'
          obtain ⟨rfl,_,rfl⟩:=hv';subst hMs;refine ⟨_,_,rfl,.inr ⟨b,0,rfl,fun k u hk=>⟨rfl,(BX sz cell xs++sp).toArray,E,(0,0),.inl (by simp),?_⟩⟩⟩;simp only [Nat.zero_add,List.getElem?_toArray];rw [List.getElem?_append_left (List.getElem?_eq_some_iff.1 hk).1];exact hk
      rw [AD];refine IG hold hlx ?_;rw [AD];refine IG hsrc hly ?_;rw [AD,DI hz,AD];intro b;have hcap:xs.length+ys.length≤Question.cut (.appendCap (xs.length+ys.length) cv E) t:=by simp [Question.cut]
      generalize Question.cut (.appendCap (xs.length+ys.length) cv E) t=nc at hcap
      refine ⟨[(b,Obj.cells (BX sz cell (xs++ys)++(Builtin.zeroCells z.cells (nc-(xs.length+ys.length))).toList).toArray E (0,0))]++Rest,?_,_,.inr ⟨b,nc,_,by simp,by simpa using hcap,rfl,?_⟩,rfl⟩
      · have e : (BX sz cell xs).toArray ++ (BX sz cell ys).toArray ++ Builtin.zeroCells z.cells (nc - (xs.length + ys.length)) = (BX sz cell (xs ++ ys) ++ (Builtin.zeroCells z.cells (nc - (xs.length + ys.length))).toList).toArray := by
          apply Array.ext'
          simp [HW]
        rw [e];exact .cons_cons _ (List.sublist_append_right _ _)
      · have e1:(Builtin.zeroCells z.cells (nc-(xs.length+ys.length))).toList.length=(nc-(xs.length+ys.length))*sz:=by rw [Array.length_toList,JF,hzc]
        have e2:=BG sz cell (xs++ys);rw [List.length_append,e1,e2,List.length_append,← Nat.add_mul,Nat.add_sub_cancel' hcap]
  unfold IJ execOp resolve;simp only [List.map_toArray,List.map_cons,List.map_nil,AU hx,AU hy];show wpL P (Builtin.append_ #[T,T'] ty #[v,u] >>= fun x=>pure (Next.value x)) _ I _;refine CB ?_;refine TP (fun r M' ⟨M'',hsub,Ms',hown,e⟩=>?_) main;subst e;exact ⟨r,_,.inl rfl,hsub,next r Ms' hown⟩
end
theorem IsSl.len {α:Type} {sz:Nat} {cell:α→Nat→Value} {dflt:α} {I:Imm} {v:Value} {xs:List α} (h:IsSl sz cell dflt I v xs):xs.length≤140737488355328:=by
  obtain ⟨_,_,_,_,_,_,h,_⟩:=h;exact h
theorem getD_cut {α:Type} (xs:List α) (d:α) (L m i:Nat) (h:i<m):((xs.drop L).take m).getD i d=xs.getD (L+i) d:=by
  simp [List.getD,List.getElem?_take,h,List.getElem?_drop]
theorem IsSl.cut {α : Type} {sz : Nat} {cell : α → Nat → Value} {dflt : α} {I : Imm} {a : Option Addr} {n c : Nat} {xs : List α} (h : IsSl sz cell dflt I (.slice a n c) xs) (L H : Nat) (hL : L ≤ H) (hH : H ≤ n) :
    IsSl sz cell dflt I (.slice (if c=L then a else a.map (·.add (L*sz))) (H-L) (c-L)) ((xs.drop L).take (H-L)):=by
  obtain ⟨a',c',b,o,h1,h2,h3,h4⟩:=h;simp only [Value.slice.injEq] at h1;obtain ⟨rfl,rfl,rfl⟩:=h1;have hlen:((xs.drop L).take (H-L)).length=H-L:=by simp;omega
  refine ⟨_,_,b,o+L*sz,by rw [hlen],by omega,by omega,⟨fun hpos=>?_,fun i hi f hf=>?_⟩⟩
  · rw [hlen] at hpos
    rw [if_neg (by omega),h4.addr (by omega)];simp [GY]
  · rw [hlen] at hi
    have:=h4.get (L+i) (by omega) f hf;rw [show o+(L+i)*sz+f=o+L*sz+i*sz+f by rw [Nat.add_mul];omega] at this;rw [getD_cut xs dflt L (H-L) i hi];exact this
theorem IsSl.cutHi {α : Type} {sz : Nat} {cell : α → Nat → Value} {dflt : α} {I : Imm} {a : Option Addr} {n c : Nat} {xs : List α} (h : IsSl sz cell dflt I (.slice a n c) xs) (H : Nat) (hH : H ≤ n) :
    IsSl sz cell dflt I (.slice (if c=0 then a else a.map (·.add (0*sz))) (H-0) (c-0)) (xs.take H):=by
  have:=h.cut 0 H (Nat.zero_le _) hH
  rwa [List.drop_zero,Nat.sub_zero] at this
theorem IsSl.src {α:Type} {sz:Nat} {cell:α→Nat→Value} {dflt:α} {I:Imm} {M:Seg} {v:Value} {xs:List α} (h:IsSl sz cell dflt I v xs):Src I M v xs.length (BX sz cell xs):=by
  obtain ⟨a,c,b,o,rfl,h2,h3,h4⟩:=h;refine ⟨a,c,rfl,?_⟩
  by_cases h0:(BX sz cell xs)=[]
  · exact .inl h0
  · have hpos : 0 < xs.length := by
      cases xs with
      | nil=>exact absurd (by simp [BX]) h0
      | cons x xs=>simp
    refine .inr ⟨b,o,h4.addr hpos,fun k u hk=>?_⟩;have hk':=(List.getElem?_eq_some_iff.1 hk).1;rw [BG] at hk';have hsz:0<sz:=by
      rcases Nat.eq_zero_or_pos sz with e | e
      · subst e;simp at hk'
      · exact e
    have hi:k/sz<xs.length:=(Nat.div_lt_iff_lt_mul hsz).2 hk';have hf:k%sz<sz:=Nat.mod_lt _ hsz;have e:k/sz*sz+k%sz=k:=Nat.div_add_mod' k sz;have h5:=TI sz cell dflt xs (k/sz) (k%sz) hi hf;rw [e,hk] at h5;have h6:=h4.get (k/sz) hi (k%sz) hf;rw [Nat.add_assoc,e] at h6;rw [Option.some.inj h5];exact h6.sees
theorem one_enc {α:Type} {sz:Nat} {cell:α→Nat→Value} (h:∀ a f,f<sz→CS (cell a f)=true) (ys:List α):∀ c∈BX sz cell ys,CS c=true:=fun c hc=>by
  simp only [BX,List.mem_flatMap,List.mem_map,List.mem_range] at hc;obtain ⟨a,_,f,hf,rfl⟩:=hc;exact h a f hf
theorem HE (ys:List Int):∀ c∈BX 1 AK ys,CS c=true:=one_enc (fun _ _ _=>rfl) ys
theorem one_valCell {ys:List Value} (h:ys.all CS=true):∀ c∈BX 1 KF ys,CS c=true:=fun c hc=>by
  simp only [BX,List.mem_flatMap,List.mem_map,List.mem_range,KF] at hc;obtain ⟨a,ha,f,hf,rfl⟩:=hc;exact List.all_eq_true.1 h _ ha
theorem IsSl.nil {α:Type} {sz:Nat} {cell:α→Nat→Value} {dflt:α} (I:Imm):IsSl sz cell dflt I (.slice none 0 0) ([]:List α):=
  ⟨none,0,0,0,rfl,Nat.le_refl _,by simp,⟨fun h=>by simp at h,fun i hi=>by simp at hi⟩⟩
theorem IsRows.nil (I:Imm):IsRows I (.slice none 0 0) []:=
  ⟨none,0,0,0,fun _=>undef,rfl,Nat.le_refl _,by simp,⟨fun h=>by simp at h,fun i hi=>by simp at hi⟩,fun i hi=>by simp at hi⟩
theorem parts_knownS {l:Sl} {T n:Nat} {parts:Array (Nat × Operand)} (h:(NT l (parts.toList.map (·.2))).isSome=true):∀ x∈(Op.buildSlice T n parts).operands,known l x:=fun x hx=>by
  obtain ⟨vs,hvs⟩:=Option.isSome_iff_exists.1 h;exact (HF hvs).1 x (by simpa [Op.operands] using hx)
theorem src_at {I : Imm} {M : Seg} {b n c : Nat} {cs : Array Value} {T : TypeId} {fz : Nat × Nat} {vs : List Value} (k : Nat) (h : M[k]? = some (b, Obj.cells cs T fz)) (hv : (cs.toList.drop 0).take vs.length = vs) :
    Src I M (.slice (some ⟨b,0,none⟩) n c) n vs:=⟨_,c,rfl,.inr ⟨b,0,rfl,seesN_at k h hv⟩⟩
theorem Row.nil {α:Type} {sz:Nat} {I:Imm} {a:Option Addr} {b o:Nat} {xs:List α} {cell:Nat→Nat→Value} (h:Row sz I a b o xs.length cell) (ha:a.isNone=true):xs=[]:=by
  cases xs with
  | nil=>rfl
  | cons x r=>rw [h.addr (by simp)] at ha;cases ha
theorem HG {I : Imm} {Ms R : Seg} {b n c : Nat} {cs : Array Value} {T : TypeId} {fz : Nat × Nat} {vs : List Value} (k : Nat) (h : R[k]? = some (b, Obj.cells cs T fz)) (hv : (cs.toList.drop 0).take vs.length = vs) :
    Src I (Ms++R) (.slice (some ⟨b,0,none⟩) n c) n vs:=by
  have hm:(b,Obj.cells cs T fz)∈Ms++R:=List.mem_append_right _ (List.mem_of_getElem? h);obtain ⟨j,hj⟩:=List.mem_iff_getElem?.1 hm;exact src_at j hj hv
theorem Src.nil {I:Imm} {M:Seg}:Src I M (.slice none 0 0) 0 []:=⟨none,0,rfl,.inl rfl⟩
theorem Own.lit {α : Type} {E : TypeId} {sz : Nat} {cell : α → Nat → Value} {b n : Nat} {cs : Array Value} {xs : List α} (hc : cs = (BX sz cell xs).toArray) (hn : xs.length = n) :
    Own E sz cell (.slice (some ⟨b,0,none⟩) n n) xs [(b,Obj.cells cs E (0,0))]:=
  .inr ⟨b,n,[],by rw [hn],Nat.le_of_eq hn,by rw [List.append_nil,hc],by rw [List.append_nil,BG,hn]⟩
theorem Own.src {α:Type} {E:TypeId} {sz:Nat} {cell:α→Nat→Value} {v:Value} {xs:List α} {Ms M:Seg} {I:Imm} (h:Own E sz cell v xs Ms) (hM:∀ x∈Ms,x∈M):Src I M v xs.length (BX sz cell xs):=by
  rcases h with ⟨rfl,rfl,rfl⟩ | ⟨b,c,sp,rfl,h,rfl,hc⟩
  · exact ⟨none,0,rfl,.inl (by simp [BX])⟩
  · refine ⟨_,c,rfl,.inr ⟨b,0,rfl,fun k u hk=>⟨rfl,(BX sz cell xs++sp).toArray,E,(0,0),.inl (hM _ (by simp)),?_⟩⟩⟩
    simp only [Nat.zero_add,List.getElem?_toArray];rw [List.getElem?_append_left (List.getElem?_eq_some_iff.1 hk).1];exact hk
section
variable {ρ:Option Nat} {P:Program} {N:Nat} {fn:Func} {I I₀:Imm} {post:Value→Imm→Seg→Prop} {F M:Seg} {l:Sl} {w:GW}
theorem wpL_var {T : TypeId} {b off n : Nat} {vs : List Value} {v : Value} {Q : Value → Seg → Prop} (hs : SeesN I M b off vs) (hn : vs.length = n) (hsz : DR P T = some n)
    (hv:(EJ P T=some true∧v=.agg vs.toArray)∨(EJ P T=some false∧vs=[v])) (hq:Q v M):wpL P (loadVar T ⟨b,off,none⟩) Q I M:=by
  unfold loadVar;rcases hv with ⟨ha,rfl⟩ | ⟨ha,rfl⟩
  · rw [AD,KG ha]
    simp only [if_true];rw [AD,BL hsz,AD];subst hn;exact MK hs hq
  · rw [AD,KG ha]
    exact ⟨v,hs 0 v (by simp),hq⟩
theorem QB {a : Act} {t : Nat} {T : TypeId} {b off n : Nat} {vs : List Value} {v : Value} {K : Value → GW → Prop} (st : St I M w) (hS : Slots N l a) (ht : look t l = some (.pointer (some ⟨b, off, none⟩))) (hn : vs.length = n) (hsz : DR P T = some n)
    (hs:SeesN I M b off vs) (hv:(EJ P T=some true∧v=.agg vs.toArray)∨(EJ P T=some false∧vs=[v])) (hk:∀ σ,St I M σ→K v σ):SemTo P (readR a.tmps (.cell t T)) w K:=by
  have e:a.tmps.getD t undef=.pointer (some ⟨b,off,none⟩):=by simp [hS.get t _ ht]
  show SemTo P (do loadVar T (← asAddr (a.tmps.getD t undef))) w K;rw [e];show SemTo P (loadVar T ⟨b,off,none⟩) w K;exact (IX _ (fun x M'=>x=v∧M'=M) I M w (wpL_var hs hn hsz hv ⟨rfl,rfl⟩) st).mono fun x σ ⟨M',⟨hx,hm⟩,st'⟩=>by subst hx hm;exact hk σ st'
theorem IV {t : Nat} {T : TypeId} {b off n : Nat} {vs : List Value} {v : Value} (M' : Seg) (hr : fn.results = #[.cell t T]) (ht : look t l = some (.pointer (some ⟨b, off, none⟩))) (hsz : DR P T = some n) (hn : vs.length = n)
    (hs:SeesN I M b off vs) (hv:(EJ P T=some true∧v=.agg vs.toArray)∨(EJ P T=some false∧vs=[v])) (hsub:(M'++F).Sublist M) (hle:I₀.le I) (hp:post v I M') :
    Pst N (RetQ P fn I₀ post F) .ret [] l I M:=fun a w hS hD hW=>
  ⟨hD,by rw [results_1 hr];exact QB hW hS ht hn hsz hs hv fun σ st=>⟨I,M',hle,hp,st.sub hsub⟩⟩
theorem MZ {t u : Nat} {T U : TypeId} {b off n b2 off2 n2 : Nat} {vs us : List Value} {v x : Value} (M' : Seg) (hr : fn.results = #[.cell t T, .cell u U]) (ht : look t l = some (.pointer (some ⟨b, off, none⟩))) (hsz : DR P T = some n) (hn : vs.length = n)
    (hs:SeesN I M b off vs) (hv:(EJ P T=some true∧v=.agg vs.toArray)∨(EJ P T=some false∧vs=[v]))
    (hu:look u l=some (.pointer (some ⟨b2,off2,none⟩))) (hsz2:DR P U=some n2) (hn2:us.length=n2)
    (hs2:SeesN I M b2 off2 us) (hv2:(EJ P U=some true∧x=.agg us.toArray)∨(EJ P U=some false∧us=[x]))
    (hsub:(M'++F).Sublist M) (hle:I₀.le I) (hp:post (.tuple #[v,x]) I M') :
    Pst N (RetQ P fn I₀ post F) .ret [] l I M:=fun a w hS hD hW=>
  ⟨hD,by rw [results_2 hr];exact .bind (QB hW hS ht hn hsz hs hv fun σ st=>.bind (QB st hS hu hn2 hsz2 hs2 hv2 fun σ st=>.pure ⟨I,M',hle,hp,st.sub hsub⟩))⟩
theorem DQ {t u : Nat} {T : TypeId} {b off n : Nat} {vs : List Value} {v x : Value} (M' : Seg) (hr : fn.results = #[.cell t T, .tmp u]) (ht : look t l = some (.pointer (some ⟨b, off, none⟩))) (hsz : DR P T = some n) (hn : vs.length = n)
    (hs:SeesN I M b off vs) (hv:(EJ P T=some true∧v=.agg vs.toArray)∨(EJ P T=some false∧vs=[v])) (hu:look u l=some x)
    (hsub:(M'++F).Sublist M) (hle:I₀.le I) (hp:post (.tuple #[v,x]) I M') :
    Pst N (RetQ P fn I₀ post F) .ret [] l I M:=fun a w hS hD hW=>
  ⟨hD,by rw [results_2 hr];exact .bind (QB hW hS ht hn hsz hs hv fun σ st=>.bind (TN hS hu (.pure ⟨I,M',hle,hp,st.sub hsub⟩)))⟩
end
def RowsV (I:Imm) (vs:List Value) (xss:List (List Int)):Prop:=vs.length=xss.length∧∀ i,i<xss.length→DB I (vs.getD i undef) (xss.getD i [])
theorem RowsV.mono {I J:Imm} {vs:List Value} {xss:List (List Int)} (h:RowsV I vs xss) (le:I.le J):RowsV J vs xss:=⟨h.1,fun i hi=>(h.2 i hi).mono le⟩
theorem RowsV.nil (I:Imm):RowsV I [] []:=⟨rfl,fun i hi=>by simp at hi⟩
theorem RowsV.snoc {I:Imm} {vs:List Value} {xss:List (List Int)} {v:Value} {xs:List Int} (h:RowsV I vs xss) (hv:DB I v xs):RowsV I (vs++[v]) (xss++[xs]):=by
  refine ⟨by simp [h.1],fun i hi=>?_⟩
  by_cases e:i<xss.length
  · have:=h.2 i e
    simp only [List.getD,List.getElem?_append_left (h.1▸e),List.getElem?_append_left e] at this ⊢;exact this
  · have e1:i=xss.length:=by simp at hi;omega
    subst e1;have h1:=h.1;simp only [List.getD];rw [List.getElem?_append_right (by omega),List.getElem?_append_right (by omega),h1]
    simpa using hv
theorem RowsV.isRows {I:Imm} {vs:List Value} {xss:List (List Int)} {v:Value} (h:RowsV I vs xss) (hv:IsVals I v vs):IsRows I v xss:=by
  obtain ⟨a,c,b,o,h1,h2,h3,h4⟩:=hv;rw [h.1] at h1 h2 h3 h4;exact ⟨a,c,b,o,fun i=>vs.getD i undef,h1,h2,h3,⟨h4.addr,fun i hi f hf=>h4.get i hi f hf⟩,h.2⟩
theorem St.own_freeze {α : Type} {E : TypeId} {sz : Nat} {cell : α → Nat → Value} {ρ : Option Nat} {P : Program} [Jud P] {N : Nat} {c : Code} {Q : Exit → Act → GW → Prop} {ds : List Deferred} {l : Sl} {I : Imm} {M A B Ms : Seg} {v : Value} {xs : List α} (dflt : α)
    (h:Own E sz cell v xs Ms) (hl:xs.length≤140737488355328) (hM:M.Perm (Ms++A)) (hA:A.Perm B)
    (next:∀ J,I.le J→IsSl sz cell dflt J v xs→Run (ρ:=ρ) P N c Q ds l J B):Run (ρ:=ρ) P N c Q ds l I M:=fun a w hS hD hW=>by
  obtain ⟨J,h1,h2,h3⟩:=h.freeze dflt hl (hW.perm hM);exact next J h1 h2 a w hS hD (h3.perm hA)
theorem DC {I:Imm} {M:Seg} {b off n:Nat} {cs:Array Value} {T:TypeId} {fz:Nat × Nat} {vs:List Value} (h:(b,Obj.cells cs T fz)∈M) (hv:(cs.toList.drop off).take n=vs):SeesN I M b off vs:=by
  obtain ⟨j,hj⟩:=List.mem_iff_getElem?.1 h;exact seesN_at j hj hv
def unguarded (ops:Array Oper) (i:Nat):Bool:=
  match ops[i]? with
  | some o=>o.guard.isNone
  | none=>false
theorem stp_of_det {P : Program} [Jud P] {N i : Nat} {ops : Array Oper} {R S : Seg} {l : Sl} {I : Imm} {K : Sl → Imm → Seg → Prop} {d : Nat} {v : Value} (h : Det P N ops i l I R d v) (hg : unguarded ops i = true)
    (next:K ((d,v)::l) I (R++S)):Stp P N ops i l I (R++S) K:=by
  obtain ⟨o,ho,hd,hN,hs,h⟩:=h;unfold unguarded at hg;rw [ho] at hg;have hg':o.guard=none:=by simpa using hg
  have hgv:EK ops l o.guard=some true:=by rw [hg'];rfl
  rcases h with ⟨hf,_⟩ | ⟨_,hk,hr⟩
  · rw [hgv] at hf;cases hf
  · refine ⟨o,ho,fun d' e=>by rw [hd] at e;cases e;exact hN,hs,hgv,hk,fun w st=>?_⟩
    refine (hr I S w (Imm.le.refl I) st).mono fun u w' ⟨hu,st'⟩=>?_
    subst hu;exact ⟨I,R++S,Imm.le.refl I,st',by rw [hd];exact next⟩
theorem ofp_stay {P : Program} [Jud P] {N : Nat} {ops : Array Oper} {R S : Seg} {Kfin : Sl → Imm → Seg → Prop} {rest : List (Nat × Bool)} {l : Sl} {I : Imm} (next : OFP P N ops R Kfin rest l I S) :
    ∃ S',(R++S).Perm (R++S')∧OFP P N ops R Kfin rest l I S':=⟨S,List.Perm.refl _,next⟩
theorem CV {P : Program} [Jud P] {N i : Nat} {ops : Array Oper} {R S : Seg} {Kfin : Sl → Imm → Seg → Prop} {rest : List (Nat × Bool)} {l : Sl} {I : Imm}
    (h:Stp P N ops i l I (R++S) (fun l' I' M'=>∃ S',M'.Perm (R++S')∧OFP P N ops R Kfin rest l' I' S')):OFP P N ops R Kfin ((i,false)::rest) l I S:=h
theorem AX {P : Program} [Jud P] {N : Nat} {ops : Array Oper} {R M S' : Seg} {Kfin : Sl → Imm → Seg → Prop} {rest : List (Nat × Bool)} {l : Sl} {I : Imm}
    (p:M.Perm (R++S')) (next:OFP P N ops R Kfin rest l I S'):∃ S',M.Perm (R++S')∧OFP P N ops R Kfin rest l I S':=⟨S',p,next⟩
theorem FS {ρ : Option Nat} {P : Program} [Jud P] {N n0 : Nat} {ops : Array Oper} {Q : Exit → Act → GW → Prop} {ds : List Deferred} {R S : Seg} {l : Sl} {I : Imm} (h : Seq (ρ := ρ) P N ops Q ds n0 l I (R ++ S)) :
    OFP P N ops R (fun l I S=>Seq (ρ:=ρ) P N ops Q ds n0 l I (R++S)) [] l I S:=h
theorem MX {N:Nat} {Q:Exit→Act→GW→Prop} {e:Exit} {ds:List Deferred} {l:Sl} {I I':Imm} {M M':Seg} (s:∀ w,St I M w→St I' M' w) (next:Pst N Q e ds l I' M'):Pst N Q e ds l I M:=
  fun a w hS hD hW=>next a w hS hD (s w hW)
theorem seq_freeze {α : Type} {E : TypeId} {sz : Nat} {cell : α → Nat → Value} {ρ : Option Nat} {P : Program} [Jud P] {N : Nat} {ops : Array Oper} {i : Nat} {Q : Exit → Act → GW → Prop} {ds : List Deferred} {l : Sl} {I : Imm} {M A B Ms : Seg} {v : Value} {xs : List α} (dflt : α)
    (h:Own E sz cell v xs Ms) (hl:xs.length≤140737488355328) (hM:M.Perm (Ms++A)) (hA:A.Perm B)
    (next:∀ J,I.le J→IsSl sz cell dflt J v xs→Seq (ρ:=ρ) P N ops Q ds i l J B):Seq (ρ:=ρ) P N ops Q ds i l I M:=fun a w hS hD hW=>by
  obtain ⟨J,h1,h2,h3⟩:=h.freeze dflt hl (hW.perm hM);exact next J h1 h2 a w hS hD (h3.perm hA)
structure ORow (sz:Nat) (Ms:Seg) (a:Option Addr) (b n:Nat) (cell:Nat→Nat→Value):Prop where
  addr:0<n→a=some ⟨b,0,none⟩
  get:∀ i,i<n→∀ f,f<sz→∀ (I:Imm) (M:Seg),(∀ x∈Ms,x∈M)→Sees I M ⟨b,0+i*sz+f,none⟩ (cell i f)
theorem Own.row {α : Type} {E sz : Nat} {cell : α → Nat → Value} {a : Option Addr} {n c : Nat} {xs : List α} {Ms : Seg} (dflt : α) (h : Own E sz cell (.slice a n c) xs Ms) :
    ∃ b,ORow sz Ms a b xs.length (fun i f=>cell (xs.getD i dflt) f):=by
  rcases h with ⟨hv,rfl,rfl⟩ | ⟨b,c',sp,hv,hc,rfl,hlen⟩
  · exact ⟨0,fun h=>by simp at h,fun i hi=>by simp at hi⟩
  · simp only [Value.slice.injEq] at hv
    obtain ⟨rfl,_,_⟩:=hv;refine ⟨b,fun _=>rfl,fun i hi f hf I M hM=>?_⟩;rw [Nat.zero_add];exact Own.sees (E:=E) (c:=c') (sp:=sp) dflt (hM (b,Obj.cells (BX sz cell xs++sp).toArray E (0,0)) (List.mem_singleton.2 rfl)) i f hi hf
theorem encL_set {α : Type} (sz : Nat) (cell : α → Nat → Value) (dflt : α) (y : α) (v : Value) (g : Nat) (hy : ∀ f, f < sz → f ≠ g → ∀ x, x = dflt → True) : ∀ (xs : List α) (i : Nat), i < xs.length → g < sz →
    (∀ f,f<sz→cell y f=if f=g then v else cell (xs.getD i dflt) f)→BX sz cell (xs.set i y)=(BX sz cell xs).set (i*sz+g) v:=by
  intro xs
  induction xs with
  | nil=>intro i h;simp at h
  | cons x xs ih=>
    intro i hi hg hc;have e:∀ (z:α) (zs:List α),BX sz cell (z::zs)=(List.range sz).map (cell z)++BX sz cell zs:=fun z zs=>by simp [BX]
    cases i with
    | zero=>
      rw [List.set_cons_zero,e,e,Nat.zero_mul,Nat.zero_add,List.set_append_left _ _ (by simpa using hg)]
      congr 1
      apply List.ext_getElem?
      intro k;rw [List.getElem?_set]
      by_cases hk:k<sz
      · have:=hc k hk
        simp only [List.getD_cons_zero] at this
        by_cases hkg:g=k
        · subst hkg;simp [hg,this]
        · rw [if_neg hkg];simp [hk,this,Ne.symm hkg]
      · have:g≠k:=by omega
        rw [if_neg this];simp [hk]
    | succ i=>
      rw [List.set_cons_succ,e,e,ih i (by simpa using hi) hg (fun f hf=>by simpa using hc f hf),List.set_append_right _ _ (by simp [Nat.succ_mul];omega)]
      congr 2
      simp [Nat.succ_mul];omega
theorem setRow_one (cs:Array Value) (off:Nat) (v:Value):KC cs off [v]=cs.setIfInBounds off v:=by simp [KC]
section
variable {ρ:Option Nat} {P:Program} [Jud P] {N:Nat} {ops:Array Oper} {i:Nat} {l:Sl} {I:Imm} {M:Seg} {ty:TypeId} {gd:Option (Nat × Bool)} {K:Sl→Imm→Seg→Prop}
theorem CE {α : Type} {T : TypeId} {x y : Operand} {v u : Value} {E sz : Nat} {cell : α → Nat → Value} {a : Option Addr} {n c b : Nat} {xs : List α} {Ms R : Seg} {rc : Nat → Nat → Value} (dflt : α) (j g : Nat) (z : α)
    (hop:EL ops N i=some (none,.store T x y,ty,gd)) (hg:EK ops l gd=some true) (own:Own E sz cell (.slice a n c) xs Ms) (row:ORow sz Ms a b xs.length rc) (hj:j<xs.length) (hgs:g<sz)
    (hx:BK l x=some (.pointer (some ⟨b,0+j*sz+g,none⟩))) (hy:BK l y=some v) (hsz:DR P T=some 1) (hv1:v.cells.toList=[u]) (hone:CS u=true)
    (hc:∀ f,f<sz→cell z f=if f=g then u else cell (xs.getD j dflt) f) (hM:M.Perm (Ms++R))
    (next:∀ Ms',Own E sz cell (.slice a n c) (xs.set j z) Ms'→K l I (Ms'++R)):Stp P N ops i l I M K:=by
  have ha:=row.addr (by omega);rcases own with ⟨hv,rfl,rfl⟩ | ⟨b',c',sp,hv,hcap,rfl,hlen⟩
  · simp at hj
  · simp only [Value.slice.injEq] at hv
    obtain ⟨rfl,rfl,rfl⟩:=hv;simp only [Option.some.injEq,Addr.mk.injEq,and_true] at ha;subst ha;refine KD hop hg (HO hx hy) hM ?_;show wpL P (Instr.storeAt T (rho l x) (rho l y) >>= fun _=>pure Next.skip) _ I _;rw [AU hx,AU hy,AD];show wpL P (storeVar T ⟨b',0+j*sz+g,none⟩ v) _ I _;unfold storeVar;rw [AD,BL hsz];have hl:v.cells.size=1:=by rw [← Array.length_toList,hv1];rfl
    rw [if_neg (by simp [hl])];show wpL P (storeCells ⟨b',0+j*sz+g,none⟩ v.cells.toList) _ I _;rw [hv1];have hlt:0+j*sz+g<(BX sz cell xs).length:=by
      rw [BG];have:j*sz+sz≤xs.length*sz:=by rw [← Nat.succ_mul];exact Nat.mul_le_mul_right _ hj
      omega
    refine FR (T:=E) (k:=0) [u] 0 _ (BX sz cell xs++sp).toArray _ (by simp) ?_ (fun w hw=>by simp at hw;subst hw;exact hone) ?_
    · simp only [List.size_toArray,List.length_append,List.length_cons,List.length_nil];omega
    · refine ⟨undef,_,.inr ⟨rfl,rfl⟩,List.Sublist.refl _,?_⟩
      rw [Nat.add_zero,setRow_one];have e2:(BX sz cell xs++sp).toArray.setIfInBounds (0+j*sz+g) u=(BX sz cell (xs.set j z)++sp).toArray:=by
        rw [encL_set sz cell dflt z u g (fun _ _ _ _ _=>trivial) xs j hj hgs hc,List.setIfInBounds_toArray,List.set_append_left _ _ hlt];simp
      rw [e2];exact next _ (.inr ⟨b',c,sp,by simp,by simpa using hcap,rfl,by rw [← hlen,List.length_append,List.length_append,BG,BG,List.length_set]⟩)
end
theorem RowsV.set {I:Imm} {vs:List Value} {xss:List (List Int)} {v:Value} {xs:List Int} (h:RowsV I vs xss) (hv:DB I v xs) (j:Nat):RowsV I (vs.set j v) (xss.set j xs):=by
  refine ⟨by simp [h.1],fun i hi=>?_⟩;rw [List.length_set] at hi;have h0:=h.2 i hi;simp only [List.getD] at h0 ⊢;rw [List.getElem?_set,List.getElem?_set]
  by_cases e:j=i
  · subst e;simpa [hi,h.1] using hv
  · rw [if_neg e,if_neg e];exact h0
inductive OwnEach (E:TypeId):List Value→List (List Int)→Seg→Prop
  | nil:OwnEach E [] [] []
  | cons {v:Value} {xs:List Int} {vs:List Value} {xss:List (List Int)} {Ms R:Seg}:Own E 1 AK v xs Ms→OwnEach E vs xss R→OwnEach E (v::vs) (xs::xss) (Ms++R)
theorem OwnEach.length {E:TypeId} {vs:List Value} {xss:List (List Int)} {M:Seg} (h:OwnEach E vs xss M):vs.length=xss.length:=by
  induction h with
  | nil=>rfl
  | cons _ _ ih=>simp [ih]
def QT {α:Type} (vals:α→List Value) (a:α) (f:Nat):Value:=(vals a).getD f undef
section
variable {α:Type} {sz:Nat} {vals:α→List Value} {d:α} {I:Imm} {M Ms:Seg} {a:Option Addr} {b o n:Nat} {xs:List α}
theorem TJ {x:α} {k:Nat} {v:Value} (hv:(vals x)[k]?=some v):QT vals x k=v:=by simp [QT,List.getD,hv]
theorem rec_get (h:Row sz I a b o n (fun i f=>QT vals (xs.getD i d) f)) (i:Nat) (hi:i<n) (f:Nat) (hf:f<sz) {v:Value} (hv:QT vals (xs.getD i d) f=v):Sees I M ⟨b,o+i*sz+f,none⟩ v:=hv▸(h.get i hi f hf).sees
theorem BI (hl:∀ x,(vals x).length=sz) (h:Row sz I a b o n (fun i f=>QT vals (xs.getD i d) f)) (i:Nat) (hi:i<n):SeesN I M b (o+i*sz) (vals (xs.getD i d)):=fun k v hv=>
  rec_get h i hi k (by have:=(List.getElem?_eq_some_iff.1 hv).1;rw [hl] at this;exact this) (TJ hv)
theorem HQ (hl:∀ x,(vals x).length=sz) (h:ORow sz Ms a b n (fun i f=>QT vals (xs.getD i d) f)) (hM:∀ x∈Ms,x∈M) (i:Nat) (hi:i<n):SeesN I M b (0+i*sz) (vals (xs.getD i d)):=fun k v hv=>by
  have:=h.get i hi k (by have:=(List.getElem?_eq_some_iff.1 hv).1;rw [hl] at this;exact this) I M hM
  rwa [TJ hv] at this
theorem one_rec (hl:∀ x,(vals x).length=sz) (h:∀ x,(vals x).all CS=true) (ys:List α):∀ c∈BX sz (QT vals) ys,CS c=true:=one_enc (fun x f hf=>by
  have hf:f<(vals x).length:=by rw [hl];exact hf
  rw [TJ (List.getElem?_eq_getElem hf)];exact List.all_eq_true.1 (h x) _ (List.getElem_mem hf)) ys
theorem one1_rec (hl:∀ x,(vals x).length=sz) (h:∀ x,(vals x).all CS=true) (z:α):∀ w∈(List.range sz).map (QT vals z),CS w=true:=by
  intro w hw;obtain ⟨f,hf,rfl⟩:=List.mem_map.1 hw;have hf:f<(vals z).length:=by rw [hl];exact List.mem_range.1 hf
  rw [TJ (List.getElem?_eq_getElem hf)];exact List.all_eq_true.1 (h z) _ (List.getElem_mem hf)
end
end Go.Sl
namespace Go.Sh
open Go Go.Sl
structure Keep where
  place:Int
  hour:Int
  who:Int
  deriving DecidableEq
structure Slip where
  num:Int
  hour:Int
  kind:Int
  place:Int
  to:Int
  sort:Int
  soil:Bool
  amt:Int
  deriving DecidableEq
structure Gap where
  num:Int
  amt:Int
  deriving DecidableEq
structure Debt where
  who:Int
  sort:Int
  amt:Int
  deriving DecidableEq
structure Cart where
  frm:Int
  to:Int
  bales:Int
  deriving DecidableEq
structure Lin where
  places:Int
  sorts:Int
  start:List (List Int)
  keeps:List Keep
  slips:List Slip
  deriving DecidableEq
def AL:Keep:=⟨0,0,0⟩
def AB:Slip:=⟨0,0,0,0,0,0,false,0⟩
def noGap:Gap:=⟨0,0⟩
def DK:Debt:=⟨0,0,0⟩
def KO:Cart:=⟨0,0,0⟩
def IE (k:Keep):List Value:=[.int .i64 k.place,.int .i64 k.hour,.int .i64 k.who]
def BW (s:Slip):List Value:=[.int .i64 s.num,.int .i64 s.hour,.int .i64 s.kind,.int .i64 s.place,.int .i64 s.to,.int .i64 s.sort,.bool s.soil,.int .i64 s.amt]
def gapVals (g:Gap):List Value:=[.int .i64 g.num,.int .i64 g.amt]
def JK (d:Debt):List Value:=[.int .i64 d.who,.int .i64 d.sort,.int .i64 d.amt]
def TH (c:Cart):List Value:=[.int .i64 c.frm,.int .i64 c.to,.int .i64 c.bales]
abbrev NL:=QT IE
abbrev AV:=QT BW
abbrev QW:=QT gapVals
abbrev DF:=QT JK
abbrev JJ:=QT TH
abbrev GK:=IsSl 3 NL AL
abbrev HM:=IsSl 8 AV AB
abbrev IsGaps:=IsSl 2 QW noGap
abbrev IsDebts:=IsSl 3 DF DK
abbrev IsCarts:=IsSl 3 JJ KO
theorem one_keepCell (ys:List Keep):∀ c∈BX 3 NL ys,CS c=true:=one_rec (vals:=IE) (fun _=>rfl) (fun _=>rfl) ys
theorem MW (ys:List Slip):∀ c∈BX 8 AV ys,CS c=true:=one_rec (vals:=BW) (fun _=>rfl) (fun _=>rfl) ys
theorem one_gapCell (ys:List Gap):∀ c∈BX 2 QW ys,CS c=true:=one_rec (vals:=gapVals) (fun _=>rfl) (fun _=>rfl) ys
theorem SN (ys:List Debt):∀ c∈BX 3 DF ys,CS c=true:=one_rec (vals:=JK) (fun _=>rfl) (fun _=>rfl) ys
theorem one_cartCell (ys:List Cart):∀ c∈BX 3 JJ ys,CS c=true:=one_rec (vals:=TH) (fun _=>rfl) (fun _=>rfl) ys
theorem PX (z:Slip):∀ w∈(List.range 8).map (AV z),CS w=true:=one1_rec (vals:=BW) (fun _=>rfl) (fun _=>rfl) z
theorem one1_debt (z:Debt):∀ w∈(List.range 3).map (DF z),CS w=true:=one1_rec (vals:=JK) (fun _=>rfl) (fun _=>rfl) z
theorem eqKeep (s t:Keep):((s.place == t.place)&&((s.hour == t.hour)&&((s.who == t.who)&&true)))=decide (s=t):=by
  cases s;cases t;simp only [Bool.and_true,Keep.mk.injEq,Bool.decide_and];rfl
theorem eqSlip (s t:Slip):((s.num == t.num)&&((s.hour == t.hour)&&((s.kind == t.kind)&&((s.place == t.place)&&((s.to == t.to)&&((s.sort == t.sort)&&((s.soil == t.soil)&&((s.amt == t.amt)&&true))))))))=decide (s=t):=by
  cases s;cases t;simp only [Bool.and_true,Slip.mk.injEq,Bool.decide_and];rfl
theorem eqGap (s t:Gap):((s.num == t.num)&&((s.amt == t.amt)&&true))=decide (s=t):=by
  cases s;cases t;simp only [Bool.and_true,Gap.mk.injEq,Bool.decide_and];rfl
theorem eqDebt (s t:Debt):((s.who == t.who)&&((s.sort == t.sort)&&((s.amt == t.amt)&&true)))=decide (s=t):=by
  cases s;cases t;simp only [Bool.and_true,Debt.mk.injEq,Bool.decide_and];rfl
theorem eqCart (s t:Cart):((s.frm == t.frm)&&((s.to == t.to)&&((s.bales == t.bales)&&true)))=decide (s=t):=by
  cases s;cases t;simp only [Bool.and_true,Cart.mk.injEq,Bool.decide_and];rfl
def IsLin (I:Imm) (v:Value) (L:Lin):Prop:=∃ v1 v2 v3,v=.agg #[.int .i64 L.places,.int .i64 L.sorts,v1,v2,v3]∧IsRows I v1 L.start∧GK I v2 L.keeps∧HM I v3 L.slips
theorem IsLin.mono {I J:Imm} {v:Value} {L:Lin} (h:IsLin I v L) (le:I.le J):IsLin J v L:=by
  obtain ⟨v1,v2,v3,h1,h2,h3,h4⟩:=h;exact ⟨v1,v2,v3,h1,h2.mono le,h3.mono le,h4.mono le⟩
theorem CN {I:Imm} {v1 v2 v3:Value} {p s:Int} {st:List (List Int)} {ks:List Keep} {ss:List Slip} (h1:IsRows I v1 st) (h2:GK I v2 ks) (h3:HM I v3 ss):IsLin I (.agg #[.int .i64 p,.int .i64 s,v1,v2,v3]) ⟨p,s,st,ks,ss⟩:=
  ⟨v1,v2,v3,rfl,h1,h2,h3⟩
structure Car where
  len:Int
  wt:Int
  brk:Int
  grp:Int
  pipe:Bool
  heat:Bool
  deriving DecidableEq
structure Shift where
  frm:Int
  to:Int
  many:Int
  deriving DecidableEq
structure Yard where
  cars:List Car
  room:List Int
  tracks:List (List Int)
  deriving DecidableEq
def noCar:Car:=⟨0,0,0,0,false,false⟩
def carCell (c:Car):Nat→Value
  | 0=>.int .i64 c.len
  | 1=>.int .i64 c.wt
  | 2=>.int .i64 c.brk
  | 3=>.int .i64 c.grp
  | 4=>.bool c.pipe
  | _=>.bool c.heat
abbrev IsCars:=IsSl 6 carCell noCar
end Go.Sh
namespace Go.Sl
open Go
inductive FK where
  | i (k:IntKind)
  | b
  deriving DecidableEq
def tyFK (P:Program) (t:TypeId):Option FK:=
  match P.underlying t with
  | some (.int k)=>some (.i k)
  | some .bool=>some .b
  | _=>none
def flatFs (P:Program):List Field→Option (List (Nat × FK))
  | []=>some []
  | f::r=>if f.name="_" then none else match tyFK P f.type,flatFs P r with
    | some k,some l=>some ((f.offset,k)::l)
    | _,_=>none
def tyFlat (P:Program) (t:TypeId):Option (List (Nat × FK)):=
  match P.underlying t with
  | some (.struct fs)=>if P.stoodInHeld t then none else if P.eqGuardType P.depth t then none else flatFs P fs.toList
  | _=>none
def vFK:Value→Option FK
  | .int k _=>some (.i k)
  | .bool _=>some .b
  | _=>none
def scEq:Value→Value→Bool
  | .int _ a,.int _ b=>a == b
  | .bool a,.bool b=>a == b
  | _,_=>false
def flatOk (xs ys:Array Value):List (Nat × FK)→Bool
  | []=>true
  | (o,k)::r=>(match xs[o]?,ys[o]? with
    | some a,some b=>decide (vFK a=some k)&&decide (vFK b=some k)
    | _,_=>false)&&flatOk xs ys r
def flatEq (xs ys:Array Value):List (Nat × FK)→Bool
  | []=>true
  | (o,_)::r=>(match xs[o]?,ys[o]? with
    | some a,some b=>scEq a b
    | _,_=>false)&&flatEq xs ys r
section
variable {ρ:Option Nat} {P:Program} [Jud P] {N:Nat} {ops:Array Oper} {i:Nat} {l:Sl} {I:Imm} {R M:Seg} {d:Nat} {ty:TypeId} {gd:Option (Nat × Bool)}
theorem tyFK_spec {P:Program} {t:TypeId} {k:FK} (h:tyFK P t=some k):(match k with | .i k=>P.underlying t=some (.int k) | .b=>P.underlying t=some .bool):=by
  unfold tyFK at h
  split at h
  · cases h;assumption
  · cases h;assumption
  · cases h
theorem wpL_part {P:Program} {t:TypeId} {k:FK} {cs:Array Value} {off:Nat} {v:Value} {Q:Value→Seg→Prop} (h:tyFK P t=some k) (hv:cs[off]?=some v) (hq:Q v M):wpL P (part t cs off) Q I M:=by
  unfold part;have ha:EJ P t=some false:=by
    have:=tyFK_spec h;unfold EJ;cases k <;> (simp only at this;rw [this])
  rw [AD,KG ha];simp only [Bool.false_eq_true,if_false,hv];exact hq
theorem wpL_scalar {P:Program} {t:TypeId} {k:FK} {x y:Value} {n:Nat} {Q:Bool→Seg→Prop} (h:tyFK P t=some k) (hx:vFK x=some k) (hy:vFK y=some k) (hq:Q (scEq x y) M):wpL P (Op.equalIn (n+1) t x y) Q I M:=by
  have hu:=tyFK_spec h;unfold Op.equalIn;cases k with
  | i k=>
    cases x <;> simp [vFK] at hx
    cases y <;> simp [vFK] at hy
    subst hx;subst hy;rw [AD,AJ hu];simp only [if_true];exact hq
  | b=>
    cases x <;> simp [vFK] at hx
    cases y <;> simp [vFK] at hy
    rw [AD,AJ hu];exact hq
theorem wpL_fields {P : Program} {n : Nat} {xs ys : Array Value} {Q : Bool → Seg → Prop} : ∀ (fs : List Field) (L : List (Nat × FK)), flatFs P fs = some L → flatOk xs ys L = true → Q (flatEq xs ys L) M →
    wpL P (do
      for f in fs do
        if f.name≠"_" then
          if !(← Op.equalIn (n+1) f.type (← part f.type xs f.offset) (← part f.type ys f.offset)) then return false
      pure true:Sem Bool) Q I M:=by
  intro fs
  induction fs with
  | nil=>intro L hL _ hq;simp only [flatFs,Option.some.injEq] at hL;subst hL;exact hq
  | cons f fs ih=>
    intro L hL hok hq;simp only [flatFs] at hL
    split at hL
    · cases hL
    · rename_i hne
      split at hL
      · rename_i k l2 hk hl2
        cases hL;simp only [flatOk,Bool.and_eq_true] at hok;obtain ⟨h1,h2⟩:=hok;cases hx:xs[f.offset]? with
        | none=>simp [hx] at h1
        | some a=>
          cases hy:ys[f.offset]? with
          | none=>simp [hx,hy] at h1
          | some b=>
            simp only [hx,hy,Bool.and_eq_true,decide_eq_true_eq] at h1;have key:=ih l2 hl2 h2;simp only [flatEq,hx,hy] at hq;simp only [List.forIn_cons] at key ⊢;rw [AD,AD];simp only [ne_eq,hne,not_false_eq_true,if_true];rw [AD];refine wpL_part hk hx ?_;rw [AD];refine wpL_part hk hy ?_;rw [AD];refine wpL_scalar hk h1.1 h1.2 ?_;cases hb:scEq a b with
            | false=>
              rw [hb] at hq;exact hq
            | true=>
              rw [hb,Bool.true_and] at hq;have:=key hq;rw [AD] at this;exact this
      · cases hL
theorem tyFlat_spec {P:Program} {t:TypeId} {L:List (Nat × FK)} (h:tyFlat P t=some L):∃ fs,P.underlying t=some (.struct fs)∧P.stoodInHeld t=false∧P.eqGuardType P.depth t=false∧flatFs P fs.toList=some L:=by
  unfold tyFlat at h
  split at h
  · rename_i fs hu
    split at h
    · cases h
    · rename_i h1
      split at h
      · cases h
      · rename_i h2
        exact ⟨fs,hu,by simpa using h1,by simpa using h2,h⟩
  · cases h
theorem wpL_struct {P : Program} {t : TypeId} {L : List (Nat × FK)} {xs ys : Array Value} {n : Nat} {Q : Bool → Seg → Prop} (h : tyFlat P t = some L) (hok : flatOk xs ys L = true) (hq : Q (flatEq xs ys L) M) :
    wpL P (Op.equalIn (n+2) t (.agg xs) (.agg ys)) Q I M:=by
  obtain ⟨fs,hu,hs,_,hf⟩:=tyFlat_spec h;unfold Op.equalIn;rw [AD,AJ hu];show wpL P (program >>= _) Q I M;rw [AD];show wpL P _ Q I M;simp only [hs,Bool.false_eq_true,if_false];have:=wpL_fields (P:=P) (n:=n) (xs:=xs) (ys:=ys) (I:=I) (M:=M) fs.toList L hf hok hq;simp only [Array.forIn_toList] at this;exact this
theorem HV {x y : Operand} {T T' : TypeId} {L : List (Nat × FK)} {xs ys : Array Value} {c : Bool} (hop : EL ops N i = some (some d, .binOp .neq T x y T', ty, gd)) (hg : EK ops l gd = some true) (hT : tyFlat P T = some L)
    (hx:BK l x=some (.agg xs)) (hy:BK l y=some (.agg ys)) (hok:flatOk xs ys L=true) (hc:flatEq xs ys L=c):Det P N ops i l I R d (.bool (!c)):=
  FT hop hg (HO hx hy) fun I' M'=>by
    show wpL P ((do eqGuard .neq T x y (rho l x) (rho l y);binOp .neq T (rho l x) (rho l y)) >>= fun x=>pure (Next.value x)) _ I' M';rw [AU hx,AU hy];refine CB ?_;rw [AD];obtain ⟨fs,hu,hs,hg',hf⟩:=tyFlat_spec hT;show wpL P (if (!P.eqGuardType P.depth T)=true then pure () else _:Sem Unit) _ I' M';simp only [hg',Bool.not_false,if_true];show wpL P (Op.equalIn 10000 T (.agg xs) (.agg ys) >>= fun b=>pure (Value.bool (!b))) _ I' M';rw [AD];exact wpL_struct hT hok ⟨by rw [hc],rfl⟩
end
def NS {κ:Type} (enc:κ→Value) (x:κ × Value):Value × Value:=(enc x.1,x.2)
def MapIs {κ:Type} (enc:κ→Value) (es:Array MapEntry) (kvs:List (κ × Value)):Prop:=es.toList.map (fun e=>(e.key,e.val))=kvs.map (NS enc)
theorem MapIs.nil {κ:Type} (enc:κ→Value):MapIs enc #[] []:=rfl
theorem MapIs.size {κ:Type} {enc:κ→Value} {es:Array MapEntry} {kvs:List (κ × Value)} (h:MapIs enc es kvs):es.size=kvs.length:=by
  have:=congrArg List.length h
  simpa using this
def EU {κ:Type} [DecidableEq κ] (k:κ):List (κ × Value)→Nat→Option (Nat × Value)
  | [],_=>none
  | x::r,i=>if x.1=k then some (i,x.2) else EU k r (i+1)
def upd {κ:Type} [DecidableEq κ] (k:κ) (v:Value):List (κ × Value)→List (κ × Value)
  | []=>[(k,v)]
  | x::r=>if x.1=k then (k,v)::r else x::upd k v r
def del {κ:Type} [DecidableEq κ] (k:κ):List (κ × Value)→List (κ × Value)
  | []=>[]
  | x::r=>if x.1=k then r else x::del k r
def KI {κ:Type} [DecidableEq κ] (k:κ):List (κ × Value)→Option Value
  | []=>none
  | x::r=>if x.1=k then some x.2 else KI k r
theorem findKv_get {κ:Type} [DecidableEq κ] (k:κ):∀ (kvs:List (κ × Value)) (i:Nat),(EU k kvs i).map Prod.snd=KI k kvs:=by
  intro kvs
  induction kvs with
  | nil=>intro i;rfl
  | cons x r ih=>intro i;simp only [EU,KI];split <;> simp_all
theorem NI {κ : Type} [DecidableEq κ] (k : κ) (v : Value) : ∀ (kvs : List (κ × Value)) (i : Nat), (match EU k kvs i with
    | some (j,_)=>i≤j∧upd k v kvs=kvs.set (j-i) (k,v)∧del k kvs=kvs.eraseIdx (j-i)∧(kvs[j-i]?).map Prod.fst=some k
    | none=>upd k v kvs=kvs++[(k,v)]∧del k kvs=kvs):=by
  intro kvs
  induction kvs with
  | nil=>intro i;exact ⟨rfl,rfl⟩
  | cons x r ih=>
    intro i;simp only [EU,upd,del]
    by_cases h:x.1=k
    · rw [if_pos h,if_pos h,if_pos h]
      simp [h]
    · rw [if_neg h,if_neg h,if_neg h]
      have:=ih (i+1);cases hf:EU k r (i+1) with
      | none=>rw [hf] at this;simp only at this ⊢;exact ⟨by rw [this.1];rfl,by rw [this.2]⟩
      | some y=>
        obtain ⟨j,u⟩:=y;rw [hf] at this;simp only at this ⊢;obtain ⟨h1,h2,h3,h4⟩:=this;have e:j-i=(j-(i+1))+1:=by omega
        refine ⟨by omega,?_,?_,?_⟩
        · rw [e,List.set_cons_succ,h2]
        · rw [e,List.eraseIdx_cons_succ,h3]
        · rw [e];simpa using h4
structure KeyOk (P:Program) (kt:TypeId) {κ:Type} [DecidableEq κ] (enc:κ→Value):Prop where
  inj:∀ a b,enc a=enc b→a=b
  check:∀ (b:Bool) (k:κ) (Q:Unit→Seg→Prop) (I:Imm) (M:Seg),Q () M→wpL P (Instr.checkKey b 10000 kt (enc k)) Q I M
  find:∀ (k:κ) (es:List MapEntry) (kvs:List (κ × Value)) (Q:Option (Nat × Value)→Seg→Prop) (I:Imm) (M:Seg),es.map (fun e=>(e.key,e.val))=kvs.map (NS enc) →
    Q (EU k kvs 0) M→wpL P (Instr.findKey kt (enc k) es) Q I M
def encI (x:Int):Value:=.int .i64 x
theorem findNow_int {k : Int} {kd : TypeDesc} (hk : kd = .int .i64) : ∀ (es : List MapEntry) (kvs : List (Int × Value)) (i : Nat), es.map (fun e => (e.key, e.val)) = kvs.map (NS encI) →
    Instr.findNow kd (encI k) es i=some (EU k kvs i):=by
  subst hk;intro es
  induction es with
  | nil=>intro kvs i h;cases kvs with
    | nil=>rfl
    | cons x r=>simp at h
  | cons e es ih=>
    intro kvs i h;cases kvs with
    | nil=>simp at h
    | cons x r=>
      simp only [List.map_cons,List.cons.injEq,NS,Prod.mk.injEq] at h;obtain ⟨⟨h1,h2⟩,h3⟩:=h;simp only [Instr.findNow,h1,encI,Instr.sameNow,EU]
      by_cases hx:x.1=k
      · rw [if_pos hx,← hx];simp [h2]
      · rw [if_neg hx]
        have:(k == x.1)=false:=by simpa using fun e=>hx e.symm
        simp only [if_true,this];exact ih r (i+1) h3
theorem EN {P:Program} {kt:TypeId} (h:P.underlying kt=some (.int .i64)):KeyOk P kt encI where
  inj:=fun a b e=>by simpa [encI] using e
  check:=fun b k Q I M hq=>by
    unfold Instr.checkKey;rw [AD,AJ h];exact hq
  find:=fun k es kvs Q I M hes hq=>by
    unfold Instr.findKey;rw [AD,AJ h,findNow_int rfl es kvs 0 hes];exact hq
def RL (P:Program) (t:TypeId):Option (TypeId × TypeId):=
  match P.underlying t with
  | some (.map k e)=>some (k,e)
  | _=>none
theorem JT {P:Program} {t k e:TypeId} (h:RL P t=some (k,e)):P.underlying t=some (.map k e):=by
  unfold RL at h
  split at h
  · cases h;assumption
  · cases h
def tyI64 (P:Program) (t:TypeId):Bool:=
  match P.underlying t with
  | some (.int .i64)=>true
  | _=>false
theorem DD {P:Program} {t:TypeId} (h:tyI64 P t=true):P.underlying t=some (.int .i64):=by
  unfold tyI64 at h
  split at h
  · assumption
  · cases h
section
variable {ρ:Option Nat} {P:Program} [Jud P] {N:Nat} {ops:Array Oper} {i:Nat} {l:Sl} {I:Imm} {R M:Seg} {d:Nat} {ty:TypeId} {gd:Option (Nat × Bool)} {K:Sl→Imm→Seg→Prop}
variable {κ:Type} [DecidableEq κ] {enc:κ→Value}
theorem Holds.mono {I J:Imm} {R N:Seg} {r:Nat} {o:Obj} (h:Holds I R r o) (le:I.le J):Holds J (R++N) r o:=h.elim (fun h=>.inl (List.mem_append_left _ h)) (fun h=>.inr (le.blk _ _ h))
theorem HI {x y : Operand} {T kt et r cl : Nat} {es : Array MapEntry} {kvs : List (κ × Value)} {k : κ} {z v : Value} (hop : EL ops N i = some (some d, .lookup T x y false, ty, gd)) (hg : EK ops l gd = some true)
    (hT:RL P T=some (kt,et)) (hK:KeyOk P kt enc) (hx:BK l x=some (.map (some r))) (hy:BK l y=some (enc k)) (hz:HK P et=some z) (hm:Holds I R r (.map es cl)) (his:MapIs enc es kvs)
    (hv:(KI k kvs).getD z=v):Det P N ops i l I R d v:=by
  subst hv;refine LG hop hg (HO hx hy) fun I' M' hle=>?_
  show wpL P (Instr.lookup T (rho l x) (rho l y) false >>= fun x=>pure (Next.value x)) _ I' _;rw [AU hx,AU hy];refine CB ?_;unfold Instr.lookup;rw [AD,AJ (JT hT)];show wpL P (Sem.getObj r _) _ I' _;refine ⟨_,hm.mono hle,rfl,?_⟩;show wpL P (Instr.checkKey _ _ _ _ >>= _) _ I' _;rw [AD];refine hK.check _ _ _ _ _ ?_;rw [AD];refine hK.find k es.toList kvs _ _ _ his ?_;have hf:=findKv_get k kvs 0;cases hkv:EU k kvs 0 with
  | none=>
    rw [hkv] at hf;simp only [Option.map_none] at hf;show wpL P (zeroValue et >>= _) _ I' _;rw [AD,DI hz,← hf];exact ⟨rfl,rfl⟩
  | some p=>
    obtain ⟨j,u⟩:=p;rw [hkv] at hf;simp only [Option.map_some] at hf;rw [← hf];exact ⟨rfl,rfl⟩
theorem FC {P:Program} {r:Nat} {o o':Obj} {α:Type} {k:Sem α} {Q:α→Seg→Prop} (n:Nat) (ho:MS o=false) (hn:M[n]?=some (r,o')) (ho':MS o'=false) (h:wpL P k Q I (M.set n (r,o))):wpL P (.setObj r o k) Q I M:=
  ⟨ho,n,o',hn,ho',h⟩
theorem PL {κ:Type} {enc:κ→Value} {es:Array MapEntry} {kvs:List (κ × Value)} (h:MapIs enc es kvs) (j:Nat) (k:κ) (v key:Value) (hk:key=enc k):MapIs enc (es.modify j fun e=>{ e with key,val:=v }) (kvs.set j (k,v)):=by
  unfold MapIs at h ⊢;subst hk
  apply List.ext_getElem?
  intro n;have hn:=congrArg (fun l=>l[n]?) h;simp only [List.getElem?_map] at hn ⊢;rw [List.getElem?_set];simp only [Array.getElem?_toList] at hn ⊢;rw [Array.getElem?_modify]
  by_cases e:j=n
  · subst e
    rw [if_pos rfl,if_pos rfl]
    by_cases hl:j<kvs.length
    · rw [if_pos hl]
      have:j<es.size:=by rw [MapIs.size h];exact hl
      simp [this,NS]
    · rw [if_neg hl]
      have:¬ j<es.size:=by rw [MapIs.size h];exact hl
      simp [this]
  · rw [if_neg e,if_neg e];exact hn
theorem NM {κ:Type} {enc:κ→Value} {es:Array MapEntry} {kvs:List (κ × Value)} (h:MapIs enc es kvs) (k:κ) (v:Value) (c:Nat):MapIs enc (es.push { key:=enc k,val:=v,born:=c }) (kvs++[(k,v)]):=by
  unfold MapIs at h ⊢;simp only [Array.toList_push,List.map_append,h,List.map_cons,List.map_nil,NS]
def NU (ks:List κ):List (κ × Value):=ks.map (fun k=>(k,Value.bool true))
theorem getKv_trues (k:κ) (ks:List κ):(KI k (NU ks)).getD (.bool false)=.bool (decide (k∈ks)):=by
  induction ks with
  | nil=>rfl
  | cons x r ih=>
    simp only [NU,List.map_cons,KI]
    by_cases h:x=k
    · rw [if_pos h];simp [h]
    · rw [if_neg h]
      have:(k∈x::r)↔k∈r:=by simp [Ne.symm h]
      rw [decide_eq_decide.2 this];exact ih
theorem upd_trues (k:κ) (ks:List κ):upd k (.bool true) (NU ks)=NU (if k∈ks then ks else ks++[k]):=by
  induction ks with
  | nil=>rfl
  | cons x r ih=>
    simp only [NU,List.map_cons,upd] at ih ⊢
    by_cases h:x=k
    · rw [if_pos h];simp [h]
    · rw [if_neg h,ih]
      have h2:(k∈x::r)↔k∈r:=by simp [Ne.symm h]
      by_cases h3:k∈r
      · rw [if_pos h3,if_pos (h2.2 h3)];rfl
      · rw [if_neg h3,if_neg (fun h4=>h3 (h2.1 h4))];rfl
end
end Go.Sl
namespace Go.Sh
open Go Go.Sl
def inB (n lo hi:Int):Bool:=decide (lo≤n)&&decide (n≤hi)
theorem EI {n lo hi:Int} (h:inB n lo hi=true):lo≤n∧n≤hi:=by simpa [inB] using h
theorem MR {n lo hi:Int} (h:inB n lo hi=false):¬ (lo≤n∧n≤hi):=by
  intro hh;rw [show inB n lo hi=true by simpa [inB] using hh] at h;cases h
section
variable {α:Type} {xs ys:List α} {k:Nat} {d:α}
theorem GX (hl:xs.length=ys.length) (h:xs.take k=ys.take k) (hk:k<xs.length) (e:xs.getD k d=ys.getD k d):xs.take (k+1)=ys.take (k+1):=by
  rw [List.take_succ_eq_append_getElem hk,List.take_succ_eq_append_getElem (hl▸hk),h];have hk':k<ys.length:=hl▸hk;simp [List.getD,hk,hk'] at e;rw [e]
theorem JO (hl:xs.length=ys.length) (h:xs.take k=ys.take k) (hk:xs.length≤k):xs=ys:=by
  rw [List.take_of_length_le hk,List.take_of_length_le (hl▸hk)] at h;exact h
theorem BO (hk:k<xs.length):xs.take (k+1)=xs.take k++[xs.getD k d]:=by
  rw [List.take_succ_eq_append_getElem hk];simp [List.getD,hk]
theorem LR (hk:xs.length≤k):xs.take k=xs:=List.take_of_length_le hk
theorem BJ (hk:k<xs.length):xs.getD k d∈xs:=by
  simp [List.getD,hk]
theorem LZ (hl:xs.length=ys.length) (h:xs.getD k d≠ys.getD k d):xs≠ys:=fun e=>h (by rw [e])
end
def seat (xs:List Int) (n:Int):Int:=if n∈xs then ↑(xs.idxOf n) else -1
theorem not_take_succ {xs:List Int} {n:Int} {k:Nat} (h:n∉xs.take k) (hk:k<xs.length) (hne:xs.getD k 0≠n):n∉xs.take (k+1):=by
  rw [BO (d:=0) hk];intro hm;rcases List.mem_append.1 hm with hm | hm
  · exact h hm
  · simp only [List.mem_singleton] at hm;exact hne hm.symm
theorem seat_hit {xs:List Int} {n:Int} {k:Nat} (h:n∉xs.take k) (hk:k<xs.length) (e:xs.getD k 0=n):seat xs n=↑k:=by
  have hm:n∈xs:=e▸BJ hk;rw [seat,if_pos hm]
  congr 1
  have hx:xs[k]=n:=by simpa [List.getD,hk] using e
  have h1:xs=xs.take k++xs[k]::xs.drop (k+1):=by
    rw [← List.drop_eq_getElem_cons hk,List.take_append_drop]
  rw [h1,hx,List.idxOf_append,if_neg h];simp;omega
theorem seat_miss {xs:List Int} {n:Int} {k:Nat} (h:n∉xs.take k) (hk:xs.length≤k):seat xs n=-1:=by
  rw [LR hk] at h;rw [seat,if_neg h]
theorem seat_neg {xs:List Int} {n:Int}:cmp .geq (seat xs n) 0=decide (n∈xs):=by
  unfold seat
  by_cases h:n∈xs <;> simp [h,cmp]
def Ok (cs:List Car) (t:List Int):Prop:=∀ c∈t,0≤c∧c<cs.length
theorem Ok.at {cs:List Car} {t:List Int} (h:Ok cs t) (k:Nat) (hk:k<t.length):0≤t.getD k 0∧t.getD k 0<cs.length:=h _ (BJ hk)
def carAt (cs:List Car) (c:Int):Car:=cs.getD c.toNat noCar
def lenOf (cs:List Car) (t:List Int):Int:=(t.map fun c=>(carAt cs c).len).sum
def Small (cs:List Car):Prop:=∀ c∈cs,0≤c.len∧c.len≤4
theorem Small.at {cs:List Car} (h:Small cs) (c:Int):0≤(carAt cs c).len∧(carAt cs c).len≤4:=by
  unfold carAt
  by_cases hc:c.toNat<cs.length
  · exact h _ (BJ hc)
  · simp [List.getD,List.getElem?_eq_none (Nat.le_of_not_lt hc),noCar]
def QP (cs:List Car) (t:List Int) (at':Int):Bool:=
  inB at' 1 (↑t.length-1)&&decide (0<(carAt cs (t.getD at'.toNat 0)).grp)&&decide ((carAt cs (t.getD at'.toNat 0)).grp=(carAt cs (t.getD (at'-1).toNat 0)).grp)
def carErr (c:Car):Int:=
  if inB c.len 1 4&&inB c.wt 1 60&&inB c.brk 0 c.wt&&inB c.grp 0 3 then 0 else 1
theorem SB {xs:List Int} {k:Nat} (h:k<xs.length):xs.getD k 0∈xs:=BJ h
def Asc (l:List Int):Prop:=l.Pairwise (·<·)
theorem Asc.nil:Asc []:=List.Pairwise.nil
def grp (cs:List Car) (c:Int):Int:=(carAt cs c).grp
def goG (cs:List Car) (t:List Int) (fin:List Int→Int):Nat→List Int→List Int→Int
  | _,[],met=>fin met
  | k,c::r,met=>if decide (0<grp cs c)&&(decide (grp cs c∈met)&&!(QP cs t ↑k)) then 12 else goG cs t fin (k+1) r (if grp cs c∈met then met else met++[grp cs c])
def goGs (cs:List Car):List (List Int)→List Int→Int
  | [],_=>0
  | t::ts,met=>goG cs t (goGs cs ts) 0 t met
def groupsErr (Y:Yard):Int:=goGs Y.cars Y.tracks []
def goTrack (n:Nat) (fin:List Int→Int):List Int→List Int→Int
  | [],met=>fin met
  | c::r,met=>if inB c 0 (↑n-1) then (if c∈met then 4 else goTrack n fin r (met++[c])) else 3
def PG (cs:List Car) (fin:List Int→Int):List (List Int)→List Int→List Int→Int
  | [],_,met=>fin met
  | t::ts,rm,met=>goTrack cs.length (fun met'=>if lenOf cs t>rm.headD 0 then 9 else PG cs fin ts rm.tail met') t met
def tracksErr (Y:Yard):Int:=
  if Y.tracks.length=Y.room.length then PG Y.cars (fun met=>if met.length<Y.cars.length then 7 else groupsErr Y) Y.tracks Y.room [] else 2
def checkErr (Y:Yard):Int:=
  if 5<Y.cars.length then 6 else
  if Y.cars.all (fun c=>decide (carErr c=0)) then
    (if Y.room.length=0 then 7 else if 3<Y.room.length then 6 else if Y.room.all (fun n=>inB n 0 20) then tracksErr Y else 1)
  else 1
def OkAll (cs:List Car) (ts:List (List Int)):Prop:=∀ t∈ts,Ok cs t
theorem OkAll.at {cs:List Car} {ts:List (List Int)} (h:OkAll cs ts) (k:Nat) (hk:k<ts.length):Ok cs (ts.getD k []):=h _ (BJ hk)
section
variable {cs:List Car} {t rm met:List Int} {ts:List (List Int)} {fin:List Int→Int} {n j k:Nat}
theorem Ok.nil:Ok cs []:=fun _ h=>by simp at h
theorem Ok.all (h:Ok cs (t.take j)) (hj:t.length≤j):Ok cs t:=by rwa [LR hj] at h
theorem OkAll.nil:OkAll cs []:=fun _ h=>by simp at h
theorem OkAll.all (h:OkAll cs (ts.take k)) (hk:ts.length≤k):OkAll cs ts:=by rwa [LR hk] at h
end
theorem all_snoc {α:Type} {xs:List α} {k:Nat} {d:α} {p:α→Prop} (h:∀ c∈xs.take k,p c) (hk:k<xs.length) (hp:p (xs.getD k d)):∀ c∈xs.take (k+1),p c:=by
  rw [BO (d:=d) hk];intro x hx;rcases List.mem_append.1 hx with hx | hx
  · exact h x hx
  · simp only [List.mem_singleton] at hx;subst hx;exact hp
section
variable {Y:Yard} {k:Nat}
end
def trk (Y:Yard) (i:Int):List Int:=Y.tracks.getD i.toNat []
def cutAt (Y:Yard) (s:Shift):Int:=↑(trk Y s.frm).length-s.many
def mayErr (Y:Yard) (s:Shift):Int:=
  if inB s.frm 0 (↑Y.tracks.length-1) then
    if inB s.to 0 (↑Y.tracks.length-1) then
      if s.frm=s.to then 4 else
      if s.many<1 then 7 else
      if ↑(trk Y s.frm).length<s.many then 6 else
      if QP Y.cars (trk Y s.frm) (cutAt Y s)||decide (Y.room.getD s.to.toNat 0<lenOf Y.cars ((trk Y s.frm).drop (cutAt Y s).toNat)+lenOf Y.cars (trk Y s.to)) then 9 else 0
    else 3
  else 3
def moved (Y:Yard) (s:Shift):Yard:=
  { Y with tracks:=(Y.tracks.set s.to.toNat (trk Y s.to++(trk Y s.frm).drop (cutAt Y s).toNat)).set s.frm.toNat ((trk Y s.frm).take (cutAt Y s).toNat) }
theorem Ok.drop {cs:List Car} {t:List Int} (h:Ok cs t) (n:Nat):Ok cs (t.drop n):=fun c hc=>h c (List.mem_of_mem_drop hc)
theorem Ok.take {cs:List Car} {t:List Int} (h:Ok cs t) (n:Nat):Ok cs (t.take n):=fun c hc=>h c (List.mem_of_mem_take hc)
theorem Ok.append {cs:List Car} {s t:List Int} (h:Ok cs s) (h2:Ok cs t):Ok cs (s++t):=fun c hc=>by
  rcases List.mem_append.1 hc with x | x
  · exact h c x
  · exact h2 c x
section
variable {Y:Yard} {s:Shift} {n:Nat}
end
def noYard:Yard:=⟨[],[],[]⟩
def Valid (Y:Yard):Prop:=checkErr Y=0
structure GoodY (Y:Yard):Prop where
  ok:OkAll Y.cars Y.tracks
  small:Small Y.cars
  len:Y.room.length=Y.tracks.length
  sum:Y.tracks.flatten.length≤5
theorem KW {ts:List (List Int)} {t:List Int} (h:t∈ts):t.length≤ts.flatten.length:=by
  induction ts with
  | nil=>simp at h
  | cons x r ih=>
    simp only [List.flatten_cons,List.length_append];rcases List.mem_cons.1 h with e | h
    · subst e;omega
    · have:=ih h;omega
theorem GoodY.le {Y:Yard} (h:GoodY Y):∀ t∈Y.tracks,t.length≤1000000:=fun t ht=>by
  have:=KW ht;have:=h.sum;omega
theorem set_flatten (x:List Int):∀ (ts:List (List Int)) (i:Nat),i<ts.length→((ts.set i x).flatten++ts.getD i []).Perm (ts.flatten++x):=by
  intro ts
  induction ts with
  | nil=>intro i h;simp at h
  | cons y r ih=>
    intro i h;cases i with
    | zero=>
      simp only [List.set_cons_zero,List.flatten_cons,List.getD_cons_zero];rw [List.append_assoc,List.append_assoc];refine (List.perm_append_comm_assoc x r.flatten y).trans ?_;refine ((List.Perm.append_left r.flatten (List.perm_append_comm (l₁:=x) (l₂:=y))).trans ?_);exact List.perm_append_comm_assoc r.flatten y x
    | succ i=>
      simp only [List.set_cons_succ,List.flatten_cons,List.getD_cons_succ,List.append_assoc];exact List.Perm.append_left y (ih i (by simpa using h))
theorem PP {Y:Yard} {s:Shift} (hf:0≤s.frm∧s.frm<Y.tracks.length) (ht:0≤s.to∧s.to<Y.tracks.length) (hne:s.frm≠s.to):(moved Y s).tracks.flatten.Perm Y.tracks.flatten:=by
  have hne':s.to.toNat≠s.frm.toNat:=by omega
  unfold moved;simp only
  generalize hA:trk Y s.frm=A
  generalize hB:trk Y s.to=B
  generalize (cutAt Y s).toNat=n
  have hA':Y.tracks.getD s.frm.toNat []=A:=hA;have hB':Y.tracks.getD s.to.toNat []=B:=hB;have h1:=set_flatten (B++A.drop n) Y.tracks s.to.toNat (by omega);have h2:=set_flatten (A.take n) (Y.tracks.set s.to.toNat (B++A.drop n)) s.frm.toNat (by rw [List.length_set];omega);have e2:(Y.tracks.set s.to.toNat (B++A.drop n)).getD s.frm.toNat []=A:=by
    simp only [List.getD] at hA' ⊢;rw [List.getElem?_set_ne hne'];exact hA'
  rw [e2] at h2;rw [hB'] at h1
  generalize ((Y.tracks.set s.to.toNat (B++A.drop n)).set s.frm.toNat (A.take n)).flatten=X at h2 ⊢
  generalize (Y.tracks.set s.to.toNat (B++A.drop n)).flatten=Z at h1 h2
  have h3:(Z).Perm (Y.tracks.flatten++A.drop n):=by
    refine (List.perm_append_right_iff B).1 (h1.trans ?_);rw [List.append_assoc];exact List.Perm.append_left _ List.perm_append_comm
  have h4:(X++A).Perm (Y.tracks.flatten++A):=by
    refine h2.trans ((List.Perm.append_right _ h3).trans ?_);rw [List.append_assoc];refine List.Perm.append_left _ (List.perm_append_comm.trans ?_);rw [List.take_append_drop]
  exact (List.perm_append_right_iff A).1 h4
def DY (f:Nat→Int):Nat→Int
  | 0=>0
  | n+1=>if DY f n≠0 then DY f n else f n
theorem OH {f:Nat→Int} {k:Nat} (h:DY f k=0) (h2:f k=0):DY f (k+1)=0:=by simp [DY,h,h2]
theorem NJ {f:Nat→Int} {k n:Nat} (h:DY f k=0) (h2:f k≠0) (hk:k<n):DY f n=f k:=by
  induction n with
  | zero=>omega
  | succ n ih=>
    simp only [DY]
    by_cases e:k=n
    · subst e;simp [h]
    · rw [ih (by omega),if_pos h2]
theorem firstE_zero {f:Nat→Int} {n:Nat}:DY f n=0↔∀ k,k<n→f k=0:=by
  induction n with
  | zero=>simp [DY]
  | succ n ih=>
    simp only [DY]
    constructor
    · intro h k hk
      by_cases h0:DY f n=0
      · simp [h0] at h
        by_cases e:k=n
        · subst e;exact h
        · exact ih.1 h0 k (by omega)
      · simp [h0] at h
    · intro h
      have h0:=ih.2 (fun k hk=>h k (by omega));simp [h0,h n (by omega)]
def EF (L:Lin):Int:=
  if (L.start.length:Int)≠L.places then 2
  else if (L.start.all fun r=>decide ((r.length:Int)=L.sorts))=false then 2
  else if (L.start.flatten.all fun n=>inB n 0 50)=false then 1 else 0
def FH (L:Lin) (i:Nat):Int:=
  let k:=L.keeps.getD i AL
  if inB k.place 0 (L.places-1)=false then 3
  else if inB k.hour 0 200=false then 1
  else if inB k.who 1 9=false then 1
  else if ((L.keeps.take i).any fun x=>decide (x.place=k.place)&&decide (x.hour=k.hour))=true then 4 else 0
def EV (L:Lin):Int:=if L.keeps.length>4 then 6 else DY (FH L) L.keeps.length
def CW (L:Lin) (s:Slip):Int:=
  if inB s.num 1 999=false then 1
  else if inB s.hour 0 200=false then 1
  else if inB s.kind 1 6=false then 8
  else if inB s.place 0 (L.places-1)=false then 3
  else if s.kind=1∧inB s.to 0 (L.places-1)=false then 3
  else if s.kind=1∧s.to=s.place then 4
  else if s.kind≠1∧s.to≠0 then 1
  else if inB s.sort 0 (L.sorts-1)=false then 3
  else if s.soil=true∧s.kind≠1∧s.kind≠4 then 1
  else if inB s.amt (if s.kind=4 then 0 else 1) 50=false then 1 else 0
def hasNum (n:Int) (l:List Slip):Bool:=l.any fun x=>decide (x.num=n)
def EQ (L:Lin) (i:Nat):Int:=
  if CW L (L.slips.getD i AB)≠0 then CW L (L.slips.getD i AB)
  else if hasNum (L.slips.getD i AB).num (L.slips.take i)=true then 4 else 0
def AH (L:Lin):Int:=
  if inB L.places 1 4=false then 1
  else if inB L.sorts 1 2=false then 1
  else if EF L≠0 then EF L
  else if EV L≠0 then EV L
  else if L.slips.length>8 then 6
  else DY (EQ L) L.slips.length
def AC (a b:Slip):Int:=if a.hour≠b.hour then a.hour-b.hour else a.num-b.num
def insB {α:Type} (c:α→α→Int) (x:α):List α→List α
  | []=>[x]
  | y::r=>if c x y<0∧∀ z∈r,c x z<0 then x::y::r else y::insB c x r
structure HKey where
  pl:Int
  so:Int
  soil:Bool
  deriving DecidableEq
abbrev Hs:=List (HKey × Int)
def CY (k:HKey):Hs→Int
  | []=>0
  | x::r=>if x.1=k then x.2 else CY k r
def JR (k:HKey) (v:Int):Hs→Hs
  | []=>[(k,v)]
  | x::r=>if x.1=k then (k,v)::r else x::JR k v r
def OS (k:HKey) (d:Int) (h:Hs):Hs:=JR k (CY k h+d) h
theorem getH_put {k j:HKey} {v:Int} {h:Hs}:CY j (JR k v h)=if j=k then v else CY j h:=by
  induction h with
  | nil=>simp only [JR,CY];by_cases e:j=k <;> simp [e,Ne.symm,eq_comm]
  | cons x r ih=>
    simp only [JR]
    split
    · rename_i e
      simp only [CY]
      by_cases e2:j=k
      · subst e2;simp
      · simp only [if_neg e2];rw [if_neg (Ne.symm e2),e,if_neg (Ne.symm e2)]
    · rename_i e
      simp only [CY]
      split
      · rename_i e2;rw [if_neg (fun e3=>e (e2.trans e3))]
      · exact ih
def keyOf (s:Slip):HKey:=⟨s.place,s.sort,s.soil⟩
def doSlip (s:Slip) (h:Hs):Hs:=
  if s.kind=1 then OS ⟨s.to,s.sort,s.soil⟩ s.amt (OS ⟨s.place,s.sort,s.soil⟩ (-s.amt) h)
  else if s.kind=2 then OS ⟨s.place,s.sort,true⟩ s.amt (OS ⟨s.place,s.sort,false⟩ (-s.amt) h)
  else if s.kind=3 then OS ⟨s.place,s.sort,false⟩ s.amt (OS ⟨s.place,s.sort,true⟩ (-s.amt) h)
  else if s.kind=4 then JR (keyOf s) s.amt h
  else if s.kind=5 then OS ⟨s.place,s.sort,false⟩ s.amt h
  else OS ⟨s.place,s.sort,true⟩ (-s.amt) h
def falls (h g:Hs):Bool:=g.any fun x=>decide (x.2<0)&&decide (0≤CY x.1 h)
structure Event where
  slip:Slip
  gap:Int
  below:Bool
  deriving DecidableEq
def noEvent:Event:=⟨AB,0,false⟩
def evOf (h:Hs) (s:Slip):Event:=⟨s,if s.kind=4 then s.amt-CY (keyOf s) h else 0,falls h (doSlip s h)⟩
def evs:Hs→List Slip→List Event
  | _,[]=>[]
  | h,s::r=>evOf h s::evs (doSlip s h) r
def aft (h:Hs) (l:List Slip):Hs:=l.foldl (fun h s=>doSlip s h) h
def IA (p:Int) (row:List Int):Nat→Hs→Hs
  | 0,h=>h
  | j+1,h=>JR ⟨p,(j:Int),false⟩ (row.getD j 0) (IA p row j h)
def IU (st:List (List Int)):Nat→Hs
  | 0=>[]
  | i+1=>IA (i:Int) (st.getD i []) (st.getD i []).length (IU st i)
def EH (L:Lin):Hs:=IU L.start L.start.length
end Go.Sh
namespace Go.Sl
open Go
def quiet (P:Program) {α:Type}:Sem α→Option α
  | .pure a=>some a
  | .program k=>quiet P (k P)
  | .mark m k=>match m with | .noRoom=>quiet P k | _=>none
  | _=>none
theorem quiet_wpL {P:Program} {α:Type} (s:Sem α):∀ {x:α} {I:Imm} {M:Seg},quiet P s=some x→wpL P s (fun y M'=>y=x∧M'=M) I M:=by
  induction s with
  | pure a=>intro x I M h;cases h;exact ⟨rfl,rfl⟩
  | program k ih=>intro x I M h;exact ih P h
  | mark m k ih=>intro x I M h;cases m <;> first | exact ⟨trivial,ih h⟩ | cases h
  | _=>intro x I M h;cases h
def pvOp (P:Program) (l:Sl) (op:Op) (ty:TypeId):Option Value:=
  bif op.operands.all (fun x=>(BK l x).isSome) then
    match quiet P (IJ (rho l) op ty) with
    | some (.value v)=>some v
    | _=>none
  else none
def pvAt (P:Program) (N:Nat) (ops:Array Oper) (l:Sl) (i:Nat):Option (Nat × Value):=
  match EL ops N i with
  | some (some d,op,ty,gd)=>match EK ops l gd with
    | some true=>match pvOp P l op ty with
      | some v=>some (d,v)
      | none=>none
    | some false=>some (d,undef)
    | none=>none
  | _=>none
def pvs (P:Program) (N:Nat) (ops:Array Oper):List Nat→Sl→Option Sl
  | [],l=>some l
  | i::is,l=>match pvAt P N ops l i with
    | some x=>pvs P N ops is (x::l)
    | none=>none
section
variable {ρ:Option Nat} {P:Program} [Jud P] {N:Nat} {ops:Array Oper} {Q:Exit→Act→GW→Prop} {ds:List Deferred} {i:Nat} {l:Sl} {I:Imm} {R M S:Seg} {d:Nat} {Kfin:Sl→Imm→Seg→Prop} {order:List (Nat × Bool)}
theorem det_pv {v:Value} (h:pvAt P N ops l i=some (d,v)):Det P N ops i l I R d v:=by
  unfold pvAt at h
  split at h
  · rename_i d' op ty gd ho
    split at h
    · rename_i hg
      split at h
      · rename_i v' hv
        cases h;unfold pvOp at hv;cases hk:op.operands.all (fun x=>(BK l x).isSome) with
        | false=>rw [hk] at hv;cases hv
        | true=>
          rw [hk] at hv;simp only [cond_true] at hv
          split at hv
          · rename_i v'' hq
            cases hv
            exact FT ho hg (fun x hx=>by
              have:=Array.all_eq_true'.1 hk x hx
              exact Option.isSome_iff_exists.1 this) fun I' M'=>quiet_wpL _ hq
          · cases hv
      · cases h
    · rename_i hg;cases h;exact det_skip ho hg
    · cases h
  · cases h
theorem seq_pvs:∀ (k i:Nat) (l l':Sl),pvs P N ops (List.range' i k) l=some l'→Seq (ρ:=ρ) P N ops Q ds (i+k) l' I M→Seq (ρ:=ρ) P N ops Q ds i l I M
  | 0,i,l,l',h,next=>by cases h;exact next
  | k+1,i,l,l',h,next=>by
    rw [List.range'_succ] at h;simp only [pvs] at h
    split at h
    · rename_i x hx
      exact seq_det (det_pv hx) (seq_pvs k (i+1) _ _ h (by rw [show i+1+k=i+(k+1) by omega];exact next))
    · cases h
def pickL (l:Sl):Sl→Bool→Option Sl
  | [],_=>some []
  | (t,_)::r,b=>match look t l,pickL l r b with
    | some v,some r'=>some ((t,v)::r')
    | _,_=>none
def told (t:Nat):Sl→Bool
  | []=>false
  | (k,_)::r=>bif Nat.beq k t then true else told t r
def SJ (new l:Sl):Nat→Sl→Bool
  | 0,_=>true
  | k+1,(t,_)::r=>(told t new||!told t l)&&SJ new l k r
  | _+1,[]=>true
def pxf (P:Program) (N:Nat) (ops:Array Oper) (i k:Nat) (new l:Sl):Option Sl:=
  match pvs P N ops (List.range' i k) l with
  | some l'=>bif SJ new l k l' then pickL l' new true else none
  | none=>none
theorem KT {t:Nat} {v:Value}:∀ {l:Sl},look t l=some v→told t l=true:=by
  intro l
  induction l with
  | nil=>intro h;cases h
  | cons x l ih=>
    obtain ⟨k,u⟩:=x;intro h;simp only [look] at h;simp only [told];cases hb:Nat.beq k t with
    | true=>rfl
    | false=>rw [hb] at h;exact ih h
theorem JY {t:Nat} {a b:Sl}:look t (a++b)=(match look t a with | some v=>some v | none=>look t b):=by
  induction a with
  | nil=>rfl
  | cons x a ih=>
    obtain ⟨k,u⟩:=x;simp only [List.cons_append,look];cases hb:Nat.beq k t with
    | true=>rfl
    | false=>exact ih
theorem look_none {t:Nat}:∀ {l:Sl},look t l=none→told t l=false:=by
  intro l
  induction l with
  | nil=>intro _;rfl
  | cons x l ih=>
    obtain ⟨k,u⟩:=x;intro h;simp only [look] at h;simp only [told];cases hb:Nat.beq k t with
    | true=>rw [hb] at h;cases h
    | false=>rw [hb] at h;exact ih h
theorem NN {l:Sl} {b:Bool} {t:Nat} {v:Value}:∀ {new out:Sl},pickL l new b=some out→look t out=some v→look t l=some v:=by
  intro new
  induction new with
  | nil=>intro out h hl;cases h;cases hl
  | cons x new ih=>
    obtain ⟨k,u⟩:=x;intro out h hl;simp only [pickL] at h
    split at h
    · rename_i v' r' h1 h2
      cases h;simp only [look] at hl;cases hb:Nat.beq k t with
      | true=>rw [hb] at hl;cases hl;rw [← Nat.eq_of_beq_eq_true hb];exact h1
      | false=>rw [hb] at hl;exact ih h2 hl
    · cases h
theorem pvs_split {P:Program}:∀ (is:List Nat) (l l':Sl),pvs P N ops is l=some l'→∃ ex:Sl,l'=ex++l∧ex.length=is.length:=by
  intro is
  induction is with
  | nil=>intro l l' h;cases h;exact ⟨[],rfl,rfl⟩
  | cons i is ih=>
    intro l l' h;simp only [pvs] at h
    split at h
    · rename_i x hx
      obtain ⟨ex,h1,h2⟩:=ih _ _ h;exact ⟨ex++[x],by rw [h1];simp,by simp [h2]⟩
    · cases h
theorem maskOk_spec {new l:Sl} {t:Nat}:∀ (ex r:Sl),SJ new l ex.length (ex++r)=true→told t ex=true→told t new=true∨told t l=false:=by
  intro ex
  induction ex with
  | nil=>intro r _ h;cases h
  | cons x ex ih=>
    obtain ⟨k,u⟩:=x;intro r h ht;simp only [List.length_cons,List.cons_append,SJ,Bool.and_eq_true,Bool.or_eq_true,Bool.not_eq_true'] at h;simp only [told] at ht;cases hb:Nat.beq k t with
    | true=>
      have e:=Nat.eq_of_beq_eq_true hb;subst e;exact h.1
    | false=>rw [hb] at ht;exact ih r h.2 ht
theorem pxf_sub {P:Program} {k:Nat} {new l':Sl} (h:pvs P N ops (List.range' i k) l=some l') (hp:pxf P N ops i k new l=some new):Sub (new++l) l':=by
  unfold pxf at hp;rw [h] at hp;simp only at hp;cases hm:SJ new l k l' with
  | false=>rw [hm] at hp;cases hp
  | true=>
    rw [hm] at hp;simp only [cond_true] at hp;intro t v ht;rw [JY] at ht;cases hn:look t new with
    | some u=>rw [hn] at ht;cases ht;exact NN hp hn
    | none=>
      rw [hn] at ht;simp only at ht;obtain ⟨ex,h1,h2⟩:=pvs_split _ _ _ h;rw [List.length_range'] at h2;subst h1;rw [JY];cases he:look t ex with
      | none=>exact ht
      | some u=>
        rw [← h2] at hm;rcases maskOk_spec ex l hm (KT he) with h3 | h3
        · rw [look_none hn] at h3;cases h3
        · rw [KT ht] at h3;cases h3
theorem sp (k:Nat) (new:Sl) (next:Seq (ρ:=ρ) P N ops Q ds (i+k) (new++l) I M) (h:pxf P N ops i k new l=some new:=by kernel_rfl):Seq (ρ:=ρ) P N ops Q ds i l I M:=by
  cases hv:pvs P N ops (List.range' i k) l with
  | none=>unfold pxf at h;rw [hv] at h;cases h
  | some l'=>
    exact seq_pvs k i l l' hv fun a w hS hD hW=>next a w (hS.sub (pxf_sub hv h)) hD hW
def pvo (P:Program) (N:Nat) (ops:Array Oper):Nat→List (Nat × Bool)→Sl→Option Sl
  | 0,_,l=>some l
  | k+1,(i,true)::r,l=>match pvAt P N ops l i with
    | some x=>pvo P N ops k r (x::l)
    | none=>none
  | _,_,_=>none
theorem op_aux:∀ (k:Nat) (order:List (Nat × Bool)) (l l':Sl),pvo P N ops k order l=some l'→OFP P N ops R Kfin (order.drop k) l' I S→OFP P N ops R Kfin order l I S
  | 0,order,l,l',h,next=>by cases h;exact next
  | k+1,(i,true)::r,l,l',h,next=>by
    simp only [pvo] at h
    split at h
    · rename_i x hx
      exact AE (det_pv hx) (op_aux k r _ _ h next)
    · cases h
  | k+1,(i,false)::r,l,l',h,next=>by cases h
  | k+1,[],l,l',h,next=>by cases h
end
section
variable {ρ:Option Nat} {P:Program} [Jud P] {N:Nat} {ops:Array Oper} {Q:Exit→Act→GW→Prop} {ds:List Deferred} {i:Nat} {l l':Sl} {I:Imm} {R M S:Seg} {d:Nat} {Kfin:Sl→Imm→Seg→Prop} {order:List (Nat × Bool)}
theorem gval_mono (s:Sub l l') {g:Option (Nat × Bool)} {b:Bool} (h:EK ops l g=some b):EK ops l' g=some b:=by
  cases g with
  | none=>exact h
  | some g=>
    obtain ⟨j,want⟩:=g;simp only [EK] at h ⊢;cases hj:(ops[j]?).bind (·.dst) with
    | none=>rw [hj] at h;exact h
    | some t=>
      rw [hj] at h;simp only at h ⊢;cases ht:look t l with
      | none=>rw [ht] at h;cases h
      | some v=>rw [ht] at h;rw [s t v ht];exact h
theorem oval_mono (s:Sub l l') {x:Operand} {v:Value} (h:BK l x=some v):BK l' x=some v:=by
  cases x with
  | tmp t=>exact s t v h
  | const u=>exact h
  | global g=>exact h
  | func f=>exact h
theorem exec_mono (s:Sub l l') {o:Oper} (hs:PlainOp o) (hk:∀ x∈o.op.operands,known l x):execOp (rho l') o=execOp (rho l) o:=
  execOp_congr o hs.1 fun x hx=>by
    obtain ⟨v,hv⟩:=hk x hx;rw [AU hv,AU (oval_mono s hv)]
theorem known_mono (s:Sub l l') {x:Operand} (h:known l x):known l' x:=let ⟨v,hv⟩:=h;⟨v,oval_mono s hv⟩
theorem Det.more {v:Value} (s:Sub l l') (h:Det P N ops i l I R d v):Det P N ops i l' I R d v:=by
  obtain ⟨o,h1,h2,h3,h4,h5⟩:=h;refine ⟨o,h1,h2,h3,h4,?_⟩;rcases h5 with ⟨h6,h7⟩ | ⟨h6,h7,h8⟩
  · exact .inl ⟨gval_mono s h6,h7⟩
  · exact .inr ⟨gval_mono s h6,fun x hx=>known_mono s (h7 x hx),by rw [exec_mono s h4 h7];exact h8⟩
theorem Sub.cons_cons (s:Sub l l') (t:Nat) (v:Value):Sub ((t,v)::l) ((t,v)::l'):=fun u w hu=>by
  by_cases e:t=u
  · subst e;rw [CR] at hu ⊢;exact hu
  · rw [BF e] at hu ⊢;exact s u w hu
theorem Sub.ups (s:Sub l l') (dst:Option Tmp) (v:Value):Sub (ups dst v l) (ups dst v l'):=by
  cases dst with
  | none=>exact s
  | some d=>exact s.cons_cons d v
theorem Stp.more {K:Sl→Imm→Seg→Prop} (hK:∀ l l' I M,Sub l l'→K l I M→K l' I M) (s:Sub l l') (h:Stp P N ops i l I M K):Stp P N ops i l' I M K:=by
  obtain ⟨o,h1,h2,h3,h4,h5,h6⟩:=h;refine ⟨o,h1,h2,h3,gval_mono s h4,fun x hx=>known_mono s (h5 x hx),fun w st=>?_⟩;rw [exec_mono s h3 h5];exact (h6 w st).mono fun v w' ⟨I',M',a,b,c⟩=>⟨I',M',a,b,hK _ _ _ _ (s.ups _ _) c⟩
structure KM (K:Sl→Imm→Seg→Prop):Prop where
  more:∀ l l' I S,Sub l l'→K l I S→K l' I S
theorem Seq.more {n:Nat} (s:Sub l l') (h:Seq (ρ:=ρ) P N ops Q ds n l I M):Seq (ρ:=ρ) P N ops Q ds n l' I M:=fun a w hS hD hW=>h a w (hS.sub s) hD hW
theorem km0 {n0:Nat}:KM (fun l I S=>S=[]∧Seq (ρ:=ρ) P N ops Q ds n0 l I M):=⟨fun _ _ _ _ s h=>⟨h.1,h.2.more s⟩⟩
theorem km1 {n0:Nat}:KM (fun l I S=>Seq (ρ:=ρ) P N ops Q ds n0 l I (R++S)):=⟨fun _ _ _ _ s h=>h.more s⟩
theorem OFP.more (km:KM Kfin):∀ (order:List (Nat × Bool)) (l l':Sl) (I:Imm) (S:Seg),Sub l l'→OFP P N ops R Kfin order l I S→OFP P N ops R Kfin order l' I S
  | [],l,l',I,S,s,h=>km.more _ _ _ _ s h
  | (i,true)::r,l,l',I,S,s,⟨d,v,h1,h2⟩=>⟨d,v,h1.more s,OFP.more km r _ _ _ _ (s.cons_cons d v) h2⟩
  | (i,false)::r,l,l',I,S,s,h=>Stp.more (fun _ _ _ _ s' ⟨S',p,h'⟩=>⟨S',p,OFP.more km r _ _ _ _ s' h'⟩) s h
def pof (P:Program) (N:Nat) (ops:Array Oper) (order:List (Nat × Bool)) (k:Nat) (new l:Sl):Option Sl:=
  match pvo P N ops k order l with
  | some l'=>bif SJ new l k l' then pickL l' new true else none
  | none=>none
theorem pvo_split {P:Program}:∀ (k:Nat) (order:List (Nat × Bool)) (l l':Sl),pvo P N ops k order l=some l'→∃ ex:Sl,l'=ex++l∧ex.length=k
  | 0,_,l,l',h=>by cases h;exact ⟨[],rfl,rfl⟩
  | k+1,(i,true)::r,l,l',h=>by
    simp only [pvo] at h
    split at h
    · rename_i x hx
      obtain ⟨ex,h1,h2⟩:=pvo_split k r _ _ h;exact ⟨ex++[x],by rw [h1];simp,by simp [h2]⟩
    · cases h
  | k+1,(i,false)::r,l,l',h=>by cases h
  | k+1,[],l,l',h=>by cases h
theorem mask_sub {new:Sl} {ex:Sl} (hm:SJ new l ex.length (ex++l)=true) (hp:pickL (ex++l) new true=some new):Sub (new++l) (ex++l):=by
  intro t v ht;rw [JY] at ht;cases hn:look t new with
  | some u=>rw [hn] at ht;cases ht;exact NN hp hn
  | none=>
    rw [hn] at ht;simp only at ht;rw [JY];cases he:look t ex with
    | none=>exact ht
    | some u=>
      rcases maskOk_spec ex l hm (KT he) with h3 | h3
      · rw [look_none hn] at h3;cases h3
      · rw [KT ht] at h3;cases h3
theorem ox (k:Nat) (new:Sl) (next:OFP P N ops R Kfin (order.drop k) (new++l) I S) (h:pof P N ops order k new l=some new:=by kernel_rfl) (km:KM Kfin:=by first | exact km0 | exact km1):OFP P N ops R Kfin order l I S:=by
  unfold pof at h;cases hv:pvo P N ops k order l with
  | none=>rw [hv] at h;cases h
  | some l'=>
    rw [hv] at h;simp only at h;obtain ⟨ex,rfl,rfl⟩:=pvo_split _ _ _ _ hv;cases hm:SJ new l ex.length (ex++l) with
    | false=>rw [hm] at h;cases h
    | true=>
      rw [hm] at h;exact op_aux ex.length order l _ hv (OFP.more km _ _ _ _ _ (mask_sub hm h) next)
end
section
variable {ρ:Option Nat} {P:Program} [Jud P] {N:Nat} {ops:Array Oper} {Q:Exit→Act→GW→Prop} {ds:List Deferred} {i:Nat} {l:Sl} {I:Imm} {M:Seg} {C:List Nat→Code} {p:List Nat}
theorem rq (h:Run (ρ:=ρ) P N (C (p++[0])) (Exit.then (fun a w=>wpc ρ P (C (p++[1])) Q a w) Q) ds l I M) (hc:C p=.seq (C (p++[0])) (C (p++[1])):=by kernel_rfl):Run (ρ:=ρ) P N (C p) Q ds l I M:=run_seq hc h
def RC (c:Code):Bool:=match c with | .region _ _ false=>true | _=>false
theorem SG {c:Code} (h:RC c=true):∃ id,c=.region id (FY c) false:=by
  unfold RC at h
  split at h
  · exact ⟨_,rfl⟩
  · cases h
theorem rr (h:Seq (ρ:=ρ) P N (FY (C p)) Q ds 0 l I M) (hc:RC (C p)=true:=by kernel_rfl):Run (ρ:=ρ) P N (C p) Q ds l I M:=by
  obtain ⟨id,hid⟩:=SG hc;exact run_region hid h
theorem rqr (h:Seq (ρ:=ρ) P N (FY (C (p++[0]))) (Exit.then (fun a w=>wpc ρ P (C (p++[1])) Q a w) Q) ds 0 l I M) (hc:C p=.seq (C (p++[0])) (C (p++[1])):=by kernel_rfl) (hr:RC (C (p++[0]))=true:=by kernel_rfl):Run (ρ:=ρ) P N (C p) Q ds l I M:=rq (rr h hr) hc
theorem se {y:Code} {Q':Exit→Act→GW→Prop} (h:Run (ρ:=ρ) P N y Q ds l I M) (he:ops.size=i:=by kernel_rfl):Seq (ρ:=ρ) P N ops (Exit.then (fun a w=>wpc ρ P y Q a w) Q') ds i l I M:=seq_end he (pst_next h)
theorem sn {Q' : Exit → Act → GW → Prop} (h : Seq (ρ := ρ) P N (FY (C (p ++ [0]))) (Exit.then (fun a w => wpc ρ P (C (p ++ [1])) Q a w) Q) ds 0 l I M) (he : ops.size = i := by kernel_rfl) (hc : C p = .seq (C (p ++ [0])) (C (p ++ [1])) := by kernel_rfl) (hr : RC (C (p ++ [0])) = true := by kernel_rfl) :
    Seq (ρ:=ρ) P N ops (Exit.then (fun a w=>wpc ρ P (C p) Q a w) Q') ds i l I M:=se (rqr h hc hr) he
theorem rc (t : Nat) {b : Bool} (ht : look t l = some (.bool b)) (h1 : b = true → Run (ρ := ρ) P N (C (p ++ [0])) Q ds l I M) (h2 : b = false → Run (ρ := ρ) P N (C (p ++ [1])) Q ds l I M)
    (hc:C p=.cond (.tmp t) (C (p++[0])) (C (p++[1])):=by kernel_rfl):Run (ρ:=ρ) P N (C p) Q ds l I M:=run_cond hc ht h1 h2
theorem rct (t:Nat) (ht:look t l=some (.bool true)) (h1:Run (ρ:=ρ) P N (C (p++[0])) Q ds l I M) (hc:C p=.cond (.tmp t) (C (p++[0])) (C (p++[1])):=by kernel_rfl):Run (ρ:=ρ) P N (C p) Q ds l I M:=run_cond_true hc ht h1
theorem rcf (t:Nat) (ht:look t l=some (.bool false)) (h1:Run (ρ:=ρ) P N (C (p++[1])) Q ds l I M) (hc:C p=.cond (.tmp t) (C (p++[0])) (C (p++[1])):=by kernel_rfl):Run (ρ:=ρ) P N (C p) Q ds l I M:=NY hc ht h1
theorem rb (id:Nat) (h:Run (ρ:=ρ) P N (C (p++[0])) (Exit.inBlock id Q) ds l I M) (hc:C p=.block id (C (p++[0])):=by kernel_rfl):Run (ρ:=ρ) P N (C p) Q ds l I M:=run_block hc h
theorem rl (J : Nat → Act → GW → Prop) (h0 : ∀ a w, Slots N l a → a.defers = ds → St I M w → ∃ n0, J n0 a w) (round : ∀ n a w, J n a w → wpc ρ P (C (p ++ [0])) (Exit.then (fun a' w' => ∃ n', n' < n ∧ J n' a' w') Q) a w)
    (hc:C p=.loop (C (p++[0])):=by kernel_rfl):Run (ρ:=ρ) P N (C p) Q ds l I M:=run_loop hc J h0 round
theorem BB (h:Pst N Q .ret ds l I M) (hc:C p=.ret:=by kernel_rfl):Run (ρ:=ρ) P N (C p) Q ds l I M:=run_ret hc h
theorem AM (h:Pst N Q .normal ds l I M) (hc:C p=.skip:=by kernel_rfl):Run (ρ:=ρ) P N (C p) Q ds l I M:=run_skip hc h
theorem CH (id:Nat) (h:Pst N Q (.exit id) ds l I M) (hc:C p=.exit id:=by kernel_rfl):Run (ρ:=ρ) P N (C p) Q ds l I M:=run_exit hc h
theorem rlab (id:Nat) (h:Pst N Q .normal ds l I M) (hc:C p=.label id:=by kernel_rfl):Run (ρ:=ρ) P N (C p) Q ds l I M:=run_label hc h
def allT:Nat→Nat→List (Nat × Bool)
  | _,0=>[]
  | i,n+1=>(i,true)::allT (i+1) n
def OJ (c:Code):Bool:=match c with | .region _ _ true=>true | _=>false
theorem IM {c:Code} (h:OJ c=true):∃ id,c=.region id (FY c) true:=by
  unfold OJ at h
  split at h
  · exact ⟨_,rfl⟩
  · cases h
theorem rd0 (n0 : Nat) (h : OFP P N (FY (C p)) M (fun l I S => S = [] ∧ Seq (ρ := ρ) P N (FY (C p)) Q ds n0 l I M) (allT 0 n0) l I []) (hm : P.follows .mixedOrders = true := by kernel_rfl) (hc : OJ (C p) = true := by kernel_rfl)
    (hok:okAll (FY (C p)) n0 (allT 0 n0)=true:=by kernel_rfl):Run (ρ:=ρ) P N (C p) Q ds l I M:=by
  obtain ⟨id,hid⟩:=IM hc;exact run_draw0 n0 _ hm hid hok h
theorem rd0' (n0 : Nat) (order : List (Nat × Bool)) (h : OFP P N (FY (C p)) M (fun l I S => S = [] ∧ Seq (ρ := ρ) P N (FY (C p)) Q ds n0 l I M) order l I []) (hm : P.follows .mixedOrders = true := by kernel_rfl) (hc : OJ (C p) = true := by kernel_rfl)
    (hok:okAll (FY (C p)) n0 order=true:=by kernel_rfl):Run (ρ:=ρ) P N (C p) Q ds l I M:=by
  obtain ⟨id,hid⟩:=IM hc;exact run_draw0 n0 _ hm hid hok h
theorem rd (n0 : Nat) (order : List (Nat × Bool)) (R S : Seg) (h : OFP P N (FY (C p)) R (fun l I S => Seq (ρ := ρ) P N (FY (C p)) Q ds n0 l I (R ++ S)) order l I S) (hM : M.Perm (R ++ S) := by exact List.Perm.refl _) (hm : P.follows .mixedOrders = true := by kernel_rfl)
    (hc:OJ (C p)=true:=by kernel_rfl) (hok:okAll (FY (C p)) n0 order=true:=by kernel_rfl):Run (ρ:=ρ) P N (C p) Q ds l I M:=by
  obtain ⟨id,hid⟩:=IM hc;exact run_draw n0 _ hm hid hok hM h
theorem ee (next:Pst N Q .normal ds l I M) (h:ops.size=i:=by kernel_rfl):Seq (ρ:=ρ) P N ops Q ds i l I M:=seq_end h next
theorem su {l' l:Sl} (h:pickL l l' true=some l':=by kernel_rfl):Sub l' l:=fun _ _ ht=>NN h ht
theorem sd {d:Nat} {v:Value} (h:Det P N ops i l I M d v) (next:Seq (ρ:=ρ) P N ops Q ds (i+1) ((d,v)::l) I M):Seq (ρ:=ρ) P N ops Q ds i l I M:=seq_det h next
theorem sS (h:Stp P N ops i l I M (fun l' I' M'=>Seq (ρ:=ρ) P N ops Q ds (i+1) l' I' M')):Seq (ρ:=ρ) P N ops Q ds i l I M:=seq_stp h
theorem sfz {α : Type} {E : TypeId} {sz : Nat} {cell : α → Nat → Value} {A Ms : Seg} {v : Value} {xs : List α} (dflt : α) (h : Own E sz cell v xs Ms) (hM : M.Perm (Ms ++ A)) (next : ∀ J, I.le J → IsSl sz cell dflt J v xs → Seq (ρ := ρ) P N ops Q ds i l J A)
    (hl:xs.length≤140737488355328:=by first | omega | (simp only [List.length_set,List.length_cons,List.length_nil,List.length_append,List.length_take,List.length_drop] <;> omega) | decide):Seq (ρ:=ρ) P N ops Q ds i l I M:=seq_freeze dflt h hl hM (List.Perm.refl _) next
theorem rpm {c:Code} {M':Seg} (p:M.Perm M') (next:Run (ρ:=ρ) P N c Q ds l I M'):Run (ρ:=ρ) P N c Q ds l I M:=run_mem (fun w h=>h.perm p) next
theorem rnm {c:Code} {M':Seg} (next:Run (ρ:=ρ) P N c Q ds l I M') (h:M=M':=by (try simp only [List.append_assoc,List.cons_append,List.nil_append,List.append_nil,List.set_cons_zero,List.set_cons_succ]);rfl):Run (ρ:=ρ) P N c Q ds l I M:=by subst h;exact next
theorem ppm {e:Exit} {M':Seg} (p:M.Perm M') (next:Pst N Q e ds l I M'):Pst N Q e ds l I M:=MX (fun w h=>h.perm p) next
theorem pm {M':Seg} (p:M.Perm M') (next:Seq (ρ:=ρ) P N ops Q ds i l I M'):Seq (ρ:=ρ) P N ops Q ds i l I M:=BA (fun w h=>h.perm p) next
theorem nm {M':Seg} (next:Seq (ρ:=ρ) P N ops Q ds i l I M') (h:M=M':=by (try simp only [List.append_assoc,List.cons_append,List.nil_append,List.append_nil,List.set_cons_zero,List.set_cons_succ]);rfl):Seq (ρ:=ρ) P N ops Q ds i l I M:=by subst h;exact next
end
theorem frA {P : Program} [Jud P] {f : FuncId} {fn : Func} {args : List Value} {I : Imm} {pre : Seg} {post : Value → Imm → Seg → Prop} {N : Nat} (hf : P.funcs[f]? = some fn)
    (h:∀ F,Run (ρ:=none) P N (LB fn) (RetQ P fn I post F) [] (FE 0 args) I (pre++F)) (hb:fn.body.isSome=true:=by kernel_rfl) (hN:fn.ntmps=N:=by kernel_rfl) (hle:Nat.ble args.length N=true:=by rfl):CtA P f args.toArray I pre post:=
  QU hf hb hN (Nat.le_of_ble_eq_true hle) h
theorem fr {P : Program} {f : FuncId} {fn : Func} {args : List Value} {I : Imm} {pre : Seg} {post : Value → Imm → Seg → Prop} {N : Nat} (hf : P.funcs[f]? = some fn)
    (h:∀ [Jud P] (F:Seg),Run (ρ:=none) P N (LB fn) (RetQ P fn I post F) [] (FE 0 args) I (pre++F)) (hb:fn.body.isSome=true:=by kernel_rfl) (hN:fn.ntmps=N:=by kernel_rfl) (hle:Nat.ble args.length N=true:=by rfl):Ct P f args.toArray I pre post:=
  fn_of_run hf hb hN (Nat.le_of_ble_eq_true hle) h
end Go.Sl

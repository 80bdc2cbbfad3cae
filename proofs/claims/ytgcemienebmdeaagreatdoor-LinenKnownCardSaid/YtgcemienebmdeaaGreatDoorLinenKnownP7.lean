/- A part of the proof of the laws of this seat. -/
import Derived.Test.YtgcemienebmdeaaGreatDoorLinenKnownP6
import Derived.Test.YtgcemienebmdeaaGreatDoorLinenKnownP1
import Derived.Test.YtgcemienebmdeaaGreatDoorLinenKnownP4
import Derived.Test.YtgcemienebmdeaaGreatDoorLinenKnownP2
import Derived.Test.YtgcemienebmdeaaGreatDoorLinenKnownP5
import Derived.Test.YtgcemienebmdeaaGreatDoorLinenKnownP3
set_option linter.unusedVariables false
set_option linter.unusedSimpArgs false
namespace Go.Sl
open Go
open Go.Conc (G rcase scase born QuitsIn)
section
variable {P:Program} [J:Jud P] {N:Nat} {ops:Array Oper} {R:Seg} {ds:List Deferred} {b:Frame} {k:List Item} {cs:List Frame} {G':Cf→Prop}
theorem gets_op {a : Act} {σ : GW} {i : Nat} {rest : List Nat} {o : Oper} (ho : ops[i]? = some o) (hw : Region.wanted o (yielded ops a.tmps) = true)
    (h:wpOp b.roundOf P o a σ fun a' σ'=>gets P (b.atR a' (.inRegion ops rest::k)) cs σ' G'):gets P (b.atR a (.inRegion ops (i::rest)::k)) cs σ G':=by
  have hfin:∀ v,(b.atR a (.inRegion ops (i::rest)::k)).finish v=b.atR (a.put o.dst v) (.inRegion ops rest::k):=by
    intro v;rw [Frame.finish_atR,ho];rfl
  refine QY (fun main w=>QE ho hw) (fun d r x k e=>by simp [Frame.atR] at e) ?_;refine h.mono fun n σ' hn=>?_
  cases n with
  | value v=>show gets P (Frame.finish _ v) cs σ' _;rw [hfin];exact hn
  | skip=>show gets P (Frame.finish _ undef) cs σ' _;rw [hfin];exact hn
  | defer d=>
    show gets P (Frame.finish _ undef) cs σ' _;have:({ b.atR a (.inRegion ops (i::rest)::k) with defers:=d::a.defers }:Frame).finish undef=b.atR ({ a with defers:=d::a.defers }.put o.dst undef) (.inRegion ops rest::k):=by
      have:=Frame.finish_atR b { a with defers:=d::a.defers } ops i rest k undef;rw [ho] at this;exact this
    exact this▸hn
  | enter f args=>exact J.bind (hn (b.atR a (.inRegion ops (i::rest)::k)::cs)) fun d hd=>QZ hd fun v σ' hv=>by rw [hfin];exact hv
  | round l f tmps assign body=>
    refine J.bind (hn (b.atR a (.inRegion ops (i::rest)::k)) cs) fun d hd=>?_
    obtain ⟨fr,cs',σ⟩:=d;obtain ⟨v,h1,h2,h3⟩:=hd;simp only at h1 h2 h3;subst h2 h3;rw [hfin];exact h1
  | _=>exact hn.elim
theorem gets_det {a : Act} {w : GW} {l : Sl} {I : Imm} {i d : Nat} {v : Value} {rest : List Nat} (h : Det P N ops i l I R d v) (hS : Slots N l a) (hD : a.defers = ds) (hW : St I R w)
    (next:∀ a' w',Slots N ((d,v)::l) a'→a'.defers=ds→St I R w'→gets P (b.atR a' (.inRegion ops rest::k)) cs w' G'):gets P (b.atR a (.inRegion ops (i::rest)::k)) cs w G':=by
  obtain ⟨o,ho,hd,hN,hs,h⟩:=h;have hag:∀ t∈o.looksAt ops,∀ u,look t l=some u→a.tmps[t]?=some u:=fun t _ u hu=>hS.get t u hu
  rcases h with ⟨hg,rfl⟩ | ⟨hg,hk,hr⟩
  · have hw:=CK hg hag
    refine CZ (fr':=b.atR (a.put o.dst undef) (.inRegion ops rest::k)) (cs':=cs) (fun main w=>?_) (next _ _ (by rw [hd];exact hS.put hN _) (by rw [FB];exact hD) hW);have e:((ops[i]?).map (Region.wanted · (yielded ops a.tmps))).getD false=false:=by rw [ho];exact hw
    have e2:(ops[i]?).bind (·.dst)=o.dst:=by rw [ho];rfl
    rw [← e2,← Frame.finish_atR];simp only [Frame.atR] at *;simp [G,stepG,stepG.exec,e]
  · refine gets_op ho (CK hg hag) ?_
    have:=hr I [] w (Imm.le.refl I) (by rw [List.append_nil];exact hW);rw [← LX hs hk hag] at this;refine HH hs.2 this fun u w' ⟨hu,hst⟩=>?_
    subst hu;rw [hd];exact next _ _ (hS.put hN _) (by rw [FB];exact hD) (by rw [List.append_nil] at hst;exact hst)
theorem gets_any {n : Nat} (hsz : ops.size = n + 1) (hlt : ∀ j o, ops[j]? = some o → ∀ e ∈ o.after, Region.binds .any e = true → e.on < j) (hw : ∀ i, i < n → wt ops n i = true) (dv : Nat → Nat × Value) (l0 : Sl) {I : Imm}
    (hbase:∀ i,i<n→look (dv i).1 l0=none) (hinj:∀ i j,i<n→j<n→(dv i).1=(dv j).1→i=j)
    (hdet:∀ i l,i<n→(∀ t v,look t l0=some v→look t l=some v)→(∀ o,ops[i]?=some o→∀ e∈o.after,Region.binds .any e=true→look (dv e.on).1 l=some (dv e.on).2)→Det P N ops i l I R (dv i).1 (dv i).2)
    (hG:∀ l a σ,Slots N l a→a.defers=ds→St I R σ→(∀ t v,look t l0=some v→look t l=some v)→(∀ j,j<n→look (dv j).1 l=some (dv j).2)→gets P (b.atR a (.inRegion ops [n]::k)) cs σ G') :
    ∀ (fuel t:Nat) (listed:Array Bool) (l:Sl) (a:Act) (σ:GW),listed.size=n+1→listed.count false=fuel→¬ GO listed n→RU ops listed→Slots N l a→a.defers=ds→St I R σ →
      (∀ t v,look t l0=some v→look t l=some v)→(∀ j,j<n→GO listed j→look (dv j).1 l=some (dv j).2) →
      gets P (b.atR a (.inRegion ops (Region.linearise.go .any ops fuel t listed [])::k)) cs σ G':=by
  intro fuel
  induction fuel with
  | zero=>
    intro t listed l a σ hl hc hn
    exfalso
    refine hn ?_;have hlt:n<listed.size:=by omega
    have:false∉listed:=Array.count_eq_zero.1 hc;unfold GO;rw [Array.getD_eq_getD_getElem?,Array.getElem?_eq_getElem hlt];simp only [Option.getD_some];cases hx:listed[n] with
    | true=>rfl
    | false=>exact absurd (hx▸Array.getElem_mem hlt) this
  | succ fuel ih=>
    intro t listed l a σ hl hc hn hcl hS hD hW hk0 hk;simp only [Region.linearise.go]
    change gets P (b.atR a (.inRegion ops (match (Region.ready .any ops listed)[t%(Region.ready .any ops listed).length]? with
      | some i=>Region.linearise.go .any ops fuel (t/(Region.ready .any ops listed).length) (listed.setIfInBounds i true) [i]
      | none=>[].reverse)::k)) cs σ G'
    cases hi:(Region.ready .any ops listed)[t%(Region.ready .any ops listed).length]? with
    | none=>
      have hnil:Region.ready .any ops listed=[]:=by
        cases hr:Region.ready .any ops listed with
        | nil=>rfl
        | cons x xs=>
          rw [hr] at hi;have hlt:t%(x::xs).length<(x::xs).length:=Nat.mod_lt _ (by simp);simp at hi;simp at hlt;omega
      exfalso
      refine hn ?_;have all:∀ j,j<n+1→GO listed j:=by
        intro j
        induction j using Nat.strongRecOn with
        | _ j ihj=>
          intro hj;rcases Classical.em (GO listed j) with h | h
          · exact h
          · exfalso
            have:j∈Region.ready .any ops listed:=mem_ready.2 ⟨by
              unfold GO at h
              have hlt:j<listed.size:=by omega
              simp [hlt] at h ⊢
              exact h,ops[j]'(by omega),by simp,fun e he hb=>ihj e.on (hlt j _ (by simp) e he hb) (by have:=hlt j _ (Array.getElem?_eq_getElem (by omega)) e he hb;omega)⟩
            rw [hnil] at this;cases this
      exact all n (by omega)
    | some i=>
      have him:=List.mem_of_getElem? hi;obtain ⟨hnd,o,ho,hall⟩:=DH him;have hil:i<n+1:=by rw [← hsz];exact (Array.getElem?_eq_some_iff.1 ho).1
      have hcl':=LF hcl him (by omega);have hcount:(listed.setIfInBounds i true).count false=fuel:=by
        have hi':i<listed.size:=by omega
        have e:listed[i]=false:=by simpa [hi'] using hnd
        rw [Array.setIfInBounds_def,dif_pos hi',Array.count_set,e,hc];simp
      simp only [];rw [linearise_go_acc,List.reverse_singleton,List.singleton_append]
      by_cases hin:i=n
      · subst hin
        have hdone:∀ j,j<i→GO listed j:=fun j hj=>KH hcl i j (fun o' ho'=>by rw [ho] at ho';cases ho';exact hall) (hw j hj)
        have hf:fuel=0:=by
          rw [← hcount];refine Array.count_eq_zero.2 fun hm=>?_
          obtain ⟨j,hj,e⟩:=Array.mem_iff_getElem.1 hm
          have hd:GO (listed.setIfInBounds i true) j:=(GZ (by omega)).2 (by
            simp at hj
            by_cases h:j=i
            · exact .inl h
            · exact .inr (hdone j (by omega)))
          unfold GO at hd;rw [Array.getD_eq_getD_getElem?,Array.getElem?_eq_getElem hj,e] at hd;cases hd
        subst hf;simp only [Region.linearise.go,List.reverse_nil];exact hG l a σ hS hD hW hk0 fun j hj=>hk j hj (hdone j hj)
      · have hlt':i<n:=by omega
        refine gets_det (hdet i l hlt' hk0 fun o' ho' e he hb=>?_) hS hD hW fun a' w' hS' hD' hW'=>?_
        · rw [ho] at ho';cases ho'
          exact hk e.on (by have:=hlt i o ho e he hb;omega) (hall e he hb)
        · refine ih _ _ _ a' w' (by simpa using hl) hcount (fun h=>?_) hcl' hS' hD' hW' (fun t v ht=>?_) fun j hj hd=>?_
          · rcases (GZ (by omega)).1 h with h | h
            · exact hin h.symm
            · exact hn h
          · have hne:(dv i).1≠t:=fun e=>by rw [← e,hbase i hlt'] at ht;cases ht
            rw [BF hne];exact hk0 t v ht
          · rcases (GZ (by omega)).1 hd with rfl | h
            · exact CR _ _ _
            · by_cases e:i=j
              · subst e;exact CR _ _ _
              · rw [BF fun h2=>e (hinj i j hlt' hj h2)];exact hk j hj h
end
theorem born_send {P : Program} {cid : FuncId} {fn : Func} {N id n r : Nat} {ops : Array Oper} {cv : List Value} {m : Value} {x y : Operand} {ty : TypeId} {I : Imm} {σ : GW}
    (hf:P.funcs[cid]?=some fn) (hcb:CX P cid=true) (hb:fn.body=some (.region id ops true)) (hres:fn.results=#[]) (hN:fn.ntmps=N) (hle:cv.length≤N) (hmx:P.follows .mixedOrders=true)
    (hsz:ops.size=n+1) (hlt:∀ j o,ops[j]?=some o→∀ e∈o.after,Region.binds .any e=true→e.on<j) (hw:∀ i,i<n→wt ops n i=true) (dv:Nat→Nat × Value)
    (hbase:∀ i,i<n→look (dv i).1 (FE 0 cv)=none) (hinj:∀ i j,i<n→j<n→(dv i).1=(dv j).1→i=j)
    (hdet:∀ [Jud P],∀ i l,i<n→(∀ t v,look t (FE 0 cv)=some v→look t l=some v)→(∀ o,ops[i]?=some o→∀ e∈o.after,Region.binds .any e=true→look (dv e.on).1 l=some (dv e.on).2)→Det P N ops i l I [] (dv i).1 (dv i).2)
    (hop:EL ops N n=some (none,.send x y,ty,none)) (hx:∀ l,(∀ j,j<n→look (dv j).1 l=some (dv j).2)→BK l x=some (.chan (some r))∧BK l y=some m) (hW:St I [] σ) :
    ∃ T,Tr P (fun d=>∃ n,RS P r m n d) T ⟨(born P { target:=.fn (.func cid) cv.toArray,args:=#[] }).frame,[],σ⟩:=by
  letI J:Jud P:=JC P
  show J.gets _ _
  let f0:Frame:={ (default:Frame) with fn:=P.funcs.size,defers:=[],mode:=.panicking [goexitEntry] }
  let b:Frame:={ (default:Frame) with fn:=cid,kind:=.deferred,roundOf:=none }
  have henter:Frame.enter P cid cv.toArray .deferred=b.atR { tmps:=cv.toArray++Array.replicate (fn.ntmps-cv.toArray.size) undef,defers:=[] } [.code (.region id ops true)]:=by
    simp [Frame.enter,Frame.atR,hf,hb,b]
  refine CZ (fr':=Frame.enter P cid cv.toArray .deferred) (cs':=[f0]) (fun main w=>?_) ?_
  · have hnm : (fn.name == "runtime.NumGoroutine") = false := by
      unfold CX at hcb;rw [hf] at hcb;simp only [Bool.and_eq_true,Bool.not_eq_true'] at hcb;exact hcb.1
    have hrun:(callFunc cid cv.toArray).run P w=.ok (.enter cid cv.toArray) w:=by
      have:=hnm;simp at this;simp [callFunc,hf,hb,this]
    have hev:(callFunc cid cv.toArray).events P w #[]=#[]:=by
      have:=hnm;simp at this;simp [callFunc,hf,hb,this]
    have hse:∀ f,seen P f #[]=#[]:=fun f=>by simp [seen]
    simp [G,stepG,unwind,callDeferred,invoke,born,f0,GStep.after,hse,hrun,hev]
  rw [henter];have hS:Slots N (FE 0 cv) { tmps:=cv.toArray++Array.replicate (fn.ntmps-cv.toArray.size) undef,defers:=[] }:=by
    refine ⟨?_,fun t v hv=>?_⟩
    · simp;omega
    obtain ⟨_,h2⟩:=MD cv 0 t v hv;rw [Nat.sub_zero] at h2;have hlt:t<cv.length:=(List.getElem?_eq_some_iff.1 h2).1;rw [Array.getElem?_append_left (by simpa using hlt)]
    simpa using h2
  refine J.bind (J.one (Q:=fun d=>∃ t,d=⟨b.atR { tmps:=cv.toArray++Array.replicate (fn.ntmps-cv.toArray.size) undef,defers:=[] } (.inRegion ops (Region.schedule (P.follows .mixedOrders) ops t)::[]),[f0],σ⟩) fun w hw=>
    ⟨b.atR _ (.inRegion ops (Region.schedule (P.follows .mixedOrders) ops (w.tape w.drawn (.order b.fn id)))::[]),[f0],{ w with drawn:=w.drawn+1 },#[],σ,
      fun main=>by simp [G,stepG,stepG.exec,Frame.atR,choose,Sem.run,Question.forced,Question.cut],
      ⟨⟨hw.os,hw.tape,hw.output,hw.blk,hw.known⟩,rfl,rfl,Nat.le_refl _,fun _ _ _=>rfl,fun _ h=>.inl h,fun _ h=>h,rfl,rfl,rfl,fun e he=>by simp at he⟩,⟨_,rfl⟩⟩) fun d ⟨t,hd⟩=>hd▸?_
  simp only [Region.schedule,hmx,Bool.true_or,if_true];have hdn:∀ k,¬ GO (Array.replicate ops.size false) k:=fun k hk=>by
    unfold GO at hk;rw [Array.getD_eq_getD_getElem?] at hk
    by_cases h:k<ops.size
    · simp [h] at hk
    · simp [h] at hk
  refine gets_any hsz hlt hw dv (FE 0 cv) hbase hinj hdet (fun l a σ' hS' hD' hW' hk0 hk=>J.stop ?_) ops.size t (Array.replicate ops.size false) _ _ _ (by simp [hsz]) (by simp) (hdn _) (fun k hk=>absurd hk (hdn k)) hS rfl hW (fun _ _ h=>h) fun j _ h=>absurd h (hdn j)
  obtain ⟨hx,hy⟩:=hx l hk;obtain ⟨o,ho,hd,hop2,hty,hgd,hN',hs⟩:=FN hop;have hwn:Region.wanted o (yielded ops a.tmps)=true:=by unfold Region.wanted;rw [hgd]
  refine ⟨4,fun w hw=>?_,?_⟩
  · have he : o.semAt b.roundOf a.eval = pure (.comm #[scase r m (.tuple #[])] true .send) := by
      rw [Oper.semAt_eq _ _ o hs.2,FL,hop2];simp [IJ,execOp,MP hS' hx,MP hS' hy,scase]
    refine ⟨.tuple #[],?_⟩;rw [QE ho hwn,he];simp only [stepG.apply,if_true,pure,Sem.runT,GStep.after,G];simp [seen]
  · have hfin : (b.atR a (.inRegion ops [n] :: [])).finish undef = b.atR a [.inRegion ops []] := by
      rw [Frame.finish_atR,ho];show b.atR (a.put o.dst undef) _=_;rw [hd];rfl
    have e:Go.Conc.served (G (b.atR a (.inRegion ops [n]::[])) [f0]) undef=G (b.atR a [.inRegion ops []]) [f0]:=by
      show ({ frame:=(b.atR a (.inRegion ops [n]::[])).finish undef,callers:=[f0],status:=.running,dying:=none }:Goroutine)=_;rw [hfin];rfl
    show QuitsIn P 4 (Go.Conc.served (G (b.atR a (.inRegion ops [n]::[])) [f0]) undef);rw [e];refine .inr ⟨rfl,G (b.atR a []) [f0],fun w=>by simp [G,stepG,stepG.exec,Frame.atR],?_⟩;refine .inr ⟨rfl,G { b.atR a [] with mode:=.returning } [f0],fun w=>by simp [G,stepG,stepG.exec,Frame.atR,b],?_⟩;refine .inr ⟨rfl,G f0 [],fun w=>?_,?_⟩
    · simp [G,stepG,unwind,Frame.atR,hD',hf,results,hres,doReturn,b,f0,GStep.after,seen,goexitEntry]
    refine .inr ⟨rfl,{ G f0 [] with status:=.finished },fun w=>?_,rfl⟩;simp [G,stepG,unwind,f0,goexitEntry,Frame.catches,show (default:Frame).todo=[] from rfl]
theorem run_facts {ρ:Option Nat} {P:Program} [Jud P] {N:Nat} {c:Code} {Q:Exit→Act→GW→Prop} {ds:List Deferred} {l:Sl} {I:Imm} {M:Seg} (h:∀ w,St I M w→Run (ρ:=ρ) P N c Q ds l I M):Run (ρ:=ρ) P N c Q ds l I M:=fun a w hS hD hW=>h w hW a w hS hD hW
theorem two_perm {α:Type} {a b x:α} {xs:List α} (h:[a,b].Perm (x::xs)):(x=a∧xs=[b])∨(x=b∧xs=[a]):=by
  have hl:=h.length_eq
  match xs,hl with
  | [y],_=>
    have hx:x∈[a,b]:=h.mem_iff.2 (List.mem_cons_self ..);rcases List.mem_cons.1 hx with rfl | hx
    · have:=List.perm_singleton.1 (h.cons_inv).symm
      exact .inl ⟨rfl,this⟩
    · have hx:x=b:=by simpa using hx
      subst hx;have h2:[x,a].Perm (x::[y]):=(List.Perm.swap a x []).trans h;have:=List.perm_singleton.1 (h2.cons_inv).symm;exact .inr ⟨rfl,this⟩
theorem one_perm {α:Type} {a x:α} {xs:List α} (h:[a].Perm (x::xs)):x=a∧xs=[]:=by
  have:=List.singleton_perm.1 h;cases this;exact ⟨rfl,rfl⟩
theorem rrM {ρ:Option Nat} {P:Program} [Jud P] {N:Nat} {C:List Nat→Code} {p:List Nat} {Q:Exit→Act→GW→Prop} {ds:List Deferred} {l:Sl} {I:Imm} {M:Seg} (h:SeqM (ρ:=ρ) P N (FY (C p)) Q ds 0 l I M) (hc:RC (C p)=true:=by kernel_rfl):Run (ρ:=ρ) P N (C p) Q ds l I M:=by
  obtain ⟨id,e⟩:=SG hc;exact run_regionM e h
def edgesOk (ops:Array Oper):Bool:=(List.range ops.size).all fun j=>match ops[j]? with | some o=>o.after.all (fun e=>!Region.binds .any e||Nat.blt e.on j) | none=>true
theorem edges_lt {ops:Array Oper} (h:edgesOk ops=true):∀ j o,ops[j]?=some o→∀ e∈o.after,Region.binds .any e=true→e.on<j:=by
  intro j o ho e he hb;have hlt:j<ops.size:=(Array.getElem?_eq_some_iff.1 ho).1;have h1:=List.all_eq_true.1 h j (List.mem_range.2 hlt);simp only [ho] at h1;have h2:=Array.all_eq_true_iff_forall_mem.1 h1 e he;rw [hb] at h2
  simpa using h2
def wtOk (ops:Array Oper) (n:Nat):Bool:=(List.range n).all (wt ops n)
theorem wt_lt {ops:Array Oper} {n:Nat} (h:wtOk ops n=true):∀ i,i<n→wt ops n i=true:=fun i hi=>List.all_eq_true.1 h i (List.mem_range.2 hi)
def edgeAt (ops:Array Oper) (j i:Nat):Bool:=match ops[j]? with | some o=>o.after.any (fun e=>Nat.beq e.on i&&Region.binds .any e) | none=>false
theorem edge_get {ops:Array Oper} {j i:Nat} {p:Nat→Prop} (h:edgeAt ops j i=true) (hd:∀ o,ops[j]?=some o→∀ e∈o.after,Region.binds .any e=true→p e.on):p i:=by
  unfold edgeAt at h;cases ho:ops[j]? with
  | none=>rw [ho] at h;cases h
  | some o=>
    rw [ho] at h;simp only [Array.any_eq_true'] at h;obtain ⟨e,he,h⟩:=h;rw [Bool.and_eq_true] at h;have:=Nat.eq_of_beq_eq_true h.1;subst this;exact hd o ho e he h.2
end Go.Sl
namespace Go.Proofs.YtgcemienebmdeaaGreatDoor
open Go Go.Sl Go.Sh
open Go.Conc (born)
set_option maxRecDepth 100000
theorem checker {I : Imm} {σ : GW} {r b3 b4 b5 : Nat} {k : Int} {L : Lin} {u1 u2 u3 : Value} (h3 : I.blk b3 = some (Obj.cells #[.chan (some r)] 166 (0, 0))) (h4 : I.blk b4 = some (Obj.cells #[vI k] 3 (0, 0))) (h5 : I.blk b5 = some (Obj.cells (AQ L u1 u2 u3) 26 (0, 0)))
    (hL:IsLin I (.agg (AQ L u1 u2 u3)) L) (hW:St I [] σ) :
    ∃ T,Tr Tryz.prog (fun d=>∃ n,RS Tryz.prog r (.agg #[vI k,vI (AH L)]) n d) T ⟨(born Tryz.prog { target:=.fn (.func 102) [vP b3 0,vP b4 0,vP b5 0].toArray,args:=#[] }).frame,[],σ⟩:=by
  refine born_send (fn:=Tryz.f102) (N:=8) (id:=0) (n:=5) (r:=r) (ops:=FY (cod Tryz.f102 [])) (m:=.agg #[vI k,vI (AH L)]) (x:=.tmp 3) (y:=.tmp 7) (ty:=0) Tryz.func102 (by kernel_rfl) (by kernel_rfl) (by kernel_rfl) (by kernel_rfl) (Nat.le_of_ble_eq_true rfl) (by kernel_rfl) (by kernel_rfl) (edges_lt (by kernel_rfl)) (wt_lt (by kernel_rfl))
    (fun i=>[(3,.chan (some r)),(4,vI k),(5,.agg (AQ L u1 u2 u3)),(6,vI (AH L)),(7,.agg #[vI k,vI (AH L)])].getD i (0,undef)) ?_ ?_ ?_ (by kernel_rfl) ?_ hW
  · intro i hi
    match i,hi with
    | 0,_ | 1,_ | 2,_ | 3,_ | 4,_=>rfl
  · have e : ∀ i, i < 5 → ([(3, Value.chan (some r)), (4, vI k), (5, .agg (AQ L u1 u2 u3)), (6, vI (AH L)), (7, .agg #[vI k, vI (AH L)])].getD i (0, undef)).1 = i + 3 := by
      intro i hi
      match i,hi with
      | 0,_ | 1,_ | 2,_ | 3,_ | 4,_=>rfl
    intro i j hi hj h
    have h1:=e i hi
    have h2:=e j hj
    omega
  · intro _ i l hi h0 hd
    match i,hi with
    | 0,_=>exact dld 3 0 166 (.chan (some r)) (h0 0 _ rfl) (AR h3 rfl)
    | 1,_=>exact dld 4 1 3 (vI k) (h0 1 _ rfl) (AR h4 rfl)
    | 2,_=>exact dln 5 2 26 (DE L u1 u2 u3) (h0 2 _ rfl) (DX (n:=5) h5 rfl)
    | 3,_=>
      have h5':Go.Sl.look 5 l=some (.agg (AQ L u1 u2 u3)):=edge_get (i:=2) (p:=fun q=>Go.Sl.look (List.getD _ q (0,undef)).1 l=some (List.getD _ q (0,undef)).2) (by kernel_rfl) hd
      exact NH (f:=.func 8) (args:=#[.tmp 5]) (tys:=#[26]) (ty:=31) (gd:=none) (vals:=[.agg (AQ L u1 u2 u3)]) (cv:=[]) (by kernel_rfl) rfl rfl (by simp [NT,BK,h5']) (by kernel_rfl) rfl (fun I' hI=>DJ I' _ L (hL.mono hI))
    | 4,_=>
      have h4':Go.Sl.look 4 l=some (vI k):=edge_get (i:=1) (p:=fun q=>Go.Sl.look (List.getD _ q (0,undef)).1 l=some (List.getD _ q (0,undef)).2) (by kernel_rfl) hd
      have h6':Go.Sl.look 6 l=some (vI (AH L)):=edge_get (i:=3) (p:=fun q=>Go.Sl.look (List.getD _ q (0,undef)).1 l=some (List.getD _ q (0,undef)).2) (by kernel_rfl) hd
      exact det_build (T:=168) (parts:=#[(0,.tmp 4),(1,.tmp 6)]) (ty:=168) (gd:=none) (vals:=[(0,vI k),(1,vI (AH L))]) (by kernel_rfl) rfl (by intro x hx;simp [Op.operands] at hx;rcases hx with rfl | rfl;exact ⟨_,h4'⟩;exact ⟨_,h6'⟩) (by simp [rho,BK,h4',h6']) (fun x=>by kernel_rfl)
  · intro l h
    exact ⟨h 0 (by omega),h 4 (by omega)⟩
section
variable {I J:Imm} (hb:∀ b o,I.blk b=some o→J.blk b=some o)
include hb
theorem row_more {sz:Nat} {a:Option Addr} {b o n:Nat} {cell:Nat→Nat→Value} (h:Row sz I a b o n cell):Row sz J a b o n cell:=
  ⟨h.addr,fun i hi f hf=>ICell.mono (I:={ J with blk:=I.blk }) (h.get i hi f hf) ⟨rfl,rfl,rfl,rfl,rfl,hb⟩⟩
theorem sl_more {α:Type} {sz:Nat} {cell:α→Nat→Value} {dflt:α} {v:Value} {xs:List α} (h:IsSl sz cell dflt I v xs):IsSl sz cell dflt J v xs:=by
  obtain ⟨a,c,b,o,h1,h2,h3,h4⟩:=h
  exact ⟨a,c,b,o,h1,h2,h3,row_more hb h4⟩
theorem rows_more {v:Value} {xs:List (List Int)} (h:IsRows I v xs):IsRows J v xs:=by
  obtain ⟨a,c,b,o,vs,h1,h2,h3,h4,h5⟩:=h
  exact ⟨a,c,b,o,vs,h1,h2,h3,row_more hb h4,fun i hi=>sl_more hb (h5 i hi)⟩
theorem lin_more {v:Value} {L:Lin} (h:IsLin I v L):IsLin J v L:=by
  obtain ⟨v1,v2,v3,h1,h2,h3,h4⟩:=h
  exact ⟨v1,v2,v3,h1,rows_more hb h2,sl_more hb h3,sl_more hb h4⟩
end
noncomputable def c_checkAll:=cod Tryz.f60
theorem checkAll_ct (I : Imm) (B : Nat) (A C : Lin) (u1 u2 u3 v1 v2 v3 : Value) (hA1 : IsRows I u1 A.start) (hA2 : GK I u2 A.keeps) (hA3 : HM I u3 A.slips) (hC1 : IsRows I v1 C.start) (hC2 : GK I v2 C.keeps) (hC3 : HM I v3 C.slips) (hg : I.gh = none) (hp : I.pub = fun _ => False) :
    CtB Tryz.prog 60 #[vS (some ⟨B,0,none⟩) 2 2] I [bX B #[vI A.places,vI A.sorts,u1,u2,u3,vI C.places,vI C.sorts,v1,v2,v3] 26] (fun v _ M'=>v=vI (if AH A=0 then AH C else AH A)∧M'=[]):=by
 have hA:=CN (p:=A.places) (s:=A.sorts) hA1 hA2 hA3
 have hC:=CN (p:=C.places) (s:=C.sorts) hC1 hC2 hC3
 obtain ⟨a1,n1,k1,q1,s1,rfl,_⟩:=id hA1
 obtain ⟨a2,n2,k2,q2,rfl,_⟩:=id hA2
 obtain ⟨a3,n3,k3,q3,rfl,_⟩:=id hA3
 obtain ⟨c1,m1,j1,p1,t1,rfl,_⟩:=id hC1
 obtain ⟨c2,m2,j2,p2,rfl,_⟩:=id hC2
 obtain ⟨c3,m3,j3,p3,rfl,_⟩:=id hC3
 refine frB (args:=[_]) (N:=49) Tryz.func60 (fun F=>?_);show Run _ _ (c_checkAll []) _ _ [(0,_)] _ _;refine rnm (rqr ?_)
 refine sp 1 [(2,vI 0)] (sn (sp 2 [(11,vI 2),(10,vS (some ⟨B,0,none⟩) 2 2)] (sS (stp_makeChan (d:=12) (x:=.tmp 11) (T:=166) (el:=168) (bs:=16) (n:=2) (ty:=166) (gd:=none) (by kernel_rfl) rfl (by kernel_rfl) (by kernel_rfl) (by decide) rfl (by decide) (fun r=>?_)))))
 refine sS (sal 3 166 #[.chan none] (fun b3=>(sS (ss 0 0 b3 [.chan (some r)] [.chan (some r)] (_::_) (cs:=[_]) rfl rfl (se ?_)))))
 refine rpm (PS _ _ _) (run_facts fun w0 hW0=>run_give hg rfl ?_)
 refine rq (rqr (sp 3 [(15,vI 0),(14,vI 2),(13,vS (some ⟨B,0,none⟩) 2 2)] (se (rb 0 (rL ?_)))))
 refine HR (rqr (sp 1 [(16,.bool true)] (se (rq (rct 16 rfl (AM (NX (rq (rb 1 (rqr ?_))))))))))
 refine sp 1 [(17,vI 0)] (sd (di 18 5 0 (b:=B) (off:=0) (n:=2) (a:=some ⟨B,0,none⟩) (fun _=>rfl)) (sd (dnb 19 1 0 B (DE A (vS a1 A.start.length n1) (vS a2 A.keeps.length n2) (vS a3 A.slips.length n3))) (sS (sal 4 3 #[vI 0] (fun b4=>sS (sal 5 26 AZ (fun b5=>?_)))))))
 refine sS (ss 1 0 b4 [vI 0] [vI 0] (_::_::_) (cs:=[_]) rfl rfl (sS (ss 0 0 b5 (DE A (vS a1 A.start.length n1) (vS a2 A.keeps.length n2) (vS a3 A.slips.length n3)) (DE A (vS a1 A.start.length n1) (vS a2 A.keeps.length n2) (vS a3 A.slips.length n3)) (_::_) (cs:=[_,_,_,_,_]) rfl rfl (se ?_))))
 refine rrM (QC (dpv 20 (.func (.func 102) #[] #[vP b3 0,vP b4 0,vP b5 0])) (seqM_go (f:=.tmp 20) (ty:=0) (cid:=102) (cv:=[vP b3 0,vP b4 0,vP b5 0]) (h:=⟨r,2,[]⟩) (m:=.agg #[vI 0,vI (AH A)]) (by kernel_rfl) rfl rfl (Nat.le_of_ble_eq_true rfl) (fun Jc σ hJ st=>checker (hJ.mem _ _ (by simp)) (hJ.mem _ _ (by simp)) (hJ.mem _ _ (by simp)) (lin_more (I:=I) hJ.blk hA) st) (fun J1 hJ1=>RG (ee ?_))))
 refine NB (NX (rr (sd (da 21 0 1) (sp 1 [(15,vI 1)] (ee ?_)))))
 have hB:=hJ1.mem B _ (.tail _ (.tail _ (.tail _ (.head _))))
 have hb3:=hJ1.mem b3 _ (.tail _ (.tail _ (.head _)))
 refine GS (HR (rqr (sp 1 [(16,.bool true)] (se (rq (rct 16 rfl (AM (NX (rq (rb 1 (rqr ?_)))))))))))
 refine sp 1 [(17,vI 1)] (sd (di 18 5 1 (b:=B) (off:=0) (n:=2) (a:=some ⟨B,0,none⟩) (fun _=>rfl)) (sd (dn 19 (vs:=(DE C (vS c1 C.start.length m1) (vS c2 C.keeps.length m2) (vS c3 C.slips.length m3))) (DX (off:=0+1*5) (n:=5) hB rfl)) (sS (sal 4 3 #[vI 0] (fun b6=>sS (sal 5 26 AZ (fun b7=>?_)))))))
 refine sS (ss 1 0 b6 [vI 1] [vI 1] (_::_::_) (cs:=[_]) rfl rfl (sS (ss 0 0 b7 (DE C (vS c1 C.start.length m1) (vS c2 C.keeps.length m2) (vS c3 C.slips.length m3)) (DE C (vS c1 C.start.length m1) (vS c2 C.keeps.length m2) (vS c3 C.slips.length m3)) (_::_) (cs:=[_,_,_,_,_]) rfl rfl (se ?_))))
 refine rrM (QC (dpv 20 (.func (.func 102) #[] #[vP b3 0,vP b6 0,vP b7 0])) (seqM_go (f:=.tmp 20) (ty:=0) (cid:=102) (cv:=[vP b3 0,vP b6 0,vP b7 0]) (h:=⟨r,2,[.agg #[vI 0,vI (AH A)]]⟩) (m:=.agg #[vI 1,vI (AH C)]) (by kernel_rfl) rfl hJ1.gh (Nat.le_of_ble_eq_true rfl) (fun Jc σ hJ st=>checker (hJ.blk _ _ hb3) (hJ.mem _ _ (by simp)) (hJ.mem _ _ (by simp)) (lin_more (I:=I) (fun b o h=>hJ.blk _ _ (hJ1.blk _ _ h)) hC) st) (fun J2 hJ2=>RG (ee ?_))))
 refine NB (NX (rr (sd (da 21 1 1) (sp 1 [(15,vI 2)] (ee ?_)))))
 refine GS (HR (rqr (sp 1 [(16,.bool false)] (se (rq (rcf 16 rfl (CH 0 ?_)))))))
 repeat refine EP ?_
 refine EB (NX ?_)
 have hnd:=hW0.nodup
 simp only [List.map_cons,List.nodup_cons,List.mem_cons,not_or] at hnd
 have hFn:=hnd.2.2.2
 have hne3:b3≠r:=fun h=>hnd.1.1 h.symm
 have hnF3:∀ o',(b3,o')∉F:=fun o' h=>hnd.2.1.2 (List.mem_map.2 ⟨_,h,rfl⟩)
 have hI0:∀ b o,I.blk b=some o→J2.blk b=some o:=fun b o h=>hJ2.blk _ _ (hJ1.blk _ _ h)
 have hF0:∀ b o,(b,o)∈F→J2.blk b=some o:=fun b o h=>hJ2.blk _ _ (hJ1.mem b o (by simp [h]))
 have hb3:=hJ2.blk _ _ hb3
 have hos:J2.os=I.os:=hJ2.os.trans hJ1.os
 have htp:J2.tape=I.tape:=hJ2.tape.trans hJ1.tape
 have hout:J2.output=I.output:=hJ2.output.trans hJ1.output
 have hgh:=hJ2.gh
 clear hJ2 hJ1 hB
 refine rqr (sp 2 [(23,vI 2)] ?_)
 refine sS (QG (d:=24) (x:=.tmp 23) (T:=169) (E:=31) (bs:=8) (n:=2) (z:=vI 0) (zv:=vI 0) (ty:=169) (gd:=none) (by kernel_rfl) rfl (by kernel_rfl) (by kernel_rfl) (by kernel_rfl) rfl (by kernel_rfl) (by decide) rfl (by omega) (fun e=>?_))
 refine sp 1 [(6,vS (some ⟨e,0,none⟩) 2 2)] (se (rq (rqr (sp 3 [(27,vI 0),(26,vI 2),(25,vS (some ⟨B,0,none⟩) 2 2)] (se (rb 2 (rL ?_)))))))
 refine HR (rqr (sp 1 [(28,.bool true)] (se (rq (rct 28 rfl (AM (NX (rq (rb 3 (rq ?_))))))))))
 refine rrM (QC (dld 29 3 166 (.chan (some r)) rfl (AR hb3 rfl)) (seqM_recv (d:=30) (x:=.tmp 29) (T:=166) (el:=168) (z:=.agg #[vI 0,vI 0]) (ty:=168) (h:=⟨r,2,[(.agg #[vI 1,vI (AH C)]),(.agg #[vI 0,vI (AH A)])]⟩) (by kernel_rfl) (by kernel_rfl) (by kernel_rfl) rfl hgh (by simp) (fun v outs hv=>?_)))
 rcases two_perm hv with ⟨rfl,rfl⟩ | ⟨rfl,rfl⟩
 ·
  refine RG (sS (sal 7 168 #[vI 0,vI 0] (fun b8=>?_)))
  refine sS (ss 0 0 b8 [vI 1,vI (AH C)] [vI 1,vI (AH C)] (_::_) (cs:=[_,_]) rfl rfl (se ?_))
  refine rr (sp 2 [(32,vP b8 0),(31,vS (some ⟨e,0,none⟩) 2 2)] (sd (dlb 33 0 0 b8 (vI 1)) (sp 1 [(34,vP b8 1)] (sd (dlb 35 0 1 b8 (vI (AH C))) (sd (di 36 1 1 (b:=e) (off:=0) (n:=2) (a:=some ⟨e,0,none⟩) (fun _=>rfl)) (sS (ss 1 1 e [vI (AH C)] [vI 0,vI (AH C)] (_::_::_) (cs:=[_,_]) rfl rfl (ee ?_))))))))
  refine NB (NX (rr (sd (da 37 0 1) (sp 1 [(27,vI 1)] (ee ?_)))))
  refine GS (HR (rqr (sp 1 [(28,.bool true)] (se (rq (rct 28 rfl (AM (NX (rq (rb 3 (rq ?_)))))))))))
  refine rrM (QC (dld 29 3 166 (.chan (some r)) rfl (AR hb3 rfl)) (seqM_recv (d:=30) (x:=.tmp 29) (T:=166) (el:=168) (z:=.agg #[vI 0,vI 0]) (ty:=168) (h:=⟨r,2,[(.agg #[vI 0,vI (AH A)])]⟩) (by kernel_rfl) (by kernel_rfl) (by kernel_rfl) rfl rfl (by simp) (fun v outs hv=>?_)))
  obtain ⟨rfl,rfl⟩:=one_perm hv
  refine RG (sS (sal 7 168 #[vI 0,vI 0] (fun b9=>?_)))
  refine sS (ss 0 0 b9 [vI 0,vI (AH A)] [vI 0,vI (AH A)] (_::_) (cs:=[_,_]) rfl rfl (se ?_))
  refine rr (sp 2 [(32,vP b9 0),(31,vS (some ⟨e,0,none⟩) 2 2)] (sd (dlb 33 0 0 b9 (vI 0)) (sp 1 [(34,vP b9 1)] (sd (dlb 35 0 1 b9 (vI (AH A))) (sd (di 36 1 0 (b:=e) (off:=0) (n:=2) (a:=some ⟨e,0,none⟩) (fun _=>rfl)) (sS (ss 2 0 e [vI (AH A)] [vI (AH A),vI (AH C)] (_::_::_::_) (cs:=[_,_]) rfl rfl (ee ?_))))))))
  refine NB (NX (rr (sd (da 37 1 1) (sp 1 [(27,vI 2)] (ee ?_)))))
  refine GS (HR (rqr (sp 1 [(28,.bool false)] (se (rq (rcf 28 rfl (CH 2 ?_)))))))
  repeat refine EP ?_
  refine EB (NX ?_)
  refine run_take (h:=⟨r,2,[]⟩) (F:=F) (I0:=I) rfl rfl hg hp hos htp hout (fun b o h=>⟨hF0 b o h,hW0.disj b o (.tail _ (.tail _ (.tail _ h)))⟩) hFn hI0 (fun q tm J hle hJ=>?_)
  have hb3:J.blk b3=some _:=hJ b3 _ hb3 hne3 hnF3
  refine rqr (sd (dld 38 3 166 (.chan (some r)) rfl (AR hb3 rfl)) (sS (stp_close (x:=.tmp 38) (tys:=#[166]) (dst:=none) (ty:=0) (gd:=none) (by kernel_rfl) rfl rfl (PR _) (se ?_))))
  refine rnm (rq (rqr (sp 3 [(41,vI 0),(40,vI 2),(39,vS (some ⟨e,0,none⟩) 2 2)] (se (rb 4 (rL ?_))))))
  refine HR (rqr (sp 1 [(42,.bool true)] (se (rq (rct 42 rfl (AM (NX (rq (rb 5 (rqr ?_))))))))))
  refine sd (di 43 1 0 (b:=e) (off:=0) (n:=2) (a:=some ⟨e,0,none⟩) (fun _=>rfl)) (sd (dlb 44 2 0 e (vI (AH A))) (sp 1 [(9,vI (AH A))] (sn (sp 2 [(46,.bool (!(cmp .eql (AH A) 0))),(45,vI (AH A))] (se (rc 46 rfl (fun h0=>?_) (fun h0=>?_)))))))
  · refine rqr (sp 2 [(2,vI (AH A)),(47,vI (AH A))] (se (BB ?_)))
    repeat first | refine RP ?_ | refine RB ?_
    have h0:=BV (BM h0)
    exact GU 2 [] rfl (TC _ (TC _ (TC _ (TR _)))) hle ⟨by simp [h0],rfl⟩
  have h0:=BQ (BE h0)
  refine AM (NB (NX (rr (sd (da 48 0 1) (sp 1 [(41,vI 1)] (ee ?_))))))
  refine GS (HR (rqr (sp 1 [(42,.bool true)] (se (rq (rct 42 rfl (AM (NX (rq (rb 5 (rqr ?_)))))))))))
  refine sd (di 43 1 1 (b:=e) (off:=0) (n:=2) (a:=some ⟨e,0,none⟩) (fun _=>rfl)) (sd (dlb 44 2 1 e (vI (AH C))) (sp 1 [(9,vI (AH C))] (sn (sp 2 [(46,.bool (!(cmp .eql (AH C) 0))),(45,vI (AH C))] (se (rc 46 rfl (fun h1=>?_) (fun h1=>?_)))))))
  · refine rqr (sp 2 [(2,vI (AH C)),(47,vI (AH C))] (se (BB ?_)))
    repeat first | refine RP ?_ | refine RB ?_
    have h1:=BV (BM h1)
    exact GU 2 [] rfl (TC _ (TC _ (TC _ (TR _)))) hle ⟨by simp [h0,h1],rfl⟩
  have h1:=BQ (BE h1)
  refine AM (NB (NX (rr (sd (da 48 1 1) (sp 1 [(41,vI 2)] (ee ?_))))))
  refine GS (HR (rqr (sp 1 [(42,.bool false)] (se (rq (rcf 42 rfl (CH 4 ?_)))))))
  repeat refine EP ?_
  refine EB (NX (rqr (sp 1 [(2,vI 0)] (se (BB ?_)))))
  exact GU 2 [] rfl (TC _ (TC _ (TC _ (TR _)))) hle ⟨by simp [h0,h1],rfl⟩
 ·
  refine RG (sS (sal 7 168 #[vI 0,vI 0] (fun b8=>?_)))
  refine sS (ss 0 0 b8 [vI 0,vI (AH A)] [vI 0,vI (AH A)] (_::_) (cs:=[_,_]) rfl rfl (se ?_))
  refine rr (sp 2 [(32,vP b8 0),(31,vS (some ⟨e,0,none⟩) 2 2)] (sd (dlb 33 0 0 b8 (vI 0)) (sp 1 [(34,vP b8 1)] (sd (dlb 35 0 1 b8 (vI (AH A))) (sd (di 36 1 0 (b:=e) (off:=0) (n:=2) (a:=some ⟨e,0,none⟩) (fun _=>rfl)) (sS (ss 1 0 e [vI (AH A)] [vI (AH A),vI 0] (_::_::_) (cs:=[_,_]) rfl rfl (ee ?_))))))))
  refine NB (NX (rr (sd (da 37 0 1) (sp 1 [(27,vI 1)] (ee ?_)))))
  refine GS (HR (rqr (sp 1 [(28,.bool true)] (se (rq (rct 28 rfl (AM (NX (rq (rb 3 (rq ?_)))))))))))
  refine rrM (QC (dld 29 3 166 (.chan (some r)) rfl (AR hb3 rfl)) (seqM_recv (d:=30) (x:=.tmp 29) (T:=166) (el:=168) (z:=.agg #[vI 0,vI 0]) (ty:=168) (h:=⟨r,2,[(.agg #[vI 1,vI (AH C)])]⟩) (by kernel_rfl) (by kernel_rfl) (by kernel_rfl) rfl rfl (by simp) (fun v outs hv=>?_)))
  obtain ⟨rfl,rfl⟩:=one_perm hv
  refine RG (sS (sal 7 168 #[vI 0,vI 0] (fun b9=>?_)))
  refine sS (ss 0 0 b9 [vI 1,vI (AH C)] [vI 1,vI (AH C)] (_::_) (cs:=[_,_]) rfl rfl (se ?_))
  refine rr (sp 2 [(32,vP b9 0),(31,vS (some ⟨e,0,none⟩) 2 2)] (sd (dlb 33 0 0 b9 (vI 1)) (sp 1 [(34,vP b9 1)] (sd (dlb 35 0 1 b9 (vI (AH C))) (sd (di 36 1 1 (b:=e) (off:=0) (n:=2) (a:=some ⟨e,0,none⟩) (fun _=>rfl)) (sS (ss 2 1 e [vI (AH C)] [vI (AH A),vI (AH C)] (_::_::_::_) (cs:=[_,_]) rfl rfl (ee ?_))))))))
  refine NB (NX (rr (sd (da 37 1 1) (sp 1 [(27,vI 2)] (ee ?_)))))
  refine GS (HR (rqr (sp 1 [(28,.bool false)] (se (rq (rcf 28 rfl (CH 2 ?_)))))))
  repeat refine EP ?_
  refine EB (NX ?_)
  refine run_take (h:=⟨r,2,[]⟩) (F:=F) (I0:=I) rfl rfl hg hp hos htp hout (fun b o h=>⟨hF0 b o h,hW0.disj b o (.tail _ (.tail _ (.tail _ h)))⟩) hFn hI0 (fun q tm J hle hJ=>?_)
  have hb3:J.blk b3=some _:=hJ b3 _ hb3 hne3 hnF3
  refine rqr (sd (dld 38 3 166 (.chan (some r)) rfl (AR hb3 rfl)) (sS (stp_close (x:=.tmp 38) (tys:=#[166]) (dst:=none) (ty:=0) (gd:=none) (by kernel_rfl) rfl rfl (PR _) (se ?_))))
  refine rnm (rq (rqr (sp 3 [(41,vI 0),(40,vI 2),(39,vS (some ⟨e,0,none⟩) 2 2)] (se (rb 4 (rL ?_))))))
  refine HR (rqr (sp 1 [(42,.bool true)] (se (rq (rct 42 rfl (AM (NX (rq (rb 5 (rqr ?_))))))))))
  refine sd (di 43 1 0 (b:=e) (off:=0) (n:=2) (a:=some ⟨e,0,none⟩) (fun _=>rfl)) (sd (dlb 44 2 0 e (vI (AH A))) (sp 1 [(9,vI (AH A))] (sn (sp 2 [(46,.bool (!(cmp .eql (AH A) 0))),(45,vI (AH A))] (se (rc 46 rfl (fun h0=>?_) (fun h0=>?_)))))))
  · refine rqr (sp 2 [(2,vI (AH A)),(47,vI (AH A))] (se (BB ?_)))
    repeat first | refine RP ?_ | refine RB ?_
    have h0:=BV (BM h0)
    exact GU 2 [] rfl (TC _ (TC _ (TC _ (TR _)))) hle ⟨by simp [h0],rfl⟩
  have h0:=BQ (BE h0)
  refine AM (NB (NX (rr (sd (da 48 0 1) (sp 1 [(41,vI 1)] (ee ?_))))))
  refine GS (HR (rqr (sp 1 [(42,.bool true)] (se (rq (rct 42 rfl (AM (NX (rq (rb 5 (rqr ?_)))))))))))
  refine sd (di 43 1 1 (b:=e) (off:=0) (n:=2) (a:=some ⟨e,0,none⟩) (fun _=>rfl)) (sd (dlb 44 2 1 e (vI (AH C))) (sp 1 [(9,vI (AH C))] (sn (sp 2 [(46,.bool (!(cmp .eql (AH C) 0))),(45,vI (AH C))] (se (rc 46 rfl (fun h1=>?_) (fun h1=>?_)))))))
  · refine rqr (sp 2 [(2,vI (AH C)),(47,vI (AH C))] (se (BB ?_)))
    repeat first | refine RP ?_ | refine RB ?_
    have h1:=BV (BM h1)
    exact GU 2 [] rfl (TC _ (TC _ (TC _ (TR _)))) hle ⟨by simp [h0,h1],rfl⟩
  have h1:=BQ (BE h1)
  refine AM (NB (NX (rr (sd (da 48 1 1) (sp 1 [(41,vI 2)] (ee ?_))))))
  refine GS (HR (rqr (sp 1 [(42,.bool false)] (se (rq (rcf 42 rfl (CH 4 ?_)))))))
  repeat refine EP ?_
  refine EB (NX (rqr (sp 1 [(2,vI 0)] (se (BB ?_)))))
  exact GU 2 [] rfl (TC _ (TC _ (TC _ (TR _)))) hle ⟨by simp [h0,h1],rfl⟩
end Go.Proofs.YtgcemienebmdeaaGreatDoor
namespace Go.Sl
open Go
structure Lone (I:Imm):Prop where
  gh:I.gh=none
  pub:I.pub=fun _=>False
theorem Lone.mono {I J:Imm} (h:Lone I) (le:I.le J):Lone J:=⟨le.gh.trans h.gh,le.pub.trans h.pub⟩
section
variable {P:Program} [J:Jud P] [Host P] {N:Nat} {ops:Array Oper} {i:Nat} {l:Sl} {I:Imm} {M:Seg}
theorem scH (d : Option Tmp) {K : Sl → Imm → Seg → Prop} {fid : FuncId} {argv : Array Value} {pre F : Seg} {post : Value → Imm → Seg → Prop} (ct : CtB P fid argv I pre post) (hM : M.Perm (pre ++ F))
    (hk:∀ v I' M',I.le I'→post v I' M'→K (ups d v l) I' (M'++F)) (h:clAt P N ops l i=some (d,fid,argv):=by kernel_rfl):Stp P N ops i l I M K:=by
  obtain ⟨f,args,tys,ty,gd,vals,cv,h1,h2,h3,h4,h5,h6⟩:=clAt_spec h;exact stp_callH h1 h2 h3 h4 h5 h6 ct hM hk
end
end Go.Sl
namespace Go.Proofs.YtgcemienebmdeaaGreatDoor
open Go Go.Sl Go.Sh
set_option maxRecDepth 100000
noncomputable def c_CloneKeep:=cod Tryz.f101
theorem CloneKeep_ct (I:Imm) (z:Value) (xs:List Keep) (z_f:GK I z xs) (hl:xs.length≤1000000):Ct Tryz.prog 101 #[z] I ([]) (fun v I' M'=>∃ u:Value,∃ Ms:Seg,v=u∧M'=Ms∧Own 75 3 NL u xs Ms):=by
 obtain ⟨a2,a3,b3,b6,rfl,b4,b5,b0⟩:=id z_f;refine fr (args:=[_]) (N:=8) Tryz.func101 (fun F=>?_);show Run _ _ (c_CloneKeep []) _ _ [(0,_)] _ _;refine rnm (rqr ?_);refine sp 1 [(2,vN)] (se (rq (rqr (sp 1 [(3,vS a2 xs.length a3)] (sd (OX (e:=75) (x:=(.tmp 3)) (y:=(.const vN)) (T:=23) (T':=23) (d:=4) (ty:=4) (gd:=none) (by kernel_rfl) rfl (by kernel_rfl) rfl rfl) (se (rc 4 rfl (fun h1=>?_) (fun h1=>?_))))))))
 ·
  have a0:=h1;refine rqr (sp 1 [(2,vN)] (se (BB (RP ?_))));obtain rfl:=b0.nil h1;refine NO (t:=2) ([]) (by kernel_rfl) rfl (TR _) (IR _) ?_;exact ⟨_,_,rfl,rfl,Own.nil _ _ _⟩
 have a0:=h1;refine AM (NX (rqr (sS (sbs 5 75 0 #[] (fun b1=>(sp 1 [(6,vS a2 xs.length a3)] ?_))))));have a5:Own 75 3 NL (vS (some ⟨b1,0,none⟩) 0 0) ([]:List Keep) [(bX b1 #[] 75)]:=Own.lit rfl rfl;refine sS (sap (d:=7) 5 6 23 75 3 24 (.agg #[vI 0,vI 0,vI 0]) NL ([]:List Keep) xs [(bX b1 #[] 75)] rfl rfl a5 (PR _) (one_keepCell _) z_f.src (fun v4 a4 a1=>?_));rw [NA] at a1;refine nm ?_;obtain ⟨a6,a7,rfl,b2⟩:=a1.shape;refine sp 1 [(2,vS a6 xs.length a7)] (se (BB (GU 2 a4 rfl (TA (TR _) _) (IR _) ?_)));exact ⟨_,_,rfl,rfl,a1⟩
noncomputable def c_copied:=cod Tryz.f59
theorem copied_ct (I:Imm) (l:Value) (L:Lin) (l_f:IsLin I l L) (hg:GoodL L):Ct Tryz.prog 59 #[l] I ([]) (fun v I' M'=>∃ u1:Value,∃ u2:Value,∃ u3:Value,∃ Ms:Seg,v=.agg #[vI (L).places,vI (L).sorts,u1,u2,u3]∧M'=Ms∧IsRows I' u1 (L).start∧GK I' u2 (L).keeps∧Own 29 8 AV u3 (L).slips Ms):=by
 obtain ⟨l1,l2,l3,rfl,k1,c1,b6⟩:=id l_f;obtain ⟨c7,c8,l6,l9,k6,rfl,l7,l8,d5,e1⟩:=id k1;obtain ⟨a8,a9,m0,m3,rfl,m1,m2,m4⟩:=id c1;obtain ⟨a5,a6,m5,m8,rfl,m6,m7,m9⟩:=id b6;refine fr (args:=[_]) (N:=32) Tryz.func59 (fun F=>?_);show Run _ _ (c_copied []) _ _ [(0,_)] _ _;refine rnm ?_;have o7:=hg.places;have o8:=hg.start;have o9:=hg.keeps;have p0:=hg.slips;refine rqr (sS (sb 1 26 (AQ L (vS c7 L.start.length c8) (vS a8 L.keeps.length a9) (vS a5 L.slips.length a6)) (fun b1=>(sS (sal 2 26 AZ (fun b3=>(sn (sp 1 [(6,vP b1 2)] (sd (dlb 7 1 2 b1 (vS c7 L.start.length c8)) (sp 1 [(3,vS c7 L.start.length c8)] (sn (sp 1 [(8,vP b1 2)] (sS (ss 1 2 b1 [vN] (DE L vN (vS a8 L.keeps.length a9) (vS a5 L.slips.length a6)) (_::_::_) (cs:=[_,_,_,_,_]) rfl rfl (se (rq (rqr (sp 3 [(11,vI 0),(10,vI (↑(L.start.length))),(9,vS c7 L.start.length c8)] (se (rb 0 ?_))))))))))))))))))));refine rl (fun mz a w=>∃ J0:Imm,∃ k:Nat,∃ c0:Value,∃ a4:Seg,∃ a0:List Value,(I.le J0)∧(k≤L.start.length)∧(RowsV J0 a0 (L.start.take k))∧(Own 33 1 KF c0 a0 a4)∧SD 32 [(11,vI ↑k),(1,vP b1 0),(2,vP b3 0),(9,vS c7 L.start.length c8),(10,vI (↑(L.start.length)))] J0 ((bX b3 AZ 26)::(bX b1 (AQ L c0 (vS a8 L.keeps.length a9) (vS a5 L.slips.length a6)) 26)::(a4++F)) a w (mz=L.start.length-k)) ?_ ?_
 ·intro a w hS hD hW;exact ⟨_,I,0,(vN),[],[],IR _,Nat.zero_le _,(RowsV.nil _),(Own.nil _ _ _),hS.sub su,hD,hW,rfl⟩
 rintro mz a w ⟨J0,k,c0,a4,a0,hJ0,hk,a3,b9,hS,hD,hW,rfl⟩
 refine AW hS hD hW ?_;replace d5:=d5.mono hJ0;replace e1:=fun i hi=>(e1 i hi).mono hJ0
 replace c1:=c1.mono hJ0;replace b6:=b6.mono hJ0;obtain ⟨a1,a2,rfl,e4⟩:=b9.shape;have c3:=a3.1
 try simp only [LS,LA,LC,LN,LK] at c3
 refine rqr (sp 1 [(12,.bool (cmp .lss ↑k (↑(L.start.length))))] (se (rq (rc 12 rfl (fun h1=>?_) (fun h1=>?_)))))
 ·
  have j7:=h1;have h1:=CQ h1;refine AM (NX (rq (rb 1 (rqr (sd (di 13 1 k d5.addr) ?_)))));have e5:=e1 k (by omega);obtain ⟨f8,f9,n2,n5,g0,n3,n4,n6⟩:=id e5;rw [g0] at e5;refine sd (JG (dl 14 (IF d5 k (by omega))) g0) (sp 1 [(5,vS f8 (L.start.getD k []).length f9)] (se ?_));refine rd 5 [(0,true),(1,true),(2,true),(3,false),(4,false)] ((bX b3 AZ 26)::(bX b1 (AQ L (vS a1 a0.length a2) (vS a8 L.keeps.length a9) (vS a5 L.slips.length a6)) 26)::[]) (a4++F) (ox 1 [(15,vP b1 2)] ?_);refine AE (dlb 16 1 2 b1 (vS a1 a0.length a2)) (ox 1 [(17,vS f8 (L.start.getD k []).length f9)] ?_);refine PQ (sc (some 18) (F:=((bX b3 AZ 26)::(bX b1 (AQ L (vS a1 a0.length a2) (vS a8 L.keeps.length a9) (vS a5 L.slips.length a6)) 26)::(a4++F))) (RT _ _ _ e5 (by have hq:=hg.rows _ (BJ (xs:=L.start) (d:=[]) (k:=k) (by omega));have p1:=hg.sorts;omega) :) (PR _) (fun o0 I6 n7 d4 l5=>?_));obtain ⟨p2,g5,k5,e8,f5⟩:=l5;rw [k5,e8];clear k5 e8;replace c1:=c1.mono d4;replace b6:=b6.mono d4;replace a3:=a3.mono d4;obtain ⟨b7,b8,rfl,k7⟩:=f5.shape;refine hk_mem (M':=(g5++(bX b3 AZ 26)::(bX b1 (AQ L (vS a1 a0.length a2) (vS a8 L.keeps.length a9) (vS a5 L.slips.length a6)) 26)::(a4++F))) (fun w h=>by simpa only [AA,CA,NA] using h) ?_;refine LH (B:=((bX b3 AZ 26)::(bX b1 (AQ L (vS a1 a0.length a2) (vS a8 L.keeps.length a9) (vS a5 L.slips.length a6)) 26)::(a4++F))) 0 f5 (by first | omega | (simp only [LS,LC,LN,LA,LK,LD] <;> omega) | decide) (PR _) (PR _) (fun l0 c5 c9=>?_);replace c1:=c1.mono c5;replace b6:=b6.mono c5;replace a3:=a3.mono c5;obtain ⟨h6,h8,h7,i1,d8,h9,i0,i2⟩:=id c9;cases d8;refine RA ?_;refine AX (S':=(a4++F)) (PR _) ?_;show OFP _ _ _ _ _ _ ((18,vS b7 (L.start.getD k []).length b8)::_) _ _;refine CV (sbs 19 33 1 #[vS b7 (L.start.getD k []).length b8] (fun l4=>?_));refine AX (S':=((bX l4 #[vS b7 (L.start.getD k []).length b8] 33)::(a4++F))) ((PS _ _ _).trans (PC _ (PS _ _ _))) ?_;refine FS (nm (nm ?_));refine sS (LP (d:=20) (x:=(.tmp 16)) (y:=(.tmp 19)) (T:=22) (T':=22) (E:=33) (E':=33) (sz:=1) (bs:=24) (z:=vN) (cell:=KF) (xs:=a0) (ys:=[(vS b7 (L.start.getD k []).length b8:Value)]) (Ms:=a4) (ty:=22) (gd:=none) (by kernel_rfl) rfl (by kernel_rfl) (by kernel_rfl) (by kernel_rfl) (by kernel_rfl) (by kernel_rfl) (by decide) (by kernel_rfl) rfl rfl b9 (PU (PU PM.symm)) (one_valCell rfl) (HG 2 rfl rfl) (by first | omega | (have hq:=a3.1;simp only [LC,LN,LA,LK,LD] at hq ⊢;omega)) (fun p5 e6 f1=>(BA (M':=((bX b3 AZ 26)::(bX b1 (AQ L (vS a1 a0.length a2) (vS a8 L.keeps.length a9) (vS a5 L.slips.length a6)) 26)::(e6++F))) (fun w h=>(h.perm (((PA _ ((PC _ (PS _ _ _)).trans (PS _ _ _))).trans PM).trans (PC _ (PW PM)))).sub (TC _ (TR _))) ?_)));obtain ⟨e2,e3,rfl,n1⟩:=f1.shape;have f4:=(a3).snoc c9;refine sp 1 [(21,vP b1 2)] (sS (ss 1 2 b1 [vS e2 (a0++([(vS b7 (L.start.getD k []).length b8:Value)])).length e3] (DE L (vS e2 (a0++([(vS b7 (L.start.getD k []).length b8:Value)])).length e3) (vS a8 L.keeps.length a9) (vS a5 L.slips.length a6)) (_::_::_) (cs:=[_,_,_,_,_]) rfl rfl (ee (NB (NX (rr (sd (da 22 ↑k 1) (sp 1 [(11,vI (↑k+1))] (ee ?_)))))))));refine AN (L.start.length-(k+1)) (by omega) ?_;intro a w hS hD hW;exact ⟨l0,k+1,vS e2 (a0++([(vS b7 (L.start.getD k []).length b8:Value)])).length e3,e6,a0++([(vS b7 (L.start.getD k []).length b8:Value)]),(IT (IT hJ0 d4) c5),by omega,((BO (d:=[]) (xs:=L.start) (k:=k) (by omega)).symm▸f4),f1,hS.sub su,hD,hW,rfl⟩
 have j7:=h1;have h1:=CU h1;refine CH 0 (EP (EP (EB (NX (rq ?_)))));refine DL (B:=((bX b3 AZ 26)::(bX b1 (AQ L (vS a1 a0.length a2) (vS a8 L.keeps.length a9) (vS a5 L.slips.length a6)) 26)::F)) undef b9 (by first | omega | (simp only [LS,LC,LN,LA,LK,LD] <;> omega) | decide) (PU PM.symm) (PR _) (fun o3 c6 d0=>?_);replace c1:=c1.mono c6;replace b6:=b6.mono c6;replace a3:=a3.mono c6;obtain ⟨i3,i5,i4,i8,d9,i6,i7,i9⟩:=id d0;cases d9;have a7:=a3.isRows d0;have e7:=a3.1;obtain ⟨g7,g9,g8,h3,g4,d7,h0,h2,h4,h5⟩:=id a7
 injection d7 with fr26_e1 fr26_e2 fr26_e3;subst fr26_e1;subst fr26_e3
 refine rd 7 [(0,true),(1,true),(3,true),(4,true),(2,false),(6,true),(5,false)] ((bX b3 AZ 26)::(bX b1 (AQ L (vS a1 a0.length a2) (vS a8 L.keeps.length a9) (vS a5 L.slips.length a6)) 26)::[]) F (ox 1 [(23,vP b1 3)] ?_);refine AE (dlb 24 1 3 b1 (vS a8 L.keeps.length a9)) (ox 1 [(26,vP b1 4)] ?_);refine AE (dlb 27 1 4 b1 (vS a5 L.slips.length a6)) ?_;refine PQ (sc (some 25) (F:=((bX b3 AZ 26)::(bX b1 (AQ L (vS a1 a0.length a2) (vS a8 L.keeps.length a9) (vS a5 L.slips.length a6)) 26)::F)) (CloneKeep_ct _ _ _ c1 (by omega) :) (PR _) (fun o1 o4 n8 d1 j8=>?_));obtain ⟨p3,g6,f2,e9,f6⟩:=j8;rw [f2,e9];clear f2 e9;replace b6:=b6.mono d1;replace a7:=a7.mono d1;obtain ⟨b0,b2,rfl,k8⟩:=f6.shape;refine hk_mem (M':=(g6++(bX b3 AZ 26)::(bX b1 (AQ L (vS a1 a0.length a2) (vS a8 L.keeps.length a9) (vS a5 L.slips.length a6)) 26)::F)) (fun w h=>by simpa only [AA,CA,NA] using h) ?_;refine LH (B:=((bX b3 AZ 26)::(bX b1 (AQ L (vS a1 a0.length a2) (vS a8 L.keeps.length a9) (vS a5 L.slips.length a6)) 26)::F)) AL f6 (by first | omega | (simp only [LS,LC,LN,LA,LK,LD] <;> omega) | decide) (PR _) (PR _) (fun o5 d2 c2=>?_);replace b6:=b6.mono d2;replace a7:=a7.mono d2;obtain ⟨j0,j2,j1,j5,e0,j3,j4,j6⟩:=id c2;cases e0;refine RA ?_;refine AX (S':=(F)) (PR _) ?_;show OFP _ _ _ _ _ _ ((25,vS b0 L.keeps.length b2)::_) _ _;refine ox 1 [(29,vP b1 3)] ?_;refine CV (sc (some 28) (F:=((bX b3 AZ 26)::(bX b1 (AQ L (vS a1 a0.length a2) (vS a8 L.keeps.length a9) (vS a5 L.slips.length a6)) 26)::F)) (KJ _ _ _ b6 (by omega) :) (PR _) (fun o2 o6 n9 d3 j9=>?_));obtain ⟨p4,d6,f3,f0,f7⟩:=j9;rw [f3,f0];clear f3 f0;replace a7:=a7.mono d3;replace c2:=c2.mono d3;obtain ⟨b4,b5,rfl,k9⟩:=f7.shape;refine AX (S':=(d6++F)) (PW PM) ?_;show OFP _ _ _ _ _ _ ((28,vS b4 L.slips.length b5)::_) _ _;refine FS (nm (nm ?_));refine sS (ss 1 3 b1 [vS b0 L.keeps.length b2] (DE L (vS a1 a0.length a2) (vS b0 L.keeps.length b2) (vS a5 L.slips.length a6)) (_::_::_) (cs:=[_,_,_,_,_]) rfl rfl (sp 1 [(30,vP b1 4)] (sS (ss 1 4 b1 [vS b4 L.slips.length b5] (DE L (vS a1 a0.length a2) (vS b0 L.keeps.length b2) (vS b4 L.slips.length b5)) (_::_::_) (cs:=[_,_,_,_,_]) rfl rfl (sn (sd (dnb 31 1 0 b1 (DE L (vS a1 a0.length a2) (vS b0 L.keeps.length b2) (vS b4 L.slips.length b5))) (sS (ss 0 0 b3 (DE L (vS a1 a0.length a2) (vS b0 L.keeps.length b2) (vS b4 L.slips.length b5)) (DE L (vS a1 a0.length a2) (vS b0 L.keeps.length b2) (vS b4 L.slips.length b5)) (_::_::_) (cs:=[_,_,_,_,_]) rfl rfl (se (BB (ppm (M':=(d6++(bX b3 (AQ L (vS a1 a0.length a2) (vS b0 L.keeps.length b2) (vS b4 L.slips.length b5)) 26)::(bX b1 (AQ L (vS a1 a0.length a2) (vS b0 L.keeps.length b2) (vS b4 L.slips.length b5)) 26)::F)) (PU PM.symm) (IV (t:=2) (T:=26) (n:=5) d6 (by kernel_rfl) rfl (by kernel_rfl) rfl (DC (n:=5) (cs:=(AQ L (vS a1 a0.length a2) (vS b0 L.keeps.length b2) (vS b4 L.slips.length b5))) (b:=b3) (off:=0) (T:=26) (fz:=(0,0)) (vs:=(DE L (vS a1 a0.length a2) (vS b0 L.keeps.length b2) (vS b4 L.slips.length b5))) (by simp) rfl) (.inl ⟨by kernel_rfl,rfl⟩) (TA (TC _ (TC _ (TR _))) _) (IT (IT (IT (IT hJ0 c6) d1) d2) d3) ?_))))))))))));exact ⟨_,_,_,_,rfl,rfl,((LR (xs:=L.start) (k:=k) (by omega))▸a7),c2,f7⟩
noncomputable def c_Merge:=cod Tryz.f23
set_option maxHeartbeats 1000000 in
theorem Merge_ct (I:Imm) (l:Value) (A:Lin) (m:Value) (B:Lin) (l_f:IsLin I l A) (m_f:IsLin I m B) (hlo:Lone I):CtB Tryz.prog 23 #[l,m] I ([]) (fun v I' M'=>∃ u0:Value,v=.tuple #[u0,vI ((BN A B).2)]∧M'=[]∧IsLin I' u0 ((BN A B).1)):=by
 obtain ⟨l1,l2,l3,rfl,d9,e0,c8⟩:=id l_f;obtain ⟨b4,b6,n3,n6,n1,rfl,n4,n5,n7,n8⟩:=id d9;obtain ⟨b8,b9,n9,o2,rfl,o0,o1,o3⟩:=id e0;obtain ⟨b0,b2,o4,o7,rfl,o5,o6,d1⟩:=id c8;obtain ⟨m1,m2,m3,rfl,e7,e8,g9⟩:=id m_f;obtain ⟨c3,c4,o9,p2,n2,rfl,p0,p1,p3,p4⟩:=id e7;obtain ⟨c5,c6,p5,p8,rfl,p6,p7,p9⟩:=id e8;obtain ⟨c0,c1,q0,q3,rfl,q1,q2,d4⟩:=id g9;refine frB (args:=[_,_]) (N:=88) Tryz.func23 (fun F=>?_);show Run _ _ (c_Merge []) _ _ [(0,_),(1,_)] _ _;refine rnm (rqr ?_);refine sS (sb 2 26 (AQ A (vS b4 A.start.length b6) (vS b8 A.keeps.length b9) (vS b0 A.slips.length b2)) (fun b1=>(sS (sb 3 26 (AQ B (vS c3 B.start.length c4) (vS c5 B.keeps.length c6) (vS c0 B.slips.length c1)) (fun b3=>(sS (sal 4 26 AZ (fun b5=>(sp 1 [(5,vI 0)] (se (rq (rqr (sd (dnb 11 2 0 b1 (DE A (vS b4 A.start.length b6) (vS b8 A.keeps.length b9) (vS b0 A.slips.length b2))) (sd (dnb 12 1 0 b3 (DE B (vS c3 B.start.length c4) (vS c5 B.keeps.length c6) (vS c0 B.slips.length c1))) (sS (sbs 13 26 2 #[vI A.places,vI A.sorts,vS b4 A.start.length b6,vS b8 A.keeps.length b9,vS b0 A.slips.length b2,vI B.places,vI B.sorts,vS c3 B.start.length c4,vS c5 B.keeps.length c6,vS c0 B.slips.length c1] (fun b7=>(sS (scH (some 14) (F:=((bX b5 AZ 26)::(bX b3 (AQ B (vS c3 B.start.length c4) (vS c5 B.keeps.length c6) (vS c0 B.slips.length c1)) 26)::(bX b1 (AQ A (vS b4 A.start.length b6) (vS b8 A.keeps.length b9) (vS b0 A.slips.length b2)) 26)::F)) (checkAll_ct I b7 A B _ _ _ _ _ _ d9 e0 c8 e7 e8 g9 hlo.gh hlo.pub :) (.refl _) (fun q9 I9 q6 a7 j8=>?_))))))))))))))))))));obtain ⟨g6,g2⟩:=j8;rw [g6,g2];clear g6 g2;replace d9:=d9.mono a7;replace e0:=e0.mono a7;replace c8:=c8.mono a7;replace d1:=d1.mono a7;replace e7:=e7.mono a7;replace e8:=e8.mono a7;replace d4:=d4.mono a7;replace hlo:=hlo.mono a7;refine nm ?_;show Seq _ _ _ _ _ _ ((14,vI (if AH A=0 then AH B else AH A))::_) _ _;refine CM 14 rfl (show (vI (if AH A=0 then AH B else AH A):Value)=vI (JI A B) from congrArg (Value.int .i64) rfl) (sp 1 [(6,vI (JI A B))] (sn (sp 2 [(16,.bool (!(cmp .eql (JI A B) 0)))] (se (rc 16 rfl (fun h1=>?_) (fun h1=>?_))))))
 ·
  have j1:=h1;have h1:=BV (BM h1);refine rqr (sp 2 [(18,vI (JI A B)),(17,.agg AZ)] (sS (ss 0 0 b5 GN GN (_::_::_::_) (cs:=[_,_,_,_,_]) rfl rfl (sp 1 [(5,vI (JI A B))] (se (BB (RP ?_)))))));have hE:=mergeE_1 (A:=A) (B:=B) h1;refine DQ (t:=4) (u:=5) (T:=26) (n:=5) [] (by kernel_rfl) rfl (by kernel_rfl) rfl (DC (n:=5) (cs:=AZ) (b:=b5) (off:=0) (T:=26) (fz:=(0,0)) (vs:=GN) (by simp) rfl) (.inl ⟨by kernel_rfl,rfl⟩) rfl (TC _ (TC _ (TC _ (TR _)))) a7 ?_;exact ⟨_,(by rw [hE]),rfl,((show (⟨0,0,[],[],[]⟩:Lin)=(BN A B).1 from by rw [hE];rfl)▸(CN (IsRows.nil _) (IsSl.nil _) (IsSl.nil _)))⟩
 have j1:=h1;have h1:=BQ (BE h1);refine AM (NX (rq (rq ?_)));refine DS (fun a w=>SE 88 [(2,vP b1 0),(3,vP b3 0),(4,vP b5 0),(5,vI 0),(46,.bool ((!(cmp .eql A.places B.places))||((!(cmp .eql A.sorts B.sorts))||((!(decide (A.start=B.start)))||(!(decide (A.keeps=B.keeps)))))))] I9 ((bX b5 AZ 26)::(bX b3 (AQ B (vS c3 B.start.length c4) (vS c5 B.keeps.length c6) (vS c0 B.slips.length c1)) 26)::(bX b1 (AQ A (vS b4 A.start.length b6) (vS b8 A.keeps.length b9) (vS b0 A.slips.length b2)) 26)::F) a w) ?_ ?_
 ·
  refine rr (sp 1 [(19,vP b1 0)] (sd (dlb 20 2 0 b1 (vI A.places)) (sp 1 [(21,vP b3 0)] (sd (dlb 22 1 0 b3 (vI B.places)) (sp 2 [(24,.bool (!(cmp .eql A.places B.places)))] ?_)))));refine BU 24 rfl (fun h2=>?_) (fun h2=>?_)
  ·
   have e2:=h2;have e2:=BV (BM e2);refine sp 22 [(46,.bool true)] (ee ?_);refine AO (fun a w hS hD hW=>⟨hS.sub (sun 4 (.consE 46 rfl (congrArg Value.bool (by simp only [h2,kk])) (.nil _))),hD,hW⟩)
  have e2:=h2;have e2:=BQ (BE e2);refine sp 1 [(25,vP b1 1)] (sd (dlb 26 2 1 b1 (vI A.sorts)) (sp 1 [(27,vP b3 1)] (sd (dlb 28 1 1 b3 (vI B.sorts)) (sp 3 [(31,.bool (!(cmp .eql A.sorts B.sorts)))] ?_))));refine BU 31 rfl (fun h3=>?_) (fun h3=>?_)
  ·
   have e3:=h3;have e3:=BV (BM e3);refine sp 15 [(46,.bool true)] (ee ?_);refine AO (fun a w hS hD hW=>⟨hS.sub (sun 4 (.consE 46 rfl (congrArg Value.bool (by simp only [h2,h3,kk])) (.nil _))),hD,hW⟩)
  have e3:=h3;have e3:=BQ (BE e3);refine sp 1 [(32,vP b1 2)] (sd (dlb 33 2 2 b1 (vS b4 A.start.length b6)) (sp 1 [(34,vP b3 2)] (sd (dlb 35 1 2 b3 (vS c3 B.start.length c4)) (sd (dc 36 (fun I' hI=>(EqRowsF_ct I' _ _ _ _ (d9.mono hI) (e7.mono hI) :))) (sp 3 [(39,.bool (!(decide (A.start=B.start))))] ?_)))));refine BU 39 rfl (fun h4=>?_) (fun h4=>?_)
  ·
   have e4:=h4;have e4:=QQ (BM e4);refine sp 7 [(46,.bool true)] (ee ?_);refine AO (fun a w hS hD hW=>⟨hS.sub (sun 4 (.consE 46 rfl (congrArg Value.bool (by simp only [h2,h3,h4,kk])) (.nil _))),hD,hW⟩)
  have e4:=h4;have e4:=NR (BE e4);refine sp 1 [(40,vP b1 3)] (sd (dlb 41 2 3 b1 (vS b8 A.keeps.length b9)) (sp 1 [(42,vP b3 3)] (sd (dlb 43 1 3 b3 (vS c5 B.keeps.length c6)) (sd (dc 44 (fun I' hI=>(EqKeepS_ct I' _ _ _ _ (e0.mono hI) (e8.mono hI) :))) (sp 2 [(46,.bool (!(decide (A.keeps=B.keeps))))] (ee ?_))))));refine AO (fun a w hS hD hW=>⟨hS.sub (sun 4 (.consE 46 rfl (congrArg Value.bool (by simp only [h2,h3,h4,kk])) (.nil _))),hD,hW⟩)
 rintro a w ⟨hS,hD,hW⟩
 refine AW hS hD hW ?_;refine rc 46 rfl (fun h5=>?_) (fun h5=>?_)
 ·
  have j3:=h5;refine rqr (sp 1 [(47,.agg AZ)] (sS (ss 0 0 b5 GN GN (_::_::_::_) (cs:=[_,_,_,_,_]) rfl rfl (sp 1 [(5,vI 12)] (se (BB (RP ?_)))))));have hE:=mergeE_2 (by omega) (head_no (by assumption));refine DQ (t:=4) (u:=5) (T:=26) (n:=5) [] (by kernel_rfl) rfl (by kernel_rfl) rfl (DC (n:=5) (cs:=AZ) (b:=b5) (off:=0) (T:=26) (fz:=(0,0)) (vs:=GN) (by simp) rfl) (.inl ⟨by kernel_rfl,rfl⟩) rfl (TC _ (TC _ (TC _ (TR _)))) a7 ?_;exact ⟨_,(by rw [hE]),rfl,((show (⟨0,0,[],[],[]⟩:Lin)=(BN A B).1 from by rw [hE];rfl)▸(CN (IsRows.nil _) (IsSl.nil _) (IsSl.nil _)))⟩
 have j3:=h5;obtain ⟨g1,j2⟩:=or_f h5;have g1:=BQ (BE g1);obtain ⟨e5,f2⟩:=or_f j2;have e5:=BQ (BE e5);obtain ⟨d2,d3⟩:=or_f f2;have d2:=NR (BE d2);have d3:=NR (BE d3);refine AM (NX (rq ?_));have hz:JI A B=0:=by omega
 have hg:=GG (two_0 hz).1;have n0:=GG (two_0 hz).2;have r9:=hg.slips;have s0:=n0.slips;have r7:=hg.places;have r8:=hg.sorts;have k1:KQ A B:=⟨by assumption,by assumption,by assumption,by assumption⟩;refine rr (sd (dnb 48 2 0 b1 (DE A (vS b4 A.start.length b6) (vS b8 A.keeps.length b9) (vS b0 A.slips.length b2))) (sS (sc (some 49) (copied_ct _ _ A (CN d9 e0 c8) (by assumption) :) (.refl _) (fun r0 m8 q7 c9 j9=>?_))));obtain ⟨r2,r3,r4,f9,g7,g3,i0,h0,i1⟩:=j9;rw [g7,g3];clear g7 g3;replace c8:=c8.mono c9;replace d1:=d1.mono c9;replace d4:=d4.mono c9;replace hlo:=hlo.mono c9;have a8:=i0;have a9:=h0;obtain ⟨a2,a3,l0,l6,i3,f6,l4,l5,l7,l8⟩:=id a8;obtain ⟨a4,a5,l9,m5,f7,m0,m4,m6⟩:=id a9;subst f6;subst f7;obtain ⟨d6,d7,rfl,m7⟩:=i1.shape;refine pm (M':=((bX b5 AZ 26)::(bX b3 (AQ B (vS c3 B.start.length c4) (vS c5 B.keeps.length c6) (vS c0 B.slips.length c1)) 26)::(bX b1 (AQ A (vS b4 A.start.length b6) (vS b8 A.keeps.length b9) (vS b0 A.slips.length b2)) 26)::(f9++F))) (PW (PW PM)) (sS (sal 7 26 AZ (fun d8=>(sS (ss 0 0 d8 (DE A (vS a2 A.start.length a3) (vS a4 A.keeps.length a5) (vS d6 A.slips.length d7)) (DE A (vS a2 A.start.length a3) (vS a4 A.keeps.length a5) (vS d6 A.slips.length d7)) (_::_::_::_::_) (cs:=[_,_,_,_,_]) rfl rfl (se (rq (rqr (sp 1 [(50,vP b3 4)] (sd (dlb 51 2 4 b3 (vS c0 B.slips.length c1)) (sp 2 [(53,vI 0),(52,vI (↑(B.slips.length)))] (se (rb 0 ?_)))))))))))));refine rl (fun mz a w=>∃ J0:Imm,∃ k:Nat,∃ d0:Value,∃ a6:Seg,(m8.le J0)∧(k≤B.slips.length)∧((B.slips.take k).any (OV A.slips)=false)∧(Own 29 8 AV d0 (A.slips++(B.slips.take k).filter (OP A.slips)) a6)∧SD 88 [(53,vI ↑k),(2,vP b1 0),(4,vP b5 0),(7,vP d8 0),(51,vS c0 B.slips.length c1),(52,vI (↑(B.slips.length)))] J0 ((bX d8 (AQ A (vS a2 A.start.length a3) (vS a4 A.keeps.length a5) d0) 26)::(bX b5 AZ 26)::(bX b3 (AQ B (vS c3 B.start.length c4) (vS c5 B.keeps.length c6) (vS c0 B.slips.length c1)) 26)::(bX b1 (AQ A (vS b4 A.start.length b6) (vS b8 A.keeps.length b9) (vS b0 A.slips.length b2)) 26)::(a6++F)) a w (mz=B.slips.length-k)) ?_ ?_
 ·intro a w hS hD hW;exact ⟨_,m8,0,vS d6 A.slips.length d7,f9,IR _,Nat.zero_le _,rfl,(by rw [List.take_zero,List.filter_nil,List.append_nil];exact i1),hS.sub su,hD,hW,rfl⟩
 rintro mz a w ⟨J0,k,d0,a6,hJ0,hk,i2,c2,hS,hD,hW,rfl⟩
 refine AW hS hD hW ?_;replace c8:=c8.mono hJ0;replace d1:=d1.mono hJ0;replace d4:=d4.mono hJ0;replace hlo:=hlo.mono hJ0;replace a8:=a8.mono hJ0;replace a9:=a9.mono hJ0;obtain ⟨a0,a1,rfl,f5⟩:=c2.shape;have s2:=mrg_len (k:=k) hg n0;refine rqr (sp 1 [(54,.bool (cmp .lss ↑k (↑(B.slips.length))))] (se (rq (rc 54 rfl (fun h6=>?_) (fun h6=>?_)))))
 ·
  have j4:=h6;have h6:=CQ h6;refine AM (NX (rq (rb 1 (rqr (sd (di 55 8 k d4.addr) (sd (dln 56 55 29 (ET (B.slips.getD k AB)) rfl (BI (vals:=BW) (fun _=>rfl) d4 k (by omega))) (sS (sal 9 29 zSlpA (fun e9=>(sS (ss 0 0 e9 (ET (B.slips.getD k AB)) (ET (B.slips.getD k AB)) (_::_::_::_::_::_) (cs:=[_,_,_,_,_,_,_,_]) rfl rfl (se (rq ?_)))))))))))));refine rd 5 [(0,true),(1,true),(2,true),(3,true),(4,false)] ((bX e9 (AY (B.slips.getD k AB)) 29)::(bX d8 (AQ A (vS a2 A.start.length a3) (vS a4 A.keeps.length a5) (vS a0 (A.slips++(B.slips.take k).filter (OP A.slips)).length a1)) 26)::(bX b5 AZ 26)::(bX b3 (AQ B (vS c3 B.start.length c4) (vS c5 B.keeps.length c6) (vS c0 B.slips.length c1)) 26)::(bX b1 (AQ A (vS b4 A.start.length b6) (vS b8 A.keeps.length b9) (vS b0 A.slips.length b2)) 26)::[]) (a6++F) (ox 1 [(57,vP b1 4)] ?_);refine AE (dlb 58 4 4 b1 (vS b0 A.slips.length b2)) (ox 1 [(59,vP e9 0)] ?_);refine AE (dlb 60 0 0 e9 (vI ((B.slips.getD k AB).num))) ?_;refine CV (sc (some 61) (F:=((bX e9 (AY (B.slips.getD k AB)) 29)::(bX d8 (AQ A (vS a2 A.start.length a3) (vS a4 A.keeps.length a5) (vS a0 (A.slips++(B.slips.take k).filter (OP A.slips)).length a1)) 26)::(bX b5 AZ 26)::(bX b3 (AQ B (vS c3 B.start.length c4) (vS c5 B.keeps.length c6) (vS c0 B.slips.length c1)) 26)::(bX b1 (AQ A (vS b4 A.start.length b6) (vS b8 A.keeps.length b9) (vS b0 A.slips.length b2)) 26)::(a6++F))) (KA _ ((B.slips.getD k AB).num) :) (PR _) (fun r1 m9 q8 c7 k0=>?_));obtain ⟨f0,g8,g4,k9⟩:=k0;rw [g8,g4];clear g8 g4;replace c8:=c8.mono c7;replace d1:=d1.mono c7;replace hlo:=hlo.mono c7;replace a8:=a8.mono c7;replace a9:=a9.mono c7;refine AX (S':=(a6++F)) (PR _) ?_;show OFP _ _ _ _ _ _ ((61,.func (.func 89) #[] #[vP f0 0])::_) _ _;refine FS (nm (nm ?_));refine sd (dc 62 (fun I' hI=>(NG I' _ _ 89 ([vP f0 0]) (fun x=>decide (x.num=((B.slips.getD k AB).num))) (c8.mono hI) (by kernel_rfl) (fun J hJ x=>num1_ct J x ((B.slips.getD k AB).num) f0 ((IT hI hJ).blk _ _ k9)) :))) (sp 1 [(10,vI (MA (fun x=>decide (x.num=((B.slips.getD k AB).num))) A.slips))] (se (rb 2 (rqr (sp 1 [(64,vI (MA (fun x=>decide (x.num=((B.slips.getD k AB).num))) A.slips))] ?_)))));obtain ⟨ix,hix⟩:∃ x:Int,x=idxN A.slips (B.slips.getD k AB):=⟨_,rfl⟩;refine CM 64 rfl (show (vI (MA (fun x=>decide (x.num=((B.slips.getD k AB).num))) A.slips):Value)=vI ix from congrArg (Value.int .i64) hix.symm) (sp 2 [(63,.bool (cmp .lss ix 0))] (se (rc 63 rfl (fun h7=>?_) (fun h7=>?_))))
  ·
   have j5:=h7;have h7:=CQ h7;refine rr (sp 1 [(66,vP d8 4)] (sd (dlb 67 1 4 d8 (vS a0 (A.slips++(B.slips.take k).filter (OP A.slips)).length a1)) (sd (dnb 68 0 0 e9 (ET (B.slips.getD k AB))) (sS (sbs 69 29 1 (AY (B.slips.getD k AB)) (fun r6=>(sS (sap (d:=70) 67 69 24 29 8 64 (.agg zSlpA) AV (A.slips++(B.slips.take k).filter (OP A.slips)) [B.slips.getD k AB] a6 rfl rfl c2 (PU (PU (PU (PU (PU PM.symm))))) (MW _) (HG 0 rfl rfl) (fun s3 g0 g5=>(BA (M':=((bX e9 (AY (B.slips.getD k AB)) 29)::(bX d8 (AQ A (vS a2 A.start.length a3) (vS a4 A.keeps.length a5) (vS a0 (A.slips++(B.slips.take k).filter (OP A.slips)).length a1)) 26)::(bX b5 AZ 26)::(bX b3 (AQ B (vS c3 B.start.length c4) (vS c5 B.keeps.length c6) (vS c0 B.slips.length c1)) 26)::(bX b1 (AQ A (vS b4 A.start.length b6) (vS b8 A.keeps.length b9) (vS b0 A.slips.length b2)) 26)::(g0++F))) (fun w h=>(h.perm (PW (PW (PW (PW (PW PM)))))).sub (TC _ (TR _))) ?_))))))))));obtain ⟨f3,f4,rfl,q5⟩:=g5.shape;refine sp 1 [(71,vP d8 4)] (sS (ss 1 4 d8 [vS f3 ((A.slips++(B.slips.take k).filter (OP A.slips))++([B.slips.getD k AB])).length f4] (DE A (vS a2 A.start.length a3) (vS a4 A.keeps.length a5) (vS f3 ((A.slips++(B.slips.take k).filter (OP A.slips))++([B.slips.getD k AB])).length f4)) (_::_::_::_::_::_) (cs:=[_,_,_,_,_]) rfl rfl (ee (NB (NB (NX (rr (sd (da 81 ↑k 1) (sp 1 [(53,vI (↑k+1))] (ee ?_))))))))));refine AN (B.slips.length-(k+1)) (by omega) ?_;intro a w hS hD hW;exact ⟨m9,k+1,vS f3 ((A.slips++(B.slips.take k).filter (OP A.slips))++([B.slips.getD k AB])).length f4,g0,(IT hJ0 c7),by omega,mrg_any i2 (by omega) (clash_lt hix (by assumption)),(by rw [mrg_new hix (by omega) (by assumption)];exact g5),hS.sub su,hD,(hW.perm (PR _)).sub (TC _ (TR _)),rfl⟩
  have j5:=h7;have h7:=CU h7;refine rq ?_;have s1:0≤ix∧ix<A.slips.length:=by have hq:=idx_in (L:=A.slips) (p:=fun x=>decide (x.num=(B.slips.getD k AB).num));rw [show MA _ _=ix from hix.symm] at hq;exact hq (by omega)
  refine rd0 6 (ox 1 [(73,vP b1 4)] ?_);refine AE (dlb 74 4 4 b1 (vS b0 A.slips.length b2)) (ox 1 [(75,vI (MA (fun x=>decide (x.num=((B.slips.getD k AB).num))) A.slips))] ?_);refine OFP.sub 75 (show (vI (MA (fun x=>decide (x.num=((B.slips.getD k AB).num))) A.slips):Value)=vI ix from congrArg (Value.int .i64) hix.symm) ?_;refine AE (diI 76 8 ix d1.addr) ?_;refine AE (dln 77 76 29 (ET (A.slips.getD ((ix:Int).toNat) AB)) rfl (BI (vals:=BW) (fun _=>rfl) d1 ((ix:Int).toNat) (by omega))) ?_;refine AE (dnb 78 0 0 e9 (ET (B.slips.getD k AB))) ?_;refine BT (sd (HV (L:=[(0,.i .i64),(1,.i .i64),(2,.i .i64),(3,.i .i64),(4,.i .i64),(5,.i .i64),(6,.b),(7,.i .i64)]) (x:=(.tmp 77)) (y:=(.tmp 78)) (T:=29) (T':=29) (d:=79) (ty:=4) (gd:=none) (by kernel_rfl) rfl (by kernel_rfl) rfl rfl rfl (eqSlip (A.slips.getD ((ix:Int).toNat) AB) (B.slips.getD k AB))) (sp 1 [(72,.bool (!(decide ((A.slips.getD ((ix:Int).toNat) AB)=(B.slips.getD k AB)))))] (se (rc 72 rfl (fun h8=>?_) (fun h8=>?_)))))
  ·
   have j6:=h8;have h8:=QQ (BM h8);refine rqr (sp 1 [(80,.agg AZ)] (sS (ss 2 0 b5 GN GN (_::_::_::_::_::_) (cs:=[_,_,_,_,_]) rfl rfl (sp 1 [(5,vI 4)] (se (BB (RB (RB (RP (RP (RB (RP ?_))))))))))));have hE:=mergeE_3 hz k1 hix (by omega) (by omega) h8;refine DQ (t:=4) (u:=5) (T:=26) (n:=5) [] (by kernel_rfl) rfl (by kernel_rfl) rfl (DC (n:=5) (cs:=AZ) (b:=b5) (off:=0) (T:=26) (fz:=(0,0)) (vs:=GN) (by simp) rfl) (.inl ⟨by kernel_rfl,rfl⟩) rfl (TC _ (TC _ (TC _ (TC _ (TC _ (TT (TR _) (TB _ _))))))) (IT (IT (IT a7 c9) hJ0) c7) ?_;exact ⟨_,(by rw [hE]),rfl,((show (⟨0,0,[],[],[]⟩:Lin)=(BN A B).1 from by rw [hE];rfl)▸(CN (IsRows.nil _) (IsSl.nil _) (IsSl.nil _)))⟩
  have j6:=h8;have h8:=NR (BE h8);refine AM (NB (NB (NX (rr (sd (da 81 ↑k 1) (sp 1 [(53,vI (↑k+1))] (ee ?_)))))));refine AN (B.slips.length-(k+1)) (by omega) ?_;intro a w hS hD hW;exact ⟨m9,k+1,vS a0 (A.slips++(B.slips.take k).filter (OP A.slips)).length a1,a6,(IT hJ0 c7),by omega,mrg_any i2 (by omega) (clash_eq hix h8),(by rw [mrg_old hix (by omega) (by omega)];exact c2),hS.sub su,hD,(hW.perm (PR _)).sub (TC _ (TR _)),rfl⟩
 have j4:=h6;have h6:=CU h6;refine CH 0 (EP (EP (EB (NX (rq (rqr (sp 1 [(82,vP d8 4)] (sd (dlb 83 0 4 d8 (vS a0 (A.slips++(B.slips.take k).filter (OP A.slips)).length a1)) (sp 2 [(85,.bool (cmp .gtr (↑((A.slips++(B.slips.take k).filter (OP A.slips)).length)) 8))] (se (rc 85 rfl (fun h9=>?_) (fun h9=>?_))))))))))))
 ·
  have j7:=h9;have h9:=SW h9;refine rqr (sp 1 [(86,.agg AZ)] (sS (ss 1 0 b5 GN GN (_::_::_::_::_) (cs:=[_,_,_,_,_]) rfl rfl (sp 1 [(5,vI 6)] (se (BB (RP ?_)))))));have hE:=mergeE_4 hz k1 i2 (by omega) (by omega);refine DQ (t:=4) (u:=5) (T:=26) (n:=5) [] (by kernel_rfl) rfl (by kernel_rfl) rfl (DC (n:=5) (cs:=AZ) (b:=b5) (off:=0) (T:=26) (fz:=(0,0)) (vs:=GN) (by simp) rfl) (.inl ⟨by kernel_rfl,rfl⟩) rfl (TC _ (TC _ (TC _ (TC _ (TT (TR _) (TB _ _)))))) (IT (IT a7 c9) hJ0) ?_;exact ⟨_,(by rw [hE]),rfl,((show (⟨0,0,[],[],[]⟩:Lin)=(BN A B).1 from by rw [hE];rfl)▸(CN (IsRows.nil _) (IsSl.nil _) (IsSl.nil _)))⟩
 have j7:=h9;have h9:=gtr_f h9;refine AM (NX (rq ?_));refine DL (B:=((bX d8 (AQ A (vS a2 A.start.length a3) (vS a4 A.keeps.length a5) (vS a0 (A.slips++(B.slips.take k).filter (OP A.slips)).length a1)) 26)::(bX b5 AZ 26)::(bX b3 (AQ B (vS c3 B.start.length c4) (vS c5 B.keeps.length c6) (vS c0 B.slips.length c1)) 26)::(bX b1 (AQ A (vS b4 A.start.length b6) (vS b8 A.keeps.length b9) (vS b0 A.slips.length b2)) 26)::F)) AB c2 (by first | omega | (simp only [LS,LC,LN,LA,LK,LD] <;> omega) | decide) (PU (PU (PU PM.symm))) (PR _) (fun r5 e6 e1=>?_);replace a8:=a8.mono e6;replace a9:=a9.mono e6;obtain ⟨i4,i6,i5,i9,f1,i7,i8,j0⟩:=id e1;cases f1;refine rr (sd (dnb 87 0 0 d8 (DE A (vS a2 A.start.length a3) (vS a4 A.keeps.length a5) (vS a0 (A.slips++(B.slips.take k).filter (OP A.slips)).length a1))) (sS (ss 1 0 b5 (DE A (vS a2 A.start.length a3) (vS a4 A.keeps.length a5) (vS a0 (A.slips++(B.slips.take k).filter (OP A.slips)).length a1)) (DE A (vS a2 A.start.length a3) (vS a4 A.keeps.length a5) (vS a0 (A.slips++(B.slips.take k).filter (OP A.slips)).length a1)) (_::_::_::_::_) (cs:=[_,_,_,_,_]) rfl rfl (sp 1 [(5,vI 0)] (se (BB ?_))))));have hE:=mergeE_5 hz k1 i2 (by omega) (by omega);refine DQ (t:=4) (u:=5) (T:=26) (n:=5) [] (by kernel_rfl) rfl (by kernel_rfl) rfl (DC (n:=5) (cs:=(AQ A (vS a2 A.start.length a3) (vS a4 A.keeps.length a5) (vS a0 (A.slips++(B.slips.take k).filter (OP A.slips)).length a1))) (b:=b5) (off:=0) (T:=26) (fz:=(0,0)) (vs:=(DE A (vS a2 A.start.length a3) (vS a4 A.keeps.length a5) (vS a0 (A.slips++(B.slips.take k).filter (OP A.slips)).length a1))) (by simp) rfl) (.inl ⟨by kernel_rfl,rfl⟩) rfl (TC _ (TC _ (TC _ (TC _ (TR _))))) (IT (IT (IT a7 c9) hJ0) e6) ?_;exact ⟨_,(by rw [hE]),rfl,((show (⟨A.places,A.sorts,A.start,A.keeps,A.slips++(B.slips.take k).filter (OP A.slips)⟩:Lin)=(BN A B).1 from by rw [hE];exact mrgL_k (by omega))▸(CN a8 a9 e1))⟩
noncomputable def OG:=cod Tryz.f44
theorem SM (I:Imm) (l:Value) (L:Lin) (fq_id:FuncId) (fq_cv:List Value) (pq:Sh.Event→Bool) (l_f:IsLin I l L) (fq_c:CX Tryz.prog fq_id=true) (fq_h:∀ J,I.le J→∀ x:Sh.Event,CtV Tryz.prog fq_id (.agg #[vI x.slip.num,vI x.slip.hour,vI x.slip.kind,vI x.slip.place,vI x.slip.to,vI x.slip.sort,.bool x.slip.soil,vI x.slip.amt,vI x.gap,.bool x.below]::fq_cv).toArray J (.bool (pq x))) (hg:GoodL L):Ct Tryz.prog 44 #[l,.func (.func fq_id) #[] fq_cv.toArray] I ([]) (fun v I' M'=>∃ u:Value,∃ Ms:Seg,v=u∧M'=Ms∧Own 3 1 AK u (FW pq (CD L)) Ms):=by
 obtain ⟨l1,l2,l3,rfl,c3,c4,c5⟩:=id l_f;obtain ⟨a3,a4,j1,j4,i7,rfl,j2,j3,j5,j6⟩:=id c3;obtain ⟨a5,a6,j7,k0,rfl,j8,j9,k1⟩:=id c4;obtain ⟨a7,a8,k2,k5,rfl,k3,k4,k6⟩:=id c5;refine JP (fn:=Tryz.f44) (args:=[_,_]) (N:=21) Tryz.func44 rfl (by kernel_rfl) (Nat.le_of_ble_eq_true rfl) (fun F=>?_);show Run _ _ (OG []) _ _ [(0,_),(1,_)] _ _;refine rnm (rqr ?_);refine sS (sb 2 26 (AQ L (vS a3 L.start.length a4) (vS a5 L.keeps.length a6) (vS a7 L.slips.length a8)) (fun b1=>(sS (sb 3 91 #[.func (.func fq_id) #[] fq_cv.toArray] (fun b3=>(sp 1 [(4,vN)] (sn (sS (sal 5 33 #[vN] (fun b5=>(se (rq (rq ?_)))))))))))));refine DA (b:=b3) (o:=Obj.cells #[.func (.func fq_id) #[] fq_cv.toArray] 91 (0,0)) (M0:=((bX b5 #[vN] 33)::(bX b1 (AQ L (vS a3 L.start.length a4) (vS a5 L.keeps.length a6) (vS a7 L.slips.length a8)) 26)::F)) (PS _ _ _) (fun I7 b8 c2=>?_);replace c3:=c3.mono b8;replace c4:=c4.mono b8;replace c5:=c5.mono b8;replace fq_h:=PI b8 fq_h;have m3:=hg.slips;refine rr (sd (dnb 7 1 0 b1 (DE L (vS a3 L.start.length a4) (vS a5 L.keeps.length a6) (vS a7 L.slips.length a8))) (sS (sc (some 8) (RD _ _ L (CN c3 c4 c5) :) (.refl _) (fun l5 m0 l0 b7 h5=>?_))));obtain ⟨i8,l7,l8,l9,d5,h0,g9,e2,d9,i1,i2⟩:=h5;rw [e2,d9];clear e2 d9;replace fq_h:=PI b7 fq_h;replace c2:=b7.blk _ _ c2;have b0:=i1;obtain ⟨a2,c9,d1,d3⟩:=id b0;obtain ⟨e7,e9,e8,f2,e4,rfl,f0,f1,f3,f4⟩:=id c9;obtain ⟨f5,f7,f6,g0,rfl,f8,f9,g1⟩:=id d1;obtain ⟨g2,g4,g3,g7,rfl,g5,g6,g8⟩:=id d3;refine nm ?_;refine sS (sc (some 9) (MQ _ i8 :) (.refl _) (fun l6 m1 l4 a9 h6=>?_));obtain ⟨d6,d7,k8,i6,i5,e3,e0,b9,c0,c1,i3⟩:=h6;rw [e3,e0];clear e3 e0;replace fq_h:=PI a9 fq_h;replace c2:=a9.blk _ _ c2;replace b0:=b0.mono a9;replace a2:=a9.blk _ _ a2;refine nm (se (rb 0 ?_))
 refine GV (α:=Sh.Event) (g:=(.tmp 9)) (ps:=#[10]) (assign:=OG [1,1,0,1,0,0]) (body:=OG [1,1,0,1,0,1]) (gf:=126) (cv:=[vP d6 0,vP d7 0]) (enc:=encEv) (seq:=(evs (EH L) (AF AC L.slips))) (R:=fun xs _ M=>EvR d5 (EH L) (AF AC L.slips) xs.length M) (Mr:=[(d5,Obj.map h0 g9)]) (M0:=((bX b5 #[vN] 33)::[])) (F0:=((bX b1 (AQ L (vS a3 L.start.length a4) (vS a5 L.keeps.length a6) (vS a7 L.slips.length a8)) 26)::F))
  (fun xs I M=>∃ v Ms,M=(bX b5 #[v] 33)::Ms∧Own 3 1 AK v (FW pq xs) Ms) (fun _ _ _ _=>False) (fun x k=>[(3,vP b3 0),(4,vN),(5,vP b5 0),(6,vP k 0)]) (fun x k=>[(bX k (EW x) 90)])
  (by kernel_rfl) rfl (by kernel_rfl) (fun _=>rfl) (by kernel_rfl) (II _ i8 d6 d7 k8 d5 _ _ _ _ _ L (EH L) b0 b9 c0 c1 i3 hg.goodS hg.within) (fun xs I J M _ h=>h) (PR _) ⟨_,_,rfl,i2⟩ ⟨_,[],rfl,Own.nil _ _ _⟩ ?_ ?_ ?_ ?_
 ·intro Lq x I1 M1;refine OL (l':=[(3,vP b3 0),(4,vN),(5,vP b5 0),(10,.agg (EW x))]) su (rr (sS (sal 6 90 #[vI 0,vI 0,vI 0,vI 0,vI 0,vI 0,.bool false,vI 0,vI 0,.bool false] (fun i4=>(sS (ss 0 0 i4 (evntL x) (evntL x) (_::_) (cs:=[_,_,_,_,_,_,_,_,_,_]) rfl rfl (ee ?_)))))));exact AO (fun a w hS hD hW=>⟨i4,hS.sub su,hD,hW⟩)
 ·intro Lq x k xs I1 Mr1 M1 F1 hpre hle1 hR1 hC1;replace fq_h:=PI hle1 fq_h;replace c2:=hle1.blk _ _ c2;replace a2:=hle1.blk _ _ a2;replace b9:=hle1.blk _ _ b9;replace c0:=hle1.blk _ _ c0;replace c1:=hle1.blk _ _ c1;obtain ⟨i9,b4,rfl,b2⟩:=hC1;obtain ⟨a0,a1,rfl,d8⟩:=b2.shape;have m4:(FW pq xs).length+1≤1000:=by have h1:=hpre.length_le;have h2:=numsP_len (p:=pq) (l:=xs);have h3:=JV (L:=L);unfold CD at h3;rw [h3] at h1;simp only [LA,LC,LN] at h1;omega
  refine rmA (M':=((bX k (EW x) 90)::(Mr1++(bX b5 #[vS a0 (FW pq xs).length a1] 33)::(b4++F1)))) ?_;refine rpm (M':=((bX k (EW x) 90)::(bX b5 #[vS a0 (FW pq xs).length a1] 33)::(Mr1++(b4++F1)))) (PC _ PM) (rb 1 (rqr (sd (dld 11 3 91 (.func (.func fq_id) #[] fq_cv.toArray) rfl (AR c2 rfl)) (sd (dnb 12 0 0 k (evntL x)) (sd (NH (f:=(.tmp 11)) (fid:=fq_id) (args:=#[(.tmp 12)]) (tys:=#[90]) (cv:=fq_cv) (v:=.bool (pq x)) (d:=13) (ty:=4) (gd:=none) (by kernel_rfl) rfl rfl rfl fq_c rfl (fun I' hI=>fq_h I' hI x)) (se (rc 13 rfl (fun h1=>?_) (fun h1=>?_))))))))
  ·
   have h4:=h1;refine rr (sd (dlb 14 1 0 b5 (vS a0 (FW pq xs).length a1)) (sp 2 [(16,vP k 0),(15,vP k 0)] (sd (dlb 17 0 0 k (vI x.slip.num)) (sS (sbs 18 3 1 #[vI x.slip.num] (fun m2=>(sS (sap (d:=19) 14 18 33 3 1 8 (vI 0) AK (FW pq xs) [(x.slip.num:Int)] b4 rfl rfl b2 (PU (PU (PU (PO _ _ _)))) (HE _) (HG 0 rfl rfl) (fun m5 d4 e1=>(BA (M':=((bX k (EW x) 90)::(bX b5 #[vS a0 (FW pq xs).length a1] 33)::(d4++(Mr1++F1)))) (fun w h=>(h.perm (PW (PW PM))).sub (TC _ (TR _))) ?_))))))))));obtain ⟨c6,c7,rfl,k9⟩:=e1.shape;refine sS (ss 1 0 b5 [vS c6 ((FW pq xs)++([(x.slip.num:Int)])).length c7] [vS c6 ((FW pq xs)++([(x.slip.num:Int)])).length c7] (_::_::_) (cs:=[_]) rfl rfl (ee (NB (ppm (M':=((bX k (EW x) 90)::(Mr1++(bX b5 #[vS c6 ((FW pq xs)++([(x.slip.num:Int)])).length c7] 33)::(d4++F1)))) (PC _ (PU (PO _ _ _))) ?_))));refine FO (M':=(Mr1++((bX b5 #[vS c6 ((FW pq xs)++([(x.slip.num:Int)])).length c7] 33)::d4))) (IR _) ?_ (by simp only [AA,NA,CA];exact (TC _ (TR _)));exact ⟨Mr1,_,rfl,hR1,⟨_,_,rfl,numsP_t h1▸e1⟩⟩
  have h4:=h1;refine AM (NB (ppm (M':=((bX k (EW x) 90)::(Mr1++(bX b5 #[vS a0 (FW pq xs).length a1] 33)::(b4++F1)))) (PC _ PM.symm) ?_));refine FO (M':=(Mr1++((bX b5 #[vS a0 (FW pq xs).length a1] 33)::b4))) (IR _) ?_ (by simp only [AA,NA,CA];exact (TC _ (TR _)));exact ⟨Mr1,_,rfl,hR1,⟨_,_,rfl,numsP_f h1▸b2⟩⟩
 ·intro D I2 Mr2 M2 hle2 hR2 hC2;replace fq_h:=PI hle2 fq_h;replace c2:=hle2.blk _ _ c2;replace a2:=hle2.blk _ _ a2;replace b9:=hle2.blk _ _ b9;replace c0:=hle2.blk _ _ c0;replace c1:=hle2.blk _ _ c1;obtain ⟨e6,e5,rfl,j0⟩:=EvR.full hR2 GD;obtain ⟨i9,b4,rfl,b2⟩:=hC2;obtain ⟨a0,a1,rfl,d8⟩:=b2.shape;refine MX (M':=((D,Obj.deferred (some []))::(d5,Obj.map e6 e5)::(bX b5 #[vS a0 (FW pq (evs (EH L) (AF AC L.slips))).length a1] 33)::(b4++(bX b1 (AQ L (vS a3 L.start.length a4) (vS a5 L.keeps.length a6) (vS a7 L.slips.length a8)) 26)::F))) (fun w h=>by simpa only [AA,CA,NA] using h) (ppm (M':=((D,Obj.deferred (some []))::(d5,Obj.map e6 e5)::(bX b5 #[vS a0 (FW pq (evs (EH L) (AF AC L.slips))).length a1] 33)::(bX b1 (AQ L (vS a3 L.start.length a4) (vS a5 L.keeps.length a6) (vS a7 L.slips.length a8)) 26)::(b4++F))) (PC _ (PC _ (PC _ PM))) (NB (NX (rqr (sd (dlb 20 2 0 b5 (vS a0 (FW pq (evs (EH L) (AF AC L.slips))).length a1)) (sp 1 [(4,vS a0 (FW pq (evs (EH L) (AF AC L.slips))).length a1)] (se (BB ?_))))))));refine EC (R:=((d5,Obj.map e6 e5)::(bX b5 #[vS a0 (FW pq (evs (EH L) (AF AC L.slips))).length a1] 33)::(bX b1 (AQ L (vS a3 L.start.length a4) (vS a5 L.keeps.length a6) (vS a7 L.slips.length a8)) 26)::(b4++F))) [D] (.inl rfl) (PR _) (ppm (M':=(b4++(d5,Obj.map e6 e5)::(bX b5 #[vS a0 (FW pq (evs (EH L) (AF AC L.slips))).length a1] 33)::(bX b1 (AQ L (vS a3 L.start.length a4) (vS a5 L.keeps.length a6) (vS a7 L.slips.length a8)) 26)::F)) (PU (PU PM.symm)) (GU 4 b4 rfl (TA (TC _ (TC _ (TC _ (TR _)))) _) (IT (IT (IT b8 b7) a9) hle2) ?_));exact ⟨_,_,rfl,rfl,b2⟩
 intro D c xs I2 M2 hle2 hS2;exact hS2.elim
noncomputable def c_Below1:=cod Tryz.f47
theorem Below1_ct (I:Imm) (x:Sh.Event):CtV Tryz.prog 47 #[.agg #[vI x.slip.num,vI x.slip.hour,vI x.slip.kind,vI x.slip.place,vI x.slip.to,vI x.slip.sort,.bool x.slip.soil,vI x.slip.amt,vI x.gap,.bool x.below]] I (.bool x.below):=by
 refine fr (args:=[_]) (N:=5) Tryz.func47 (fun F=>?_);show Run _ _ (c_Below1 []) _ _ [(0,_)] _ _;refine rnm (rqr ?_);refine sS (sb 1 90 (EW x) (fun b1=>(sp 1 [(2,.bool false)] (sn (sp 1 [(3,vP b1 9)] (sd (dlb 4 0 9 b1 (.bool x.below)) (sp 1 [(2,.bool x.below)] (se (BB (GU 2 [] rfl (TC _ (TR _)) (IR _) ?_))))))))));exact ⟨rfl,rfl⟩
noncomputable def c_Below:=cod Tryz.f13
theorem Below_ct (I:Imm) (l:Value) (L:Lin) (l_f:IsLin I l L):Ct Tryz.prog 13 #[l] I ([]) (fun v I' M'=>∃ u0:Value,∃ Ms0:Seg,v=.tuple #[u0,vI ((KZ L).2)]∧M'=Ms0∧Own 3 1 AK u0 ((KZ L).1) Ms0):=by
 obtain ⟨l1,l2,l3,rfl,a6,a7,a8⟩:=id l_f;obtain ⟨a0,a1,c4,c7,c2,rfl,c5,c6,c8,c9⟩:=id a6;obtain ⟨a2,a3,d0,d3,rfl,d1,d2,d4⟩:=id a7;obtain ⟨a4,a5,d5,d8,rfl,d6,d7,d9⟩:=id a8;refine fr (args:=[_]) (N:=12) Tryz.func13 (fun F=>?_);show Run _ _ (c_Below []) _ _ [(0,_)] _ _;refine rnm (rqr ?_);refine sS (sb 1 26 (AQ L (vS a0 L.start.length a1) (vS a2 L.keeps.length a3) (vS a4 L.slips.length a5)) (fun b1=>(sp 2 [(3,vI 0),(2,vN)] (se (rq (rqr (sd (dnb 5 0 0 b1 (DE L (vS a0 L.start.length a1) (vS a2 L.keeps.length a3) (vS a4 L.slips.length a5))) (sd (dc 6 (fun I' hI=>(DJ I' _ L ((CN a6 a7 a8).mono hI) :))) (sp 1 [(4,vI (AH L))] (sn (sp 2 [(8,.bool (!(cmp .eql (AH L) 0)))] (se (rc 8 rfl (fun h1=>?_) (fun h1=>?_))))))))))))))
 ·
  have b2:=h1;have h1:=BV (BM h1);refine rqr (sp 3 [(3,vI (AH L)),(2,vN)] (se (BB (RP ?_))));have hE:=belowE_1 (L:=L) h1;refine EE (t:=2) (u:=3) ([]) (by kernel_rfl) rfl rfl (TC _ (TR _)) (IR _) ?_;exact ⟨_,_,(by rw [hE]),rfl,((show []=(KZ L).1 from by rw [hE])▸Own.nil _ _ _)⟩
 have b2:=h1;have h1:=BQ (BE h1);refine AM (NX (rq ?_));have hz:AH L=0:=by omega
 have hg:=GG hz;refine rr (sd (dnb 10 0 0 b1 (DE L (vS a0 L.start.length a1) (vS a2 L.keeps.length a3) (vS a4 L.slips.length a5))) (sS (sc (some 11) (SM _ _ L 47 ([]) (fun x:Sh.Event=>x.below) (CN a6 a7 a8) (by kernel_rfl) (fun J hJ x=>Below1_ct J x) (by assumption) :) (.refl _) (fun e2 I3 e1 b3 c3=>?_))));obtain ⟨u8,b0,c1,c0,a9⟩:=c3;rw [c1,c0];clear c1 c0;obtain ⟨b7,b8,rfl,e3⟩:=a9.shape;refine pm (M':=((bX b1 (AQ L (vS a0 L.start.length a1) (vS a2 L.keeps.length a3) (vS a4 L.slips.length a5)) 26)::(b0++F))) PM (sp 2 [(3,vI 0),(2,vS b7 (FW (fun x:Sh.Event=>x.below) (CD L)).length b8)] (se (BB ?_)));have hE:=belowE_2 (L:=L) hz;refine ppm (M':=(b0++(bX b1 (AQ L (vS a0 L.start.length a1) (vS a2 L.keeps.length a3) (vS a4 L.slips.length a5)) 26)::F)) PM.symm (rt2s 2 3 b0 rfl rfl (TA (TC _ (TR _)) _) b3 ?_);exact ⟨_,_,(by rw [hE]),rfl,((show FW _ (CD L)=(KZ L).1 from by rw [hE])▸a9)⟩
noncomputable def c_Order1:=cod Tryz.f45
theorem Order1_ct (I:Imm) (x:Sh.Event):CtV Tryz.prog 45 #[.agg #[vI x.slip.num,vI x.slip.hour,vI x.slip.kind,vI x.slip.place,vI x.slip.to,vI x.slip.sort,.bool x.slip.soil,vI x.slip.amt,vI x.gap,.bool x.below]] I (.bool true):=by
 refine fr (args:=[_]) (N:=3) Tryz.func45 (fun F=>?_);show Run _ _ (c_Order1 []) _ _ [(0,_)] _ _;refine rnm (rqr ?_);refine sS (sb 1 90 (EW x) (fun b1=>(sp 1 [(2,.bool false)] (sn (sp 1 [(2,.bool true)] (se (BB (GU 2 [] rfl (TC _ (TR _)) (IR _) ?_))))))));exact ⟨rfl,rfl⟩
noncomputable def c_Order:=cod Tryz.f9
theorem Order_ct (I:Imm) (l:Value) (L:Lin) (l_f:IsLin I l L):Ct Tryz.prog 9 #[l] I ([]) (fun v I' M'=>∃ u0:Value,∃ Ms0:Seg,v=.tuple #[u0,vI ((GR L).2)]∧M'=Ms0∧Own 3 1 AK u0 ((GR L).1) Ms0):=by
 obtain ⟨l1,l2,l3,rfl,a6,a7,a8⟩:=id l_f;obtain ⟨a0,a1,c4,c7,c2,rfl,c5,c6,c8,c9⟩:=id a6;obtain ⟨a2,a3,d0,d3,rfl,d1,d2,d4⟩:=id a7;obtain ⟨a4,a5,d5,d8,rfl,d6,d7,d9⟩:=id a8;refine fr (args:=[_]) (N:=12) Tryz.func9 (fun F=>?_);show Run _ _ (c_Order []) _ _ [(0,_)] _ _;refine rnm (rqr ?_);refine sS (sb 1 26 (AQ L (vS a0 L.start.length a1) (vS a2 L.keeps.length a3) (vS a4 L.slips.length a5)) (fun b1=>(sp 2 [(3,vI 0),(2,vN)] (se (rq (rqr (sd (dnb 5 0 0 b1 (DE L (vS a0 L.start.length a1) (vS a2 L.keeps.length a3) (vS a4 L.slips.length a5))) (sd (dc 6 (fun I' hI=>(DJ I' _ L ((CN a6 a7 a8).mono hI) :))) (sp 1 [(4,vI (AH L))] (sn (sp 2 [(8,.bool (!(cmp .eql (AH L) 0)))] (se (rc 8 rfl (fun h1=>?_) (fun h1=>?_))))))))))))))
 ·
  have b2:=h1;have h1:=BV (BM h1);refine rqr (sp 3 [(3,vI (AH L)),(2,vN)] (se (BB (RP ?_))));have hE:=orderE_1 (L:=L) h1;refine EE (t:=2) (u:=3) ([]) (by kernel_rfl) rfl rfl (TC _ (TR _)) (IR _) ?_;exact ⟨_,_,(by rw [hE]),rfl,((show []=(GR L).1 from by rw [hE])▸Own.nil _ _ _)⟩
 have b2:=h1;have h1:=BQ (BE h1);refine AM (NX (rq ?_));have hz:AH L=0:=by omega
 have hg:=GG hz;refine rr (sd (dnb 10 0 0 b1 (DE L (vS a0 L.start.length a1) (vS a2 L.keeps.length a3) (vS a4 L.slips.length a5))) (sS (sc (some 11) (SM _ _ L 45 ([]) (fun _:Sh.Event=>true) (CN a6 a7 a8) (by kernel_rfl) (fun J hJ x=>Order1_ct J x) (by assumption) :) (.refl _) (fun e2 I3 e1 b3 c3=>?_))));obtain ⟨u8,b0,c1,c0,a9⟩:=c3;rw [c1,c0];clear c1 c0;obtain ⟨b7,b8,rfl,e3⟩:=a9.shape;refine pm (M':=((bX b1 (AQ L (vS a0 L.start.length a1) (vS a2 L.keeps.length a3) (vS a4 L.slips.length a5)) 26)::(b0++F))) PM (sp 2 [(3,vI 0),(2,vS b7 (FW (fun _:Sh.Event=>true) (CD L)).length b8)] (se (BB ?_)));have hE:=orderE_2 (L:=L) hz;refine ppm (M':=(b0++(bX b1 (AQ L (vS a0 L.start.length a1) (vS a2 L.keeps.length a3) (vS a4 L.slips.length a5)) 26)::F)) PM.symm (rt2s 2 3 b0 rfl rfl (TA (TC _ (TR _)) _) b3 ?_);exact ⟨_,_,(by rw [hE]),rfl,((show FW _ (CD L)=(GR L).1 from by rw [hE])▸a9)⟩
noncomputable def c_Total:=cod Tryz.f12
theorem Total_ct (I:Imm) (l:Value) (L:Lin) (sx:Int) (n:Int) (l_f:IsLin I l L):Ct Tryz.prog 12 #[l,vI sx,vI n] I ([]) (fun v I' M'=>v=.tuple #[vI ((GC L sx n).1),vI ((GC L sx n).2)]∧M'=[]):=by
 obtain ⟨l1,l2,l3,rfl,b7,b8,b9⟩:=id l_f;obtain ⟨a3,a4,h7,i0,h5,rfl,h8,h9,i1,i2⟩:=id b7;obtain ⟨a5,a6,i3,i6,rfl,i4,i5,i7⟩:=id b8;obtain ⟨a7,a8,i8,j1,rfl,i9,j0,j2⟩:=id b9;refine fr (args:=[_,_,_]) (N:=48) Tryz.func12 (fun F=>?_);show Run _ _ (c_Total []) _ _ [(0,_),(1,_),(2,_)] _ _;refine rnm (rqr ?_);refine sS (sb 3 26 (AQ L (vS a3 L.start.length a4) (vS a5 L.keeps.length a6) (vS a7 L.slips.length a8)) (fun b1=>(sp 2 [(7,vI 0),(6,vI 0)] (se (rq (rqr (sd (dnb 12 0 0 b1 (DE L (vS a3 L.start.length a4) (vS a5 L.keeps.length a6) (vS a7 L.slips.length a8))) (sd (dc 13 (fun I' hI=>(DJ I' _ L ((CN b7 b8 b9).mono hI) :))) (sp 1 [(8,vI (AH L))] (sn (sp 2 [(15,.bool (!(cmp .eql (AH L) 0)))] (se (rc 15 rfl (fun h1=>?_) (fun h1=>?_))))))))))))))
 ·
  have d2:=h1;have h1:=BV (BM h1);refine rqr (sp 3 [(7,vI (AH L)),(6,vI 0)] (se (BB (RP ?_))));have hE:=totalE_1 (L:=L) (so:=sx) (hour:=n) h1;refine EE (t:=6) (u:=7) [] (by kernel_rfl) rfl rfl (TC _ (TR _)) (IR _) ?_;exact ⟨(by rw [hE]),rfl⟩
 have d2:=h1;have h1:=BQ (BE h1);refine AM (NX (rq (rb 0 (rq ?_))));have hz:AH L=0:=by omega
 have hg:=GG hz;have j8:=hg.places;have j9:=hg.sorts;refine rr (sp 2 [(19,vP b1 1),(18,vI sx)] (sd (dlb 20 0 1 b1 (vI L.sorts)) (sd (dsb 21 L.sorts 1) (sd (dc 22 (fun I' hI=>(MB I' sx 0 (L.sorts-1) :))) (sp 2 [(17,.bool (!(inB sx 0 (L.sorts-1))))] (se (rc 17 rfl (fun h2=>?_) (fun h2=>?_))))))))
 ·
  have d4:=h2;have h2:=BM h2;have d3:=MR h2;refine rqr (sp 2 [(7,vI 3),(6,vI 0)] (se (BB (RB (RP ?_)))));have hE:=totalE_2 (L:=L) (so:=sx) (hour:=n) (by omega) h2;refine EE (t:=6) (u:=7) [] (by kernel_rfl) rfl rfl (TC _ (TR _)) (IR _) ?_;exact ⟨(by rw [hE]),rfl⟩
 have d4:=h2;have h2:=BE h2;have d3:=EI h2;refine rqr (sp 1 [(25,vI n)] (sd (dc 26 (fun I' hI=>(MB I' n 0 200 :))) (sp 2 [(24,.bool (!(inB n 0 200)))] (se (rc 24 rfl (fun h3=>?_) (fun h3=>?_))))))
 ·
  have d6:=h3;have h3:=BM h3;have d5:=MR h3;refine rqr (sp 2 [(7,vI 1),(6,vI 0)] (se (BB (RB (RP ?_)))));have hE:=totalE_3 (L:=L) (so:=sx) (hour:=n) (by omega) h2 h3;refine EE (t:=6) (u:=7) [] (by kernel_rfl) rfl rfl (TC _ (TR _)) (IR _) ?_;exact ⟨(by rw [hE]),rfl⟩
 have d6:=h3;have h3:=BE h3;have d5:=EI h3;refine AM (NB (NX (rqr (sp 1 [(9,vI 0)] (se (rq (rqr (sd (dnb 28 0 0 b1 (DE L (vS a3 L.start.length a4) (vS a5 L.keeps.length a6) (vS a7 L.slips.length a8))) (sp 1 [(29,vI n)] (sS (sc (some 30) (at_ct _ _ L n (CN b7 b8 b9) (by assumption) :) (.refl _) (fun j5 I3 j4 d8 h6=>?_))))))))))));obtain ⟨u8,k0,j6,j7,e3,b6,a9,h0,g9,e2,b2⟩:=h6;rw [h0,g9];clear h0 g9;have g6:=e2;obtain ⟨g7,c1,c3,c5⟩:=id g6;obtain ⟨e4,e6,e5,e9,d0,rfl,e7,e8,f0,f1⟩:=id c1;obtain ⟨f2,f4,f3,f7,rfl,f5,f6,f8⟩:=id c3;obtain ⟨f9,g1,g0,g4,rfl,g2,g3,g5⟩:=id c5;refine nm ?_;refine sp 1 [(31,vP u8 0)] (sd (dfa 32 31 96 1 5 0 rfl) (sd (dld 33 32 94 (.map (some e3)) rfl (AR g7 rfl)) (sS (QH (d:=34) (x:=(.tmp 33)) (T:=94) (kt:=98) (et:=3) (es:=b6) (cl:=a9) (ty:=0) (gd:=none) (by kernel_rfl) rfl (by kernel_rfl) rfl (.inl (List.mem_of_getElem? (i:=0) rfl)) (fun g8=>(se (rb 1 ?_)))))));refine rl (fun mz a w=>∃ dn:Hs,∃ td:Hs,∃ a2:Array Nat,((dn++td).Perm (atH L n))∧(Go.Sl.Left MN b6 a2 (intV td))∧SD 48 [(9,vI (MM sx dn)),(1,vI sx),(6,vI 0),(7,vI 0),(34,vP g8 0)] I3 ((g8,Obj.mapIter (some e3) a9 a2 a9)::(e3,Obj.map b6 a9)::(bX b1 (AQ L (vS a3 L.start.length a4) (vS a5 L.keeps.length a6) (vS a7 L.slips.length a8)) 26)::F) a w (mz=td.length)) ?_ ?_
 ·intro a w hS hD hW;exact ⟨_,[],(atH L n),#[],PR _,(Left.start b2.1.1),hS.sub su,hD,hW,rfl⟩
 rintro mz a w ⟨dn,td,a2,c9,b0,hS,hD,hW,rfl⟩
 refine AW hS hD hW ?_;clear hS hD hW a w;refine rqr (sS (stp_nextH (d:=35) (x:=(.tmp 34)) (todo:=td) 0 (ty:=0) (gd:=none) (by kernel_rfl) rfl rfl rfl (.inl (List.mem_of_getElem? (i:=1) rfl)) b2.1.2 b0 (fun c7=>?_) (fun b3 a0 b4 c8 a1 b5 c6=>?_)))
 ·
  refine sp 1 [(36,.bool false)] (se (rq (rcf 36 rfl (CH 1 (EP (EP (EB (NX (rqr (sp 3 [(7,vI 0),(6,vI (MM sx dn))] (se (BB ?_))))))))))));have hE:=totalE_4 hz h2 h3;have hS:=sumK_done (so:=sx) c9 c7;refine EE (t:=6) (u:=7) [] (by kernel_rfl) rfl rfl (TC _ (TC _ (TC _ (TR _)))) d8 ?_;exact ⟨(by rw [hE,hS]),rfl⟩
 show Seq _ _ _ _ _ _ ((35,.tuple #[.bool true,.agg #[vI a0.1.pl,vI a0.1.so,.bool a0.1.soil],vI a0.2])::_) _ _;refine nm ?_;refine sp 1 [(36,.bool true)] (se (rq (rct 36 rfl (AM (NX (rb 2 (rqr (sS (QF (d:=37) (x:=(.tmp 34)) (enc:=MN) (y:=(a0.1,vI a0.2)) (ty:=0) (gd:=none) (by kernel_rfl) rfl rfl (List.mem_of_getElem? (i:=0) rfl) (.inl (List.mem_of_getElem? (i:=1) rfl)) b2.1.2 c6 ?_)))))))));show Seq _ _ _ _ _ _ ((37,.tuple #[.agg #[vI a0.1.pl,vI a0.1.so,.bool a0.1.soil],vI a0.2])::_) _ _;refine sp 2 [(39,vI a0.2),(38,.agg #[vI a0.1.pl,vI a0.1.so,.bool a0.1.soil])] (sS (sal 10 98 #[vI 0,vI 0,.bool false] (fun d1=>(sS (ss 0 0 d1 [vI a0.1.pl,vI a0.1.so,.bool a0.1.soil] [vI a0.1.pl,vI a0.1.so,.bool a0.1.soil] (_::_::_::_::_) (cs:=[_,_,_]) rfl rfl (sp 1 [(11,vI a0.2)] (sn (sp 1 [(40,vP d1 1)] (sd (dlb 41 0 1 d1 (vI a0.1.so)) (sp 2 [(43,.bool (cmp .eql a0.1.so sx))] (se (rc 43 rfl (fun h4=>?_) (fun h4=>?_)))))))))))))
 ·
  have d7:=h4;have h4:=BQ h4;have hq:=sum_cut (so:=sx) hg b2.2 c9 a1;refine rr (sp 2 [(45,vI a0.2),(44,vI (MM sx dn))] (sd (da 46 (MM sx dn) a0.2) (sp 1 [(9,vI ((MM sx dn)+a0.2))] (ee (NB ?_)))));refine AN ((b3++b4).length) (TO a1) ?_;intro a w hS hD hW;exact ⟨dn++[a0],b3++b4,c8,QA c9 a1,b5,hS.sub (.consE 9 rfl (congrArg (Value.int .i64) (by rw [sumK_snoc,if_pos (by omega)])) su),hD,(hW.perm (PR _)).sub (TC _ (TR _)),rfl⟩
 have d7:=h4;have h4:=BV h4;refine AM (NB ?_);refine AN ((b3++b4).length) (TO a1) ?_;intro a w hS hD hW;exact ⟨dn++[a0],b3++b4,c8,QA c9 a1,b5,hS.sub (.consE 9 rfl (congrArg (Value.int .i64) (by rw [sumK_snoc,if_neg (by omega)];omega)) su),hD,(hW.perm (PR _)).sub (TC _ (TR _)),rfl⟩
noncomputable def c_owed1:=cod Tryz.f52
theorem owed1_ct (I:Imm) (a:Debt) (b:Debt) (hr:RW a∧RW b):CtV Tryz.prog 52 #[.agg #[vI a.who,vI a.sort,vI a.amt],.agg #[vI b.who,vI b.sort,vI b.amt]] I (vI (FF a b)):=by
 refine fr (args:=[_,_]) (N:=20) Tryz.func52 (fun F=>?_);show Run _ _ (c_owed1 []) _ _ [(0,_),(1,_)] _ _;refine rnm ?_;obtain ⟨⟨hr1,hr2,hr3,hr4⟩,hr5,hr6,hr7,hr8⟩:=hr;refine rqr (sS (sb 2 48 #[vI a.who,vI a.sort,vI a.amt] (fun b1=>(sS (sb 3 48 #[vI b.who,vI b.sort,vI b.amt] (fun b3=>(sp 1 [(4,vI 0)] (se (rq (rqr (sp 1 [(5,vP b1 0)] (sd (dlb 6 1 0 b1 (vI a.who)) (sp 1 [(7,vP b3 0)] (sd (dlb 8 0 0 b3 (vI b.who)) (sp 1 [(9,.bool (!(cmp .eql a.who b.who)))] (se (rc 9 rfl (fun h1=>?_) (fun h1=>?_))))))))))))))))))
 ·
  have a0:=h1;have h1:=BV (BM h1);refine rqr (sp 1 [(10,vP b1 0)] (sd (dlb 11 1 0 b1 (vI a.who)) (sp 1 [(12,vP b3 0)] (sd (dlb 13 0 0 b3 (vI b.who)) (sd (dsb 14 a.who b.who) (sp 1 [(4,vI (a.who-b.who))] (se (BB (RP (GU 4 [] rfl (TC _ (TC _ (TR _))) (IR _) ?_))))))))));exact ⟨congrArg (Value.int .i64) (if_pos h1).symm,rfl⟩
 have a0:=h1;have h1:=BQ (BE h1);refine AM (NX (rqr (sp 1 [(15,vP b1 1)] (sd (dlb 16 1 1 b1 (vI a.sort)) (sp 1 [(17,vP b3 1)] (sd (dlb 18 0 1 b3 (vI b.sort)) (sd (dsb 19 a.sort b.sort) (sp 1 [(4,vI (a.sort-b.sort))] (se (BB (GU 4 [] rfl (TC _ (TC _ (TR _))) (IR _) ?_)))))))))));exact ⟨congrArg (Value.int .i64) (if_neg (fun x=>x h1)).symm,rfl⟩
noncomputable def c_insSortD:=cod Tryz.f157
theorem insSortD_ct (I:Imm) (d:Value) (xs:List Debt) (d_Ms:Seg) (u:Nat) (v:Nat) (d_h:Own 48 3 DF d xs d_Ms) (h0:u=0) (hb:v=xs.length) (hsm:∀ x∈xs,RW x) (hl:xs.length≤1000000):Ct Tryz.prog 157 #[d,vI ↑u,vI ↑v,.func (.func 52) #[] #[]] I d_Ms (fun v I' M'=>∃ d_Mt:Seg,v=.tuple #[]∧M'=d_Mt∧Own 48 3 DF d (AF FF xs) d_Mt):=by
 obtain ⟨a3,a4,rfl,c7⟩:=d_h.shape;refine fr (args:=[_,_,_,_]) (N:=53) Tryz.func157 (fun F=>?_);show Run _ _ (c_insSortD []) _ _ [(0,_),(1,_),(2,_),(3,_)] _ _;refine rnm (rqr ?_);refine sp 1 [(10,vI ↑u)] (sd (da 11 ↑u 1) (CM 11 rfl (show (vI (↑u+1):Value)=vI (↑(1:Nat)) from congrArg (Value.int .i64) (by omega)) (sp 1 [(8,vI (↑(1:Nat)))] (se (rb 0 ?_)))));refine rl (fun mz a w=>∃ i:Nat,∃ zs:List Debt,∃ a2:Seg,(1≤i)∧(InsI FF xs zs i)∧(zs.Perm xs)∧(Own 48 3 DF (vS a3 xs.length a4) zs a2)∧SD 53 [(0,(vS a3 xs.length a4)),(8,vI ↑i),(1,vI ↑u),(2,vI ↑v),(3,.func (.func 52) #[] #[])] I (a2++F) a w (mz=xs.length-i)) ?_ ?_
 ·intro a w hS hD hW;exact ⟨_,1,xs,d_Ms,Nat.le_refl _,InsI.start,PR _,d_h,hS.sub su,hD,hW,rfl⟩
 rintro mz a w ⟨i,zs,a2,c8,b1,c5,a8,hS,hD,hW,rfl⟩
 refine AW hS hD hW ?_;have d1:=b1.len;refine rq (rqr (sp 3 [(14,.bool (cmp .lss ↑i ↑v))] (se (rc 14 rfl (fun h1=>?_) (fun h1=>?_)))))
 ·
  have c1:=h1;have h1:=CQ h1;refine AM (NX (rq (rb 1 (rqr (sp 2 [(9,vI ↑i)] (se (rb 2 ?_)))))));refine rl (fun mz a w=>∃ j:Nat,∃ ys:List Debt,∃ a0:Seg,(InsAt FF DK xs ys i j)∧(ys.Perm xs)∧(Own 48 3 DF (vS a3 xs.length a4) ys a0)∧SD 53 [(0,(vS a3 xs.length a4)),(9,vI ↑j),(1,vI ↑u),(2,vI ↑v),(3,.func (.func 52) #[] #[]),(8,vI ↑i)] I (a0++F) a w (mz=j+1)) ?_ ?_
  ·intro a w hS hD hW;exact ⟨_,i,zs,a2,b1.into (by omega),c5,a8,hS.sub su,hD,hW,rfl⟩
  rintro mz a w ⟨j,ys,a0,b9,a7,a1,hS,hD,hW,rfl⟩
  refine AW hS hD hW ?_;have d0:=b9.len;have c9:=b9.1;refine rq (rq ?_);refine DS (fun a w=>SE 53 [(0,vS a3 xs.length a4),(1,vI ↑u),(2,vI ↑v),(3,.func (.func 52) #[] #[]),(8,vI ↑i),(9,vI ↑j),(34,.bool ((cmp .gtr ↑j ↑u)&&(cmp .lss (FF (ys.getD j DK) (ys.getD ((↑j-1:Int).toNat) DK)) 0)))] I (a0++F) a w) ?_ ?_
  ·
   refine rd0 14 (ox 4 [(21,.bool (cmp .gtr ↑j ↑u))] ?_);refine MU 21 (fun h2=>?_) (fun h2=>?_)
   ·
    have a5:=h2;have a5:=SW a5;refine ox 3 [(24,vI ↑j),(23,vS a3 xs.length a4),(22,.func (.func 52) #[] #[])] ?_;obtain ⟨d2,b5⟩:=a1.row DK;refine AE (di 25 3 j (fun _=>b5.addr (by omega)) (n:=xs.length)) ?_;refine AE (dn 26 (HQ (vals:=JK) (fun _=>rfl) b5 (fun x hx=>by simp [hx]) j (by omega))) (ox 2 [(28,vI ↑j),(27,vS a3 xs.length a4)] ?_);refine AE (dsb 29 ↑j 1) ?_;obtain ⟨d3,b6⟩:=a1.row DK;refine AE (diI 30 3 (↑j-1) (fun _=>b6.addr (by omega)) (n:=xs.length)) ?_;refine AE (dn 31 (HQ (vals:=JK) (fun _=>rfl) b6 (fun x hx=>by simp [hx]) ((↑j-1:Int).toNat) (by omega))) ?_;refine BT (sd (dc 32 (fun I' hI=>(owed1_ct I' (ys.getD j DK) (ys.getD ((↑j-1:Int).toNat) DK) (by exact ⟨hsm _ (a7.subset (BJ (by omega))),hsm _ (a7.subset (BJ (by omega)))⟩) :))) (sp 2 [(34,.bool (cmp .lss (FF (ys.getD j DK) (ys.getD ((↑j-1:Int).toNat) DK)) 0))] (ee ?_)));refine AO (fun a w hS hD hW=>⟨hS.sub (sun 6 (.consE 34 rfl (congrArg Value.bool (by simp only [h2,kk])) (.nil _))),hD,hW⟩)
   have a5:=h2;have a5:=gtr_f a5;refine ox 10 [(31,undef),(26,undef),(22,undef)] ?_;refine BT (sp 3 [(34,.bool false)] (ee ?_));refine AO (fun a w hS hD hW=>⟨hS.sub (sun 6 (.consE 34 rfl (congrArg Value.bool (by simp only [h2,kk])) (.nil _))),hD,hW⟩)
  rintro a w ⟨hS,hD,hW⟩
  refine AW hS hD hW ?_;refine rc 34 rfl (fun h3=>?_) (fun h3=>?_)
  ·
   have c2:=h3;obtain ⟨b3,b0⟩:=and_t h3;have b3:=SW b3;have b0:=CQ b0;refine AM (NX (rq (rb 3 ?_)));refine rdX (M:=(a0++[])) (F0:=F) [] 16 [(0,true),(1,true),(2,true),(3,true),(4,true),(5,true),(6,true),(7,true),(8,true),(9,true),(10,true),(11,true),(12,true),(13,true),(14,true),(15,false)] (by simp only [AA,CA,NA,List.append_nil];exact PR _) JH ?_;refine AG (dpv 37 (vS a3 xs.length a4)) ?_;refine AG (dpv 38 (vI ↑j)) ?_;refine BH (dpv 39 (vS a3 xs.length a4)) ?_;refine BH (dpv 40 (vI ↑j)) ?_;refine BH (dsb 41 ↑j 1) ?_;refine AG (dpv 42 (vS a3 xs.length a4)) ?_;refine AG (dpv 43 (vI ↑j)) ?_;refine AG (dsb 44 ↑j 1) ?_;obtain ⟨d4,b7⟩:=a1.row DK;refine AG (diI 45 3 (↑j-1) (fun _=>b7.addr (by omega)) (n:=xs.length)) ?_;refine AG (dn 46 (HQ (vals:=JK) (fun _=>rfl) b7 (fun x hx=>by simp [hx]) ((↑j-1:Int).toNat) (by omega))) ?_;refine AG (dpv 47 (vS a3 xs.length a4)) ?_;refine AG (dpv 48 (vI ↑j)) ?_;obtain ⟨d5,b8⟩:=a1.row DK;refine AG (di 49 3 j (fun _=>b8.addr (by omega)) (n:=xs.length)) ?_;refine AG (dn 50 (HQ (vals:=JK) (fun _=>rfl) b8 (fun x hx=>by simp [hx]) j (by omega))) ?_;obtain ⟨d6,a9⟩:=a1.row DK;refine AG (di 51 3 j (fun _=>a9.addr (by omega)) (n:=xs.length)) ?_;refine EZ (Mx:=fun FX=>(a0++FX)) rfl (fun FX=>by simp only [AA,CA,NA,List.append_nil];exact PR _) (fun FX=>?_);refine id (GH (T:=48) (x:=(.tmp 51)) (y:=(.tmp 46)) (rc:=fun i f=>DF ((ys).getD i DK) f) DK j (ys.getD ((↑j-1:Int).toNat) DK) (ty:=0) (gd:=none) (by kernel_rfl) rfl a1 a9 (by omega) rfl rfl (by kernel_rfl) rfl (one1_debt _) (PR _) (fun b2 b4=>?_));refine HJ (M1:=(b2++[])) (by simp only [AA,CA,NA,List.append_nil];exact (PR _)) (.wt (.wt (.wt (.wt (.wt (.wt (.wt (.wt (.wt (.wt (.none (.none (.none (.wt (.wt .nil))))))))))))))) ?_;refine GM (BA (M':=(b2++F)) (fun w h=>by simpa only [AA,CA,NA,List.append_nil] using h) (nm ?_));obtain ⟨c6,a6⟩:=b4.row DK;simp only [LS] at a6;refine sd (diI 52 3 (↑j-1) (fun _=>a6.addr (by omega)) (n:=xs.length)) (sS (GH (T:=48) (x:=(.tmp 52)) (y:=(.tmp 50)) (rc:=fun i f=>DF ((ys.set j (ys.getD ((↑j-1:Int).toNat) DK)).getD i DK) f) DK ((↑j-1:Int).toNat) (ys.getD j DK) (ty:=0) (gd:=none) (by kernel_rfl) rfl b4 (by simpa only [LS] using a6) (by simp only [LS];omega) rfl rfl (by kernel_rfl) rfl (one1_debt _) (PR _) (fun c0 c3=>(nm (ee (NB (NX (rr ?_))))))));refine sp 1 [(35,vI ↑j)] (sd (dsb 36 ↑j 1) (sp 1 [(9,vI (↑j-1))] (ee ?_)));refine AN ((↑j-1:Int).toNat+1) (by omega) ?_;intro a w hS hD hW;exact ⟨(↑j-1:Int).toNat,(ys.set j (ys.getD ((↑j-1:Int).toNat) DK)).set ((↑j-1:Int).toNat) (ys.getD j DK),c0,b9.step (by omega) b0,(swapG (by omega) (by omega)).trans a7,c3,hS.sub (.consE 0 rfl rfl (.consE 9 rfl (congrArg (Value.int .i64) (by omega)) su)),hD,hW,rfl⟩
  have c2:=h3;refine CH 2 (EP (EP (EB (NB (NX (rr (sp 1 [(15,vI ↑i)] (sd (da 16 ↑i 1) (sp 1 [(8,vI (↑i+1))] (ee ?_))))))))));refine AN (xs.length-(i+1)) (by omega) ?_;intro a w hS hD hW;exact ⟨i+1,ys,a0,by omega,b9.done2 h0 h3,a7,a1,hS.sub su,hD,hW,rfl⟩
 have c1:=h1;have h1:=CU h1;refine CH 0 (EP (EP (EB ?_)));refine DP a2 (by kernel_rfl) (TA (TR _) _) (IR _) ?_;exact ⟨_,rfl,rfl,((b1.done (by omega))▸a8)⟩
noncomputable def c_stableD:=cod Tryz.f133
theorem stableD_ct (I:Imm) (d:Value) (xs:List Debt) (d_Ms:Seg) (v:Nat) (d_h:Own 48 3 DF d xs d_Ms) (hb:v=xs.length) (hsm:∀ x∈xs,RW x) (hl:xs.length<20):Ct Tryz.prog 133 #[d,vI ↑v,.func (.func 52) #[] #[]] I d_Ms (fun v I' M'=>∃ d_Mt:Seg,v=.tuple #[]∧M'=d_Mt∧Own 48 3 DF d (AF FF xs) d_Mt):=by
 obtain ⟨a1,a2,rfl,b2⟩:=d_h.shape;refine fr (args:=[_,_,_]) (N:=63) Tryz.func133 (fun F=>?_);show Run _ _ (c_stableD []) _ _ [(0,_),(1,_),(2,_)] _ _;refine rnm (rqr ?_);refine sp 1 [(6,vI 20)] (sn (sp 3 [(8,vI 20),(7,vI 0)] (se (rq (rb 0 ?_)))));refine rl (fun mz a w=>∃ k:Nat,(k=0)∧SD 63 [(7,vI 0),(8,vI 20),(0,vS a1 xs.length a2),(1,vI ↑v),(2,.func (.func 52) #[] #[]),(6,vI 20)] I (d_Ms++F) a w (mz=k+1)) ?_ ?_
 ·intro a w hS hD hW;exact ⟨_,0,rfl,hS.sub su,hD,hW,rfl⟩
 rintro mz a w ⟨k,b0,hS,hD,hW,rfl⟩
 refine AW hS hD hW ?_;refine rq (rqr (sp 3 [(13,.bool (cmp .leq (↑(20:Nat)) ↑v))] (se (rc 13 rfl (fun h1=>?_) (fun h1=>?_)))))
 ·
  have a3:=h1;have h1:=leq_t h1;omega
 have a3:=h1;have h1:=leq_f h1;refine CH 0 (EP (EP (EB (NX (rqr (sp 4 [(26,.func (.func 52) #[] #[]),(25,vI ↑v),(24,vI (↑(0:Nat))),(23,vS a1 xs.length a2)] (sS (sc (some 27) (F:=(F)) (insSortD_ct _ _ _ _ 0 v d_h (by rfl) (by omega) (by exact hsm) (by omega) :) (.refl _) (fun b4 I1 b3 a5 b1=>?_)))))))));obtain ⟨a0,a8,a7,a6⟩:=b1;rw [a8,a7];clear a8 a7;refine nm (se (rb 2 ?_));refine rl (fun mz a w=>∃ k:Nat,(k=0)∧SD 63 [(6,vI 20),(0,vS a1 xs.length a2),(1,vI ↑v),(2,.func (.func 52) #[] #[])] I1 (a0++F) a w (mz=k+1)) ?_ ?_
 ·intro a w hS hD hW;exact ⟨_,0,rfl,hS.sub su,hD,hW,rfl⟩
 rintro mz a w ⟨k,b0,hS,hD,hW,rfl⟩
 refine AW hS hD hW ?_;refine rq (rqr (sp 3 [(30,.bool (cmp .lss (↑(20:Nat)) ↑v))] (se (rc 30 rfl (fun h2=>?_) (fun h2=>?_)))))
 ·
  have a4:=h2;have h2:=CQ h2;omega
 have a4:=h2;have h2:=CU h2;refine CH 2 (EP (EP (EB ?_)));refine DP a0 (by kernel_rfl) (TA (TR _) _) a5 ?_;exact ⟨_,rfl,rfl,a6⟩
noncomputable def c_SortStableD:=cod Tryz.f96
theorem SortStableD_ct (I:Imm) (d:Value) (xs:List Debt) (d_Ms:Seg) (d_h:Own 48 3 DF d xs d_Ms) (hsm:∀ x∈xs,RW x) (hl:xs.length<20):Ct Tryz.prog 96 #[d,.func (.func 52) #[] #[]] I d_Ms (fun v I' M'=>∃ d_Mt:Seg,v=.tuple #[]∧M'=d_Mt∧Own 48 3 DF d (AF FF xs) d_Mt):=by
 obtain ⟨a3,a4,rfl,a9⟩:=d_h.shape;refine fr (args:=[_,_]) (N:=9) Tryz.func96 (fun F=>?_);show Run _ _ (c_SortStableD []) _ _ [(0,_),(1,_)] _ _;refine rnm (rr ?_);refine sp 4 [(7,.func (.func 52) #[] #[]),(6,vI (↑(xs.length))),(4,vS a3 xs.length a4)] (sS (sc (some 8) (F:=(F)) (stableD_ct _ _ _ _ xs.length d_h (by rfl) (by exact hsm) (by omega) :) (.refl _) (fun b1 I1 b0 a1 a8=>?_)));obtain ⟨a0,a6,a5,a2⟩:=a8;rw [a6,a5];clear a6 a5;refine nm (ee ?_);refine DP a0 (by kernel_rfl) (TA (TR _) _) a1 ?_;exact ⟨_,rfl,rfl,a2⟩
noncomputable def c_CloneDebt:=cod Tryz.f95
theorem CloneDebt_ct (I:Imm) (z:Value) (xs:List Debt) (z_f:IsDebts I z xs) (hl:xs.length≤1000000):Ct Tryz.prog 95 #[z] I ([]) (fun v I' M'=>∃ u:Value,∃ Ms:Seg,v=u∧M'=Ms∧Own 48 3 DF u xs Ms):=by
 obtain ⟨a2,a3,b3,b6,rfl,b4,b5,b0⟩:=id z_f;refine fr (args:=[_]) (N:=8) Tryz.func95 (fun F=>?_);show Run _ _ (c_CloneDebt []) _ _ [(0,_)] _ _;refine rnm (rqr ?_);refine sp 1 [(2,vN)] (se (rq (rqr (sp 1 [(3,vS a2 xs.length a3)] (sd (OX (e:=48) (x:=(.tmp 3)) (y:=(.const vN)) (T:=41) (T':=41) (d:=4) (ty:=4) (gd:=none) (by kernel_rfl) rfl (by kernel_rfl) rfl rfl) (se (rc 4 rfl (fun h1=>?_) (fun h1=>?_))))))))
 ·
  have a0:=h1;refine rqr (sp 1 [(2,vN)] (se (BB (RP ?_))));obtain rfl:=b0.nil h1;refine NO (t:=2) ([]) (by kernel_rfl) rfl (TR _) (IR _) ?_;exact ⟨_,_,rfl,rfl,Own.nil _ _ _⟩
 have a0:=h1;refine AM (NX (rqr (sS (sbs 5 48 0 #[] (fun b1=>(sp 1 [(6,vS a2 xs.length a3)] ?_))))));have a5:Own 48 3 DF (vS (some ⟨b1,0,none⟩) 0 0) ([]:List Debt) [(bX b1 #[] 48)]:=Own.lit rfl rfl;refine sS (sap (d:=7) 5 6 41 48 3 24 (.agg #[vI 0,vI 0,vI 0]) DF ([]:List Debt) xs [(bX b1 #[] 48)] rfl rfl a5 (PR _) (SN _) z_f.src (fun v4 a4 a1=>?_));rw [NA] at a1;refine nm ?_;obtain ⟨a6,a7,rfl,b2⟩:=a1.shape;refine sp 1 [(2,vS a6 xs.length a7)] (se (BB (GU 2 a4 rfl (TA (TR _) _) (IR _) ?_)));exact ⟨_,_,rfl,rfl,a1⟩
noncomputable def c_sortedD:=cod Tryz.f51
theorem sortedD_ct (I:Imm) (s:Value) (xs:List Debt) (s_f:IsDebts I s xs) (hsm:∀ x∈xs,RW x) (hl:xs.length<20):Ct Tryz.prog 51 #[s,.func (.func 52) #[] #[]] I ([]) (fun v I' M'=>∃ u:Value,∃ Ms:Seg,v=u∧M'=Ms∧Own 48 3 DF u (AF FF xs) Ms):=by
 obtain ⟨b3,b4,c4,c7,rfl,c5,c6,c8⟩:=id s_f;refine fr (args:=[_,_]) (N:=12) Tryz.func51 (fun F=>?_);show Run _ _ (c_sortedD []) _ _ [(0,_),(1,_)] _ _;refine rnm (rqr ?_);refine sp 1 [(4,vN)] (sn (sp 1 [(6,vS b3 xs.length b4)] (sS (sc (some 7) (CloneDebt_ct _ _ _ s_f (by omega) :) (.refl _) (fun c3 I1 b6 a7 b5=>?_)))));obtain ⟨u6,c2,b1,b0,b2⟩:=b5;rw [b1,b0];clear b1 b0;obtain ⟨a1,a2,rfl,c0⟩:=b2.shape;refine nm ?_;refine sp 1 [(5,vS a1 xs.length a2)] (sn (sp 2 [(9,.func (.func 52) #[] #[]),(8,vS a1 xs.length a2)] (sS (sc (some 10) (F:=(F)) (SortStableD_ct _ _ _ _ b2 (by exact hsm) (by omega) :) (.refl _) (fun b8 c1 b7 a3 a8=>?_)))));obtain ⟨a0,a5,a4,a6⟩:=a8;rw [a5,a4];clear a5 a4;refine nm (sn ?_);refine sp 2 [(4,vS a1 xs.length a2)] (se (BB (GU 4 a0 rfl (TA (TR _) _) (IT a7 a3) ?_)));exact ⟨_,_,rfl,rfl,a6⟩
noncomputable def c_LOwed:=cod Tryz.f15
theorem LOwed_ct (I:Imm) (l:Value) (L:Lin) (l_f:IsLin I l L):Ct Tryz.prog 15 #[l] I ([]) (fun v I' M'=>∃ u0:Value,∃ Ms0:Seg,v=.tuple #[u0,vI ((PY L).2)]∧M'=Ms0∧Own 48 3 DF u0 ((PY L).1) Ms0):=by
 obtain ⟨l1,l2,l3,rfl,e5,e6,e7⟩:=id l_f;obtain ⟨a3,a4,n6,n9,n0,rfl,n7,n8,o0,o1⟩:=id e5;obtain ⟨a5,a6,o2,o5,rfl,o3,o4,o6⟩:=id e6;obtain ⟨a7,a8,o7,p0,rfl,o8,o9,p1⟩:=id e7;refine JP (fn:=Tryz.f15) (args:=[_]) (N:=62) Tryz.func15 rfl (by kernel_rfl) (Nat.le_of_ble_eq_true rfl) (fun F=>?_);show Run _ _ (c_LOwed []) _ _ [(0,_)] _ _;refine rnm (rqr ?_);refine sS (sb 1 26 (AQ L (vS a3 L.start.length a4) (vS a5 L.keeps.length a6) (vS a7 L.slips.length a8)) (fun b1=>(sp 2 [(3,vI 0),(2,vN)] (se (rq (rqr (sd (dnb 10 0 0 b1 (DE L (vS a3 L.start.length a4) (vS a5 L.keeps.length a6) (vS a7 L.slips.length a8))) (sd (dc 11 (fun I' hI=>(DJ I' _ L ((CN e5 e6 e7).mono hI) :))) (sp 1 [(4,vI (AH L))] (sn (sp 2 [(13,.bool (!(cmp .eql (AH L) 0)))] (se (rc 13 rfl (fun h1=>?_) (fun h1=>?_))))))))))))))
 ·
  have l6:=h1;have h1:=BV (BM h1);refine rqr (sp 3 [(3,vI (AH L)),(2,vN)] (se (BB (RP ?_))));have hE:=owedE_1 (L:=L) h1;refine EC (R:=((bX b1 (AQ L (vS a3 L.start.length a4) (vS a5 L.keeps.length a6) (vS a7 L.slips.length a8)) 26)::F)) [] (.inl rfl) (PR _) (rt2s 2 3 ([]) rfl rfl (TC _ (TR _)) (IR _) ?_);exact ⟨_,_,(by rw [hE]),rfl,((show []=(PY L).1 from by rw [hE])▸Own.nil _ _ _)⟩
 have l6:=h1;have h1:=BQ (BE h1);refine AM (NX (rq ?_));have hz:AH L=0:=by omega
 have hg:=GG hz;have q8:=lack_count hg;refine rr (sS (IC (d:=15) (T:=106) (ty:=106) (gd:=none) (by kernel_rfl) rfl (fun b3=>(sS (sal 5 106 #[.map none] (fun b5=>(sS (ss 0 0 b5 [.map (some b3)] [.map (some b3)] (_::_::_::_) (cs:=[_]) rfl rfl (se (rq (rqr (sd (dnb 16 2 0 b1 (DE L (vS a3 L.start.length a4) (vS a5 L.keeps.length a6) (vS a7 L.slips.length a8))) (sS (sc (some 17) (RD _ _ L (CN e5 e6 e7) :) (.refl _) (fun p7 I7 p4 l7 n3=>?_)))))))))))))));obtain ⟨n1,q0,q1,q2,m6,k5,k4,g3,f8,m4,m5⟩:=n3;rw [g3,f8];clear g3 f8;have b7:=m4;obtain ⟨a1,d2,d4,d6⟩:=id b7;obtain ⟨i2,i4,i3,i7,h6,rfl,i5,i6,i8,i9⟩:=id d2;obtain ⟨j0,j2,j1,j5,rfl,j3,j4,j6⟩:=id d4;obtain ⟨j7,j9,j8,k2,rfl,k0,k1,k3⟩:=id d6;refine nm ?_;refine sS (sc (some 18) (gaps_ct _ n1 :) (.refl _) (fun p8 q3 p5 c0 l8=>?_));obtain ⟨e9,g4,f9,b0⟩:=l8;rw [g4,f9];clear g4 f9;replace b7:=b7.mono c0;replace a1:=c0.blk _ _ a1;refine nm (se (rb 0 ?_))
 refine NZ (α:=EvH) (β:=EvH × (Option Addr × Nat)) (pr:=Prod.fst) (E:=fun x I=>DB I (vS x.2.1 x.1.2.length x.2.2) x.1.2) (g:=(.tmp 18)) (ps:=#[19]) (assign:=c_LOwed [1,1,1,0,1,0,0]) (body:=c_LOwed [1,1,1,0,1,0,1]) (gf:=93) (cv:=[vP e9 0]) (enc:=encEvH) (seq:=FU L) (R:=fun _ M=>∃ es cl,M=[(m6,Obj.map es cl)]∧MapH es cl (EH L)) (Mr:=[(m6,Obj.map k5 k4)]) (M0:=((bX b5 #[.map (some b3)] 106)::(b3,Obj.map #[] 0)::[])) (F0:=((bX b1 (AQ L (vS a3 L.start.length a4) (vS a5 L.keeps.length a6) (vS a7 L.slips.length a8)) 26)::F))
  (fun xs I M=>∃ es cl,M=[(bX b5 #[.map (some b3)] 106),(b3,Obj.map es cl)]∧MapO es cl (FA xs)) (fun _ _ _ _=>False) (fun x k=>[(2,vN),(3,vI 0),(5,vP b5 0),(6,vP k 0)]) (fun x k=>[(bX k #[vI x.1.1.slip.num,vI x.1.1.slip.hour,vI x.1.1.slip.kind,vI x.1.1.slip.place,vI x.1.1.slip.to,vI x.1.1.slip.sort,.bool x.1.1.slip.soil,vI x.1.1.slip.amt,vI x.1.1.gap,.bool x.1.1.below,vS x.2.1 x.1.2.length x.2.2] 105)])
  (by kernel_rfl) rfl (by kernel_rfl) (fun _=>rfl) (by kernel_rfl) (gaps1_iter _ n1 e9 m6 _ _ _ L b7 b0 hg) (fun xs I J M _ h=>h) (by simpa only [AA,CA,NA] using (PR _)) ⟨_,_,rfl,m5⟩ ⟨_,_,rfl,(MapO.nil _)⟩ ?_ ?_ ?_ ?_
 ·intro Lq x I1 M1;refine OL (l':=[(2,vN),(3,vI 0),(5,vP b5 0),(19,.agg #[vI x.1.1.slip.num,vI x.1.1.slip.hour,vI x.1.1.slip.kind,vI x.1.1.slip.place,vI x.1.1.slip.to,vI x.1.1.slip.sort,.bool x.1.1.slip.soil,vI x.1.1.slip.amt,vI x.1.1.gap,.bool x.1.1.below,vS x.2.1 x.1.2.length x.2.2])]) su (rr (sS (sal 6 105 #[vI 0,vI 0,vI 0,vI 0,vI 0,vI 0,.bool false,vI 0,vI 0,.bool false,vN] (fun m7=>(sS (ss 0 0 m7 [vI x.1.1.slip.num,vI x.1.1.slip.hour,vI x.1.1.slip.kind,vI x.1.1.slip.place,vI x.1.1.slip.to,vI x.1.1.slip.sort,.bool x.1.1.slip.soil,vI x.1.1.slip.amt,vI x.1.1.gap,.bool x.1.1.below,vS x.2.1 x.1.2.length x.2.2] [vI x.1.1.slip.num,vI x.1.1.slip.hour,vI x.1.1.slip.kind,vI x.1.1.slip.place,vI x.1.1.slip.to,vI x.1.1.slip.sort,.bool x.1.1.slip.soil,vI x.1.1.slip.amt,vI x.1.1.gap,.bool x.1.1.below,vS x.2.1 x.1.2.length x.2.2] (_::_) (cs:=[_,_,_,_,_,_,_,_,_,_,_]) rfl rfl (ee ?_)))))));exact AO (fun a w hS hD hW=>⟨m7,hS.sub su,hD,hW⟩)
 ·intro Lq x k xs I1 Mr1 M1 F1 hpre hle1 hR1 hC1;replace a1:=hle1.blk _ _ a1;replace b0:=hle1.blk _ _ b0;obtain ⟨e1,e0,rfl,e4⟩:=hC1;obtain ⟨qa,qc,qb,qo,qe,ql,qm,qr⟩:=id hR1;simp only [Value.slice.injEq,true_and] at qe;obtain ⟨rfl,rfl⟩:=qe;have m9:∀ q∈xs++[x.1],q∈FU L:=fun q hq=>hpre.subset hq
  have n5:=hpre.length_le;simp only [LA,LC,LN] at n5;have r0:=lack_all hg (m9 x.1 (by simp));have q9:=owes_bound (k:=⟨x.1.2.getD 0 0,x.1.1.slip.sort,0⟩) hg (xs:=xs) (fun q hq=>m9 q (by simp [hq]));refine rmA (M':=((bX k #[vI x.1.1.slip.num,vI x.1.1.slip.hour,vI x.1.1.slip.kind,vI x.1.1.slip.place,vI x.1.1.slip.to,vI x.1.1.slip.sort,.bool x.1.1.slip.soil,vI x.1.1.slip.amt,vI x.1.1.gap,.bool x.1.1.below,vS x.2.1 x.1.2.length x.2.2] 105)::(Mr1++(bX b5 #[.map (some b3)] 106)::(b3,Obj.map e1 e0)::F1))) ?_;refine rpm (M':=((bX k #[vI x.1.1.slip.num,vI x.1.1.slip.hour,vI x.1.1.slip.kind,vI x.1.1.slip.place,vI x.1.1.slip.to,vI x.1.1.slip.sort,.bool x.1.1.slip.soil,vI x.1.1.slip.amt,vI x.1.1.gap,.bool x.1.1.below,vS x.2.1 x.1.2.length x.2.2] 105)::(bX b5 #[.map (some b3)] 106)::(b3,Obj.map e1 e0)::(Mr1++F1))) (PC _ (PW PM)) (rb 1 (rq ?_));refine DS (fun a w=>SE 62 [(2,vN),(3,vI 0),(5,vP b5 0),(6,vP k 0),(29,.bool ((cmp .lss x.1.1.gap 0)&&(cmp .eql (↑(x.1.2.length)) 1)))] I1 ((bX k #[vI x.1.1.slip.num,vI x.1.1.slip.hour,vI x.1.1.slip.kind,vI x.1.1.slip.place,vI x.1.1.slip.to,vI x.1.1.slip.sort,.bool x.1.1.slip.soil,vI x.1.1.slip.amt,vI x.1.1.gap,.bool x.1.1.below,vS x.2.1 x.1.2.length x.2.2] 105)::(bX b5 #[.map (some b3)] 106)::(b3,Obj.map e1 e0)::(Mr1++F1)) a w) ?_ ?_
  ·
   refine rr (sp 2 [(21,vP k 8)] (sd (dlb 22 0 8 k (vI x.1.1.gap)) (sp 2 [(24,.bool (cmp .lss x.1.1.gap 0))] ?_)));refine BU 24 rfl (fun h2=>?_) (fun h2=>?_)
   ·
    have b9:=h2;have b9:=CQ b9;refine sp 1 [(25,vP k 10)] (sd (dlb 26 0 10 k (vS x.2.1 x.1.2.length x.2.2)) (sp 3 [(29,.bool (cmp .eql (↑(x.1.2.length)) 1))] (ee ?_)));refine AO (fun a w hS hD hW=>⟨hS.sub (sun 4 (.consE 29 rfl (congrArg Value.bool (by simp only [h2,kk])) (.nil _))),hD,hW⟩)
   have b9:=h2;have b9:=CU b9;refine sp 5 [(29,.bool false)] (ee ?_);refine AO (fun a w hS hD hW=>⟨hS.sub (sun 4 (.consE 29 rfl (congrArg Value.bool (by simp only [h2,kk])) (.nil _))),hD,hW⟩)
  rintro a w ⟨hS,hD,hW⟩
  refine AW hS hD hW ?_;refine rc 29 rfl (fun h3=>?_) (fun h3=>?_)
  ·
   have e3:=h3;obtain ⟨f3,f4⟩:=and_t h3;have f3:=CQ f3;have f4:=BQ f4;refine rdX (M:=((bX k #[vI x.1.1.slip.num,vI x.1.1.slip.hour,vI x.1.1.slip.kind,vI x.1.1.slip.place,vI x.1.1.slip.to,vI x.1.1.slip.sort,.bool x.1.1.slip.soil,vI x.1.1.slip.amt,vI x.1.1.gap,.bool x.1.1.below,vS x.2.1 x.1.2.length x.2.2] 105)::(bX b5 #[.map (some b3)] 106)::(b3,Obj.map e1 e0)::(Mr1++[]))) (F0:=F1) [] 17 [(0,true),(1,true),(2,true),(3,true),(4,true),(5,true),(6,true),(7,true),(8,true),(9,true),(10,true),(11,true),(12,true),(13,true),(14,true),(15,false),(16,true)] (by simp only [AA,CA,NA,List.append_nil];exact PR _) JH ?_;refine AG (dlb 30 1 0 b5 (.map (some b3))) ?_;refine AG (dpv 31 (vP k 10)) ?_;refine AG (dlb 32 0 10 k (vS x.2.1 x.1.2.length x.2.2)) ?_;refine AG (di 33 1 0 qr.addr) ?_;refine AG (dl 34 (EM qr 0 (by omega))) ?_;refine AG (dpv 35 (vP k 0)) ?_;refine AG (dpv 36 (vP k 0)) ?_;refine AG (dpv 37 (vP k 5)) ?_;refine AG (dlb 38 0 5 k (vI x.1.1.slip.sort)) ?_;refine AG (dpv 39 (.agg #[vI (x.1.2.getD 0 0),vI x.1.1.slip.sort,vI 0])) ?_;refine JM (LkPr b3 encO (⟨x.1.2.getD 0 0,x.1.1.slip.sort,0⟩:Debt) (vI 0) (vI (TL (⟨x.1.2.getD 0 0,x.1.1.slip.sort,0⟩:Debt) (FA xs)))) (MC e4.1 (QX (⟨x.1.2.getD 0 0,x.1.1.slip.sort,0⟩:Debt) (FA xs))) ((PC _ (PS _ _ _)).trans (PS _ _ _)) (FG (x:=(.tmp 30)) (y:=(.tmp 39)) (T:=106) (kt:=48) (et:=3) (k:=(⟨x.1.2.getD 0 0,x.1.1.slip.sort,0⟩:Debt)) (z:=vI 0) (d:=40) (ty:=3) (gd:=none) (by kernel_rfl) rfl (by kernel_rfl) (keyOk_debt (by kernel_rfl) (by kernel_rfl)) rfl rfl (by kernel_rfl)) ?_;refine AG (dpv 41 (vP k 0)) ?_;refine AG (dpv 42 (vP k 8)) ?_;refine AG (dlb 43 0 8 k (vI x.1.1.gap)) ?_;refine BH (dsb 44 (TL (⟨x.1.2.getD 0 0,x.1.1.slip.sort,0⟩:Debt) (FA xs)) x.1.1.gap) ?_;refine EZ (Mx:=fun FX=>((bX k #[vI x.1.1.slip.num,vI x.1.1.slip.hour,vI x.1.1.slip.kind,vI x.1.1.slip.place,vI x.1.1.slip.to,vI x.1.1.slip.sort,.bool x.1.1.slip.soil,vI x.1.1.slip.amt,vI x.1.1.gap,.bool x.1.1.below,vS x.2.1 x.1.2.length x.2.2] 105)::(bX b5 #[.map (some b3)] 106)::(b3,Obj.map e1 e0)::(Mr1++FX))) rfl (fun FX=>by simp only [AA,CA,NA,List.append_nil];exact PR _) (fun FX=>?_);refine id (stp_entO (d:=45) (x:=(.tmp 30)) (y:=(.tmp 39)) (T:=106) (kt:=48) (et:=3) (k:=(⟨x.1.2.getD 0 0,x.1.1.slip.sort,0⟩:Debt)) (H:=FA xs) 2 (ty:=0) (gd:=none) (by kernel_rfl) rfl (by kernel_rfl) (keyOk_debt (by kernel_rfl) (by kernel_rfl)) rfl rfl (by kernel_rfl) rfl e4 (fun f1 c7 g9 d7=>?_));refine HJ (M1:=((bX k #[vI x.1.1.slip.num,vI x.1.1.slip.hour,vI x.1.1.slip.kind,vI x.1.1.slip.place,vI x.1.1.slip.to,vI x.1.1.slip.sort,.bool x.1.1.slip.soil,vI x.1.1.slip.amt,vI x.1.1.gap,.bool x.1.1.below,vS x.2.1 x.1.2.length x.2.2] 105)::(bX b5 #[.map (some b3)] 106)::(b3,Obj.map f1 c7)::(Mr1++[]))) (by simp only [AA,CA,NA,List.append_nil];exact (PR _)) (.none (.wt (.wt (.wt (.other (JL d7.1 rfl (QX (⟨x.1.2.getD 0 0,x.1.1.slip.sort,0⟩:Debt) (FA xs))) ((PC _ (PS _ _ _)).trans (PS _ _ _)) (.wt (.wt (.wt (.wt (.wt (.wt (.wt (.wt (.wt (.wt .nil))))))))))))))) ?_;show OFPX _ _ _ _ _ _ _ _ _ _ ((45,.tuple #[vI (TL (⟨x.1.2.getD 0 0,x.1.1.slip.sort,0⟩:Debt) (FA xs)),vI ↑g9])::_) _ _;refine AG (dpv 46 (vI ↑g9)) ?_;refine GM (BA (M':=((bX k #[vI x.1.1.slip.num,vI x.1.1.slip.hour,vI x.1.1.slip.kind,vI x.1.1.slip.place,vI x.1.1.slip.to,vI x.1.1.slip.sort,.bool x.1.1.slip.soil,vI x.1.1.slip.amt,vI x.1.1.gap,.bool x.1.1.below,vS x.2.1 x.1.2.length x.2.2] 105)::(bX b5 #[.map (some b3)] 106)::(b3,Obj.map f1 c7)::(Mr1++F1))) (fun w h=>by simpa only [AA,CA,NA,List.append_nil] using h) (nm ?_));refine sS (stp_fillO (x:=(.tmp 30)) (y:=(.tmp 46)) (u:=(.tmp 44)) (T:=106) (k:=(⟨x.1.2.getD 0 0,x.1.1.slip.sort,0⟩:Debt)) (v:=(TL (⟨x.1.2.getD 0 0,x.1.1.slip.sort,0⟩:Debt) (FA xs))-x.1.1.gap) 2 (ty:=0) (gd:=none) (by kernel_rfl) rfl rfl rfl rfl rfl d7 (fun f2 f6=>(nm (ee (NB ?_)))));refine ppm (M':=((bX k #[vI x.1.1.slip.num,vI x.1.1.slip.hour,vI x.1.1.slip.kind,vI x.1.1.slip.place,vI x.1.1.slip.to,vI x.1.1.slip.sort,.bool x.1.1.slip.soil,vI x.1.1.slip.amt,vI x.1.1.gap,.bool x.1.1.below,vS x.2.1 x.1.2.length x.2.2] 105)::(Mr1++(bX b5 #[.map (some b3)] 106)::(b3,Obj.map f2 c7)::F1))) (PC _ (PU PM.symm)) ?_;refine FO (M':=(Mr1++((bX b5 #[.map (some b3)] 106)::(b3,Obj.map f2 c7)::[]))) (IR _) ?_ (by simp only [AA,NA,CA];exact (TC _ (TR _)));exact ⟨_,rfl,⟨_,_,rfl,owes_t e3▸f6⟩⟩
  have e3:=h3;refine AM (NB (ppm (M':=((bX k #[vI x.1.1.slip.num,vI x.1.1.slip.hour,vI x.1.1.slip.kind,vI x.1.1.slip.place,vI x.1.1.slip.to,vI x.1.1.slip.sort,.bool x.1.1.slip.soil,vI x.1.1.slip.amt,vI x.1.1.gap,.bool x.1.1.below,vS x.2.1 x.1.2.length x.2.2] 105)::(Mr1++(bX b5 #[.map (some b3)] 106)::(b3,Obj.map e1 e0)::F1))) (PC _ (PU PM.symm)) ?_));refine FO (M':=(Mr1++((bX b5 #[.map (some b3)] 106)::(b3,Obj.map e1 e0)::[]))) (IR _) ?_ (by simp only [AA,NA,CA];exact (TC _ (TR _)));exact ⟨_,rfl,⟨_,_,rfl,owes_f e3▸e4⟩⟩
 ·intro D I2 Mr2 M2 hle2 hC2;replace a1:=hle2.blk _ _ a1;replace b0:=hle2.blk _ _ b0;obtain ⟨c5,a9,rfl,c8⟩:=hC2;refine MX (M':=((D,Obj.deferred (some []))::(Mr2++(bX b5 #[.map (some b3)] 106)::(b3,Obj.map c5 a9)::(bX b1 (AQ L (vS a3 L.start.length a4) (vS a5 L.keeps.length a6) (vS a7 L.slips.length a8)) 26)::F))) (fun w h=>by simpa only [AA,CA,NA] using h) (ppm (M':=((D,Obj.deferred (some []))::(bX b5 #[.map (some b3)] 106)::(b3,Obj.map c5 a9)::(bX b1 (AQ L (vS a3 L.start.length a4) (vS a5 L.keeps.length a6) (vS a7 L.slips.length a8)) 26)::(Mr2++F))) (PC _ (PW (PW PM))) (NB (NX (rqr (sp 1 [(7,vN)] (se (rq (rqr (sd (dlb 47 1 0 b5 (.map (some b3))) (sS (QH (d:=48) (x:=(.tmp 47)) (T:=106) (kt:=48) (et:=3) (es:=c5) (cl:=a9) (ty:=0) (gd:=none) (by kernel_rfl) rfl (by kernel_rfl) rfl (.inl (List.mem_of_getElem? (i:=2) rfl)) (fun d9=>(se (rb 2 ?_))))))))))))));refine rl (fun mz a w=>∃ dn:Ods,∃ td:Ods,∃ c4:Value,∃ b2:Seg,∃ a2:Array Nat,((dn++td).Perm (FA (FU L)))∧(Own 48 3 DF c4 (dn.map mkD) b2)∧(Go.Sl.Left encO c5 a2 (intO td))∧Slots 62 [(7,c4),(2,vN),(3,vI 0),(48,vP d9 0)] a∧a.defers=Sl.mark D::[]∧St I2 ((d9,Obj.mapIter (some b3) a9 a2 a9)::(D,Obj.deferred (some []))::(bX b5 #[.map (some b3)] 106)::(b3,Obj.map c5 a9)::(bX b1 (AQ L (vS a3 L.start.length a4) (vS a5 L.keeps.length a6) (vS a7 L.slips.length a8)) 26)::(Mr2++(b2++F))) w∧mz=td.length) ?_ ?_
  ·intro a w hS hD hW;exact ⟨_,[],FA (FU L),(vN),[],#[],PR _,(Own.nil _ _ _),(Left.start c8.1.1),hS.sub su,hD,hW,rfl⟩
  rintro mz a w ⟨dn,td,c4,b2,a2,i0,c3,c9,hS,hD,hW,rfl⟩
  refine AW hS hD hW ?_;obtain ⟨b4,b6,rfl,i1⟩:=c3.shape;have q7:(dn.map mkD).length≤8:=by have h1:=i0.length_eq;have h2:=owes_len (xs:=FU L);rw [LA] at h1;rw [List.length_map];omega
  refine rqr (sS (stp_nextO (d:=49) (x:=(.tmp 48)) (todo:=td) 0 (ty:=0) (gd:=none) (by kernel_rfl) rfl rfl rfl (.inl (List.mem_of_getElem? (i:=3) rfl)) c8.1.2 c9 (fun g1=>?_) (fun h4 a0 h5 h0 d8 f7 f5=>?_)))
  ·
   refine sp 1 [(50,.bool false)] (se (rq (rcf 50 rfl (CH 2 (EP (EP (EB (NX (rq ?_)))))))));have n4:=small_debts hg i0;have m8:=debts_sorted c8.2 (fun x hx=>(owes_keys hg (xs:=FU L) (fun _ h=>h) x hx).1) i0 g1;refine DL (B:=((d9,Obj.mapIter (some b3) a9 a2 a9)::(D,Obj.deferred (some []))::(bX b5 #[.map (some b3)] 106)::(b3,Obj.map c5 a9)::(bX b1 (AQ L (vS a3 L.start.length a4) (vS a5 L.keeps.length a6) (vS a7 L.slips.length a8)) 26)::(Mr2++F))) DK c3 (by first | omega | (simp only [LS,LC,LN,LA,LK,LD] <;> omega) | decide) (PU (PU (PU (PU (PU (PO _ _ _)))))) (PR _) (fun q4 c1 b8=>?_);replace a1:=c1.blk _ _ a1;replace b0:=c1.blk _ _ b0;obtain ⟨k6,k8,k7,l4,e2,k9,l0,l5⟩:=id b8;cases e2;refine rr (sp 1 [(60,vS b4 (dn.map mkD).length b6)] (sS (sc (some 61) (sortedD_ct _ _ _ b8 (by exact n4) (by omega) :) (.refl _) (fun p9 q5 p6 c2 l9=>?_))));obtain ⟨r1,c6,g5,g0,g8⟩:=l9;rw [g5,g0];clear g5 g0;replace a1:=c2.blk _ _ a1;replace b0:=c2.blk _ _ b0;obtain ⟨h7,h8,rfl,n2⟩:=g8.shape;refine pm (M':=((d9,Obj.mapIter (some b3) a9 a2 a9)::(D,Obj.deferred (some []))::(bX b5 #[.map (some b3)] 106)::(b3,Obj.map c5 a9)::(bX b1 (AQ L (vS a3 L.start.length a4) (vS a5 L.keeps.length a6) (vS a7 L.slips.length a8)) 26)::(c6++(Mr2++F)))) (PW (PW (PW (PW PM)))) (sp 2 [(3,vI 0),(2,vS h7 (AF FF (dn.map mkD)).length h8)] (se (BB ?_)));have hE:=owedE_2 hz;refine EC (R:=((d9,Obj.mapIter (some b3) a9 a2 a9)::(bX b5 #[.map (some b3)] 106)::(b3,Obj.map c5 a9)::(bX b1 (AQ L (vS a3 L.start.length a4) (vS a5 L.keeps.length a6) (vS a7 L.slips.length a8)) 26)::(c6++(Mr2++F)))) [D] (.inl rfl) (PS _ _ _) (ppm (M':=(c6++(d9,Obj.mapIter (some b3) a9 a2 a9)::(bX b5 #[.map (some b3)] 106)::(b3,Obj.map c5 a9)::(bX b1 (AQ L (vS a3 L.start.length a4) (vS a5 L.keeps.length a6) (vS a7 L.slips.length a8)) 26)::(Mr2++F))) (PU (PU (PU PM.symm))) (rt2s 2 3 c6 rfl rfl (TA (TC _ (TC _ (TC _ (TC _ (TT (TR _) (TB _ _)))))) _) (IT (IT (IT (IT l7 c0) hle2) c1) c2) ?_));exact ⟨_,_,(by rw [hE,m8]),rfl,((show AF FF (dn.map mkD)=(PY L).1 from by rw [hE,m8])▸g8)⟩
  show Seq _ _ _ _ _ _ ((49,.tuple #[.bool true,.agg #[vI a0.1.who,vI a0.1.sort,vI a0.1.amt],vI a0.2])::_) _ _;refine nm ?_;refine sp 1 [(50,.bool true)] (se (rq (rct 50 rfl (AM (NX (rb 3 (rqr (sS (QF (d:=51) (x:=(.tmp 48)) (enc:=encO) (y:=(a0.1,vI a0.2)) (ty:=0) (gd:=none) (by kernel_rfl) rfl rfl (List.mem_of_getElem? (i:=0) rfl) (.inl (List.mem_of_getElem? (i:=3) rfl)) c8.1.2 f5 ?_)))))))));show Seq _ _ _ _ _ _ ((51,.tuple #[.agg #[vI a0.1.who,vI a0.1.sort,vI a0.1.amt],vI a0.2])::_) _ _;refine sp 2 [(53,vI a0.2),(52,.agg #[vI a0.1.who,vI a0.1.sort,vI a0.1.amt])] (sS (sal 8 48 #[vI 0,vI 0,vI 0] (fun f0=>(sS (ss 0 0 f0 [vI a0.1.who,vI a0.1.sort,vI a0.1.amt] [vI a0.1.who,vI a0.1.sort,vI a0.1.amt] (_::_::_::_::_::_::_) (cs:=[_,_,_]) rfl rfl (sp 1 [(9,vI a0.2)] (sn (sp 2 [(55,vP f0 2),(54,vI a0.2)] (sS (ss 0 2 f0 [vI a0.2] [vI a0.1.who,vI a0.1.sort,vI a0.2] (_::_::_::_::_::_::_) (cs:=[_,_,_]) rfl rfl (se (rr (sp 1 [(56,vS b4 (dn.map mkD).length b6)] (sd (dnb 57 0 0 f0 [vI a0.1.who,vI a0.1.sort,vI a0.2]) (sS (sbs 58 48 1 #[vI a0.1.who,vI a0.1.sort,vI a0.2] (fun q6=>(sS (sap (d:=59) 56 58 41 48 3 24 (.agg #[vI 0,vI 0,vI 0]) DF (dn.map mkD) [(⟨a0.1.who,a0.1.sort,a0.2⟩:Debt)] b2 rfl rfl c3 (PU (PU (PU (PU (PU (PU (PU (PO _ _ _)))))))) (SN _) (HG 0 rfl rfl) (fun r2 e8 g2=>(BA (M':=((bX f0 #[vI a0.1.who,vI a0.1.sort,vI a0.2] 48)::(d9,Obj.mapIter (some b3) a9 h0 a9)::(D,Obj.deferred (some []))::(bX b5 #[.map (some b3)] 106)::(b3,Obj.map c5 a9)::(bX b1 (AQ L (vS a3 L.start.length a4) (vS a5 L.keeps.length a6) (vS a7 L.slips.length a8)) 26)::(e8++(Mr2++F)))) (fun w h=>(h.perm (PW (PW (PW (PW (PW (PW PM))))))).sub (TC _ (TR _))) ?_)))))))))))))))))))));obtain ⟨g6,g7,rfl,p3⟩:=g2.shape;refine sp 1 [(7,vS g6 ((dn.map mkD)++([(⟨a0.1.who,a0.1.sort,a0.2⟩:Debt)])).length g7)] (ee (NB ?_));refine AN ((h4++h5).length) (tookK_len d8) ?_;intro a w hS hD hW;exact ⟨dn++[a0],h4++h5,vS g6 ((dn.map mkD)++([(⟨a0.1.who,a0.1.sort,a0.2⟩:Debt)])).length g7,e8,h0,RF i0 d8,(by rw [List.map_append];exact g2),f7,hS.sub su,hD,(hW.perm (PC _ (PC _ (PC _ (PC _ (PC _ (PC _ (PO _ _ _)))))))).sub (TC _ (TR _)),rfl⟩
 intro D c xs I2 M2 hle2 hS2;exact hS2.elim
noncomputable def c_Strike:=cod Tryz.f20
theorem Strike_ct (I:Imm) (l:Value) (L:Lin) (ns:Value) (N:List Int) (l_f:IsLin I l L) (ns_f:DB I ns N):Ct Tryz.prog 20 #[l,ns] I ([]) (fun v I' M'=>∃ u0:Value,v=.tuple #[u0,vI ((AP L N).2)]∧M'=[]∧IsLin I' u0 ((AP L N).1)):=by
 obtain ⟨l1,l2,l3,rfl,b8,b9,b6⟩:=id l_f;obtain ⟨a2,a3,m4,m7,l5,rfl,m5,m6,m8,m9⟩:=id b8;obtain ⟨a4,a5,n0,n3,rfl,n1,n2,n4⟩:=id b9;obtain ⟨a0,a1,n5,n8,rfl,n6,n7,n9⟩:=id b6;obtain ⟨c1,c2,o1,o4,rfl,o2,o3,c8⟩:=id ns_f;refine fr (args:=[_,_]) (N:=42) Tryz.func20 (fun F=>?_);show Run _ _ (c_Strike []) _ _ [(0,_),(1,_)] _ _;refine rnm (rqr ?_);refine sS (sb 2 26 (AQ L (vS a2 L.start.length a3) (vS a4 L.keeps.length a5) (vS a0 L.slips.length a1)) (fun b1=>(sS (sal 4 26 AZ (fun b3=>(sp 1 [(5,vI 0)] (se (rq (rqr (sd (dnb 9 1 0 b1 (DE L (vS a2 L.start.length a3) (vS a4 L.keeps.length a5) (vS a0 L.slips.length a1))) (sd (dc 10 (fun I' hI=>(DJ I' _ L ((CN b8 b9 b6).mono hI) :))) (sp 1 [(6,vI (AH L))] (sn (sp 2 [(12,.bool (!(cmp .eql (AH L) 0)))] (se (rc 12 rfl (fun h1=>?_) (fun h1=>?_)))))))))))))))))
 ·
  have g0:=h1;have h1:=BV (BM h1);refine rqr (sp 2 [(14,vI (AH L)),(13,.agg AZ)] (sS (ss 0 0 b3 GN GN (_::_::_) (cs:=[_,_,_,_,_]) rfl rfl (sp 1 [(5,vI (AH L))] (se (BB (RP ?_)))))));have hE:=strikeE_1 (L:=L) (ns:=N) h1;refine DQ (t:=4) (u:=5) (T:=26) (n:=5) [] (by kernel_rfl) rfl (by kernel_rfl) rfl (DC (n:=5) (cs:=AZ) (b:=b3) (off:=0) (T:=26) (fz:=(0,0)) (vs:=GN) (by simp) rfl) (.inl ⟨by kernel_rfl,rfl⟩) rfl (TC _ (TC _ (TR _))) (IR _) ?_;exact ⟨_,(by rw [hE]),rfl,((show (⟨0,0,[],[],[]⟩:Lin)=(AP L N).1 from by rw [hE];rfl)▸(CN (IsRows.nil _) (IsSl.nil _) (IsSl.nil _)))⟩
 have g0:=h1;have h1:=BQ (BE h1);refine AM (NX (rq (rq ?_)));have hz:AH L=0:=by omega
 have hg:=GG hz;have q0:=hg.slips;refine rr (sp 3 [(17,vI 0),(16,vI (↑(N.length))),(15,vS c1 N.length c2)] (se (rb 0 ?_)));refine rl (fun mz a w=>∃ J0:Imm,∃ k:Nat,(I.le J0)∧(k≤N.length)∧(DY (GI L N) k=0)∧SD 42 [(17,vI ↑k),(1,vS c1 N.length c2),(2,vP b1 0),(4,vP b3 0),(15,vS c1 N.length c2),(16,vI (↑(N.length)))] J0 ((bX b3 AZ 26)::(bX b1 (AQ L (vS a2 L.start.length a3) (vS a4 L.keeps.length a5) (vS a0 L.slips.length a1)) 26)::F) a w (mz=N.length-k)) ?_ ?_
 ·intro a w hS hD hW;exact ⟨_,I,0,IR _,Nat.zero_le _,rfl,hS.sub su,hD,hW,rfl⟩
 rintro mz a w ⟨J0,k,hJ0,hk,e9,hS,hD,hW,rfl⟩
 refine AW hS hD hW ?_;replace b8:=b8.mono hJ0;replace b9:=b9.mono hJ0;replace b6:=b6.mono hJ0;replace ns_f:=ns_f.mono hJ0;replace c8:=c8.mono hJ0;refine rqr (sp 1 [(18,.bool (cmp .lss ↑k (↑(N.length))))] (se (rq (rc 18 rfl (fun h2=>?_) (fun h2=>?_)))))
 ·
  have g1:=h2;have h2:=CQ h2;refine AM (NX (rq (rb 1 (rqr (sp 1 [(19,vI ↑k)] (sd (di 20 1 k c8.addr) (sd (dl 21 (EM c8 k (by omega))) (sp 2 [(8,vI (N.getD k 0)),(7,vI ↑k)] (se (rb 2 (rq ?_)))))))))));refine rd 4 [(0,true),(1,true),(2,true),(3,false)] ((bX b3 AZ 26)::(bX b1 (AQ L (vS a2 L.start.length a3) (vS a4 L.keeps.length a5) (vS a0 L.slips.length a1)) 26)::[]) F (ox 1 [(23,vP b1 4)] ?_);refine AE (dlb 24 1 4 b1 (vS a0 L.slips.length a1)) (ox 1 [(25,vI (N.getD k 0))] ?_);refine CV (sc (some 26) (F:=((bX b3 AZ 26)::(bX b1 (AQ L (vS a2 L.start.length a3) (vS a4 L.keeps.length a5) (vS a0 L.slips.length a1)) 26)::F)) (KA _ (N.getD k 0) :) (PR _) (fun o8 I5 o5 b7 m3=>?_));obtain ⟨d1,l4,l0,h5⟩:=m3;rw [l4,l0];clear l4 l0;replace b8:=b8.mono b7;replace b9:=b9.mono b7;replace b6:=b6.mono b7;replace ns_f:=ns_f.mono b7;refine AX (S':=(F)) (PR _) ?_;show OFP _ _ _ _ _ _ ((26,.func (.func 89) #[] #[vP d1 0])::_) _ _;refine FS (nm (nm ?_));refine sd (dc 27 (fun I' hI=>(QM I' _ _ 89 ([vP d1 0]) (fun x=>decide (x.num=(N.getD k 0))) (b6.mono hI) (by kernel_rfl) (fun J hJ x=>num1_ct J x (N.getD k 0) d1 ((IT hI hJ).blk _ _ h5)) :))) (sp 2 [(22,.bool (!(L.slips.any (fun x=>decide (x.num=(N.getD k 0))))))] (se (rc 22 rfl (fun h3=>?_) (fun h3=>?_))))
  ·
   have g2:=h3;have h3:=BM h3;refine rqr (sp 1 [(29,.agg AZ)] (sS (ss 0 0 b3 GN GN (_::_::_) (cs:=[_,_,_,_,_]) rfl rfl (sp 1 [(5,vI 3)] (se (BB (RB (RB (RP (RP (RB (RP ?_))))))))))));have hE:=strikeE_2 hz e9 (by omega) h3;refine DQ (t:=4) (u:=5) (T:=26) (n:=5) [] (by kernel_rfl) rfl (by kernel_rfl) rfl (DC (n:=5) (cs:=AZ) (b:=b3) (off:=0) (T:=26) (fz:=(0,0)) (vs:=GN) (by simp) rfl) (.inl ⟨by kernel_rfl,rfl⟩) rfl (TC _ (TC _ (TR _))) (IT hJ0 b7) ?_;exact ⟨_,(by rw [hE]),rfl,((show (⟨0,0,[],[],[]⟩:Lin)=(AP L N).1 from by rw [hE];rfl)▸(CN (IsRows.nil _) (IsSl.nil _) (IsSl.nil _)))⟩
  have g2:=h3;have h3:=BE h3;refine rqr (sp 2 [(32,vI ↑k),(31,vS c1 N.length c2)] ?_);have c4:=ns_f.cutHi k (by omega);obtain ⟨l6,l8,l7,m1,d0,l9,m0,m2⟩:=id c4;rw [d0] at c4;refine sd (JG (HN (x:=(.tmp 31)) (lo:=none) (hi:=(some (.tmp 32))) (T:=33) (e:=3) (sz:=1) 0 k (d:=33) (ty:=33) (gd:=none) (by kernel_rfl) rfl (by kernel_rfl) (by kernel_rfl) rfl (.inl ⟨rfl,rfl⟩) (.inr ⟨_,.i64,rfl,rfl⟩) (by omega) (by omega)) d0) (sp 1 [(34,vI (N.getD k 0))] (sd (dc 35 (fun I' hI=>(OD I' _ _ (N.getD k 0) (c4.mono hI) :))) (sp 1 [(30,.bool (decide ((N.getD k 0)∈(N.take k))))] (se (rc 30 rfl (fun h4=>?_) (fun h4=>?_))))))
  ·
   have g3:=h4;have h4:=NR h4;refine rqr (sp 1 [(36,.agg AZ)] (sS (ss 0 0 b3 GN GN (_::_::_) (cs:=[_,_,_,_,_]) rfl rfl (sp 1 [(5,vI 4)] (se (BB (RB (RB (RP (RP (RB (RP ?_))))))))))));have hE:=strikeE_3 hz e9 (by omega) h3 h4;refine DQ (t:=4) (u:=5) (T:=26) (n:=5) [] (by kernel_rfl) rfl (by kernel_rfl) rfl (DC (n:=5) (cs:=AZ) (b:=b3) (off:=0) (T:=26) (fz:=(0,0)) (vs:=GN) (by simp) rfl) (.inl ⟨by kernel_rfl,rfl⟩) rfl (TC _ (TC _ (TR _))) (IT hJ0 b7) ?_;exact ⟨_,(by rw [hE]),rfl,((show (⟨0,0,[],[],[]⟩:Lin)=(AP L N).1 from by rw [hE];rfl)▸(CN (IsRows.nil _) (IsSl.nil _) (IsSl.nil _)))⟩
  have g3:=h4;have h4:=QQ h4;refine AM (NB (NB (NX (rr (sd (da 37 ↑k 1) (sp 1 [(17,vI (↑k+1))] (ee ?_)))))));refine AN (N.length-(k+1)) (by omega) ?_;intro a w hS hD hW;exact ⟨I5,k+1,(IT hJ0 b7),by omega,strike_next e9 h3 h4,hS.sub su,hD,hW,rfl⟩
 have g1:=h2;have h2:=CU h2;refine CH 0 (EP (EP (EB (NX (rqr (sd (dnb 38 1 0 b1 (DE L (vS a2 L.start.length a3) (vS a4 L.keeps.length a5) (vS a0 L.slips.length a1))) (sS (sc (some 39) (copied_ct _ _ L (CN b8 b9 b6) (by assumption) :) (.refl _) (fun o9 p7 o6 c9 g4=>?_)))))))));obtain ⟨p1,p2,p3,f2,e2,e0,e5,e4,e6⟩:=g4;rw [e2,e0];clear e2 e0;replace ns_f:=ns_f.mono c9;have a6:=e5;have a7:=e4;obtain ⟨h6,h8,h7,i1,f0,d3,h9,i0,i2,i3⟩:=id a6;obtain ⟨i4,i6,i5,i9,d4,i7,i8,j0⟩:=id a7;subst d3;subst d4;obtain ⟨j1,j2,rfl,j3⟩:=e6.shape;refine pm (M':=((bX b3 AZ 26)::(bX b1 (AQ L (vS a2 L.start.length a3) (vS a4 L.keeps.length a5) (vS a0 L.slips.length a1)) 26)::(f2++F))) (PW PM) (sfz (A:=((bX b3 AZ 26)::(bX b1 (AQ L (vS a2 L.start.length a3) (vS a4 L.keeps.length a5) (vS a0 L.slips.length a1)) 26)::F)) AB e6 (PU PM.symm) (fun p8 c0 c3=>?_));replace ns_f:=ns_f.mono c0;replace a6:=a6.mono c0;replace a7:=a7.mono c0;obtain ⟨f3,f5,f4,f8,d2,f6,f7,f9⟩:=id c3;cases d2;refine sp 1 [(40,vS c1 N.length c2)] (sS (sc (some 41) (without_ct _ _ L _ _ (CN a6 a7 c3) ns_f (by assumption) :) (.refl _) (fun p0 p9 o7 d9 g5=>?_)));obtain ⟨q1,e3,e1,h0⟩:=g5;rw [e3,e1];clear e3 e1;have e8:=h0;obtain ⟨p4,p5,p6,rfl,c5,c6,c7⟩:=id e8;obtain ⟨a8,a9,j4,j7,f1,rfl,j5,j6,j8,j9⟩:=id c5;obtain ⟨b0,b2,k0,k3,rfl,k1,k2,k4⟩:=id c6;obtain ⟨b4,b5,k5,k8,rfl,k6,k7,k9⟩:=id c7;refine nm ?_;refine sS (ss 0 0 b3 (DE (woL L N) (vS a8 ((woL L N).start).length a9) (vS b0 ((woL L N).keeps).length b2) (vS b4 ((woL L N).slips).length b5)) (DE (woL L N) (vS a8 ((woL L N).start).length a9) (vS b0 ((woL L N).keeps).length b2) (vS b4 ((woL L N).slips).length b5)) (_::_::_) (cs:=[_,_,_,_,_]) rfl rfl (sp 1 [(5,vI 0)] (se (BB ?_))));have hE:=strikeE_4 hz e9 (by omega);refine DQ (t:=4) (u:=5) (T:=26) (n:=5) [] (by kernel_rfl) rfl (by kernel_rfl) rfl (DC (n:=5) (cs:=(AQ (woL L N) (vS a8 ((woL L N).start).length a9) (vS b0 ((woL L N).keeps).length b2) (vS b4 ((woL L N).slips).length b5))) (b:=b3) (off:=0) (T:=26) (fz:=(0,0)) (vs:=(DE (woL L N) (vS a8 ((woL L N).start).length a9) (vS b0 ((woL L N).keeps).length b2) (vS b4 ((woL L N).slips).length b5))) (by simp) rfl) (.inl ⟨by kernel_rfl,rfl⟩) rfl (TC _ (TC _ (TR _))) (IT (IT (IT hJ0 c9) c0) d9) ?_;exact ⟨_,(by rw [hE]),rfl,((show woL L N=(AP L N).1 from by rw [hE])▸(CN c5 c6 c7))⟩
noncomputable def c_Late:=cod Tryz.f22
theorem Late_ct (I:Imm) (l:Value) (L:Lin) (s:Slip) (l_f:IsLin I l L):Ct Tryz.prog 22 #[l,.agg #[vI s.num,vI s.hour,vI s.kind,vI s.place,vI s.to,vI s.sort,.bool s.soil,vI s.amt]] I ([]) (fun v I' M'=>∃ u0:Value,v=.tuple #[u0,vI ((CG L s).2)]∧M'=[]∧IsLin I' u0 ((CG L s).1)):=by
 obtain ⟨l1,l2,l3,rfl,c1,c2,b9⟩:=id l_f;obtain ⟨a6,a7,h8,i1,h6,rfl,h9,i0,i2,i3⟩:=id c1;obtain ⟨a8,a9,i4,i7,rfl,i5,i6,i8⟩:=id c2;obtain ⟨a4,a5,i9,j2,rfl,j0,j1,j3⟩:=id b9;refine fr (args:=[_,_]) (N:=43) Tryz.func22 (fun F=>?_);show Run _ _ (c_Late []) _ _ [(0,_),(1,_)] _ _;refine rnm (rqr ?_);refine sS (sb 2 26 (AQ L (vS a6 L.start.length a7) (vS a8 L.keeps.length a9) (vS a4 L.slips.length a5)) (fun b1=>(sS (sb 3 29 (AY s) (fun b3=>(sS (sal 4 26 AZ (fun b5=>(sp 1 [(5,vI 0)] (se (rq (rqr (sd (dnb 9 2 0 b1 (DE L (vS a6 L.start.length a7) (vS a8 L.keeps.length a9) (vS a4 L.slips.length a5))) (sd (dc 10 (fun I' hI=>(DJ I' _ L ((CN c1 c2 b9).mono hI) :))) (sp 1 [(6,vI (AH L))] (sn (sp 2 [(12,.bool (!(cmp .eql (AH L) 0)))] (se (rc 12 rfl (fun h1=>?_) (fun h1=>?_))))))))))))))))))))
 ·
  have f1:=h1;have h1:=BV (BM h1);refine rqr (sp 2 [(14,vI (AH L)),(13,.agg AZ)] (sS (ss 0 0 b5 GN GN (_::_::_::_) (cs:=[_,_,_,_,_]) rfl rfl (sp 1 [(5,vI (AH L))] (se (BB (RP ?_)))))));have hE:=lateE_1 (L:=L) (s:=s) h1;refine DQ (t:=4) (u:=5) (T:=26) (n:=5) [] (by kernel_rfl) rfl (by kernel_rfl) rfl (DC (n:=5) (cs:=AZ) (b:=b5) (off:=0) (T:=26) (fz:=(0,0)) (vs:=GN) (by simp) rfl) (.inl ⟨by kernel_rfl,rfl⟩) rfl (TC _ (TC _ (TC _ (TR _)))) (IR _) ?_;exact ⟨_,(by rw [hE]),rfl,((show (⟨0,0,[],[],[]⟩:Lin)=(CG L s).1 from by rw [hE];rfl)▸(CN (IsRows.nil _) (IsSl.nil _) (IsSl.nil _)))⟩
 have f1:=h1;have h1:=BQ (BE h1);refine AM (NX (rq (rq ?_)));have hz:AH L=0:=by omega
 have hg:=GG hz;have k7:=hg.slips;have k8:=hg.places;have k6:=hg.sorts;refine rr (sp 1 [(15,vP b1 4)] (sd (dlb 16 2 4 b1 (vS a4 L.slips.length a5)) (sp 2 [(18,.bool (cmp .geq (↑(L.slips.length)) 8))] (se (rc 18 rfl (fun h2=>?_) (fun h2=>?_))))))
 ·
  have f2:=h2;have h2:=geq_t h2;refine rqr (sp 1 [(19,.agg AZ)] (sS (ss 0 0 b5 GN GN (_::_::_::_) (cs:=[_,_,_,_,_]) rfl rfl (sp 1 [(5,vI 6)] (se (BB (RP ?_)))))));have hE:=lateE_2 (s:=s) hz (by omega);refine DQ (t:=4) (u:=5) (T:=26) (n:=5) [] (by kernel_rfl) rfl (by kernel_rfl) rfl (DC (n:=5) (cs:=AZ) (b:=b5) (off:=0) (T:=26) (fz:=(0,0)) (vs:=GN) (by simp) rfl) (.inl ⟨by kernel_rfl,rfl⟩) rfl (TC _ (TC _ (TC _ (TR _)))) (IR _) ?_;exact ⟨_,(by rw [hE]),rfl,((show (⟨0,0,[],[],[]⟩:Lin)=(CG L s).1 from by rw [hE];rfl)▸(CN (IsRows.nil _) (IsSl.nil _) (IsSl.nil _)))⟩
 have f2:=h2;have h2:=geq_f h2;refine AM (NX (rq (rqr (sd (dnb 20 2 0 b1 (DE L (vS a6 L.start.length a7) (vS a8 L.keeps.length a9) (vS a4 L.slips.length a5))) (sd (dnb 21 1 0 b3 (ET s)) (sd (dc 22 (fun I' hI=>(RZ I' _ L s ((CN c1 c2 b9).mono hI) (by omega) (by omega) :))) (sp 1 [(7,vI (CW L s))] (sn (sp 2 [(24,.bool (!(cmp .eql (CW L s) 0)))] (se (rc 24 rfl (fun h3=>?_) (fun h3=>?_))))))))))))
 ·
  have f3:=h3;have h3:=BV (BM h3);refine rqr (sp 2 [(26,vI (CW L s)),(25,.agg AZ)] (sS (ss 0 0 b5 GN GN (_::_::_::_) (cs:=[_,_,_,_,_]) rfl rfl (sp 1 [(5,vI (CW L s))] (se (BB (RP ?_)))))));have hE:=lateE_3 hz (by omega) h3;refine DQ (t:=4) (u:=5) (T:=26) (n:=5) [] (by kernel_rfl) rfl (by kernel_rfl) rfl (DC (n:=5) (cs:=AZ) (b:=b5) (off:=0) (T:=26) (fz:=(0,0)) (vs:=GN) (by simp) rfl) (.inl ⟨by kernel_rfl,rfl⟩) rfl (TC _ (TC _ (TC _ (TR _)))) (IR _) ?_;exact ⟨_,(by rw [hE]),rfl,((show (⟨0,0,[],[],[]⟩:Lin)=(CG L s).1 from by rw [hE];rfl)▸(CN (IsRows.nil _) (IsSl.nil _) (IsSl.nil _)))⟩
 have f3:=h3;have h3:=BQ (BE h3);refine AM (NX (rq (rq ?_)));refine rd 5 [(0,true),(1,true),(2,true),(3,true),(4,false)] ((bX b5 AZ 26)::(bX b3 (AY s) 29)::(bX b1 (AQ L (vS a6 L.start.length a7) (vS a8 L.keeps.length a9) (vS a4 L.slips.length a5)) 26)::[]) F (ox 1 [(27,vP b1 4)] ?_);refine AE (dlb 28 2 4 b1 (vS a4 L.slips.length a5)) (ox 1 [(29,vP b3 0)] ?_);refine AE (dlb 30 1 0 b3 (vI s.num)) ?_;refine CV (sc (some 31) (F:=((bX b5 AZ 26)::(bX b3 (AY s) 29)::(bX b1 (AQ L (vS a6 L.start.length a7) (vS a8 L.keeps.length a9) (vS a4 L.slips.length a5)) 26)::F)) (KA _ s.num :) (PR _) (fun j8 I7 j6 c4 h7=>?_));obtain ⟨c8,d7,d4,c5⟩:=h7;rw [d7,d4];clear d7 d4;replace c1:=c1.mono c4;replace c2:=c2.mono c4;replace b9:=b9.mono c4;refine AX (S':=(F)) (PR _) ?_;show OFP _ _ _ _ _ _ ((31,.func (.func 89) #[] #[vP c8 0])::_) _ _;refine FS (nm (nm ?_));refine sd (dc 32 (fun I' hI=>(QM I' _ _ 89 ([vP c8 0]) (fun x=>decide (x.num=s.num)) (b9.mono hI) (by kernel_rfl) (fun J hJ x=>num1_ct J x s.num c8 ((IT hI hJ).blk _ _ c5)) :))) (se (rc 32 rfl (fun h4=>?_) (fun h4=>?_)))
 ·
  have f4:=h4;refine rqr (sp 1 [(33,.agg AZ)] (sS (ss 0 0 b5 GN GN (_::_::_::_) (cs:=[_,_,_,_,_]) rfl rfl (sp 1 [(5,vI 4)] (se (BB (RP ?_)))))));have hE:=lateE_4 hz (by omega) (by omega) h4;refine DQ (t:=4) (u:=5) (T:=26) (n:=5) [] (by kernel_rfl) rfl (by kernel_rfl) rfl (DC (n:=5) (cs:=AZ) (b:=b5) (off:=0) (T:=26) (fz:=(0,0)) (vs:=GN) (by simp) rfl) (.inl ⟨by kernel_rfl,rfl⟩) rfl (TC _ (TC _ (TC _ (TR _)))) c4 ?_;exact ⟨_,(by rw [hE]),rfl,((show (⟨0,0,[],[],[]⟩:Lin)=(CG L s).1 from by rw [hE];rfl)▸(CN (IsRows.nil _) (IsSl.nil _) (IsSl.nil _)))⟩
 have f4:=h4;refine AM (NX (rqr (sd (dnb 34 2 0 b1 (DE L (vS a6 L.start.length a7) (vS a8 L.keeps.length a9) (vS a4 L.slips.length a5))) (sS (sc (some 35) (copied_ct _ _ L (CN c1 c2 b9) (by assumption) :) (.refl _) (fun j9 k3 j7 c7 f5=>?_))))));obtain ⟨k0,k1,k2,d3,d8,d5,e0,d9,e1⟩:=f5;rw [d8,d5];clear d8 d5;replace c5:=c7.blk _ _ c5;have b0:=e0;have b2:=d9;obtain ⟨a0,a1,g0,g3,e2,d0,g1,g2,g4,g5⟩:=id b0;obtain ⟨a2,a3,g6,g9,d1,g7,g8,h0⟩:=id b2;subst d0;subst d1;obtain ⟨b4,b6,rfl,h5⟩:=e1.shape;refine pm (M':=((bX b5 AZ 26)::(bX b3 (AY s) 29)::(bX b1 (AQ L (vS a6 L.start.length a7) (vS a8 L.keeps.length a9) (vS a4 L.slips.length a5)) 26)::(d3++F))) (PW (PW PM)) (sS (sal 8 26 AZ (fun c6=>(sS (ss 0 0 c6 (DE L (vS a0 L.start.length a1) (vS a2 L.keeps.length a3) (vS b4 L.slips.length b6)) (DE L (vS a0 L.start.length a1) (vS a2 L.keeps.length a3) (vS b4 L.slips.length b6)) (_::_::_::_::_) (cs:=[_,_,_,_,_]) rfl rfl (sn (sp 1 [(36,vP c6 4)] (sd (dlb 37 0 4 c6 (vS b4 L.slips.length b6)) (sd (dnb 38 2 0 b3 (ET s)) (sS (sbs 39 29 1 (AY s) (fun k5=>(sS (sap (d:=40) 37 39 24 29 8 64 (.agg zSlpA) AV L.slips [s] d3 rfl rfl e1 (PU (PU (PU (PU PM.symm)))) (MW _) (HG 0 rfl rfl) (fun k9 e3 d6=>(BA (M':=((bX c6 (AQ L (vS a0 L.start.length a1) (vS a2 L.keeps.length a3) (vS b4 L.slips.length b6)) 26)::(bX b5 AZ 26)::(bX b3 (AY s) 29)::(bX b1 (AQ L (vS a6 L.start.length a7) (vS a8 L.keeps.length a9) (vS a4 L.slips.length a5)) 26)::(e3++F))) (fun w h=>(h.perm (PW (PW (PW (PW PM))))).sub (TC _ (TR _))) ?_))))))))))))))));obtain ⟨b7,b8,rfl,j5⟩:=d6.shape;refine sp 1 [(41,vP c6 4)] (sS (ss 0 4 c6 [vS b7 (L.slips++([s])).length b8] (DE L (vS a0 L.start.length a1) (vS a2 L.keeps.length a3) (vS b7 (L.slips++([s])).length b8)) (_::_::_::_::_) (cs:=[_,_,_,_,_]) rfl rfl (se (rq ?_))));refine DL (B:=((bX c6 (AQ L (vS a0 L.start.length a1) (vS a2 L.keeps.length a3) (vS b7 (L.slips++([s])).length b8)) 26)::(bX b5 AZ 26)::(bX b3 (AY s) 29)::(bX b1 (AQ L (vS a6 L.start.length a7) (vS a8 L.keeps.length a9) (vS a4 L.slips.length a5)) 26)::F)) AB d6 (by first | omega | (simp only [LS,LC,LN,LA,LK,LD] <;> omega) | decide) (PU (PU (PU PM.symm))) (PR _) (fun k4 c0 c3=>?_);replace c5:=c0.blk _ _ c5;replace b0:=b0.mono c0;replace b2:=b2.mono c0;obtain ⟨e4,e6,e5,e9,c9,e7,e8,f0⟩:=id c3;cases c9;refine rr (sd (dnb 42 0 0 c6 (DE L (vS a0 L.start.length a1) (vS a2 L.keeps.length a3) (vS b7 (L.slips++([s])).length b8))) (sS (ss 1 0 b5 (DE L (vS a0 L.start.length a1) (vS a2 L.keeps.length a3) (vS b7 (L.slips++([s])).length b8)) (DE L (vS a0 L.start.length a1) (vS a2 L.keeps.length a3) (vS b7 (L.slips++([s])).length b8)) (_::_::_::_::_) (cs:=[_,_,_,_,_]) rfl rfl (sp 1 [(5,vI 0)] (se (BB ?_))))));have hE:=lateE_5 hz (by omega) (by omega) h4;refine DQ (t:=4) (u:=5) (T:=26) (n:=5) [] (by kernel_rfl) rfl (by kernel_rfl) rfl (DC (n:=5) (cs:=(AQ L (vS a0 L.start.length a1) (vS a2 L.keeps.length a3) (vS b7 (L.slips++([s])).length b8))) (b:=b5) (off:=0) (T:=26) (fz:=(0,0)) (vs:=(DE L (vS a0 L.start.length a1) (vS a2 L.keeps.length a3) (vS b7 (L.slips++([s])).length b8))) (by simp) rfl) (.inl ⟨by kernel_rfl,rfl⟩) rfl (TC _ (TC _ (TC _ (TC _ (TR _))))) (IT (IT c4 c7) c0) ?_;exact ⟨_,(by rw [hE]),rfl,((show (⟨L.places,L.sorts,L.start,L.keeps,L.slips++[s]⟩:Lin)=(CG L s).1 from by rw [hE];rfl)▸(CN b0 b2 c3))⟩
noncomputable def c_EqualDebts_ct:=cod Tryz.f18
theorem EqualDebts_ct (I:Imm) (a:Value) (xs:List Debt) (b:Value) (ys:List Debt) (a_f:IsDebts I a xs) (b_f:IsDebts I b ys):CtV Tryz.prog 18 #[a,b] I (.bool (decide (xs=ys))):=by
 obtain ⟨a0,a1,b1,b4,rfl,b2,b3,a7⟩:=id a_f;obtain ⟨a2,a3,b5,b8,rfl,b6,b7,a8⟩:=id b_f;refine fr (args:=[_,_]) (N:=26) Tryz.func18 (fun F=>?_);show Run _ _ (c_EqualDebts_ct []) _ _ [(0,_),(1,_)] _ _;refine rnm (rqr ?_);refine sp 1 [(4,.bool false)] (se (rq (rqr (sp 5 [(10,.bool (!(cmp .eql (↑(xs.length)) (↑(ys.length)))))] (se (rc 10 rfl (fun h1=>?_) (fun h1=>?_)))))))
 ·
  have a4:=h1;have h1:=BV (BM h1);refine rqr (sp 1 [(4,.bool false)] (se (BB (RP (rt1 4 rfl (IR _) ?_)))));exact ⟨by rw [decide_eq_false (fun e=>h1 (by rw [e]))],rfl⟩
 have a4:=h1;have h1:=BQ (BE h1);refine AM (NX (rq (rqr (sp 1 [(5,vI 0)] (se (rb 0 ?_))))));refine rl (fun mz a w=>∃ k:Nat,(k≤xs.length)∧(xs.length=ys.length)∧(xs.take k=ys.take k)∧SD 26 [(5,vI ↑k),(0,vS a0 xs.length a1),(1,vS a2 ys.length a3)] I F a w (mz=xs.length-k)) ?_ ?_
 ·intro a w hS hD hW;exact ⟨_,0,Nat.zero_le _,by omega,rfl,hS.sub su,hD,hW,rfl⟩
 rintro mz a w ⟨k,hk,hl,ht,hS,hD,hW,rfl⟩
 refine AW hS hD hW ?_;clear hS hD hW a w;refine rq (rqr (sp 4 [(14,.bool (cmp .lss ↑k (↑(xs.length))))] (se (rc 14 rfl (fun h2=>?_) (fun h2=>?_)))))
 ·
  have a5:=h2;have h2:=CQ h2;refine AM (NX (rq (rb 1 (rq ?_))));refine rd0 8 (ox 2 [(18,vI ↑k),(17,vS a0 xs.length a1)] ?_);refine AE (di 19 3 k a7.addr) ?_;refine AE (dln 20 19 48 [vI ((xs.getD k DK).who),vI ((xs.getD k DK).sort),vI ((xs.getD k DK).amt)] rfl (BI (vals:=JK) (fun _=>rfl) a7 k (by omega))) (ox 2 [(22,vI ↑k),(21,vS a2 ys.length a3)] ?_);refine AE (di 23 3 k a8.addr) ?_;refine AE (dln 24 23 48 [vI ((ys.getD k DK).who),vI ((ys.getD k DK).sort),vI ((ys.getD k DK).amt)] rfl (BI (vals:=JK) (fun _=>rfl) a8 k (by omega))) ?_;refine BT (sd (HV (L:=[(0,.i .i64),(1,.i .i64),(2,.i .i64)]) (x:=(.tmp 20)) (y:=(.tmp 24)) (T:=48) (T':=48) (d:=25) (ty:=4) (gd:=none) (by kernel_rfl) rfl (by kernel_rfl) rfl rfl rfl (eqDebt (xs.getD k DK) (ys.getD k DK))) (se (rc 25 rfl (fun h3=>?_) (fun h3=>?_))))
  ·
   have a6:=h3;have h3:=QQ (BM h3);refine rqr (sp 1 [(4,.bool false)] (se (BB (RB (RP (RP (RB (RP (rt1 4 rfl (IR _) ?_)))))))));exact ⟨by rw [decide_eq_false (LZ hl h3)],rfl⟩
  have a6:=h3;have h3:=NR (BE h3);refine AM (NB (NX (rr (sp 1 [(15,vI ↑k)] (sd (da 16 ↑k 1) (sp 1 [(5,vI (↑k+1))] (ee ?_)))))));refine AN (xs.length-(k+1)) (by omega) ?_;intro a w hS hD hW;exact ⟨k+1,by omega,hl,GX (d:=DK) hl ht (by omega) h3,hS.sub su,hD,hW,rfl⟩
 have a5:=h2;have h2:=CU h2;refine CH 0 (EP (EP (EB (NX (rqr (sp 1 [(4,.bool true)] (se (BB (rt1 4 rfl (IR _) ?_)))))))));exact ⟨by rw [decide_eq_true (JO hl ht (by omega))],rfl⟩
end Go.Proofs.YtgcemienebmdeaaGreatDoor
namespace Go.Sh
open Go Go.Sl
structure SmallL (L:Lin):Prop where
  start:L.start.length≤20
  rows:∀ r∈L.start,r.length≤20
  keeps:L.keeps.length≤20
  slips:L.slips.length≤20
section
variable {A B L:Lin} {k:Nat}
theorem large_end (ha:∀ r∈L.start.take k,r.length≤20) (hx:(cmp .lss (k:Int) L.start.length&&cmp .lss (k:Int) 20)=false) (hq:(cmp .gtr (L.start.length:Int) 20||(cmp .gtr (L.keeps.length:Int) 20||cmp .gtr (L.slips.length:Int) 20))=false):SmallL L:=by
  simp only [cmp,Bool.or_eq_false_iff,decide_eq_false_iff_not,Bool.and_eq_false_iff] at hx hq;have hk:L.start.length≤k:=by omega
  rw [List.take_of_length_le hk] at ha;exact ⟨by omega,ha,by omega,by omega⟩
theorem lin_eq (h:(!cmp .eql A.places B.places||(!cmp .eql A.sorts B.sorts||(!decide (A.start=B.start)||!cmp .eql (A.keeps.length:Int) B.keeps.length)))=false) (hl:A.keeps.length=B.keeps.length) (ht:A.keeps.take k=B.keeps.take k) (hk:A.keeps.length≤k):decide (A.slips=B.slips)=decide (A=B):=by
  rw [List.take_of_length_le hk,List.take_of_length_le (by omega)] at ht;simp only [JU,Bool.or_eq_false_iff,Bool.not_eq_false',decide_eq_true_eq] at h;obtain ⟨h1,h2,h3,_⟩:=h;obtain ⟨a1,a2,a3,a4,a5⟩:=A;obtain ⟨b1,b2,b3,b4,b5⟩:=B;simp only at *;subst h1 h2 h3 ht;simp
theorem lin_ne (h:(!cmp .eql A.places B.places||(!cmp .eql A.sorts B.sorts||(!decide (A.start=B.start)||!cmp .eql (A.keeps.length:Int) B.keeps.length)))=true):decide (A=B)=false:=decide_eq_false fun e=>by subst e;simp [cmp] at h
end
def linD:Lin:=⟨0,0,[],[],[]⟩
def lvD:Int × Int × Value × Value × Value:=(0,0,undef,undef,undef)
def LinsV (I:Imm) (xs:List (Int × Int × Value × Value × Value)) (Ls:List Lin):Prop:=xs.length=Ls.length∧∀ i,i<xs.length→IsLin I (.agg #[.int .i64 (xs.getD i lvD).1,.int .i64 (xs.getD i lvD).2.1,(xs.getD i lvD).2.2.1,(xs.getD i lvD).2.2.2.1,(xs.getD i lvD).2.2.2.2]) (Ls.getD i linD)
theorem LinsV.nil (I:Imm):LinsV I [] []:=⟨rfl,fun i hi=>by simp at hi⟩
theorem LinsV.at {I : Imm} {xs : List (Int × Int × Value × Value × Value)} {Ls : List Lin} (h : LinsV I xs Ls) {i : Nat} (hi : i < xs.length) :
    ∃ (Y:Lin) (a b c:Value),xs.getD i lvD=(Y.places,Y.sorts,a,b,c)∧Y∈Ls∧IsRows I a Y.start∧GK I b Y.keeps∧HM I c Y.slips:=by
  obtain ⟨v1,v2,v3,h1,h2,h3,h4⟩:=h.2 i hi;simp only [Value.agg.injEq] at h1;have e:=congrArg Array.toList h1;simp only [List.cons.injEq,Value.int.injEq,true_and,and_true] at e;refine ⟨Ls.getD i linD,v1,v2,v3,?_,BJ (by rw [← h.1];exact hi),h2,h3,h4⟩;rw [← e.1,← e.2.1,← e.2.2.1,← e.2.2.2.1,← e.2.2.2.2]
end Go.Sh
namespace Go.Sl
open Go
section
variable {ρ:Option Nat} {P:Program} [Jud P] {N:Nat} {ops:Array Oper} {i:Nat} {l:Sl} {I:Imm} {R M:Seg} {d:Nat} {ty:TypeId} {gd:Option (Nat × Bool)}
end
end Go.Sl
namespace Go.Proofs.YtgcemienebmdeaaGreatDoor
open Go Go.Sl Go.Sh
set_option maxRecDepth 100000
noncomputable def c_EqualSlips_ct:=cod Tryz.f21
theorem OR (I:Imm) (a:Value) (xs:List Slip) (b:Value) (ys:List Slip) (a_f:HM I a xs) (b_f:HM I b ys):CtV Tryz.prog 21 #[a,b] I (.bool (decide (xs=ys))):=by
 obtain ⟨a0,a1,b1,b4,rfl,b2,b3,a7⟩:=id a_f;obtain ⟨a2,a3,b5,b8,rfl,b6,b7,a8⟩:=id b_f;refine fr (args:=[_,_]) (N:=26) Tryz.func21 (fun F=>?_);show Run _ _ (c_EqualSlips_ct []) _ _ [(0,_),(1,_)] _ _;refine rnm (rqr ?_);refine sp 1 [(4,.bool false)] (se (rq (rqr (sp 5 [(10,.bool (!(cmp .eql (↑(xs.length)) (↑(ys.length)))))] (se (rc 10 rfl (fun h1=>?_) (fun h1=>?_)))))))
 ·
  have a4:=h1;have h1:=BV (BM h1);refine rqr (sp 1 [(4,.bool false)] (se (BB (RP (rt1 4 rfl (IR _) ?_)))));exact ⟨by rw [decide_eq_false (fun e=>h1 (by rw [e]))],rfl⟩
 have a4:=h1;have h1:=BQ (BE h1);refine AM (NX (rq (rqr (sp 1 [(5,vI 0)] (se (rb 0 ?_))))));refine rl (fun mz a w=>∃ k:Nat,(k≤xs.length)∧(xs.length=ys.length)∧(xs.take k=ys.take k)∧SD 26 [(5,vI ↑k),(0,vS a0 xs.length a1),(1,vS a2 ys.length a3)] I F a w (mz=xs.length-k)) ?_ ?_
 ·intro a w hS hD hW;exact ⟨_,0,Nat.zero_le _,by omega,rfl,hS.sub su,hD,hW,rfl⟩
 rintro mz a w ⟨k,hk,hl,ht,hS,hD,hW,rfl⟩
 refine AW hS hD hW ?_;clear hS hD hW a w;refine rq (rqr (sp 4 [(14,.bool (cmp .lss ↑k (↑(xs.length))))] (se (rc 14 rfl (fun h2=>?_) (fun h2=>?_)))))
 ·
  have a5:=h2;have h2:=CQ h2;refine AM (NX (rq (rb 1 (rq ?_))));refine rd0 8 (ox 2 [(18,vI ↑k),(17,vS a0 xs.length a1)] ?_);refine AE (di 19 8 k a7.addr) ?_;refine AE (dln 20 19 29 (ET (xs.getD k AB)) rfl (BI (vals:=BW) (fun _=>rfl) a7 k (by omega))) (ox 2 [(22,vI ↑k),(21,vS a2 ys.length a3)] ?_);refine AE (di 23 8 k a8.addr) ?_;refine AE (dln 24 23 29 (ET (ys.getD k AB)) rfl (BI (vals:=BW) (fun _=>rfl) a8 k (by omega))) ?_;refine BT (sd (HV (L:=[(0,.i .i64),(1,.i .i64),(2,.i .i64),(3,.i .i64),(4,.i .i64),(5,.i .i64),(6,.b),(7,.i .i64)]) (x:=(.tmp 20)) (y:=(.tmp 24)) (T:=29) (T':=29) (d:=25) (ty:=4) (gd:=none) (by kernel_rfl) rfl (by kernel_rfl) rfl rfl rfl (eqSlip (xs.getD k AB) (ys.getD k AB))) (se (rc 25 rfl (fun h3=>?_) (fun h3=>?_))))
  ·
   have a6:=h3;have h3:=QQ (BM h3);refine rqr (sp 1 [(4,.bool false)] (se (BB (RB (RP (RP (RB (RP (rt1 4 rfl (IR _) ?_)))))))));exact ⟨by rw [decide_eq_false (LZ hl h3)],rfl⟩
  have a6:=h3;have h3:=NR (BE h3);refine AM (NB (NX (rr (sp 1 [(15,vI ↑k)] (sd (da 16 ↑k 1) (sp 1 [(5,vI (↑k+1))] (ee ?_)))))));refine AN (xs.length-(k+1)) (by omega) ?_;intro a w hS hD hW;exact ⟨k+1,by omega,hl,GX (d:=AB) hl ht (by omega) h3,hS.sub su,hD,hW,rfl⟩
 have a5:=h2;have h2:=CU h2;refine CH 0 (EP (EP (EB (NX (rqr (sp 1 [(4,.bool true)] (se (BB (rt1 4 rfl (IR _) ?_)))))))));exact ⟨by rw [decide_eq_true (JO hl ht (by omega))],rfl⟩
noncomputable def c_EqualLinens:=cod Tryz.f24
theorem EqualLinens_ct (I:Imm) (l:Value) (A:Lin) (m:Value) (B:Lin) (l_f:IsLin I l A) (m_f:IsLin I m B):CtV Tryz.prog 24 #[l,m] I (.bool (decide (A=B))):=by
 obtain ⟨l1,l2,l3,rfl,c3,d4,c5⟩:=id l_f;obtain ⟨b0,b2,e2,e5,e0,rfl,e3,e4,e6,e7⟩:=id c3;obtain ⟨a2,a3,e8,f1,rfl,e9,f0,c4⟩:=id d4;obtain ⟨b4,b5,f2,f5,rfl,f3,f4,f6⟩:=id c5;obtain ⟨m1,m2,m3,rfl,c6,d8,c8⟩:=id m_f;obtain ⟨b6,b7,f8,g1,e1,rfl,f9,g0,g2,g3⟩:=id c6;obtain ⟨a4,a5,g4,g7,rfl,g5,g6,c7⟩:=id d8;obtain ⟨b8,b9,g8,h7,rfl,g9,h0,h8⟩:=id c8;refine fr (args:=[_,_]) (N:=58) Tryz.func24 (fun F=>?_);show Run _ _ (c_EqualLinens []) _ _ [(0,_),(1,_)] _ _;refine rnm (rqr ?_);refine sS (sb 2 26 (AQ A (vS b0 A.start.length b2) (vS a2 A.keeps.length a3) (vS b4 A.slips.length b5)) (fun b1=>(sS (sb 3 26 (AQ B (vS b6 B.start.length b7) (vS a4 B.keeps.length a5) (vS b8 B.slips.length b9)) (fun b3=>(sp 1 [(4,.bool false)] (se (rq (rq ?_)))))))));refine DS (fun a w=>SE 58 [(2,vP b1 0),(3,vP b3 0),(4,.bool false),(34,.bool ((!(cmp .eql A.places B.places))||((!(cmp .eql A.sorts B.sorts))||((!(decide (A.start=B.start)))||(!(cmp .eql (↑(A.keeps.length)) (↑(B.keeps.length))))))))] I ((bX b3 (AQ B (vS b6 B.start.length b7) (vS a4 B.keeps.length a5) (vS b8 B.slips.length b9)) 26)::(bX b1 (AQ A (vS b0 A.start.length b2) (vS a2 A.keeps.length a3) (vS b4 A.slips.length b5)) 26)::F) a w) ?_ ?_
 ·
  refine rr (sp 1 [(6,vP b1 0)] (sd (dlb 7 1 0 b1 (vI A.places)) (sp 1 [(8,vP b3 0)] (sd (dlb 9 0 0 b3 (vI B.places)) (sp 2 [(11,.bool (!(cmp .eql A.places B.places)))] ?_)))));refine BU 11 rfl (fun h1=>?_) (fun h1=>?_)
  ·
   have a6:=h1;have a6:=BV (BM a6);refine sp 23 [(34,.bool true)] (ee ?_);refine AO (fun a w hS hD hW=>⟨hS.sub (sun 3 (.consE 34 rfl (congrArg Value.bool (by simp only [h1,kk])) (.nil _))),hD,hW⟩)
  have a6:=h1;have a6:=BQ (BE a6);refine sp 1 [(12,vP b1 1)] (sd (dlb 13 1 1 b1 (vI A.sorts)) (sp 1 [(14,vP b3 1)] (sd (dlb 15 0 1 b3 (vI B.sorts)) (sp 3 [(18,.bool (!(cmp .eql A.sorts B.sorts)))] ?_))));refine BU 18 rfl (fun h2=>?_) (fun h2=>?_)
  ·
   have a7:=h2;have a7:=BV (BM a7);refine sp 16 [(34,.bool true)] (ee ?_);refine AO (fun a w hS hD hW=>⟨hS.sub (sun 3 (.consE 34 rfl (congrArg Value.bool (by simp only [h1,h2,kk])) (.nil _))),hD,hW⟩)
  have a7:=h2;have a7:=BQ (BE a7);refine sp 1 [(19,vP b1 2)] (sd (dlb 20 1 2 b1 (vS b0 A.start.length b2)) (sp 1 [(21,vP b3 2)] (sd (dlb 22 0 2 b3 (vS b6 B.start.length b7)) (sd (dc 23 (fun I' hI=>(MO I' _ _ _ _ (c3.mono hI) (c6.mono hI) :))) (sp 3 [(26,.bool (!(decide (A.start=B.start))))] ?_)))));refine BU 26 rfl (fun h3=>?_) (fun h3=>?_)
  ·
   have a8:=h3;have a8:=QQ (BM a8);refine sp 8 [(34,.bool true)] (ee ?_);refine AO (fun a w hS hD hW=>⟨hS.sub (sun 3 (.consE 34 rfl (congrArg Value.bool (by simp only [h1,h2,h3,kk])) (.nil _))),hD,hW⟩)
  have a8:=h3;have a8:=NR (BE a8);refine sp 1 [(27,vP b1 3)] (sd (dlb 28 1 3 b1 (vS a2 A.keeps.length a3)) (sp 2 [(30,vP b3 3),(29,vI (↑(A.keeps.length)))] (sd (dlb 31 0 3 b3 (vS a4 B.keeps.length a5)) (sp 3 [(34,.bool (!(cmp .eql (↑(A.keeps.length)) (↑(B.keeps.length)))))] (ee ?_)))));refine AO (fun a w hS hD hW=>⟨hS.sub (sun 3 (.consE 34 rfl (congrArg Value.bool (by simp only [h1,h2,h3,kk])) (.nil _))),hD,hW⟩)
 rintro a w ⟨hS,hD,hW⟩
 refine AW hS hD hW ?_;refine rc 34 rfl (fun h4=>?_) (fun h4=>?_)
 ·
  have c1:=h4;refine rqr (sp 1 [(4,.bool false)] (se (BB (RP (GU 4 [] rfl (TC _ (TC _ (TR _))) (IR _) ?_)))));exact ⟨congrArg Value.bool ((lin_ne c1).symm),rfl⟩
 have c1:=h4;obtain ⟨c2,c9⟩:=or_f h4;have c2:=BQ (BE c2);obtain ⟨a9,c0⟩:=or_f c9;have a9:=BQ (BE a9);obtain ⟨a0,a1⟩:=or_f c0;have a0:=NR (BE a0);have a1:=BQ (BE a1);refine AM (NX (rq (rq ?_)));have hEk:=c1;refine rr (sp 1 [(5,vI 0)] (se (rb 0 ?_)));refine rl (fun mz a w=>∃ k:Nat,(k≤A.keeps.length)∧(A.keeps.length=B.keeps.length)∧(A.keeps.take k=B.keeps.take k)∧SD 58 [(5,vI ↑k),(2,vP b1 0),(3,vP b3 0)] I ((bX b3 (AQ B (vS b6 B.start.length b7) (vS a4 B.keeps.length a5) (vS b8 B.slips.length b9)) 26)::(bX b1 (AQ A (vS b0 A.start.length b2) (vS a2 A.keeps.length a3) (vS b4 A.slips.length b5)) 26)::F) a w (mz=A.keeps.length-k)) ?_ ?_
 ·intro a w hS hD hW;exact ⟨_,0,Nat.zero_le _,by omega,rfl,hS.sub su,hD,hW,rfl⟩
 rintro mz a w ⟨k,hk,hl,ht,hS,hD,hW,rfl⟩
 refine AW hS hD hW ?_;refine rq (rqr (sp 2 [(36,vP b1 3),(35,vI ↑k)] (sd (dlb 37 1 3 b1 (vS a2 A.keeps.length a3)) (sp 2 [(39,.bool (cmp .lss ↑k (↑(A.keeps.length))))] (se (rc 39 rfl (fun h5=>?_) (fun h5=>?_)))))))
 ·
  have d0:=h5;have h5:=CQ h5;refine AM (NX (rq (rb 1 (rq ?_))));refine rd0 10 (ox 1 [(42,vP b1 3)] ?_);refine AE (dlb 43 1 3 b1 (vS a2 A.keeps.length a3)) (ox 1 [(44,vI ↑k)] ?_);refine AE (di 45 3 k c4.addr) ?_;refine AE (dln 46 45 75 (PH (A.keeps.getD k AL)) rfl (BI (vals:=IE) (fun _=>rfl) c4 k (by omega))) (ox 1 [(47,vP b3 3)] ?_);refine AE (dlb 48 0 3 b3 (vS a4 B.keeps.length a5)) (ox 1 [(49,vI ↑k)] ?_);refine AE (di 50 3 k c7.addr) ?_;refine AE (dln 51 50 75 (PH (B.keeps.getD k AL)) rfl (BI (vals:=IE) (fun _=>rfl) c7 k (by omega))) ?_;refine BT (sd (HV (L:=[(0,.i .i64),(1,.i .i64),(2,.i .i64)]) (x:=(.tmp 46)) (y:=(.tmp 51)) (T:=75) (T':=75) (d:=52) (ty:=4) (gd:=none) (by kernel_rfl) rfl (by kernel_rfl) rfl rfl rfl (eqKeep (A.keeps.getD k AL) (B.keeps.getD k AL))) (se (rc 52 rfl (fun h6=>?_) (fun h6=>?_))))
  ·
   have d1:=h6;have h6:=QQ (BM h6);refine rqr (sp 1 [(4,.bool false)] (se (BB (RB (RP (RP (RB (RP (GU 4 [] rfl (TC _ (TC _ (TR _))) (IR _) ?_)))))))));exact ⟨congrArg Value.bool ((decide_eq_false (fun e=>h6 (by rw [e]))).symm),rfl⟩
  have d1:=h6;have h6:=NR (BE h6);refine AM (NB (NX (rr (sp 1 [(40,vI ↑k)] (sd (da 41 ↑k 1) (sp 1 [(5,vI (↑k+1))] (ee ?_)))))));refine AN (A.keeps.length-(k+1)) (by omega) ?_;intro a w hS hD hW;exact ⟨k+1,by omega,hl,GX (d:=AL) hl ht (by omega) h6,hS.sub su,hD,hW,rfl⟩
 have d0:=h5;have h5:=CU h5;refine CH 0 (EP (EP (EB (NX (rqr (sp 1 [(53,vP b1 4)] (sd (dlb 54 1 4 b1 (vS b4 A.slips.length b5)) (sp 1 [(55,vP b3 4)] (sd (dlb 56 0 4 b3 (vS b8 B.slips.length b9)) (sd (dc 57 (fun I' hI=>(OR I' _ _ _ _ (c5.mono hI) (c8.mono hI) :))) (sp 1 [(4,.bool (decide (A.slips=B.slips)))] (se (BB (GU 4 [] rfl (TC _ (TC _ (TR _))) (IR _) ?_))))))))))))));exact ⟨congrArg Value.bool (lin_eq hEk hl ht (by omega)),rfl⟩
end Go.Proofs.YtgcemienebmdeaaGreatDoor
namespace Go.Sl
open Go
section
variable {P:Program} [Jud P] {N:Nat} {ops:Array Oper} {als:List Nat} {al:List (Nat × Nat × Fresh)} {L0:Sl} {F0:Seg} {Kf:Sl→Imm→Seg→Prop} {fp:List (Nat × (Seg→Prop))} {rest:List (Nat × Bool)} {i:Nat} {l:Sl} {I:Imm} {M':Seg}
end
end Go.Sl

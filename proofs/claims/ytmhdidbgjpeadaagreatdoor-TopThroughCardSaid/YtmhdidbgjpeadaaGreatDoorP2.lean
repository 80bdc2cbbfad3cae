/- A part of the proof of the laws of this seat. -/
import Derived.Test.YtmhdidbgjpeadaaGreatDoorP1
import Derived.KernelRfl
import Derived.Conc.LoneCalls
import Derived.Below
import Derived.Laws.Strings
set_option linter.unusedVariables false
set_option linter.unusedSimpArgs false
namespace Go.Sh
open Go Go.Sl
def BO (p:List Int):Array Value:=(p.map encI).toArray
def encP (p:GI):Value:=.agg (BO p.val)
theorem JP (p:GI):(BO p.val).size=10:=by simp [BO,p.property]
theorem plCells_one (p:List Int):∀ u∈(BO p).toList,DF u=true:=fun u hu=>by
  simp only [BO,List.toList_toArray,Ai] at hu;obtain ⟨x,_,rfl⟩:=hu;rfl
def flatP:List (Nat × SK):=(List.range 10).map fun i=>(i,.i .i64)
theorem okC_pl (p:GI):okC (BO p.val) flatP=true:=by
  rw [okC,Ax];intro x hx;obtain ⟨i,hi,rfl⟩:=Ai.1 hx;have hi:=Bl.1 hi;have:i<p.val.length:=by rw [p.property];exact hi
  simp [BO,this,encI,skV]
theorem eqC_pl (a b:GI):eqC (BO a.val) (BO b.val) flatP=decide (a=b):=by
  have key:eqC (BO a.val) (BO b.val) flatP=true↔a=b:=by
    constructor
    · intro h
      rw [eqC,Ax] at h
      apply Subtype.ext
      refine List.ext_getElem (by rw [a.property,b.property]) fun i h1 h2=>?_
      have:=h (i,.i .i64) (Ai.2 ⟨i,Bl.2 (by rw [← a.property];exact h1),rfl⟩)
      simpa [BO,h1,h2,encI,scE] using this
    · rintro rfl
      rw [eqC,Ax];intro x hx;obtain ⟨i,hi,rfl⟩:=Ai.1 hx;have hi:=Bl.1 hi;have:i<a.val.length:=by rw [a.property];exact hi
      simp [BO,this,encI,scE]
  by_cases h:a=b
  · rw [Bg h];exact key.2 h
  · rw [Br h]
    cases h2:eqC (BO a.val) (BO b.val) flatP with
    | false=>rfl
    | true=>exact absurd (key.1 h2) h
theorem keyOk_place {P:Program} {kt:TypeId} (h:KK P 4 kt=some (10,flatP)) (hagg:DR P kt=some true):KeyOk P kt encP:=
  keyOk_flat h (by decide) hagg (fun p:GI=>BO p.val) JP okC_pl eqC_pl
theorem setRow_put (p:List Int) (c i k:Nat) (h:2*c+1<p.length):(HW (BO p) (0+c*2) [.int .i64 i,.int .i64 k]).toList=(BO (putP p c i k)).toList:=by
  simp only [HW,BO,putP];rw [show 0+c*2=2*c by omega];simp [List.map_set,encI]
section
variable {P:Program} {N:Nat} {ops:Array Oper} {i:Nat} {l:Sl} {I:Imm} {R M:Seg} {ty:TypeId} {gd:Option (Nat × Bool)} {K:Sl→Imm→Seg→Prop} {d:Nat}
theorem stp_storePl {T S : TypeId} {x y : Operand} {p : List Int} {b c i' k' : Nat} {M' : Seg} (k : Nat) (hop : FH ops N i = some (none, .store T x y, ty, gd)) (hg : FL ops l gd = some true)
    (hx:CB l x=some (.pointer (some ⟨b,0+c*2,none⟩))) (hy:CB l y=some (.agg #[.int .i64 i',.int .i64 k'])) (hsz:CW P T=some 2)
    (hk:M[k]?=some (b,Obj.cells (BO p) S (0,0))) (hc:2*c+1<p.length) (hM:M.set k (b,Obj.cells (BO (putP p c i' k')) S (0,0))=M')
    (h:K l I M'):Stp P N ops i l I M K:=by
  refine stp_store (cs:=(BO p).toList) (cs':=(BO (putP p c i' k')).toList) (vs:=[.int .i64 i',.int .i64 k']) (off:=0+c*2) (S:=S) (M':=M') k hop hg hx hy hsz rfl rfl rfl (by simpa using hk) ?_ ?_ (by simpa using hM) h
  · simp only [Aq,Cg,Array.length_toList,BO,List.size_toArray,Bi];omega
  · have:=setRow_put p c i' k' hc
    simpa using this
end
def YardR (E T:TypeId) (y:Nat) (v1 v2 v3:Value) (Y:Yard):Imm→Seg→Prop:=fun I Mr=>
  ∃ ws Ms,Mr=(y,Obj.cells #[v1,v2,v3] T (0,0))::Ms∧GL I v1 Y.cars∧AF I v2 Y.room∧Own E 1 BK v3 ws Ms∧RowsV I ws Y.tracks
theorem JW (Y:Yard):(BL Y).val.length=10:=(BL Y).property
theorem metV_getD (p:GI) (m:Met):(QH p (metV m)).getD (.int .i64 0)=.int .i64 ((KX p m).getD 0:Nat):=by
  rw [metV_get];cases KX p m <;> rfl
theorem metV_isSome (p:GI) (m:Met):(QH p (metV m)).isSome=(KX p m).isSome:=by
  rw [metV_get];cases KX p m <;> rfl
def EQ (ps:List (Yard→Bool)) (Y:Yard):Bool:=ps.all fun p=>p Y
def MQ:Yard→Bool:=fun _=>false
def GoalsOk (P:Program) (E T:TypeId) (I:Imm) (A:Yard) (gs:List Value) (ps:List (Yard→Bool)):Prop:=
  gs.length=ps.length∧∀ i,i<gs.length→∃ fid cv,gs.getD i undef=.func (.func fid) #[] (List.toArray cv)∧DN P fid=true ∧
    ∀ J y v1 v2 v3 Y ws Ms,I.le J→Kin A Y→GL J v1 Y.cars→AF J v2 Y.room→Own E 1 BK v3 ws Ms→RowsV J ws Y.tracks→(∀ j,j<i→(ps.getD j MQ) Y=true) →
      Ct P fid (.pointer (some ⟨y,0,none⟩)::cv).toArray J ((y,Obj.cells #[v1,v2,v3] T (0,0))::Ms) (fun v I' M'=>v=.bool ((ps.getD i MQ) Y)∧M'=(y,Obj.cells #[v1,v2,v3] T (0,0))::Ms)
theorem GoalsOk.mono {P:Program} {E T:TypeId} {I J:Imm} {A:Yard} {gs:List Value} {ps:List (Yard→Bool)} (h:GoalsOk P E T I A gs ps) (le:I.le J):GoalsOk P E T J A gs ps:=
  ⟨h.1,fun i hi=>by
    obtain ⟨fid,cv,e,hc,hct⟩:=h.2 i hi
    exact ⟨fid,cv,e,hc,fun K y v1 v2 v3 Y ws Ms hle=>hct K y v1 v2 v3 Y ws Ms (le.trans hle)⟩⟩
theorem allP_done {ps:List (Yard→Bool)} {Y:Yard} (h:∀ j,j<ps.length→(ps.getD j MQ) Y=true):EQ ps Y=true:=by
  rw [EQ,Ax];intro p hp;obtain ⟨i,hi,rfl⟩:=Cc.1 hp;have:=h i hi
  simpa [List.getD,hi] using this
theorem allP_miss {ps:List (Yard→Bool)} {Y:Yard} {k:Nat} (hk:k<ps.length) (h:(ps.getD k MQ) Y=false):EQ ps Y=false:=by
  rw [EQ,List.all_eq_false];refine ⟨ps.getD k MQ,AO hk,by simp [h]⟩
theorem before_snoc {ps:List (Yard→Bool)} {Y:Yard} {k:Nat} (h:∀ j,j<k→(ps.getD j MQ) Y=true) (hk:(ps.getD k MQ) Y=true):∀ j,j<k+1→(ps.getD j MQ) Y=true:=fun j hj=>by
  rcases Nat.lt_or_ge j k with h1 | h1
  · exact h j h1
  · have:j=k:=by omega
    subst this;exact hk
def GB (order:List Int) (Y:Yard):Bool:=decide (Y.tracks.getD 0 []=order)
def wholeP (Y:Yard):Bool:=decide (((Y.tracks.getD 0 []).length:Int)=(Y.cars.length:Int))
def lastP (cs t:List Int):Bool:=(t.drop (t.length-cs.length)).all fun c=>decide (c∈cs)
theorem in_snoc {l cs:List Int} {k:Nat} (h:∀ j,j<k→l.getD j 0∈cs) (hk:l.getD k 0∈cs):∀ j,j<k+1→l.getD j 0∈cs:=fun j hj=>by
  rcases Nat.lt_or_ge j k with h1 | h1
  · exact h j h1
  · have:j=k:=by omega
    subst this;exact hk
theorem lastP_miss {cs t:List Int} {k:Nat} (hk:k<(t.drop (t.length-cs.length)).length) (h:¬ (t.drop (t.length-cs.length)).getD k 0∈cs):lastP cs t=false:=by
  rw [lastP,List.all_eq_false];exact ⟨_,AO (d:=0) hk,by simpa using h⟩
theorem lastP_all {cs t:List Int} (h:∀ j,j<(t.drop (t.length-cs.length)).length→(t.drop (t.length-cs.length)).getD j 0∈cs):lastP cs t=true:=by
  rw [lastP,Ax];intro c hc;obtain ⟨i,hi,rfl⟩:=Cc.1 hc;have:=h i hi;rw [List.getD,Bf hi] at this
  simpa only [Option.getD_some,Ay] using this
theorem Kin.good {A Y:Yard} (f:Fine A) (k:Kin A Y):GoodY Y:=by
  refine ⟨fun t ht c hc=>?_,by rw [k.cars];exact f.good.small,by rw [k.room,k.len];exact f.good.len,by rw [k.perm.length_eq];exact f.good.sum⟩;rw [k.cars];exact MC f.ok c (k.perm.mem_iff.1 (List.mem_flatten.2 ⟨t,ht,hc⟩))
theorem Kin.len3 {A Y:Yard} (f:Fine A) (k:Kin A Y):Y.tracks.length≤3:=by rw [k.len,f.len];exact f.room3
theorem Kin.cars5 {A Y:Yard} (f:Fine A) (k:Kin A Y):Y.cars.length≤5:=by rw [k.cars];exact f.cars
theorem Kin.pos {A Y:Yard} (f:Fine A) (k:Kin A Y):0<Y.tracks.length:=by rw [k.len,f.len];exact f.room1
theorem back_ok {Y : Yard} {s : Shift} (h : BX Y s = 0) : (0 ≤ (BA s).frm ∧ (BA s).frm < (moved Y s).tracks.length) ∧ (0 ≤ (BA s).to ∧ (BA s).to < (moved Y s).tracks.length) ∧
    (0≤(BA s).many∧(BA s).many≤((moved Y s).tracks.getD (BA s).frm.toNat []).length):=by
  have m:=mayOk h;have hf:=m.frm;have ht:=m.to;have hne:=m.ne;have hm:=m.many;have hne':s.frm.toNat≠s.to.toNat:=by omega
  refine ⟨by simpa [BA,moved] using ht,by simpa [BA,moved] using hf,by simp only [BA];omega,?_⟩;simp only [BA,moved,List.getD];rw [Bk hne',Bp (by omega)];simp only [Option.getD_some,Ad,Cq,EI,trk];simp only [List.getD] at hm ⊢;omega
theorem none_of {α:Type} {o:Option α} (h:o.isSome=false):o=none:=by cases o <;> first | rfl | cases h
theorem some_of {α:Type} {o:Option α} (h:o.isSome=true):∃ l,o=some l:=by cases o <;> first | cases h;done | exact ⟨_,rfl⟩
theorem MO {xs ds:List Shift} {s:Shift} (h:xs++[s] <+: ds):ds.drop xs.length=s::ds.drop (xs++[s]).length:=by
  obtain ⟨r,rfl⟩:=h;simp
theorem mem_of_prefix {xs ds:List Shift} {s:Shift} (h:xs++[s] <+: ds):s∈ds:=h.subset (by simp)
theorem try_next {f:Shift→Met→Option (List Shift) × Met} {ds xs:List Shift} {s:Shift} {m:Met} (h:xs++[s] <+: ds) (hf:(f s m).1=none):GY f (ds.drop xs.length) m=GY f (ds.drop (xs++[s]).length) (f s m).2:=by
  rw [MO h];simp only [GY];cases hr:f s m with
  | mk o m'=>rw [hr] at hf;simp only at hf;subst hf;rfl
theorem try_hit {f:Shift→Met→Option (List Shift) × Met} {ds xs:List Shift} {s:Shift} {m:Met} {l:List Shift} (h:xs++[s] <+: ds) (hf:(f s m).1=some l):GY f (ds.drop xs.length) m=(some (s::l),(f s m).2):=by
  rw [MO h];simp only [GY];cases hr:f s m with
  | mk o m'=>rw [hr] at hf;simp only at hf;subst hf;rfl
theorem try_done {f:Shift→Met→Option (List Shift) × Met} {ds:List Shift} {m:Met}:GY f (ds.drop ds.length) m=(none,m):=by
  rw [DJ (Bj _)];rfl
theorem search_goal {g:Yard→Bool} {d:Nat} {Y:Yard} {m:Met} (h:g Y=true):AZ g d Y m=(some [],m):=by
  cases d <;> simp [AZ,h]
theorem search_zero {g:Yard→Bool} {Y:Yard} {m:Met} (h:g Y=false):AZ g 0 Y m=(none,m):=by simp [AZ,h]
theorem search_stop {g:Yard→Bool} {d:Nat} {Y:Yard} {m:Met} (h:g Y=false) (hd:d=0∨(KX (BL Y) m).isSome=true∧d≤(KX (BL Y) m).getD 0):AZ g d Y m=(none,m):=by
  cases d with
  | zero=>exact search_zero h
  | succ d=>
    rcases hd with hd | ⟨h1,h2⟩
    · cases hd
    · simp only [AZ,h,Bz,if_false]
      rw [if_pos];cases hg:KX (BL Y) m with
      | none=>rw [hg] at h1;cases h1
      | some n=>rw [hg] at h2;simpa [stopped] using h2
theorem search_go {g : Yard → Bool} {d : Nat} {Y : Yard} {m : Met} (h : g Y = false) (hd : ¬ ((KX (BL Y) m).isSome = true ∧ d + 1 ≤ (KX (BL Y) m).getD 0)) :
    AZ g (d+1) Y m=GY (fun s met=>AZ g d (moved Y s) met) ((draws Y).drop ([]:List Shift).length) (updM (BL Y) (d+1) m):=by
  simp only [AZ,h,Bz,if_false,Cg,List.drop_zero];rw [if_neg];cases hg:KX (BL Y) m with
  | none=>simp [stopped]
  | some n=>
    rw [hg] at hd
    simpa [stopped] using hd
theorem tryAll_len {f:Shift→Met→Option (List Shift) × Met} {d:Nat} (h:∀ s m,((f s m).1.getD []).length≤d):∀ (ss:List Shift) (m:Met),((GY f ss m).1.getD []).length≤d+1:=by
  intro ss
  induction ss with
  | nil=>intro m;simp [GY]
  | cons s r ih=>
    intro m;simp only [GY];have:=h s m;cases hr:f s m with
    | mk o m'=>
      rw [hr] at this;cases o with
      | none=>exact ih m'
      | some l=>simpa using this
theorem search_len (g:Yard→Bool):∀ (d:Nat) (Y:Yard) (m:Met),((AZ g d Y m).1.getD []).length≤d:=by
  intro d
  induction d with
  | zero=>intro Y m;simp only [AZ];split <;> simp
  | succ d ih=>
    intro Y m;simp only [AZ]
    split
    · simp
    · split
      · simp
      · exact tryAll_len (fun s m=>ih _ m) _ _
def stopB (d:Nat) (o:Option Nat):Bool:=(cmp .eql (↑d) (0))||(o.isSome&&cmp .geq (↑(o.getD 0)) (↑d))
theorem search_stop2 {g:Yard→Bool} {d:Nat} {Y:Yard} {m:Met} (h:g Y=false) (hb:stopB d (KX (BL Y) m)=true):AZ g d Y m=(none,m):=by
  refine search_stop h ?_;unfold stopB at hb;rcases or_t hb with h1 | h1
  · exact .inl (by have:=CL h1;omega)
  · obtain ⟨h2,h3⟩:=and_t h1
    exact .inr ⟨h2,by have:=geq_t h3;omega⟩
theorem search_go_of {d:Nat} {o:Option Nat} (hb:stopB d o=false):d≠0∧¬ (o.isSome=true∧d≤o.getD 0):=by
  unfold stopB at hb;obtain ⟨h1,h2⟩:=or_f hb;refine ⟨by have:=CI h1;omega,fun ⟨h3,h4⟩=>?_⟩;rw [h3,Bool.true_and] at h2;have:=geq_f h2;omega
theorem search_go2 {g : Yard → Bool} {d e : Nat} {Y : Yard} {m : Met} (h : g Y = false) (hde : d = e + 1) (hd : ¬ ((KX (BL Y) m).isSome = true ∧ d ≤ (KX (BL Y) m).getD 0)) :
    AZ g d Y m=GY (fun s met=>AZ g e (moved Y s) met) ((draws Y).drop ([]:List Shift).length) (updM (BL Y) (e+1) m):=by
  subst hde;exact search_go h hd
theorem QB {Y:Yard} (f:Fine Y) {g:Yard→Bool} {d:Nat} (h:∀ m,m<d→plain g m Y=none):(AZ g d Y []).1=plain g d Y:=
  (searchM_ok f d Y [] (Kin.refl Y) (fun Z _ n hn=>by cases hn) h).1
theorem findSome_at {α β:Type} {f:α→Option β}:∀ (l:List α) (i:Nat) (hi:i<l.length),(∀ j (hj:j<i),f (l[j]'(by omega))=none)→(f l[i]).isSome=true→l.findSome? f=f l[i]:=by
  intro l
  induction l with
  | nil=>intro i hi;simp at hi
  | cons x l ih=>
    intro i hi h hs;cases i with
    | zero=>
      simp only [List.getElem_cons_zero] at hs ⊢;rw [List.findSome?_cons];cases hf:f x with
      | none=>rw [hf] at hs;cases hs
      | some y=>rfl
    | succ i=>
      have h0:=h 0 (by omega);simp only [List.getElem_cons_zero] at h0;rw [List.findSome?_cons,h0];simp only [List.getElem_cons_succ] at hs ⊢;exact ih i (by simpa using hi) (fun j hj=>by have:=h (j+1) (by omega);simpa using this) hs
theorem fewest_hit {g:Yard→Bool} {Y:Yard} {d:Nat} (hd:d<5) (h:∀ m,m<d→plain g m Y=none) (hp:(plain g d Y).isSome=true):CP g Y=plain g d Y:=by
  have:=findSome_at (f:=fun d=>plain g d Y) (List.range 5) d (by simpa using hd) (fun j hj=>by simpa using h j hj) (by simpa using hp);rw [CP,this];simp
theorem fewest_none {g:Yard→Bool} {Y:Yard} (h:∀ m,m<5→plain g m Y=none):CP g Y=none:=by
  rw [CP,List.findSome?_eq_none_iff];intro d hd;exact h d (Bl.1 hd)
theorem below_next {g:Yard→Bool} {Y:Yard} {d:Nat} (h:∀ m,m<d→plain g m Y=none) (hd:plain g d Y=none):∀ m,m<d+1→plain g m Y=none:=fun m hm=>by
  rcases Nat.lt_or_ge m d with h1 | h1
  · exact h m h1
  · have:m=d:=by omega
    subst this;exact hd
def MX {α:Type} (o:Option α):Int:=if o.isSome then 0 else 11
theorem errOf_some {α:Type} {o:Option α} (h:o.isSome=true):MX o=0:=by simp [MX,h]
theorem errOf_none {α:Type} {o:Option α} (h:o=none):MX o=11:=by simp [MX,h]
def goO (n:Nat):List Int→List Int→Int
  | _,[]=>0
  | pre,c::r=>if inB c 0 (↑n-1) then (if c∈pre then 4 else goO n (pre++[c]) r) else 3
def EM (Y:Yard) (order:List Int):Int:=if BF Y=0 then goO Y.cars.length [] order else BF Y
theorem orderErr_bad {Y:Yard} {o:List Int} (h:BF Y≠0):EM Y o=BF Y:=if_neg h
theorem orderErr_ok {Y:Yard} {o:List Int} (h:BF Y=0):EM Y o=goO Y.cars.length (o.take 0) (o.drop 0):=if_pos h
theorem goO_unknown {n k:Nat} {o:List Int} (hk:k<o.length) (h:inB (o.getD k 0) 0 (↑n-1)=false):goO n (o.take k) (o.drop k)=3:=by
  rw [BV (d:=0) hk];simp only [goO];rw [if_neg (by rw [h];simp)]
theorem goO_twice {n k:Nat} {o:List Int} (hk:k<o.length) (h:inB (o.getD k 0) 0 (↑n-1)=true) (hm:o.getD k 0∈o.take k):goO n (o.take k) (o.drop k)=4:=by
  rw [BV (d:=0) hk];simp only [goO];rw [if_pos h,if_pos hm]
theorem goO_next {n k:Nat} {o:List Int} (hk:k<o.length) (h:inB (o.getD k 0) 0 (↑n-1)=true) (hm:¬ o.getD k 0∈o.take k):goO n (o.take k) (o.drop k)=goO n (o.take (k+1)) (o.drop (k+1)):=by
  rw [BV (d:=0) hk,CF (d:=0) hk];simp only [goO];rw [if_pos h,if_neg hm]
theorem goO_done {n k:Nat} {o:List Int} (hk:o.length≤k):goO n (o.take k) (o.drop k)=0:=by rw [DJ hk];rfl
def FT (Y:Yard) (order:List Int):List Shift × Int:=
  if EM Y order=0 then ((CP (EQ [GB order]) Y).getD [],MX (CP (EQ [GB order]) Y)) else ([],EM Y order)
theorem fewestE_bad {Y:Yard} {o:List Int} (h:EM Y o≠0):FT Y o=([],EM Y o):=if_neg h
theorem OQ {Y:Yard} {o:List Int} (h:EM Y o=0):FT Y o=((CP (EQ [GB o]) Y).getD [],MX (CP (EQ [GB o]) Y)):=if_pos h
theorem orderErr_valid {Y:Yard} {o:List Int} (h:EM Y o=0):Valid Y:=by
  unfold EM at h
  split at h
  · assumption
  · exact h
def MR (cs:List Int) (k:Nat):Option Int:=if k=0 then none else some (cs.getD (k-1) 0)
def tooLow (p:Option Int) (c:Int):Bool:=match p with | none=>false | some x=>decide (c≤x)
def goL (n:Nat):Option Int→List Int→Int
  | _,[]=>0
  | p,c::r=>if inB c 0 (↑n-1) then (if tooLow p c then 5 else goL n (some c) r) else 3
theorem goL_unknown {n k:Nat} {o:List Int} (hk:k<o.length) (h:inB (o.getD k 0) 0 (↑n-1)=false):goL n (MR o k) (o.drop k)=3:=by
  rw [BV (d:=0) hk];simp only [goL];rw [if_neg (by rw [h];simp)]
def lowB (o:List Int) (k:Nat):Bool:=(cmp .gtr (↑k) (0))&&cmp .leq (o.getD k 0) (o.getD (((↑k:Int)-1).toNat) 0)
theorem lowB_eq (o:List Int) (k:Nat):tooLow (MR o k) (o.getD k 0)=lowB o k:=by
  unfold MR lowB
  by_cases h:k=0
  · subst h;simp [tooLow,cmp]
  · have e:((↑k:Int)-1).toNat=k-1:=by omega
    have h0:0<k:=by omega
    rw [if_neg h,e];simp [tooLow,cmp,h0]
theorem goL_low {n k:Nat} {o:List Int} (hk:k<o.length) (h:inB (o.getD k 0) 0 (↑n-1)=true) (hm:lowB o k=true):goL n (MR o k) (o.drop k)=5:=by
  rw [BV (d:=0) hk];simp only [goL];rw [if_pos h,lowB_eq,if_pos hm]
theorem goL_next {n k:Nat} {o:List Int} (hk:k<o.length) (h:inB (o.getD k 0) 0 (↑n-1)=true) (hm:lowB o k=false):goL n (MR o k) (o.drop k)=goL n (MR o (k+1)) (o.drop (k+1)):=by
  rw [BV (d:=0) hk];simp only [goL];rw [if_pos h,lowB_eq,if_neg (by rw [hm];simp)];simp [MR]
theorem goL_done {n k:Nat} {o:List Int} (hk:o.length≤k):goL n (MR o k) (o.drop k)=0:=by rw [DJ hk];rfl
theorem goL_asc {n:Nat}:∀ (l:List Int) (p:Option Int),goL n p l=0→(∀ c∈l,0≤c∧c<n)∧Asc l∧∀ x,p=some x→∀ c∈l,x<c:=by
  intro l
  induction l with
  | nil=>intro p _;exact ⟨fun c h=>by simp at h,Asc.nil,fun x _ c h=>by simp at h⟩
  | cons c r ih=>
    intro p h;simp only [goL] at h
    split at h
    · rename_i h1
      split at h
      · cases h
      · rename_i h2
        obtain ⟨g1,g2,g3⟩:=ih (some c) h;have:=JA h1;refine ⟨fun x hx=>?_,List.pairwise_cons.2 ⟨g3 c rfl,g2⟩,fun x e y hy=>?_⟩
        · rcases Ac.1 hx with e | hx
          · subst e;omega
          · exact g1 x hx
        · subst e
          have hxc:x<c:=by simpa [tooLow] using h2
          rcases Ac.1 hy with e | hy
          · subst e;exact hxc
          · have:=g3 c rfl y hy;omega
    · cases h
theorem Asc.nodup {l:List Int} (h:Asc l):l.Nodup:=h.imp fun hab=>by omega
theorem goL_len {n:Nat} {l:List Int} (h:goL n none l=0):l.length≤n:=by
  obtain ⟨h1,h2,_⟩:=goL_asc l none h;exact JE h2.nodup h1
def KF (cs:List Int):List (Yard→Bool):=[wholeP,fun Y=>lastP cs (Y.tracks.getD 0 [])]
def EE (Y:Yard) (cs:List Int):Int:=if BF Y=0 then goL Y.cars.length none cs else BF Y
theorem leaveErr_bad {Y:Yard} {o:List Int} (h:BF Y≠0):EE Y o=BF Y:=if_neg h
theorem leaveErr_ok {Y:Yard} {o:List Int} (h:BF Y=0):EE Y o=goL Y.cars.length (MR o 0) (o.drop 0):=if_pos h
theorem MP {Y:Yard} {o:List Int} (h:EE Y o=0):Valid Y:=by
  unfold EE at h
  split at h
  · assumption
  · exact h
theorem leaveErr_len {Y:Yard} {o:List Int} (h:EE Y o=0):o.length≤Y.cars.length:=by
  have hv:=MP h;rw [EE,if_pos (show BF Y=0 from hv)] at h;exact goL_len h
def BD (Y:Yard) (cs:List Int):List Shift × Int:=
  if EE Y cs=0 then ((CP (EQ (KF cs)) Y).getD [],MX (CP (EQ (KF cs)) Y)) else ([],EE Y cs)
theorem IP {Y:Yard} {o:List Int} (h:EE Y o≠0):BD Y o=([],EE Y o):=if_neg h
theorem leaveE_ok {Y:Yard} {o:List Int} (h:EE Y o=0):BD Y o=((CP (EQ (KF o)) Y).getD [],MX (CP (EQ (KF o)) Y)):=if_pos h
def wide (Y:Yard) (i:Nat):Yard:=⟨Y.cars,Y.room.set i 20,Y.tracks⟩
theorem moved_back {Y:Yard} {s:Shift} (h:BX Y s=0):moved (moved Y s) (BA s)=Y:=by
  have m:=mayOk h;have hf:=m.frm;have ht:=m.to;have hne:=m.ne;have hm:=m.many;have hne':s.to.toNat≠s.frm.toNat:=by omega
  rcases Y with ⟨cs,rm,ts⟩
  simp only at hf ht hm;unfold moved BA;simp only [Yard.mk.injEq,true_and]
  generalize hA:ts.getD s.frm.toNat []=A at hm
  generalize hB:ts.getD s.to.toNat []=B
  have hA2:trk ⟨cs,rm,ts⟩ s.frm=A:=hA;have hB2:trk ⟨cs,rm,ts⟩ s.to=B:=hB;have hn:(EI ⟨cs,rm,ts⟩ s).toNat=A.length-s.many.toNat:=by simp only [EI,hA2];omega
  rw [hA2,hB2,hn];have g1:∀ (X Z:List Int),trk ⟨cs,rm,(ts.set s.to.toNat X).set s.frm.toNat Z⟩ s.to=X:=fun X Z=>by
    simp only [trk,List.getD];rw [Bk (Ne.symm hne'),Bp (by omega)];rfl
  have g2:∀ (X Z:List Int),trk ⟨cs,rm,(ts.set s.to.toNat X).set s.frm.toNat Z⟩ s.frm=Z:=fun X Z=>by
    simp only [trk,List.getD];rw [Bp (by rw [Bv];omega)];rfl
  have hc:(EI ⟨cs,rm,(ts.set s.to.toNat (B++A.drop (A.length-s.many.toNat))).set s.frm.toNat (A.take (A.length-s.many.toNat))⟩ ⟨s.to,s.frm,s.many⟩).toNat=B.length:=by
    simp only [EI,g1,Ad,Cq];omega
  rw [g1,g2,hc];simp only [List.drop_left,List.take_left,Ce];refine list_eq (d:=[]) (by simp) fun j hj=>?_
  simp only [Bv] at hj;simp only [List.getD]
  by_cases h1:s.to.toNat=j
  · subst h1
    rw [Bp (by simpa using hj)];simp only [List.getD] at hB
    simpa using hB.symm
  · rw [Bk h1]
    by_cases h2:s.frm.toNat=j
    · subst h2
      rw [Bp (by simpa using hj)];simp only [List.getD] at hA
      simpa using hA.symm
    · rw [Bk h2,Bk h2,Bk h1]
def encS (s:Shift):List Value:=[.agg #[.int .i64 s.frm,.int .i64 s.to,.int .i64 s.many]]
end Go.Sh
namespace Go.Sl
open Go
section
variable {P:Program} {N:Nat} {ops:Array Oper} {i:Nat} {l:Sl} {I:Imm} {R M:Seg} {ty:TypeId} {gd:Option (Nat × Bool)} {K:Sl→Imm→Seg→Prop} {d:Nat}
variable {κ:Type} [DecidableEq κ] {enc:κ→Value}
theorem stp_builtin {b : Builtin} {args : Array Operand} {tys : Array TypeId} {vals : List Value} {dst : Option Tmp}
    (hop:FH ops N i=some (dst,.call { callee:=.builtin b,args,argTypes:=tys },ty,gd)) (hg:FL ops l gd=some true) (hk:∀ x∈args,KE l x) (hvals:args.toList.map (rho l)=vals)
    (h:∀ (cs:Array Bool),wpL P (builtin b tys ty cs vals.toArray) (fun n M'=>∃ v,(n=.value v∨(n=.skip∧v=undef))∧K (ups dst v l) I M') I M):Stp P N ops i l I M K:=
  DP hop hg (by simpa [Op.operands,Call.operands] using hk) (by
    have e:args.map (rho l)=vals.toArray:=by
      apply Array.ext'
      simp [hvals]
    show wpL P (do let d ← resolve (rho l) { callee:=.builtin b,args,argTypes:=tys } ty;invoke d.target d.args) _ I M
    unfold resolve
    simp only [e]
    exact h _)
theorem stp_delete {x y : Operand} {T T' kt et r cl : Nat} {es : Array MapEntry} {kvs : List (κ × Value)} {k : κ} (n : Nat) (hop : FH ops N i = some (none, .call { callee := .builtin .delete, args := #[x, y], argTypes := #[T, T'] }, ty, gd)) (hg : FL ops l gd = some true)
    (hT:tyMap P T=some (kt,et)) (hK:KeyOk P kt enc) (hx:CB l x=some (.map (some r))) (hy:CB l y=some (enc k)) (hn:M[n]?=some (r,Obj.map es cl)) (his:MapIs enc es kvs)
    (h:∀ es' cl',MapIs enc es' (del k kvs)→K l I (M.set n (r,Obj.map es' cl'))):Stp P N ops i l I M K:=by
  refine stp_builtin (vals:=[.map (some r),enc k]) hop hg (HE hx hy) (by simp [BI hx,BI hy]) fun cs=>?_
  show wpL P (Builtin.delete_ #[T,T'] ty #[.map (some r),enc k] >>= fun x=>pure (Next.value x)) _ I M;refine DB ?_;unfold Builtin.delete_;show wpL P (underlying T >>= _) _ I M;rw [AE,AK (HO hT)];show wpL P (Sem.getObj r _) _ I M;refine ⟨_,.inl (An hn),rfl,?_⟩;show wpL P (Instr.checkKey _ _ _ _ >>= _) _ I _;rw [AE];refine hK.check _ _ _ _ _ ?_;rw [AE];refine hK.find k es.toList kvs _ _ _ his ?_;have hf:=MB k undef kvs 0;cases hkv:HD k kvs 0 with
  | none=>
    rw [hkv] at hf;simp only at hf;show wpL P (Sem.setObj r _ _) _ I M;refine GG n rfl hn rfl ?_;exact ⟨_,.inl rfl,h _ _ (by rw [hf.2];exact his)⟩
  | some p=>
    obtain ⟨j,w⟩:=p;rw [hkv] at hf;simp only [Cu] at hf;show wpL P (Sem.setObj r _ _) _ I M;refine GG n rfl hn rfl ?_;refine ⟨_,.inl rfl,h _ _ ?_⟩;rw [hf.2.2.1];exact mapIs_erase his j
end
end Go.Sl
namespace Go.Sh
open Go Go.Sl
def cmpI (a b:Int):Int:=if a<b then -1 else if b<a then 1 else 0
def cmpL:List Int→List Int→Int
  | [],[]=>0
  | [],_::_=>-1
  | _::_,[]=>1
  | a::ar,b::br=>if cmpI a b=0 then cmpL ar br else cmpI a b
section
variable {xs ys:List Int} {k:Nat}
theorem cmpL_more (h1:k<xs.length) (h2:ys.length≤k):cmpL (xs.drop k) (ys.drop k)=1:=by
  rw [BV (d:=0) h1,DJ h2];rfl
theorem cmpL_diff (h1:k<xs.length) (h2:k<ys.length) (h:cmpI (xs.getD k 0) (ys.getD k 0)≠0):cmpL (xs.drop k) (ys.drop k)=cmpI (xs.getD k 0) (ys.getD k 0):=by
  rw [BV (d:=0) h1,BV (d:=0) h2];simp only [cmpL];rw [if_neg h]
theorem cmpL_next (h1:k<xs.length) (h2:k<ys.length) (h:cmpI (xs.getD k 0) (ys.getD k 0)=0):cmpL (xs.drop k) (ys.drop k)=cmpL (xs.drop (k+1)) (ys.drop (k+1)):=by
  rw [BV (d:=0) h1,BV (d:=0) h2];simp only [cmpL];rw [if_pos h]
theorem cmpL_less (h1:xs.length≤k) (h2:k<ys.length):cmpL (xs.drop k) (ys.drop k)=-1:=by
  rw [DJ h1,BV (d:=0) h2];rfl
theorem cmpL_same (h1:xs.length≤k) (h2:ys.length≤k):cmpL (xs.drop k) (ys.drop k)=0:=by
  rw [DJ h1,DJ h2];rfl
end
def stepB (cs:List Car) (t:List Int) (k:Nat) (acc:List (List Int)):List (List Int):=
  if DA cs t ↑k then acc.set (acc.length-1) (acc.getD (acc.length-1) []++[t.getD k 0]) else acc++[[t.getD k 0]]
def blocksTo (cs:List Car) (t:List Int):Nat→List (List Int)
  | 0=>[]
  | k+1=>stepB cs t k (blocksTo cs t k)
def NK (cs:List Car) (t:List Int):List (List Int):=blocksTo cs t t.length
section
variable {bl:List (List Int)} {rec:List Int→List Int→List (List Int)} {begun us:List Int} {k:Nat}
end
structure Trp where
  way:List Int
  km:Int
  ch:Int
def QL:Trp:=⟨[],0,0⟩
section
variable (W:Wag) (N:Net)
def goT (p:Plc) (t:Trp) (i:Nat):Trp:=⟨t.way++[(i:Int)],t.km+(N.tracks.getD i AB).km,if (CT W N [] p i).2.1=true then t.ch+1 else t.ch⟩
def dfsM (to:Int):Nat→List Plc→Plc→Trp→List Trp
  | 0,_,_,_=>[]
  | f + 1, met, p, t => if p.st = to then [t] else (List.range N.tracks.length).flatMap fun i =>
      if ¬ (CT W N [] p i).2.2=0 then [] else if (CT W N [] p i).1∈met++[p] then [] else dfsM to f (met++[p]) (CT W N [] p i).1 (goT W N p t i)
def brM (to:Int) (f:Nat) (met:List Plc) (p:Plc) (t:Trp) (i:Nat):List Trp:=
  if ¬ (CT W N [] p i).2.2=0 then [] else if (CT W N [] p i).1∈met++[p] then [] else dfsM W N to f (met++[p]) (CT W N [] p i).1 (goT W N p t i)
theorem LB (to:Int) (f:Nat) (met:List Plc) (p:Plc) (t:Trp):dfsM W N to (f+1) met p t=if p.st=to then [t] else (List.range N.tracks.length).flatMap (brM W N to f met p t):=rfl
def okM:Plc→List Int→Prop
  | _,[]=>True
  | p,t::r=>(0≤t∧t.toNat<N.tracks.length)∧(CT W N [] p t.toNat).2.2=0∧okM (CT W N [] p t.toNat).1 r
end
def FY (p:Plc):Prop:=(0≤p.st∧p.st<6)∧(1≤p.ga∧p.ga≤3)
def JJ (N:Net) (p:Plc) (i:Nat):Plc:=⟨IG (N.tracks.getD i AB) p.st,(N.tracks.getD i AB).gauge⟩
def endM (N:Net):Plc→List Int→Plc
  | p,[]=>p
  | p,t::r=>endM N (JJ N p t.toNat) r
def kmM (N:Net):List Int→Int
  | []=>0
  | t::r=>(N.tracks.getD t.toNat AB).km+kmM N r
theorem endM_append (N:Net) (a b:List Int):∀ p,endM N p (a++b)=endM N (endM N p a) b:=by
  induction a with
  | nil=>intro p;rfl
  | cons x a ih=>intro p;exact ih _
theorem kmM_append (N:Net) (a b:List Int):kmM N (a++b)=kmM N a+kmM N b:=by
  induction a with
  | nil=>simp [kmM]
  | cons x a ih=>simp only [Ci,kmM,ih];omega
section
variable {W:Wag} {N:Net}
theorem QA {p : Plc} {i : Nat} (h : (CT W N [] p i).2.2 = 0) : (CT W N [] p i).1 = JJ N p i ∧ (p.st = (N.tracks.getD i AB).a ∨ p.st = (N.tracks.getD i AB).b) ∧ BU W (N.tracks.getD i AB) 6 = [] ∧
    ((N.tracks.getD i AB).gauge=p.ga∨p.st∈N.shops):=by
  unfold CT at h ⊢;simp only at h ⊢
  split at h
  · simp at h
  · rename_i h1
    rw [if_neg h1];have h2:¬ (i:Int)∈([]:List Int):=by simp
    rw [if_neg h2] at h ⊢
    split at h
    · rename_i h3
      exfalso
      simp only at h;cases hb:BU W (N.tracks.getD i AB) 6 with
      | nil=>rw [hb] at h3;simp at h3
      | cons x r=>
        rw [hb] at h;have hx:x∈BU W (N.tracks.getD i AB) 6:=by rw [hb];simp
        obtain ⟨k,_,rfl⟩:=Ai.1 hx;simp at h;omega
    · rename_i h3
      rw [if_neg h3]
      split at h
      · simp at h
      · rename_i h4
        rw [if_neg h4];refine ⟨rfl,by omega,?_,?_⟩
        · exact Dg (by omega)
        · by_cases hg:(N.tracks.getD i AB).gauge=p.ga
          · exact .inl hg
          · exact .inr (Classical.not_not.1 fun hs=>h4 ⟨hg,hs⟩)
theorem ok_run {p : Plc} {i : Nat} (h1 : p.st = (N.tracks.getD i AB).a ∨ p.st = (N.tracks.getD i AB).b) (h2 : BU W (N.tracks.getD i AB) 6 = []) (h3 : (N.tracks.getD i AB).gauge = p.ga ∨ p.st ∈ N.shops) :
    CT W N [] p i=(JJ N p i,!decide ((N.tracks.getD i AB).gauge=p.ga),0):=runM_k h1 rfl (by simp) (by rw [h2];rfl) h3
theorem move_good (hN:GoodNet N) {p:Plc} {i:Nat} (hi:i<N.tracks.length):FY (JJ N p i):=by
  have hr:=hN.at hi;have hs:=hN.stops;have ha:=hr.a;have hb:=hr.b;have hg:=hr.gauge;refine ⟨?_,hg⟩;show 0≤IG _ _∧IG _ _<6;unfold IG
  split <;> omega
theorem run_good (hN:GoodNet N) {p:Plc} {i:Nat} (hi:i<N.tracks.length) (h:(CT W N [] p i).2.2=0):FY (CT W N [] p i).1:=(QA h).1▸move_good hN hi
theorem dfs_sound {to : Int} : ∀ (f : Nat) (met : List Plc) (p : Plc) (t x : Trp), x ∈ dfsM W N to f met p t →
    ∃ way,x.way=t.way++way∧okM W N p way∧(endM N p way).st=to∧x.km=t.km+kmM N way∧way.length<f:=by
  intro f
  induction f with
  | zero=>intro met p t x h;simp [dfsM] at h
  | succ f ih=>
    intro met p t x h;rw [LB] at h
    split at h
    · rename_i hp
      rw [Af] at h;subst h;exact ⟨[],by simp,trivial,hp,by simp [kmM],by simp⟩
    · obtain ⟨i,hi,hx⟩:=List.mem_flatMap.1 h
      rw [Bl] at hi;unfold brM at hx
      split at hx
      · simp at hx
      · rename_i h1
        split at hx
        · simp at hx
        · have h1:=Classical.not_not.1 h1
          obtain ⟨way,e1,e2,e3,e4,e5⟩:=ih _ _ _ _ hx;refine ⟨(i:Int)::way,?_,⟨⟨by omega,by simpa using hi⟩,by simpa using h1,by simpa using e2⟩,?_,?_,?_⟩
          · rw [e1];simp [goT]
          · rw [(QA h1).1] at e3;simpa [endM] using e3
          · rw [e4];simp only [goT,kmM,Bx];omega
          · simp only [Aq];omega
end
section
variable (W:Wag) (N:Net) (rb:List Int)
def Nx (p q:Plc):Prop:=∃ i,i<N.tracks.length∧(CT W N rb p i).2.2=0∧(CT W N rb p i).1=q
inductive Rch (p:Plc):Plc→Prop
  | here:Rch p p
  | more {q r:Plc}:Rch p q→Nx W N rb q r→Rch p r
end
section
variable {W:Wag} {N:Net} {to:Int}
inductive PathN (W:Wag) (N:Net) (to:Int) (met:List Plc):Nat→Plc→Prop
  | zero {p:Plc}:p.st=to→p∉met→PathN W N to met 0 p
  | succ {n:Nat} {p r:Plc}:p∉met→Nx W N [] p r→PathN W N to met n r→PathN W N to met (n+1) p
theorem PathN.notin {met:List Plc} {n:Nat} {p:Plc} (h:PathN W N to met n p):p∉met:=by cases h <;> assumption
theorem PathN.part {met:List Plc} {x:Plc}:∀ {n:Nat} {p:Plc},PathN W N to met n p→PathN W N to (met++[x]) n p∨∃ m,m≤n∧PathN W N to met m x:=by
  intro n p h
  induction h with
  | @zero p h1 h2=>
    by_cases e:p=x
    · exact .inr ⟨0,Bj _,e▸.zero h1 h2⟩
    · exact .inl (.zero h1 (by simp [h2,e]))
  | @succ n p r h1 h2 h3 ih=>
    by_cases e:p=x
    · exact .inr ⟨n+1,Bj _,e▸.succ h1 h2 h3⟩
    · rcases ih with ih | ⟨m,hm,ih⟩
      · exact .inl (.succ (by simp [h1,e]) h2 ih)
      · exact .inr ⟨m,by omega,ih⟩
theorem PathN.first {met:List Plc}:∀ (n:Nat) {p:Plc},PathN W N to met n p→p.st=to∨∃ r m,Nx W N [] p r∧PathN W N to (met++[p]) m r:=by
  intro n
  induction n using Nat.strongRecOn with
  | ind n ih=>
    intro p h;cases h with
    | zero h1 _=>exact .inl h1
    | @succ n _ r h1 h2 h3=>
      rcases h3.part (x:=p) with h | ⟨m,hm,h⟩
      · exact .inr ⟨r,n,h2,h⟩
      · exact ih m (by omega) h
theorem rch_path {p q:Plc} (h:Rch W N [] p q) (hq:q.st=to):∃ n,PathN W N to [] n p:=by
  have key:∀ r,Rch W N [] p r→∀ n,PathN W N to [] n r→∃ n,PathN W N to [] n p:=by
    intro r hr
    induction hr with
    | here=>exact fun n h=>⟨n,h⟩
    | more _ h2 ih=>exact fun n h=>ih (n+1) (.succ (by simp) h2 h)
  exact key q h 0 (.zero hq (by simp))
def plcAll:List Plc:=(List.range 6).flatMap fun s:Nat=>(List.range 3).map fun g:Nat=>⟨(s:Int),(g:Int)+1⟩
theorem mem_plcAll {p:Plc} (h:FY p):p∈plcAll:=by
  obtain ⟨⟨h1,h2⟩,h3,h4⟩:=h;cases p with | mk s g=>
  simp only at h1 h2 h3 h4;refine List.mem_flatMap.2 ⟨s.toNat,Bl.2 (by omega),Ai.2 ⟨(g-1).toNat,Bl.2 (by omega),?_⟩⟩;simp only [Plc.mk.injEq];omega
theorem QR {met:List Plc} (hn:met.Nodup) (hg:∀ p∈met,FY p):met.length≤18:=by
  have h:met ⊆ plcAll:=fun p hp=>mem_plcAll (hg p hp)
  have:=hn.length_le_of_subset h;exact this
theorem dfs_complete (hN:GoodNet N):∀ (f:Nat) (met:List Plc) (p:Plc) (t:Trp) (n:Nat),PathN W N to met n p→18≤f+met.length→met.Nodup→(∀ q∈met,FY q)→FY p→dfsM W N to f met p t≠[]:=by
  intro f
  induction f with
  | zero=>
    intro met p t n h hf hn hg hp
    exfalso
    have:(met++[p]).length≤18:=QR (Au.2 ⟨hn,by simp,by simp;exact fun a ha e=>h.notin (e▸ha)⟩) (by simp;exact fun q hq=>hq.elim (hg q) (fun e=>e▸hp));simp at this;omega
  | succ f ih=>
    intro met p t n h hf hn hg hp;rw [LB]
    split
    · simp
    · rename_i hne
      rcases h.first n with h1 | ⟨r,m,⟨i,hi,hb,he⟩,h2⟩
      · exact absurd h1 hne
      · intro hnil
        rw [List.flatMap_eq_nil_iff] at hnil;have:=hnil i (Bl.2 hi);unfold brM at this;rw [if_neg (fun q=>q hb),if_neg (by rw [he];exact h2.notin)] at this;refine ih _ _ _ m (he▸h2) (by simp;omega) (Au.2 ⟨hn,by simp,by simp;exact fun a ha e=>h.notin (e▸ha)⟩) (by simp;exact fun q hq=>hq.elim (hg q) (fun e=>e▸hp)) (run_good hN hi hb) this
theorem reach_found (hN:GoodNet N) {p q:Plc} (hp:FY p) (h:Rch W N [] p q) (hq:q.st=to):dfsM W N to 18 [] p QL≠[]:=by
  obtain ⟨n,h⟩:=rch_path h hq;exact dfs_complete hN 18 [] p _ n h (by simp) (by simp) (by simp) hp
end
def fac:Nat→Nat
  | 0=>1
  | n+1=>(n+1)*fac n
theorem fac_pos (n:Nat):1≤fac n:=by
  induction n with
  | zero=>exact Bj _
  | succ n ih=>exact Cv ih (Nat.le_mul_of_pos_left _ (by omega))
theorem fac_mono {m n:Nat} (h:m≤n):fac m≤fac n:=by
  induction h with
  | refl=>exact Bj _
  | step _ ih=>exact Cv ih (Nat.le_mul_of_pos_left _ (by omega))
theorem flatMap_few {α:Type} {f:Nat→List α} {c:Nat→Bool} {B:Nat}:∀ l:List Nat,(∀ i∈l,(f i).length≤if c i then B else 0)→(l.flatMap f).length≤(l.filter c).length*B:=by
  intro l
  induction l with
  | nil=>intro _;simp
  | cons i l ih=>
    intro h;have h1:=h i (by simp);have h2:=ih fun j hj=>h j (by simp [hj])
    rw [Dc,Ad,Cr]
    split
    · rename_i hc
      rw [if_pos hc] at h1;rw [Aq,Nat.succ_mul];omega
    · rename_i hc
      rw [if_neg hc] at h1;omega
section
variable {W:Wag} {N:Net} {to:Int}
def QP (N:Net) (x:Nat × Bool):Plc:=⟨if x.2 then (N.tracks.getD x.1 AB).a else (N.tracks.getD x.1 AB).b,(N.tracks.getD x.1 AB).gauge⟩
def arrs (N:Net):List (Nat × Bool):=(List.range N.tracks.length).flatMap fun i=>[(i,false),(i,true)]
def leftN (N:Net) (met:List Plc):Nat:=((arrs N).filter fun x=>!decide (QP N x∈met)).length
theorem mem_arrs {i:Nat} {d:Bool} (h:i<N.tracks.length):(i,d)∈arrs N:=by
  unfold arrs;refine List.mem_flatMap.2 ⟨i,Bl.2 h,?_⟩;cases d <;> simp
theorem arrs_len:(arrs N).length=2*N.tracks.length:=by
  unfold arrs
  generalize N.tracks.length=n
  induction n with
  | zero=>rfl
  | succ n ih=>rw [Dd,Cz,Ad,ih];simp;omega
theorem leftN_le (met:List Plc):leftN N met≤2*N.tracks.length:=Cv (Cd ..) (Nat.le_of_eq arrs_len)
def arr (N:Net) (p:Plc) (i:Nat):Nat × Bool:=(i,!decide (p.st=(N.tracks.getD i AB).a))
theorem arr_place (p:Plc) (i:Nat):QP N (arr N p i)=JJ N p i:=by
  unfold QP arr JJ IG
  by_cases h:p.st=(N.tracks.getD i AB).a <;> simp [h]
theorem leftN_less {met:List Plc} {x:Nat × Bool} (hx:x∈arrs N) (hm:QP N x∉met):leftN N (met++[QP N x])+1≤leftN N met:=by
  have h1:((arrs N).filter fun y=>!decide (QP N y∈met++[QP N x])).length+1≤((arrs N).filter fun y=>!decide (QP N y∈met)).length:=by
    have key:∀ l:List (Nat × Bool),(l.filter fun y=>!decide (QP N y∈met++[QP N x])).length≤(l.filter fun y=>!decide (QP N y∈met)).length∧(x∈l→(l.filter fun y=>!decide (QP N y∈met++[QP N x])).length+1≤(l.filter fun y=>!decide (QP N y∈met)).length):=by
      intro l
      induction l with
      | nil=>exact ⟨Bj _,fun h=>by simp at h⟩
      | cons y l ih=>
        have hle:(([y].filter fun y=>!decide (QP N y∈met++[QP N x])).length≤([y].filter fun y=>!decide (QP N y∈met)).length):=by
          by_cases a:QP N y∈met <;> by_cases b:QP N y=QP N x <;> simp [a,b]
        rw [show y::l=[y]++l from rfl,Cm,Cm,Ad,Ad];refine ⟨by omega,fun h=>?_⟩;rcases Ac.1 h with rfl | h
        · have:(([x].filter fun y=>!decide (QP N y∈met++[QP N x])).length+1≤([x].filter fun y=>!decide (QP N y∈met)).length):=by simp [hm]
          omega
        · have:=ih.2 h;omega
    exact (key _).2 hx
  exact h1
theorem dfs_few:∀ (f:Nat) (met:List Plc) (p:Plc) (t:Trp),(dfsM W N to f met p t).length≤fac (leftN N (met++[p])):=by
  intro f
  induction f with
  | zero=>intro met p t;simp [dfsM]
  | succ f ih=>
    intro met p t;rw [LB]
    split
    · exact fac_pos _
    · generalize hL:leftN N (met++[p])=L
      have hc:∀ i∈List.range N.tracks.length,(brM W N to f met p t i).length≤if (decide ((CT W N [] p i).2.2=0)&&!decide (JJ N p i∈met++[p]))=true then fac (L-1) else 0:=by
        intro i hi;rw [Bl] at hi;unfold brM
        by_cases h1:(CT W N [] p i).2.2=0
        · rw [if_neg (fun q=>q h1),(QA h1).1]
          by_cases h2:JJ N p i∈met++[p]
          · rw [if_pos h2];simp
          · rw [if_neg h2,if_pos (by simp only [h1,h2];simp)]
            refine Cv (ih _ _ _) (fac_mono ?_);have:=leftN_less (N:=N) (met:=met++[p]) (x:=arr N p i) (mem_arrs hi) (by rw [arr_place];exact h2);rw [arr_place] at this;omega
        · rw [if_pos h1];simp
      refine Cv (flatMap_few _ hc) ?_;have hcount:((List.range N.tracks.length).filter fun i=>decide ((CT W N [] p i).2.2=0)&&!decide (JJ N p i∈met++[p])).length≤L:=by
        rw [← hL];unfold leftN;have hs:(((List.range N.tracks.length).filter fun i=>decide ((CT W N [] p i).2.2=0)&&!decide (JJ N p i∈met++[p])).map (arr N p)) ⊆ ((arrs N).filter fun x=>!decide (QP N x∈met++[p])):=by
          intro x hx;obtain ⟨i,hi,rfl⟩:=Ai.1 hx;obtain ⟨h1,h2⟩:=Bh.1 hi;rw [Bl] at h1;refine Bh.2 ⟨mem_arrs h1,?_⟩;rw [arr_place];exact (Ah _ _▸h2).2
        have hn:(((List.range N.tracks.length).filter fun i=>decide ((CT W N [] p i).2.2=0)&&!decide (JJ N p i∈met++[p])).map (arr N p)).Nodup:=
          List.Pairwise.map _ (R:=fun i j:Nat=>i≠j) (fun i j h e=>h (congrArg Prod.fst e)) (List.nodup_range.filter _)
        have:=hn.length_le_of_subset hs
        rwa [Bi] at this
      cases L with
      | zero=>
        have:((List.range N.tracks.length).filter fun i=>decide ((CT W N [] p i).2.2=0)&&!decide (JJ N p i∈met++[p])).length=0:=by omega
        rw [this];simp
      | succ L=>
        rw [Nat.add_sub_cancel];exact Nat.mul_le_mul_right _ hcount
theorem dfs_bound (hn:N.tracks.length≤7) (f:Nat) (met:List Plc) (p:Plc) (t:Trp):(dfsM W N to f met p t).length≤100000000000:=
  Cv (dfs_few f met p t) (Cv (fac_mono (n:=14) (Cv (leftN_le _) (by omega))) (by decide))
theorem flat_next {α:Type} {g:Nat→List α} {k n:Nat} (hk:k<n):((List.range k).flatMap g).length+(g k).length≤((List.range n).flatMap g).length:=by
  have e:n=(k+1)+(n-(k+1)):=by omega
  rw [e,List.range_add,Cz,Dd,Cz];simp only [Ad,Dc,List.flatMap_nil,Aa];omega
theorem flat_snoc {α:Type} {g:Nat→List α} {k:Nat}:(List.range (k+1)).flatMap g=(List.range k).flatMap g++g k:=by
  rw [Dd,Cz];simp
end
def HC (a b:Trp):Bool:=if ¬ a.km=b.km then decide (a.km<b.km) else if ¬ a.ch=b.ch then decide (a.ch<b.ch) else decide (cmpL a.way b.way<0)
def bestT:List Trp→Trp→Trp
  | [],b=>b
  | x::r,b=>bestT r (if HC x b then x else b)
def CK:List Trp→Trp
  | []=>QL
  | x::r=>bestT r x
theorem bestT_mem:∀ (l:List Trp) (b:Trp),bestT l b=b∨bestT l b∈l:=by
  intro l
  induction l with
  | nil=>intro b;exact .inl rfl
  | cons x r ih=>
    intro b;unfold bestT;rcases ih (if HC x b then x else b) with h | h
    · rw [h];split
      · exact .inr (by simp)
      · exact .inl rfl
    · exact .inr (Ag _ h)
theorem leastT_mem {l:List Trp} (h:l≠[]):CK l∈l:=by
  cases l with
  | nil=>exact absurd rfl h
  | cons x r=>
    rcases bestT_mem r x with h | h
    · show bestT r x∈_;rw [h];simp
    · exact Ag _ h
theorem bestT_append (a b:List Trp):∀ c,bestT (a++b) c=bestT b (bestT a c):=by
  induction a with
  | nil=>intro c;rfl
  | cons x a ih=>intro c;exact ih _
theorem leastT_snoc {l:List Trp} {x:Trp} (h:l≠[]):CK (l++[x])=if HC x (CK l) then x else CK l:=by
  cases l with
  | nil=>exact absurd rfl h
  | cons y r=>show bestT (r++[x]) y=_;rw [bestT_append];rfl
def QN (W:Wag) (N:Net) (p:Plc) (to:Int):List Trp:=dfsM W N to 18 [] p QL
def keepErr (L:Lin) (i:Nat):Int:=
  let k:=L.keeps.getD i noKeep
  if inB k.place 0 (L.places-1)=false then 3
  else if inB k.hour 0 200=false then 1
  else if inB k.who 1 9=false then 1
  else if ((L.keeps.take i).any fun x=>decide (x.place=k.place)&&decide (x.hour=k.hour))=true then 4 else 0
def slipErr (L:Lin) (s:Slip):Int:=
  if inB s.num 1 999=false then 1
  else if inB s.hour 0 200=false then 1
  else if inB s.kind 1 6=false then 8
  else if inB s.place 0 (L.places-1)=false then 3
  else if s.kind=1∧inB s.to 0 (L.places-1)=false then 3
  else if s.kind=1∧s.to=s.place then 4
  else if s.kind≠1∧s.to≠0 then 1
  else if inB s.sort 0 (L.sorts-1)=false then 3
  else if s.soil=true∧s.kind≠1∧s.kind≠4 then 1
  else if inB s.amt (if s.kind=4 then 0 else 1) 50=false then 1 else 0
def hasNum (n:Int) (l:List Slip):Bool:=l.any fun x=>decide (x.num=n)
def slipErrAt (L:Lin) (i:Nat):Int:=
  if slipErr L (L.slips.getD i noSlip)≠0 then slipErr L (L.slips.getD i noSlip)
  else if hasNum (L.slips.getD i noSlip).num (L.slips.take i)=true then 4 else 0
def cmpSlip (a b:Slip):Int:=if a.hour≠b.hour then a.hour-b.hour else a.num-b.num
def insB {α:Type} (c:α→α→Int) (x:α):List α→List α
  | []=>[x]
  | y::r=>if c x y<0∧∀ z∈r,c x z<0 then x::y::r else y::insB c x r
structure HKey where
  pl:Int
  so:Int
  soil:Bool
  deriving DecidableEq
abbrev Hs:=List (HKey × Int)
structure Event where
  slip:Slip
  gap:Int
  below:Bool
  deriving DecidableEq
end Go.Sh
namespace Go.Sl
open Go
theorem St.permL {I:Imm} {A A' B:Seg} {w:World} (h:A.Perm A') (st:St I (A++B) w):St I (A'++B) w:=st.perm (List.Perm.append_right _ h)
section
variable {ρ:Option Nat} {P:Program} {N:Nat} {ds:List Deferred} {l:Sl} {I:Imm} {M A B eM:Seg} {Q:Exit→Act→World→Prop} {E:TypeId} {vs:List Value} {xss:List (List Int)}
theorem rn_freezeEach {c : Code} (h : OwnEach E vs xss eM) (hl : ∀ xs ∈ xss, xs.length ≤ 1000000) (hM : M.Perm (eM ++ A)) (hA : A.Perm B)
    (next:∀ J,I.le J→RowsV J vs xss→Run (ρ:=ρ) P N c Q ds l J B):Run (ρ:=ρ) P N c Q ds l I M:=fun a w hS hD hW=>by
  obtain ⟨J,h1,h2,h3⟩:=h.freeze (fun xs hx=>by have:=hl xs hx;omega) (hW.perm hM);exact next J h1 h2 a w hS hD (h3.perm hA)
end
end Go.Sl
namespace Go.Sh
open Go Go.Sl
end Go.Sh
namespace Go.Sl
open Go
section
variable {P:Program} {N:Nat} {ops:Array Oper} {i:Nat} {l:Sl} {I:Imm} {M:Seg} {ty:TypeId} {gd:Option (Nat × Bool)} {K:Sl→Imm→Seg→Prop} {κ:Type} [DecidableEq κ] {enc:κ→Value}
end
end Go.Sl
namespace Go.Sh
open Go Go.Sl
def YardH (T:TypeId) (I:Imm) (v:Value) (Y:Yard):Prop:=
  ∃ b v1 v2 v3,v=.pointer (some ⟨b,0,none⟩)∧I.blk b=some (Obj.cells #[v1,v2,v3] T (0,0))∧GL I v1 Y.cars∧AF I v2 Y.room∧IsRows I v3 Y.tracks
def YardsH (T:TypeId) (I:Imm) (vs:List Value) (zs:List Yard):Prop:=vs.length=zs.length∧∀ i,i<zs.length→YardH T I (vs.getD i undef) (zs.getD i LO)
theorem YardsH.nil (T:TypeId) (I:Imm):YardsH T I [] []:=⟨rfl,fun i hi=>by simp at hi⟩
structure VisOk (A:Yard) (s:List GI × List Yard):Prop where
  met:∃ m:List Yard,s.1=m.map BL∧(∀ y∈m,Kin A y)∧(m.map Yard.tracks).Nodup
  kin:∀ y∈s.2,Kin A y
  le:s.2.length≤s.1.length
theorem VisOk.visit {A:Yard} {s:List GI × List Yard} {z:Yard} (h:VisOk A s) (f:Fine A) (hz:Kin A z):VisOk A (visit s z):=by
  obtain ⟨m,e,hk,hn⟩:=h.met;have hle:=h.le;unfold Go.Sh.visit
  split
  · exact h
  · rename_i hm
    refine ⟨⟨m++[z],by simp [e],fun y hy=>?_,?_⟩,fun y hy=>?_,by simp only [Ad,Aq,Cg];omega⟩
    · rcases Ab.1 hy with hy | hy
      · exact hk y hy
      · simp at hy;subst hy;exact hz
    · rw [Ba]
      refine Au.2 ⟨hn,by simp,fun a ha b hb=>?_⟩;simp at hb;subst hb;intro e2;obtain ⟨y,hy,rfl⟩:=Ai.1 ha;have:=kin_tracks (hk y hy) hz e2;subst this;exact hm (e▸Ak hy)
    · rcases Ab.1 hy with hy | hy
      · exact h.kin y hy
      · simp at hy;subst hy;exact hz
theorem VisOk.visitAll {A:Yard} (f:Fine A):∀ (zs:List Yard) (s:List GI × List Yard),VisOk A s→(∀ z∈zs,Kin A z)→VisOk A (visitAll zs s):=by
  intro zs
  induction zs with
  | nil=>intro s h _;exact h
  | cons z r ih=>intro s h hk;exact ih _ (h.visit f (hk z Aj)) (fun y hy=>hk y (Ag _ hy))
theorem VisOk.fresh {A:Yard} {s:List GI × List Yard} (h:VisOk A s):VisOk A (s.1,[]):=⟨h.met,fun y hy=>by simp at hy,Ae _⟩
theorem VisOk.start (A:Yard):VisOk A ([BL A],[A]):=⟨⟨[A],rfl,fun y hy=>by simp at hy;subst hy;exact Kin.refl _,by simp⟩,fun y hy=>by simp at hy;subst hy;exact Kin.refl _,by simp⟩
def visJ (met:List GI) (now:List Yard) (j:Nat):List GI × List Yard:=visitAll ((now.take j).flatMap nexts) (met,[])
def visX (s:List GI × List Yard) (x:Yard) (xs:List Shift):List GI × List Yard:=visitAll (xs.map (moved x)) s
theorem VisOk.j {A:Yard} (f:Fine A) {met:List GI} {now:List Yard} (h:VisOk A (met,now)) (j:Nat):VisOk A (visJ met now j):=
  VisOk.visitAll f _ _ h.fresh (flat_kin fun y hy=>h.kin y (List.mem_of_mem_take hy))
theorem VisOk.x {A:Yard} (f:Fine A) {s:List GI × List Yard} {x:Yard} (h:VisOk A s) (hx:Kin A x) {xs:List Shift} (hp:xs <+: draws x):VisOk A (visX s x xs):=
  VisOk.visitAll f _ _ h fun y hy=>by
    obtain ⟨d,hd,rfl⟩:=Ai.1 hy;exact hx.moved (GA (hp.subset hd))
end Go.Sh
namespace Go.Sl
open Go
theorem IsRows.split {I:Imm} {v:Value} {xss:List (List Int)} (h:IsRows I v xss):∃ vs:List Value,PH I v vs∧RowsV I vs xss:=by
  obtain ⟨a,c,b,o,f,h1,h2,h3,h4,h5⟩:=h;have hl:((List.range xss.length).map f).length=xss.length:=by simp
  have hg:∀ i,i<xss.length→((List.range xss.length).map f).getD i undef=f i:=fun i hi=>by simp [List.getD,hi]
  refine ⟨(List.range xss.length).map f,⟨a,c,b,o,by rw [hl];exact h1,by rw [hl];exact h2,by rw [hl];exact h3,?_⟩,hl,fun i hi=>by rw [hg i hi];exact h5 i hi⟩;rw [hl];refine ⟨h4.addr,fun i hi g hg2=>?_⟩;have:=h4.get i hi g hg2;show ICell I _ (((List.range xss.length).map f).getD i undef);rw [hg i hi];exact this
theorem RowsV.take {I:Imm} {vs:List Value} {xss:List (List Int)} (h:RowsV I vs xss) (k:Nat):RowsV I (vs.take k) (xss.take k):=by
  refine ⟨by simp [h.1],fun i hi=>?_⟩;have hi2:i<k∧i<xss.length:=by rw [Be] at hi;omega
  have:=h.2 i hi2.2;simp only [List.getD] at this ⊢;rw [List.getElem?_take_of_lt hi2.1,List.getElem?_take_of_lt hi2.1];exact this
theorem RowsV.drop {I:Imm} {vs:List Value} {xss:List (List Int)} (h:RowsV I vs xss) (k:Nat):RowsV I (vs.drop k) (xss.drop k):=by
  refine ⟨by simp [h.1],fun i hi=>?_⟩;have hi2:k+i<xss.length:=by simp at hi;omega
  have:=h.2 (k+i) hi2;simp only [List.getD] at this ⊢;rw [List.getElem?_drop,List.getElem?_drop];exact this
end Go.Sl
namespace Go.Sh
open Go Go.Sl
section
variable {xs ys:List Int} {k:Nat}
end
def GZ (n:Nat):List Int:=(List.range n).map fun i:Nat=>(i:Int)
theorem wholeL_succ (n:Nat):GZ (n+1)=GZ n++[(n:Int)]:=by simp [GZ,Dd]
theorem OL (n:Nat):(GZ n).length=n:=by simp [GZ]
section
variable {o l:List Int} {k:Nat}
end
section
variable {α β:Type}
variable {f:α→β→β} {d:α} {bl:List α} {rec:List α→List β} {k:Nat}
end
theorem coupled_raw {cs:List Car} {t:List Int} {k:Nat} (hk:k<t.length):DA cs t ↑k=(decide (0<(k:Int))&&(decide (0<(IE cs (t.getD k 0)).grp)&&decide ((IE cs (t.getD k 0)).grp=(IE cs (t.getD ((k:Int)-1).toNat 0)).grp))):=by
  unfold DA inB;have e1:(↑k:Int).toNat=k:=by omega
  rw [e1,Bool.and_assoc];have e3:(decide ((1:Int)≤↑k)&&decide ((↑k:Int)≤↑t.length-1))=decide (0<(k:Int)):=by
    by_cases h:0<(k:Int)
    · have h1:(1:Int)≤↑k:=by omega
      have h2:(↑k:Int)≤↑t.length-1:=by omega
      rw [Bg h,Bg h1,Bg h2];rfl
    · have h1:¬ (1:Int)≤↑k:=by omega
      rw [Br h,Br h1];rfl
  rw [e3]
end Go.Sh
namespace Go.Sl
open Go
section
variable {P:Program} {N:Nat} {ops:Array Oper} {i:Nat} {l:Sl} {I:Imm} {R M:Seg} {ty:TypeId} {gd:Option (Nat × Bool)} {K:Sl→Imm→Seg→Prop} {d:Nat}
theorem stp_makeSlice {x : Operand} {T E bs n : Nat} {z zv : Value} (hop : FH ops N i = some (some d, .makeSlice T x x, ty, gd)) (hg : FL ops l gd = some true)
    (hT:ID P T=some E) (hsz:CW P E=some 1) (hz:JI P E=some z) (hzc:z.cells=#[zv]) (hb:KR P E=some bs) (hbs:1≤bs∧bs≤256)
    (hx:CB l x=some (.int .i64 (n:Int))) (hn:n≤1000000)
    (next:∀ b,K ((d,.slice (some ⟨b,0,none⟩) n n)::l) I ((b,Obj.cells (List.replicate n zv).toArray E (0,0))::M)):Stp P N ops i l I M K:=by
  have hinfo:∃ inf,P.info? E=some inf∧inf.bytes=bs:=by
    unfold KR at hb;cases hi:P.info? E with
    | none=>rw [hi] at hb;cases hb
    | some inf=>rw [hi] at hb;exact ⟨inf,rfl,by simpa using hb⟩
  obtain ⟨inf,hinf,hbytes⟩:=hinfo;refine DP hop hg (HE hx hx) ?_;show wpL P (Instr.makeSlice T (rho l x) (rho l x) >>= fun x=>pure (Next.value x)) _ I M;refine DB ?_;rw [BI hx];have hw:IntKind.i64.wrap (n:Int)=(n:Int):=wrap64_id ⟨by omega,by omega⟩;have hbig:¬ ((inf.bytes:Int)*(n:Int)>2 ^ 48):=by
    have h1:inf.bytes*n≤256*1000000:=Nat.mul_le_mul (by omega) hn;have h2:((inf.bytes*n:Nat):Int)≤((256*1000000:Nat):Int):=Int.ofNat_le.2 h1;rw [Int.natCast_mul] at h2;omega
  unfold Instr.makeSlice;rw [AE,AK (DH hT)];show wpL P (pure (n:Int) >>= _) _ I M;rw [AE,EG];show wpL P (pure (n:Int) >>= _) _ I M;rw [AE,EG,AE,DW hinf];simp only [hw];have hc:(decide ((n:Int)<0)||decide ((inf.bytes:Int)*(n:Int)>2 ^ 48)||decide ((n:Int)<0)||decide ((n:Int)>(n:Int)))=false:=by
    rw [Br (show ¬ (n:Int)<0 by omega),Br hbig,Br (show ¬ (n:Int)>n by omega)];rfl
  rw [if_neg (by rw [hc];simp)];rw [AE];have hask:∀ (n:Nat) (Q:Unit→Seg→Prop),Q () M→wpL P (askRoom n) Q I M:=fun n Q hq=>by
    unfold askRoom
    split <;> exact hq
  refine hask _ _ ?_;rw [AE,CG hsz];simp only [Bx,Nat.mul_one]
  by_cases h0:n=0
  · rw [if_pos h0,AE,EG,AE]
    intro b;refine ⟨_,.inl rfl,?_⟩;have e:(Array.range n).map (fun k=>(#[]:Array Value)[k%(#[]:Array Value).size]!)=(List.replicate n zv).toArray:=by subst h0;simp
    rw [e];exact next b
  rw [if_neg h0,AE,FJ hz,AE,EG,AE];intro b;refine ⟨_,.inl rfl,?_⟩;have e:(Array.range n).map (fun k=>z.cells[k%z.cells.size]!)=(List.replicate n zv).toArray:=by
    rw [hzc]
    apply Array.ext
    · simp
    · intro i h1 h2
      simp [Nat.mod_one]
  rw [e];exact next b
end
theorem encL_vals (vs:List Value):DM 1 BK vs=vs:=by
  induction vs with
  | nil=>rfl
  | cons v r ih=>
    have:DM 1 BK (v::r)=[v]++DM 1 BK r:=by simp [DM,BK]
    rw [this,ih];rfl
theorem Own.made {E:TypeId} {b n:Nat} (z:Value):Own E 1 BK (.slice (some ⟨b,0,none⟩) n n) (List.replicate n z) [(b,Obj.cells (List.replicate n z).toArray E (0,0))]:=
  .inr ⟨b,n,[],by simp,by simp,by rw [encL_vals];simp,by simp [encL_vals]⟩
section
variable {ρ:Option Nat} {P:Program} {N:Nat} {ds:List Deferred} {l:Sl} {I:Imm} {M A B Ms:Seg} {Q:Exit→Act→World→Prop} {c:Code}
end
def quiet (P:Program) {α:Type}:Sem α→Option α
  | .pure a=>some a
  | .program k=>quiet P (k P)
  | .mark _ k=>quiet P k
  | _=>none
theorem quiet_wpL {P:Program} {α:Type} (s:Sem α):∀ {x:α} {I:Imm} {M:Seg},quiet P s=some x→wpL P s (fun y M'=>y=x∧M'=M) I M:=by
  induction s with
  | pure a=>intro x I M h;cases h;exact ⟨rfl,rfl⟩
  | program k ih=>intro x I M h;exact ih P h
  | mark m k ih=>intro x I M h;exact ih h
  | _=>intro x I M h;cases h
def pvOp (P:Program) (l:Sl) (op:Op) (ty:TypeId):Option Value:=
  bif op.operands.all (fun x=>(CB l x).isSome) then
    match quiet P (KB (rho l) op ty) with
    | some (.value v)=>some v
    | _=>none
  else none
def pvAt (P:Program) (N:Nat) (ops:Array Oper) (l:Sl) (i:Nat):Option (Nat × Value):=
  match FH ops N i with
  | some (some d,op,ty,gd)=>match FL ops l gd with
    | some true=>match pvOp P l op ty with
      | some v=>some (d,v)
      | none=>none
    | some false=>some (d,undef)
    | none=>none
  | _=>none
def pvs (P:Program) (N:Nat) (ops:Array Oper):List Nat→Sl→Option Sl
  | [],l=>some l
  | i::is,l=>match pvAt P N ops l i with
    | some x=>pvs P N ops is (x::l)
    | none=>none
section
variable {ρ:Option Nat} {P:Program} {N:Nat} {ops:Array Oper} {Q:Exit→Act→World→Prop} {ds:List Deferred} {i:Nat} {l:Sl} {I:Imm} {R M S:Seg} {d:Nat} {Kfin:Sl→Imm→Seg→Prop} {order:List (Nat × Bool)}
theorem det_pv {v:Value} (h:pvAt P N ops l i=some (d,v)):Det P N ops i l I R d v:=by
  unfold pvAt at h
  split at h
  · rename_i d' op ty gd ho
    split at h
    · rename_i hg
      split at h
      · rename_i v' hv
        cases h;unfold pvOp at hv;cases hk:op.operands.all (fun x=>(CB l x).isSome) with
        | false=>rw [hk] at hv;cases hv
        | true=>
          rw [hk] at hv;simp only [cond_true] at hv
          split at hv
          · rename_i v'' hq
            cases hv
            exact FF ho hg (fun x hx=>by
              have:=Array.all_eq_true'.1 hk x hx
              exact Option.isSome_iff_exists.1 this) fun I' M'=>quiet_wpL _ hq
          · cases hv
      · cases h
    · rename_i hg;cases h;exact det_skip ho hg
    · cases h
  · cases h
theorem seq_pvs:∀ (k i:Nat) (l l':Sl),pvs P N ops (List.range' i k) l=some l'→Seq (ρ:=ρ) P N ops Q ds (i+k) l' I M→Seq (ρ:=ρ) P N ops Q ds i l I M
  | 0,i,l,l',h,next=>by cases h;exact next
  | k+1,i,l,l',h,next=>by
    rw [List.range'_succ] at h;simp only [pvs] at h
    split at h
    · rename_i x hx
      exact seq_det (det_pv hx) (seq_pvs k (i+1) _ _ h (by rw [show i+1+k=i+(k+1) by omega];exact next))
    · cases h
def pickL (l:Sl):Sl→Bool→Option Sl
  | [],_=>some []
  | (t,_)::r,b=>match DL t l,pickL l r b with
    | some v,some r'=>some ((t,v)::r')
    | _,_=>none
def told (t:Nat):Sl→Bool
  | []=>false
  | (k,_)::r=>bif Nat.beq k t then true else told t r
def PQ (new l:Sl):Nat→Sl→Bool
  | 0,_=>true
  | k+1,(t,_)::r=>(told t new||!told t l)&&PQ new l k r
  | _+1,[]=>true
def pxf (P:Program) (N:Nat) (ops:Array Oper) (i k:Nat) (new l:Sl):Option Sl:=
  match pvs P N ops (List.range' i k) l with
  | some l'=>bif PQ new l k l' then pickL l' new true else none
  | none=>none
theorem JS {t:Nat} {v:Value}:∀ {l:Sl},DL t l=some v→told t l=true:=by
  intro l
  induction l with
  | nil=>intro h;cases h
  | cons x l ih=>
    obtain ⟨k,u⟩:=x;intro h;simp only [DL] at h;simp only [told];cases hb:Nat.beq k t with
    | true=>rfl
    | false=>rw [hb] at h;exact ih h
theorem JB {t:Nat} {a b:Sl}:DL t (a++b)=(match DL t a with | some v=>some v | none=>DL t b):=by
  induction a with
  | nil=>rfl
  | cons x a ih=>
    obtain ⟨k,u⟩:=x;simp only [Ci,DL];cases hb:Nat.beq k t with
    | true=>rfl
    | false=>exact ih
theorem look_none {t:Nat}:∀ {l:Sl},DL t l=none→told t l=false:=by
  intro l
  induction l with
  | nil=>intro _;rfl
  | cons x l ih=>
    obtain ⟨k,u⟩:=x;intro h;simp only [DL] at h;simp only [told];cases hb:Nat.beq k t with
    | true=>rw [hb] at h;cases h
    | false=>rw [hb] at h;exact ih h
theorem MF {l:Sl} {b:Bool} {t:Nat} {v:Value}:∀ {new out:Sl},pickL l new b=some out→DL t out=some v→DL t l=some v:=by
  intro new
  induction new with
  | nil=>intro out h hl;cases h;cases hl
  | cons x new ih=>
    obtain ⟨k,u⟩:=x;intro out h hl;simp only [pickL] at h
    split at h
    · rename_i v' r' h1 h2
      cases h;simp only [DL] at hl;cases hb:Nat.beq k t with
      | true=>rw [hb] at hl;cases hl;rw [← Ao hb];exact h1
      | false=>rw [hb] at hl;exact ih h2 hl
    · cases h
theorem pvs_split:∀ (is:List Nat) (l l':Sl),pvs P N ops is l=some l'→∃ ex:Sl,l'=ex++l∧ex.length=is.length:=by
  intro is
  induction is with
  | nil=>intro l l' h;cases h;exact ⟨[],rfl,rfl⟩
  | cons i is ih=>
    intro l l' h;simp only [pvs] at h
    split at h
    · rename_i x hx
      obtain ⟨ex,h1,h2⟩:=ih _ _ h;exact ⟨ex++[x],by rw [h1];simp,by simp [h2]⟩
    · cases h
theorem maskOk_spec {new l:Sl} {t:Nat}:∀ (ex r:Sl),PQ new l ex.length (ex++r)=true→told t ex=true→told t new=true∨told t l=false:=by
  intro ex
  induction ex with
  | nil=>intro r _ h;cases h
  | cons x ex ih=>
    obtain ⟨k,u⟩:=x;intro r h ht;simp only [Aq,Ci,PQ,Ah,Bw,Ck] at h;simp only [told] at ht;cases hb:Nat.beq k t with
    | true=>
      have e:=Ao hb;subst e;exact h.1
    | false=>rw [hb] at ht;exact ih r h.2 ht
theorem pxf_sub {k:Nat} {new l':Sl} (h:pvs P N ops (List.range' i k) l=some l') (hp:pxf P N ops i k new l=some new):Sub (new++l) l':=by
  unfold pxf at hp;rw [h] at hp;simp only at hp;cases hm:PQ new l k l' with
  | false=>rw [hm] at hp;cases hp
  | true=>
    rw [hm] at hp;simp only [cond_true] at hp;intro t v ht;rw [JB] at ht;cases hn:DL t new with
    | some u=>rw [hn] at ht;cases ht;exact MF hp hn
    | none=>
      rw [hn] at ht;simp only at ht;obtain ⟨ex,h1,h2⟩:=pvs_split _ _ _ h;rw [List.length_range'] at h2;subst h1;rw [JB];cases he:DL t ex with
      | none=>exact ht
      | some u=>
        rw [← h2] at hm;rcases maskOk_spec ex l hm (JS he) with h3 | h3
        · rw [look_none hn] at h3;cases h3
        · rw [JS ht] at h3;cases h3
theorem sp (k:Nat) (new:Sl) (next:Seq (ρ:=ρ) P N ops Q ds (i+k) (new++l) I M) (h:pxf P N ops i k new l=some new:=by kernel_rfl):Seq (ρ:=ρ) P N ops Q ds i l I M:=by
  cases hv:pvs P N ops (List.range' i k) l with
  | none=>unfold pxf at h;rw [hv] at h;cases h
  | some l'=>
    exact seq_pvs k i l l' hv fun a w hS hD hW=>next a w (hS.sub (pxf_sub hv h)) hD hW
def pvo (P:Program) (N:Nat) (ops:Array Oper):Nat→List (Nat × Bool)→Sl→Option Sl
  | 0,_,l=>some l
  | k+1,(i,true)::r,l=>match pvAt P N ops l i with
    | some x=>pvo P N ops k r (x::l)
    | none=>none
  | _,_,_=>none
theorem op_aux:∀ (k:Nat) (order:List (Nat × Bool)) (l l':Sl),pvo P N ops k order l=some l'→OFP P N ops R Kfin (order.drop k) l' I S→OFP P N ops R Kfin order l I S
  | 0,order,l,l',h,next=>by cases h;exact next
  | k+1,(i,true)::r,l,l',h,next=>by
    simp only [pvo] at h
    split at h
    · rename_i x hx
      exact AD (det_pv hx) (op_aux k r _ _ h next)
    · cases h
  | k+1,(i,false)::r,l,l',h,next=>by cases h
  | k+1,[],l,l',h,next=>by cases h
end
section
variable {ρ:Option Nat} {P:Program} {N:Nat} {ops:Array Oper} {Q:Exit→Act→World→Prop} {ds:List Deferred} {i:Nat} {l l':Sl} {I:Imm} {R M S:Seg} {d:Nat} {Kfin:Sl→Imm→Seg→Prop} {order:List (Nat × Bool)}
theorem gval_mono (s:Sub l l') {g:Option (Nat × Bool)} {b:Bool} (h:FL ops l g=some b):FL ops l' g=some b:=by
  cases g with
  | none=>exact h
  | some g=>
    obtain ⟨j,want⟩:=g;simp only [FL] at h ⊢;cases hj:(ops[j]?).bind (·.dst) with
    | none=>rw [hj] at h;exact h
    | some t=>
      rw [hj] at h;simp only at h ⊢;cases ht:DL t l with
      | none=>rw [ht] at h;cases h
      | some v=>rw [ht] at h;rw [s t v ht];exact h
theorem oval_mono (s:Sub l l') {x:Operand} {v:Value} (h:CB l x=some v):CB l' x=some v:=by
  cases x with
  | tmp t=>exact s t v h
  | const u=>exact h
  | global g=>exact h
  | func f=>exact h
theorem exec_mono (s:Sub l l') {o:Oper} (hs:PlainOp o) (hk:∀ x∈o.op.operands,KE l x):execOp (rho l') o=execOp (rho l) o:=
  execOp_congr o hs.1 fun x hx=>by
    obtain ⟨v,hv⟩:=hk x hx;rw [BI hv,BI (oval_mono s hv)]
theorem known_mono (s:Sub l l') {x:Operand} (h:KE l x):KE l' x:=let ⟨v,hv⟩:=h;⟨v,oval_mono s hv⟩
theorem Det.more {v:Value} (s:Sub l l') (h:Det P N ops i l I R d v):Det P N ops i l' I R d v:=by
  obtain ⟨o,h1,h2,h3,h4,h5⟩:=h;refine ⟨o,h1,h2,h3,h4,?_⟩;rcases h5 with ⟨h6,h7⟩ | ⟨h6,h7,h8⟩
  · exact .inl ⟨gval_mono s h6,h7⟩
  · exact .inr ⟨gval_mono s h6,fun x hx=>known_mono s (h7 x hx),by rw [exec_mono s h4 h7];exact h8⟩
theorem Sub.cons_cons (s:Sub l l') (t:Nat) (v:Value):Sub ((t,v)::l) ((t,v)::l'):=fun u w hu=>by
  by_cases e:t=u
  · subst e;rw [DU] at hu ⊢;exact hu
  · rw [BS e] at hu ⊢;exact s u w hu
theorem Sub.ups (s:Sub l l') (dst:Option Tmp) (v:Value):Sub (ups dst v l) (ups dst v l'):=by
  cases dst with
  | none=>exact s
  | some d=>exact s.cons_cons d v
theorem Stp.more {K:Sl→Imm→Seg→Prop} (hK:∀ l l' I M,Sub l l'→K l I M→K l' I M) (s:Sub l l') (h:Stp P N ops i l I M K):Stp P N ops i l' I M K:=by
  obtain ⟨o,h1,h2,h3,h4,h5,h6⟩:=h;refine ⟨o,h1,h2,h3,gval_mono s h4,fun x hx=>known_mono s (h5 x hx),fun w st=>?_⟩;rw [exec_mono s h3 h5];exact (h6 w st).mono fun v w' ⟨I',M',a,b,c⟩=>⟨I',M',a,b,hK _ _ _ _ (s.ups _ _) c⟩
structure KM (K:Sl→Imm→Seg→Prop):Prop where
  more:∀ l l' I S,Sub l l'→K l I S→K l' I S
theorem Seq.more {n:Nat} (s:Sub l l') (h:Seq (ρ:=ρ) P N ops Q ds n l I M):Seq (ρ:=ρ) P N ops Q ds n l' I M:=fun a w hS hD hW=>h a w (hS.sub s) hD hW
theorem km0 {n0:Nat}:KM (fun l I S=>S=[]∧Seq (ρ:=ρ) P N ops Q ds n0 l I M):=⟨fun _ _ _ _ s h=>⟨h.1,h.2.more s⟩⟩
theorem km1 {n0:Nat}:KM (fun l I S=>Seq (ρ:=ρ) P N ops Q ds n0 l I (R++S)):=⟨fun _ _ _ _ s h=>h.more s⟩
theorem OFP.more (km:KM Kfin):∀ (order:List (Nat × Bool)) (l l':Sl) (I:Imm) (S:Seg),Sub l l'→OFP P N ops R Kfin order l I S→OFP P N ops R Kfin order l' I S
  | [],l,l',I,S,s,h=>km.more _ _ _ _ s h
  | (i,true)::r,l,l',I,S,s,⟨d,v,h1,h2⟩=>⟨d,v,h1.more s,OFP.more km r _ _ _ _ (s.cons_cons d v) h2⟩
  | (i,false)::r,l,l',I,S,s,h=>Stp.more (fun _ _ _ _ s' ⟨S',p,h'⟩=>⟨S',p,OFP.more km r _ _ _ _ s' h'⟩) s h
def pof (P:Program) (N:Nat) (ops:Array Oper) (order:List (Nat × Bool)) (k:Nat) (new l:Sl):Option Sl:=
  match pvo P N ops k order l with
  | some l'=>bif PQ new l k l' then pickL l' new true else none
  | none=>none
theorem pvo_split:∀ (k:Nat) (order:List (Nat × Bool)) (l l':Sl),pvo P N ops k order l=some l'→∃ ex:Sl,l'=ex++l∧ex.length=k
  | 0,_,l,l',h=>by cases h;exact ⟨[],rfl,rfl⟩
  | k+1,(i,true)::r,l,l',h=>by
    simp only [pvo] at h
    split at h
    · rename_i x hx
      obtain ⟨ex,h1,h2⟩:=pvo_split k r _ _ h;exact ⟨ex++[x],by rw [h1];simp,by simp [h2]⟩
    · cases h
  | k+1,(i,false)::r,l,l',h=>by cases h
  | k+1,[],l,l',h=>by cases h
theorem mask_sub {new:Sl} {ex:Sl} (hm:PQ new l ex.length (ex++l)=true) (hp:pickL (ex++l) new true=some new):Sub (new++l) (ex++l):=by
  intro t v ht;rw [JB] at ht;cases hn:DL t new with
  | some u=>rw [hn] at ht;cases ht;exact MF hp hn
  | none=>
    rw [hn] at ht;simp only at ht;rw [JB];cases he:DL t ex with
    | none=>exact ht
    | some u=>
      rcases maskOk_spec ex l hm (JS he) with h3 | h3
      · rw [look_none hn] at h3;cases h3
      · rw [JS ht] at h3;cases h3
theorem ox (k:Nat) (new:Sl) (next:OFP P N ops R Kfin (order.drop k) (new++l) I S) (h:pof P N ops order k new l=some new:=by kernel_rfl) (km:KM Kfin:=by first | exact km0 | exact km1):OFP P N ops R Kfin order l I S:=by
  unfold pof at h;cases hv:pvo P N ops k order l with
  | none=>rw [hv] at h;cases h
  | some l'=>
    rw [hv] at h;simp only at h;obtain ⟨ex,rfl,rfl⟩:=pvo_split _ _ _ _ hv;cases hm:PQ new l ex.length (ex++l) with
    | false=>rw [hm] at h;cases h
    | true=>
      rw [hm] at h;exact op_aux ex.length order l _ hv (OFP.more km _ _ _ _ _ (mask_sub hm h) next)
end
section
variable {ρ:Option Nat} {P:Program} {N:Nat} {ops:Array Oper} {Q:Exit→Act→World→Prop} {ds:List Deferred} {i:Nat} {l:Sl} {I:Imm} {M:Seg} {C:List Nat→Code} {p:List Nat}
theorem rq (h:Run (ρ:=ρ) P N (C (p++[0])) (Exit.then (fun a w=>(C (p++[1])).wpIn (fen ρ) 0 P Q a w) Q) ds l I M) (hc:C p=.seq (C (p++[0])) (C (p++[1])):=by kernel_rfl):Run (ρ:=ρ) P N (C p) Q ds l I M:=run_seq hc h
def OT (c:Code):Bool:=match c with | .region _ _ false=>true | _=>false
theorem PL {c:Code} (h:OT c=true):∃ id,c=.region id (GR c) false:=by
  unfold OT at h
  split at h
  · exact ⟨_,rfl⟩
  · cases h
theorem rr (h:Seq (ρ:=ρ) P N (GR (C p)) Q ds 0 l I M) (hc:OT (C p)=true:=by kernel_rfl):Run (ρ:=ρ) P N (C p) Q ds l I M:=by
  obtain ⟨id,hid⟩:=PL hc;exact run_region hid h
theorem rqr (h:Seq (ρ:=ρ) P N (GR (C (p++[0]))) (Exit.then (fun a w=>(C (p++[1])).wpIn (fen ρ) 0 P Q a w) Q) ds 0 l I M) (hc:C p=.seq (C (p++[0])) (C (p++[1])):=by kernel_rfl) (hr:OT (C (p++[0]))=true:=by kernel_rfl):Run (ρ:=ρ) P N (C p) Q ds l I M:=rq (rr h hr) hc
theorem se {y:Code} {Q':Exit→Act→World→Prop} (h:Run (ρ:=ρ) P N y Q ds l I M) (he:ops.size=i:=by kernel_rfl):Seq (ρ:=ρ) P N ops (Exit.then (fun a w=>y.wpIn (fen ρ) 0 P Q a w) Q') ds i l I M:=seq_end he (pst_next h)
theorem sn {Q' : Exit → Act → World → Prop} (h : Seq (ρ := ρ) P N (GR (C (p ++ [0]))) (Exit.then (fun a w => (C (p ++ [1])).wpIn (fen ρ) 0 P Q a w) Q) ds 0 l I M) (he : ops.size = i := by kernel_rfl) (hc : C p = .seq (C (p ++ [0])) (C (p ++ [1])) := by kernel_rfl) (hr : OT (C (p ++ [0])) = true := by kernel_rfl) :
    Seq (ρ:=ρ) P N ops (Exit.then (fun a w=>(C p).wpIn (fen ρ) 0 P Q a w) Q') ds i l I M:=se (rqr h hc hr) he
theorem rc (t : Nat) {b : Bool} (ht : DL t l = some (.bool b)) (h1 : b = true → Run (ρ := ρ) P N (C (p ++ [0])) Q ds l I M) (h2 : b = false → Run (ρ := ρ) P N (C (p ++ [1])) Q ds l I M)
    (hc:C p=.cond (.tmp t) (C (p++[0])) (C (p++[1])):=by kernel_rfl):Run (ρ:=ρ) P N (C p) Q ds l I M:=run_cond hc ht h1 h2
theorem rct (t:Nat) (ht:DL t l=some (.bool true)) (h1:Run (ρ:=ρ) P N (C (p++[0])) Q ds l I M) (hc:C p=.cond (.tmp t) (C (p++[0])) (C (p++[1])):=by kernel_rfl):Run (ρ:=ρ) P N (C p) Q ds l I M:=run_cond_true hc ht h1
theorem rcf (t:Nat) (ht:DL t l=some (.bool false)) (h1:Run (ρ:=ρ) P N (C (p++[1])) Q ds l I M) (hc:C p=.cond (.tmp t) (C (p++[0])) (C (p++[1])):=by kernel_rfl):Run (ρ:=ρ) P N (C p) Q ds l I M:=MT hc ht h1
theorem rb (id:Nat) (h:Run (ρ:=ρ) P N (C (p++[0])) (Exit.inBlock id Q) ds l I M) (hc:C p=.block id (C (p++[0])):=by kernel_rfl):Run (ρ:=ρ) P N (C p) Q ds l I M:=run_block hc h
theorem rl (J : Nat → Act → World → Prop) (h0 : ∀ a w, Slots N l a → a.defers = ds → St I M w → ∃ n0, J n0 a w) (round : ∀ n a w, J n a w → (C (p ++ [0])).wpIn (fen ρ) 0 P (Exit.then (fun a' w' => ∃ n', n' < n ∧ J n' a' w') Q) a w)
    (hc:C p=.loop (C (p++[0])):=by kernel_rfl):Run (ρ:=ρ) P N (C p) Q ds l I M:=run_loop hc J h0 round
theorem BJ (h:Pst N Q .ret ds l I M) (hc:C p=.ret:=by kernel_rfl):Run (ρ:=ρ) P N (C p) Q ds l I M:=run_ret hc h
theorem AH (h:Pst N Q .normal ds l I M) (hc:C p=.skip:=by kernel_rfl):Run (ρ:=ρ) P N (C p) Q ds l I M:=run_skip hc h
theorem BQ (id:Nat) (h:Pst N Q (.exit id) ds l I M) (hc:C p=.exit id:=by kernel_rfl):Run (ρ:=ρ) P N (C p) Q ds l I M:=run_exit hc h
theorem rlab (id:Nat) (h:Pst N Q .normal ds l I M) (hc:C p=.label id:=by kernel_rfl):Run (ρ:=ρ) P N (C p) Q ds l I M:=run_label hc h
def allT:Nat→Nat→List (Nat × Bool)
  | _,0=>[]
  | i,n+1=>(i,true)::allT (i+1) n
def OS (c:Code):Bool:=match c with | .region _ _ true=>true | _=>false
theorem JM {c:Code} (h:OS c=true):∃ id,c=.region id (GR c) true:=by
  unfold OS at h
  split at h
  · exact ⟨_,rfl⟩
  · cases h
theorem rd0 (n0 : Nat) (h : OFP P N (GR (C p)) M (fun l I S => S = [] ∧ Seq (ρ := ρ) P N (GR (C p)) Q ds n0 l I M) (allT 0 n0) l I []) (hm : P.follows .mixedOrders = true := by kernel_rfl) (hc : OS (C p) = true := by kernel_rfl)
    (hok:okAll (GR (C p)) n0 (allT 0 n0)=true:=by kernel_rfl):Run (ρ:=ρ) P N (C p) Q ds l I M:=by
  obtain ⟨id,hid⟩:=JM hc;exact run_draw0 n0 _ hm hid hok h
theorem rd (n0 : Nat) (order : List (Nat × Bool)) (R S : Seg) (h : OFP P N (GR (C p)) R (fun l I S => Seq (ρ := ρ) P N (GR (C p)) Q ds n0 l I (R ++ S)) order l I S) (hM : M.Perm (R ++ S) := by exact List.Perm.refl _) (hm : P.follows .mixedOrders = true := by kernel_rfl)
    (hc:OS (C p)=true:=by kernel_rfl) (hok:okAll (GR (C p)) n0 order=true:=by kernel_rfl):Run (ρ:=ρ) P N (C p) Q ds l I M:=by
  obtain ⟨id,hid⟩:=JM hc;exact run_draw n0 _ hm hid hok hM h
theorem ee (next:Pst N Q .normal ds l I M) (h:ops.size=i:=by kernel_rfl):Seq (ρ:=ρ) P N ops Q ds i l I M:=seq_end h next
theorem su {l' l:Sl} (h:pickL l l' true=some l':=by kernel_rfl):Sub l' l:=fun _ _ ht=>MF h ht
theorem sd {d:Nat} {v:Value} (h:Det P N ops i l I M d v) (next:Seq (ρ:=ρ) P N ops Q ds (i+1) ((d,v)::l) I M):Seq (ρ:=ρ) P N ops Q ds i l I M:=seq_det h next
theorem sS (h:Stp P N ops i l I M (fun l' I' M'=>Seq (ρ:=ρ) P N ops Q ds (i+1) l' I' M')):Seq (ρ:=ρ) P N ops Q ds i l I M:=seq_stp h
theorem sfz {α : Type} {E : TypeId} {sz : Nat} {cell : α → Nat → Value} {A Ms : Seg} {v : Value} {xs : List α} (dflt : α) (h : Own E sz cell v xs Ms) (hM : M.Perm (Ms ++ A)) (next : ∀ J, I.le J → IsSl sz cell dflt J v xs → Seq (ρ := ρ) P N ops Q ds i l J A)
    (hl:xs.length≤140737488355328:=by first | omega | (simp only [Bv,Aq,Cg,Ad,Be,Cq] <;> omega) | decide):Seq (ρ:=ρ) P N ops Q ds i l I M:=seq_freeze dflt h hl hM (List.Perm.refl _) next
theorem rpm {c:Code} {M':Seg} (p:M.Perm M') (next:Run (ρ:=ρ) P N c Q ds l I M'):Run (ρ:=ρ) P N c Q ds l I M:=run_mem (fun w h=>h.perm p) next
theorem rnm {c:Code} {M':Seg} (next:Run (ρ:=ρ) P N c Q ds l I M') (h:M=M':=by (try simp only [Am,Ci,De,Aa,List.set_cons_zero,List.set_cons_succ]);rfl):Run (ρ:=ρ) P N c Q ds l I M:=by subst h;exact next
theorem ppm {e:Exit} {M':Seg} (p:M.Perm M') (next:Pst N Q e ds l I M'):Pst N Q e ds l I M:=pst_mem (fun w h=>h.perm p) next
theorem pm {M':Seg} (p:M.Perm M') (next:Seq (ρ:=ρ) P N ops Q ds i l I M'):Seq (ρ:=ρ) P N ops Q ds i l I M:=AM (fun w h=>h.perm p) next
theorem nm {M':Seg} (next:Seq (ρ:=ρ) P N ops Q ds i l I M') (h:M=M':=by (try simp only [Am,Ci,De,Aa,List.set_cons_zero,List.set_cons_succ]);rfl):Seq (ρ:=ρ) P N ops Q ds i l I M:=by subst h;exact next
end
theorem fr {P : Program} {f : FuncId} {fn : Func} {args : List Value} {I : Imm} {pre : Seg} {post : Value → Imm → Seg → Prop} {N : Nat} (hf : P.funcs[f]? = some fn)
    (h:∀ F,Run (ρ:=none) P N (KT fn) (RetQ P fn I post F) [] (JK 0 args) I (pre++F)) (hb:fn.body.isSome=true:=by kernel_rfl) (hN:fn.ntmps=N:=by kernel_rfl) (hle:Nat.ble args.length N=true:=by rfl):Ct P f args.toArray I pre post:=
  fn_of_run hf hb hN (Bn hle) h
section
variable {ρ:Option Nat} {P:Program} {N:Nat} {ops:Array Oper} {Q:Exit→Act→World→Prop} {ds:List Deferred} {i:Nat} {l:Sl} {I:Imm} {R M:Seg}
def okAt (N:Nat) (ops:Array Oper) (l:Sl) (i:Nat):Option (Option Tmp × Op × TypeId):=
  match FH ops N i with
  | some (dst,op,ty,gd)=>match FL ops l gd with
    | some true=>some (dst,op,ty)
    | _=>none
  | none=>none
theorem FW {dst:Option Tmp} {op:Op} {ty:TypeId} (h:okAt N ops l i=some (dst,op,ty)):∃ gd,FH ops N i=some (dst,op,ty,gd)∧FL ops l gd=some true:=by
  unfold okAt at h
  split at h
  · split at h
    · rename_i h1 _ h2;cases h;exact ⟨_,h1,h2⟩
    · cases h
  · cases h
inductive Ar | add | sub | mul
def arAt (b:Ar) (N:Nat) (ops:Array Oper) (l:Sl) (i:Nat):Option (Nat × Int × Int):=
  match okAt N ops l i with
  | some (some d,.binOp o _ x y _,_)=>match CB l x,CB l y with
    | some (.int .i64 a),some (.int .i64 c)=>match b,o with
      | .add,.add=>some (d,a,c)
      | .sub,.sub=>some (d,a,c)
      | .mul,.mul=>some (d,a,c)
      | _,_=>none
    | _,_=>none
  | _=>none
theorem arAt_spec {b : Ar} {d : Nat} {a c : Int} (h : arAt b N ops l i = some (d, a, c)) : ∃ x y T T' ty gd, FH ops N i = some (some d, .binOp (match b with | .add => .add | .sub => .sub | .mul => .mul) T x y T', ty, gd) ∧ FL ops l gd = some true ∧
    CB l x=some (.int .i64 a)∧CB l y=some (.int .i64 c):=by
  unfold arAt at h
  split at h
  · rename_i d' o T x y T' ty ho
    obtain ⟨gd,h1,h2⟩:=FW ho
    split at h
    · rename_i a' c' hx hy
      split at h <;> cases h <;> exact ⟨x,y,T,T',ty,gd,h1,h2,hx,hy⟩
    · cases h
  · cases h
theorem da (d:Nat) (a c:Int) (hr:-9223372036854775808≤a+c∧a+c≤9223372036854775807:=by omega) (h:arAt .add N ops l i=some (d,a,c):=by kernel_rfl):Det P N ops i l I R d (.int .i64 (a+c)):=by
  obtain ⟨x,y,T,T',ty,gd,h1,h2,h3,h4⟩:=arAt_spec h;exact det_add h1 h2 h3 h4 hr
theorem dsb (d:Nat) (a c:Int) (hr:-9223372036854775808≤a-c∧a-c≤9223372036854775807:=by omega) (h:arAt .sub N ops l i=some (d,a,c):=by kernel_rfl):Det P N ops i l I R d (.int .i64 (a-c)):=by
  obtain ⟨x,y,T,T',ty,gd,h1,h2,h3,h4⟩:=arAt_spec h;exact det_sub h1 h2 h3 h4 hr
def cmAt (N:Nat) (ops:Array Oper) (l:Sl) (i:Nat):Option (Nat × BinOp × Int × Int):=
  match okAt N ops l i with
  | some (some d,.binOp o _ x y _,_)=>match CB l x,CB l y with
    | some (.int .i64 a),some (.int .i64 c)=>bif isCmp o then some (d,o,a,c) else none
    | _,_=>none
  | _=>none
theorem dcm (d:Nat) (o:BinOp) (a c:Int) (v:Bool) (hb:cmp o a c=v) (h:cmAt N ops l i=some (d,o,a,c):=by kernel_rfl):Det P N ops i l I R d (.bool v):=by
  unfold cmAt at h
  split at h
  · rename_i d' o' T x y T' ty ho
    obtain ⟨gd,h1,h2⟩:=FW ho
    split at h
    · rename_i a' c' hx hy
      cases hc:isCmp o' with
      | false=>rw [hc] at h;cases h
      | true=>rw [hc] at h;cases h;exact det_cmp' h1 h2 hx hy hc hb
    · cases h
  · cases h
def ixAt (P:Program) (N:Nat) (ops:Array Oper) (l:Sl) (i:Nat):Option (Nat × Nat × Option Addr × Nat × Int):=
  match okAt N ops l i with
  | some (some d,.indexAddr T x y,_)=>match ID P T with
    | some e=>match CW P e,CB l x,CB l y with
      | some sz,some (.slice a n _),some (.int _ j)=>some (d,sz,a,n,j)
      | _,_,_=>none
    | none=>none
  | _=>none
theorem diI (d sz : Nat) (j : Int) {n b off : Nat} {a : Option Addr} (ha : 0 < n → a = some ⟨b, off, none⟩) (hj : 0 ≤ j ∧ j < n := by omega) (h : ixAt P N ops l i = some (d, sz, a, n, j) := by kernel_rfl) :
    Det P N ops i l I R d (.pointer (some ⟨b,off+j.toNat*sz,none⟩)):=by
  unfold ixAt at h
  split at h
  · rename_i d' T x y ty ho
    obtain ⟨gd,h1,h2⟩:=FW ho
    split at h
    · rename_i e he
      split at h
      · rename_i sz' a' n' c' k' j' hs hx hy
        cases h;exact NL h1 h2 he hs hx hy ha hj.1 hj.2
      · cases h
    · cases h
  · cases h
theorem di (d sz : Nat) (j : Nat) {n b off : Nat} {a : Option Addr} (ha : 0 < n → a = some ⟨b, off, none⟩) (hj : j < n := by omega) (h : ixAt P N ops l i = some (d, sz, a, n, (j : Int)) := by kernel_rfl) :
    Det P N ops i l I R d (.pointer (some ⟨b,off+j*sz,none⟩)):=by
  have:=diI (I:=I) (R:=R) d sz (j:Int) ha (by omega) h
  rwa [Bx] at this
def iaAt (P:Program) (N:Nat) (ops:Array Oper) (l:Sl) (i:Nat):Option (Nat × Nat × Nat × Nat × Nat × Int):=
  match okAt N ops l i with
  | some (some d,.indexAddr T x y,_)=>match tyArr P T with
    | some (n,e)=>match CW P e,CB l x,CB l y with
      | some sz,some (.pointer (some ⟨b,off,none⟩)),some (.int _ j)=>some (d,sz,n,b,off,j)
      | _,_,_=>none
    | none=>none
  | _=>none
def ldAt (P:Program) (N:Nat) (ops:Array Oper) (l:Sl) (i:Nat):Option (Nat × Nat × Nat):=
  match okAt N ops l i with
  | some (some d,.load T x,_)=>match DR P T,CB l x with
    | some false,some (.pointer (some ⟨b,off,none⟩))=>some (d,b,off)
    | _,_=>none
  | _=>none
theorem dl (d:Nat) {b off:Nat} {v:Value} (hs:Sees I R ⟨b,off,none⟩ v) (h:ldAt P N ops l i=some (d,b,off):=by kernel_rfl):Det P N ops i l I R d v:=by
  unfold ldAt at h
  split at h
  · rename_i d' T x ty ho
    obtain ⟨gd,h1,h2⟩:=FW ho
    split at h
    · rename_i b' off' hT hx
      cases h;exact HP h1 h2 hT hx hs
    · cases h
  · cases h
def cellAt (R:Seg) (k off:Nat):Option (Nat × Value):=
  match R[k]? with
  | some (b,.cells cs _ _)=>match cs[off]? with
    | some v=>some (b,v)
    | none=>none
  | _=>none
theorem dlb (d k off b:Nat) (v:Value) (h:ldAt P N ops l i=some (d,b,off):=by kernel_rfl) (hc:cellAt R k off=some (b,v):=by kernel_rfl):Det P N ops i l I R d v:=by
  refine dl d ?_ h;unfold cellAt at hc
  split at hc
  · rename_i b' cs T fz hk
    split at hc
    · rename_i v' hv
      cases hc;exact sees_at k hk hv
    · cases hc
  · cases hc
def lnAt (P:Program) (N:Nat) (ops:Array Oper) (l:Sl) (i:Nat):Option (Nat × Nat × Nat × Nat):=
  match okAt N ops l i with
  | some (some d,.load T x,_)=>match DR P T,CW P T,CB l x with
    | some true,some n,some (.pointer (some ⟨b,off,none⟩))=>some (d,n,b,off)
    | _,_,_=>none
  | _=>none
theorem dn (d:Nat) {b off:Nat} {vs:List Value} (hs:SeesN I R b off vs) (h:lnAt P N ops l i=some (d,vs.length,b,off):=by kernel_rfl):Det P N ops i l I R d (.agg vs.toArray):=by
  unfold lnAt at h
  split at h
  · rename_i d' T x ty ho
    obtain ⟨gd,h1,h2⟩:=FW ho
    split at h
    · rename_i n' b' off' hT hn hx
      cases h;exact det_loadN h1 h2 hT hn hx rfl hs
    · cases h
  · cases h
def rowAt (R:Seg) (k off n:Nat):Option (Nat × List Value):=
  match R[k]? with
  | some (b,.cells cs _ _)=>some (b,(cs.toList.drop off).take n)
  | _=>none
theorem dnb (d k off b:Nat) (vs:List Value) (h:lnAt P N ops l i=some (d,vs.length,b,off):=by kernel_rfl) (hc:rowAt R k off vs.length=some (b,vs):=by kernel_rfl):Det P N ops i l I R d (.agg vs.toArray):=by
  refine dn d ?_ h;unfold rowAt at hc
  split at hc
  · rename_i b' cs T fz hk
    have h1:b'=b:=congrArg (fun x=>(x.getD (0,[])).1) hc;have h2:(cs.toList.drop off).take vs.length=vs:=congrArg (fun x=>(x.getD (0,[])).2) hc;subst h1;exact seesN_at (n:=vs.length) k hk h2
  · cases hc
def clAt (P:Program) (N:Nat) (ops:Array Oper) (l:Sl) (i:Nat):Option (Option Tmp × FuncId × Array Value):=
  match okAt N ops l i with
  | some (d,.call { callee:=.value f,args:=args,argTypes:=_ },_)=>match CB l f,NF l args.toList with
    | some (.func (.func fid) ⟨fs⟩ cv),some vals=>bif DN P fid&&fs.isEmpty then some (d,fid,(vals++cv.toList).toArray) else none
    | _,_=>none
  | _=>none
theorem clAt_spec {d : Option Tmp} {fid : FuncId} {argv : Array Value} (h : clAt P N ops l i = some (d, fid, argv)) : ∃ f args tys ty gd vals cv, FH ops N i = some (d, .call { callee := .value f, args := args, argTypes := tys }, ty, gd) ∧ FL ops l gd = some true ∧
    CB l f=some (.func (.func fid) #[] (cv:List Value).toArray)∧NF l args.toList=some vals∧DN P fid=true∧(vals++cv).toArray=argv:=by
  unfold clAt at h
  split at h
  · rename_i d' f args tys ty ho
    obtain ⟨gd,h1,h2⟩:=FW ho
    split at h
    · rename_i fid' fs cv vals hf hv
      cases hc:DN P fid'&&fs.isEmpty with
      | false=>rw [hc] at h;cases h
      | true=>
        rw [hc] at h;cases h;rw [Ah,List.isEmpty_iff] at hc;obtain ⟨hc,rfl⟩:=hc;exact ⟨f,args,tys,ty,gd,vals,cv.toList,h1,h2,by simpa using hf,hv,hc,rfl⟩
    · cases h
  · cases h
theorem dc (d:Nat) {fid:FuncId} {argv:Array Value} {v:Value} (ct:∀ I',I.le I'→CtV P fid argv I' v) (h:clAt P N ops l i=some (some d,fid,argv):=by kernel_rfl):Det P N ops i l I R d v:=by
  obtain ⟨f,args,tys,ty,gd,vals,cv,h1,h2,h3,h4,h5,h6⟩:=clAt_spec h;exact det_call h1 h2 h3 h4 h5 h6 ct
theorem sc (d : Option Tmp) {K : Sl → Imm → Seg → Prop} {fid : FuncId} {argv : Array Value} {pre F : Seg} {post : Value → Imm → Seg → Prop} (ct : Ct P fid argv I pre post) (hM : M.Perm (pre ++ F))
    (hk:∀ v I' M',I.le I'→post v I' M'→K (ups d v l) I' (M'++F)) (h:clAt P N ops l i=some (d,fid,argv):=by kernel_rfl):Stp P N ops i l I M K:=by
  obtain ⟨f,args,tys,ty,gd,vals,cv,h1,h2,h3,h4,h5,h6⟩:=clAt_spec h;exact MK h1 h2 h3 h4 h5 h6 ct hM hk
def bxAt (N:Nat) (ops:Array Oper) (l:Sl) (i:Nat):Option (Nat × TypeId × Array Value):=
  match okAt N ops l i with
  | some (some d,.box T x,_)=>match CB l x with
    | some v=>some (d,T,v.cells)
    | none=>none
  | _=>none
theorem sb (d T:Nat) (cs:Array Value) {K:Sl→Imm→Seg→Prop} (hk:∀ b,K ((d,.pointer (some ⟨b,0,none⟩))::l) I ((b,.cells cs T (0,0))::M)) (h:bxAt N ops l i=some (d,T,cs):=by kernel_rfl):Stp P N ops i l I M K:=by
  unfold bxAt at h
  split at h
  · rename_i d' T' x ty ho
    obtain ⟨gd,h1,h2⟩:=FW ho
    split at h
    · rename_i v hx
      cases h;exact stp_box h1 h2 hx rfl hk
    · cases h
  · cases h
def alAt (P:Program) (N:Nat) (ops:Array Oper) (l:Sl) (i:Nat):Option (Nat × TypeId × Array Value):=
  match okAt N ops l i with
  | some (some d,.alloc T,_)=>match JI P T with
    | some v=>some (d,T,v.cells)
    | none=>none
  | _=>none
theorem sal (d T:Nat) (cs:Array Value) {K:Sl→Imm→Seg→Prop} (hk:∀ b,K ((d,.pointer (some ⟨b,0,none⟩))::l) I ((b,.cells cs T (0,0))::M)) (h:alAt P N ops l i=some (d,T,cs):=by kernel_rfl):Stp P N ops i l I M K:=by
  unfold alAt at h
  split at h
  · rename_i d' T' ty ho
    obtain ⟨gd,h1,h2⟩:=FW ho
    split at h
    · rename_i v hx
      cases h;exact stp_alloc h1 h2 hx rfl hk
    · cases h
  · cases h
def stAt (P:Program) (N:Nat) (ops:Array Oper) (l:Sl) (i:Nat):Option (Nat × Nat × List Value):=
  match okAt N ops l i with
  | some (none,.store T x y,_)=>match CB l x,CB l y,CW P T with
    | some (.pointer (some ⟨b,off,none⟩)),some v,some n=>bif Nat.beq v.cells.toList.length n&&v.cells.toList.all DF then some (b,off,v.cells.toList) else none
    | _,_,_=>none
  | _=>none
theorem ss (k off b : Nat) (vs cs' : List Value) (M' : Seg) {cs : List Value} {S : TypeId} {K : Sl → Imm → Seg → Prop} (hk : M[k]? = some (b, Obj.cells cs.toArray S (0, 0))) (hM : M.set k (b, Obj.cells cs'.toArray S (0, 0)) = M') (hK : K l I M')
    (h:stAt P N ops l i=some (b,off,vs):=by kernel_rfl) (hs:(HW cs.toArray off vs).toList=cs':=by kernel_rfl) (hle:Nat.ble (off+vs.length) cs.length=true:=by kernel_rfl):Stp P N ops i l I M K:=by
  unfold stAt at h
  split at h
  · rename_i T' x y ty ho
    obtain ⟨gd,h1,h2⟩:=FW ho
    split at h
    · rename_i b' off' v n hx hy hn
      cases hc:Nat.beq v.cells.toList.length n&&v.cells.toList.all DF with
      | false=>rw [hc] at h;cases h
      | true=>
        rw [hc] at h;cases h;rw [Ah] at hc;exact stp_store k h1 h2 hx hy hn rfl (Ao hc.1) hc.2 hk (Bn hle) hs hM hK
    · cases h
  · cases h
def bsAt (P:Program) (N:Nat) (ops:Array Oper) (l:Sl) (i:Nat):Option (Nat × TypeId × Nat × Array Value):=
  match okAt N ops l i with
  | some (some d,.buildSlice T n parts,_)=>match ID P T,NF l (parts.toList.map (·.2)) with
    | some e,some _=>match CW P e,JI P e with
      | some sz, some z => bif Nat.ble (n * sz) 16777216 then
          match Instr.fill (fun i=>some (i*sz,sz)) ((Array.range (n*sz)).map (fun k=>(if n*sz=0 then #[] else z.cells)[k%(if n*sz=0 then (#[]:Array Value) else z.cells).size]!)) (parts.toList.map fun x=>(x.1,rho l x.2)) with
          | some cs=>some (d,e,n,cs)
          | none=>none
        else none
      | _,_=>none
    | _,_=>none
  | _=>none
theorem sbs (d e n:Nat) (cs:Array Value) {K:Sl→Imm→Seg→Prop} (hk:∀ b,K ((d,.slice (some ⟨b,0,none⟩) n n)::l) I ((b,.cells cs e (0,0))::M)) (h:bsAt P N ops l i=some (d,e,n,cs):=by kernel_rfl):Stp P N ops i l I M K:=by
  unfold bsAt at h
  split at h
  · rename_i d' T n' parts ty ho
    obtain ⟨gd,h1,h2⟩:=FW ho
    split at h
    · rename_i e' vs he hv
      split at h
      · rename_i sz z hs hz
        cases hc:Nat.ble (n'*sz) 16777216 with
        | false=>rw [hc] at h;cases h
        | true=>
          rw [hc] at h;simp only [cond_true] at h
          split at h
          · rename_i cs' hf
            cases h;exact stp_buildSlice h1 h2 he hs hz (parts_knownS (by rw [hv];rfl)) rfl (Bn hc) hf hk
          · cases h
      · cases h
    · cases h
  · cases h
end
theorem encL_split {α : Type} (sz : Nat) (cell : α → Nat → Value) (dflt : α) (xs : List α) (j : Nat) (h : j < xs.length) :
    DM sz cell xs=DM sz cell (xs.take j)++((List.range sz).map (cell (xs.getD j dflt))++DM sz cell (xs.drop (j+1))):=by
  have e:xs=xs.take j++xs.getD j dflt::xs.drop (j+1):=by
    have:xs.drop j=xs.getD j dflt::xs.drop (j+1):=by
      rw [Ch h];simp [List.getD,h]
    rw [← this,Ce]
  conv=>lhs;rw [e]
  simp only [DM,Cz,Dc]
theorem encL_setAll {α : Type} (sz : Nat) (cell : α → Nat → Value) (z : α) (xs : List α) (j : Nat) (h : j < xs.length) :
    DM sz cell (xs.set j z)=DM sz cell (xs.take j)++((List.range sz).map (cell z)++DM sz cell (xs.drop (j+1))):=by
  rw [List.set_eq_take_append_cons_drop,if_pos h];simp only [DM,Cz,Dc]
section
variable {ρ:Option Nat} {P:Program} {N:Nat} {ops:Array Oper} {i:Nat} {l:Sl} {I:Imm} {M:Seg} {ty:TypeId} {gd:Option (Nat × Bool)} {K:Sl→Imm→Seg→Prop}
theorem OG {α : Type} {T : TypeId} {x y : Operand} {v : Value} {E sz : Nat} {cell : α → Nat → Value} {a : Option Addr} {n c b : Nat} {xs : List α} {Ms R : Seg} {rc : Nat → Nat → Value} (dflt : α) (j : Nat) (z : α)
    (hop:FH ops N i=some (none,.store T x y,ty,gd)) (hg:FL ops l gd=some true) (own:Own E sz cell (.slice a n c) xs Ms) (row:ORow sz Ms a b xs.length rc) (hj:j<xs.length)
    (hx:CB l x=some (.pointer (some ⟨b,0+j*sz,none⟩))) (hy:CB l y=some v) (hsz:CW P T=some sz) (hv:v.cells.toList=(List.range sz).map (cell z)) (hone:∀ w∈(List.range sz).map (cell z),DF w=true)
    (hM:M.Perm (Ms++R)) (next:∀ Ms',Own E sz cell (.slice a n c) (xs.set j z) Ms'→K l I (Ms'++R)):Stp P N ops i l I M K:=by
  have ha:=row.addr (by omega);rcases own with ⟨hv',rfl,rfl⟩ | ⟨b',c',sp,hv',hcap,rfl,hlen⟩
  · simp at hj
  · simp only [Value.slice.injEq] at hv'
    obtain ⟨rfl,rfl,rfl⟩:=hv';simp only [Cj,Addr.mk.injEq,and_true] at ha;subst ha;refine JH hop hg (HE hx hy) hM ?_;show wpL P (Instr.storeAt T (rho l x) (rho l y) >>= fun _=>pure Next.skip) _ I _;rw [BI hx,BI hy,AE];show wpL P (storeVar T ⟨b',0+j*sz,none⟩ v) _ I _;unfold storeVar;rw [AE,CG hsz];have hl:v.cells.size=sz:=by rw [← Array.length_toList,hv];simp
    rw [if_neg (by simp [hl])];show wpL P (storeCells ⟨b',0+j*sz,none⟩ v.cells.toList) _ I _;rw [hv];have hs:=encL_split sz cell dflt xs j hj;have hA:(DM sz cell (xs.take j)).length=j*sz:=by rw [BT,Be,Nat.min_eq_left (by omega)]
    refine GU (T:=E) (k:=0) ((List.range sz).map (cell z)) 0 _ (DM sz cell xs++sp).toArray _ (by simp) ?_ hone ?_
    · rw [hs]
      simp only [List.size_toArray,Ad,Bi,Di,hA];omega
    · refine ⟨undef,_,.inr ⟨rfl,rfl⟩,List.Sublist.refl _,?_⟩
      have e2:HW (DM sz cell xs++sp).toArray (0+j*sz+0) ((List.range sz).map (cell z))=(DM sz cell (xs.set j z)++sp).toArray:=by
        apply Array.ext'
        have:=IJ ((List.range sz).map (cell z)) (DM sz cell (xs.take j)) ((List.range sz).map (cell (xs.getD j dflt))++DM sz cell (xs.drop (j+1))++sp) (by simp);rw [hA] at this;rw [hs,encL_setAll sz cell z xs j hj,show 0+j*sz+0=j*sz by omega,Am,this];simp
      rw [e2];exact next _ (.inr ⟨b',c,sp,by simp,by simpa using hcap,rfl,by rw [← hlen,Ad,Ad,BT,BT,Bv]⟩)
end
theorem PY {Ms:Seg} {a:Option Addr} {b n:Nat} {cs:List Sh.Shift} (h:ORow 3 Ms a b n (fun i f=>Sh.shiftCell (cs.getD i Sh.noShift) f)) {I:Imm} {M:Seg} (hM:∀ x∈Ms,x∈M) (i:Nat) (hi:i<n):SeesN I M b (0+i*3) (Sh.shiftVals (cs.getD i Sh.noShift)):=fun k v hv=>by
  have hk:k<3:=(Bc.1 hv).1;have:=h.get i hi k hk I M hM
  match k,hk with
  | 0,_=>exact (Bm hv)▸this
  | 1,_=>exact (Bm hv)▸this
  | 2,_=>exact (Bm hv)▸this
abbrev EqS (R:Seg):Seg→Prop:=fun X=>X=R
inductive FpOk (ops:Array Oper) (i:Nat) (M:Seg):List (Nat × (Seg→Prop))→Prop
  | nil:FpOk ops i M []
  | wait {k:Nat} {pr:Seg→Prop} {fp:List (Nat × (Seg→Prop))}:wt ops i k=true→FpOk ops i M fp→FpOk ops i M ((k,pr)::fp)
  | none {k:Nat} {fp:List (Nat × (Seg→Prop))}:FpOk ops i M fp→FpOk ops i M ((k,EqS [])::fp)
  | part {k:Nat} {R Sx:Seg} {fp:List (Nat × (Seg→Prop))}:M.Perm (R++Sx)→FpOk ops i M fp→FpOk ops i M ((k,EqS R)::fp)
  | other {k:Nat} {pr:Seg→Prop} {R Sx:Seg} {fp:List (Nat × (Seg→Prop))}:pr R→M.Perm (R++Sx)→FpOk ops i M fp→FpOk ops i M ((k,pr)::fp)
theorem FpOk.all {ops:Array Oper} {i:Nat} {M:Seg} {fp:List (Nat × (Seg→Prop))} (h:FpOk ops i M fp):∀ p∈fp,wt ops i p.1=true∨∃ Rx Sx,p.2 Rx∧M.Perm (Rx++Sx):=by
  induction h with
  | nil=>intro p hp;simp at hp
  | wait h _ ih=>
    intro p hp;rcases Ac.1 hp with rfl | hp
    · exact .inl h
    · exact ih p hp
  | none _ ih=>
    intro p hp;rcases Ac.1 hp with rfl | hp
    · exact .inr ⟨[],M,rfl,List.Perm.refl _⟩
    · exact ih p hp
  | part h _ ih=>
    intro p hp;rcases Ac.1 hp with rfl | hp
    · exact .inr ⟨_,_,rfl,h⟩
    · exact ih p hp
  | other h h2 _ ih=>
    intro p hp;rcases Ac.1 hp with rfl | hp
    · exact .inr ⟨_,_,h,h2⟩
    · exact ih p hp
section
variable {P:Program} {N:Nat} {ops:Array Oper} {als:List Nat} {al:List (Nat × Nat × Fresh)} {L0:Sl} {F0:Seg} {Kf:Sl→Imm→Seg→Prop} {fp:List (Nat × (Seg→Prop))} {rest:List (Nat × Bool)} {i d:Nat} {v:Value} {l:Sl} {I:Imm} {M M':Seg}
def lkB (d:Nat) (v:Value) (L0:Sl):Prop:=match DL d L0 with | some u=>v=u | none=>True
theorem lkOk {L0:Sl} {d:Nat} {v:Value} (h:lkB d v L0):∀ u,DL d L0=some u→v=u:=fun u hu=>by
  unfold lkB at h;rw [hu] at h;exact h
theorem AP (h:Det P N ops i l I M d v) (next:OFPX P N ops als F0 Kf al L0 ((i,EqS M)::fp) rest ((d,v)::l) I M) (hL:lkB d v L0:=by first | exact trivial | exact rfl):OFPX P N ops als F0 Kf al L0 fp ((i,true)::rest) l I M:=⟨d,v,EqS M,M,[],fun _ e=>e▸h,rfl,by simp,lkOk hL,next⟩
theorem BC (h:Det P N ops i l I [] d v) (next:OFPX P N ops als F0 Kf al L0 ((i,EqS [])::fp) rest ((d,v)::l) I M) (hL:lkB d v L0:=by first | exact trivial | exact rfl):OFPX P N ops als F0 Kf al L0 fp ((i,true)::rest) l I M:=⟨d,v,EqS [],[],M,fun _ e=>e▸h,rfl,by simp,lkOk hL,next⟩
theorem DO {Rx Sx:Seg} (hp:M.Perm (Rx++Sx)) (h:Det P N ops i l I Rx d v) (next:OFPX P N ops als F0 Kf al L0 ((i,EqS Rx)::fp) rest ((d,v)::l) I M) (hL:lkB d v L0:=by first | exact trivial | exact rfl):OFPX P N ops als F0 Kf al L0 fp ((i,true)::rest) l I M:=⟨d,v,EqS Rx,Rx,Sx,fun _ e=>e▸h,rfl,hp,lkOk hL,next⟩
theorem ofx_ac {T:TypeId} {cs:Array Value} (ha:CN al i=some (d,.cl T cs)) (next:∀ b,OFPX P N ops als F0 Kf al L0 fp rest ((d,.pointer (some ⟨b,0,none⟩))::l) I ((b,Obj.cells cs T (0,0))::M)):OFPX P N ops als F0 Kf al L0 fp ((i,false)::rest) l I M:=by
  unfold OFPX;rw [ha];exact next
theorem ofx_bs {T:TypeId} {n:Nat} {cs:Array Value} (ha:CN al i=some (d,.bs T n cs)) (next:∀ b,OFPX P N ops als F0 Kf al L0 fp rest ((d,.slice (some ⟨b,0,none⟩) n n)::l) I ((b,Obj.cells cs T (0,0))::M)):OFPX P N ops als F0 Kf al L0 fp ((i,false)::rest) l I M:=by
  unfold OFPX;rw [ha];exact next
def dsB (ops:Array Oper) (i:Nat) (L0:Sl):Bool:=match DZ ops i with | some d=>(DL d L0).isNone | none=>true
theorem dsB_nil (ops:Array Oper) (i:Nat):dsB ops i []=true:=by unfold dsB;split <;> rfl
theorem dsB_spec {L0:Sl} (h:dsB ops i L0=true):∀ d,DZ ops i=some d→DL d L0=none:=fun d hd=>by
  unfold dsB at h;rw [hd] at h;simpa using h
def knB (ops:Array Oper) (als:List Nat) (al:List (Nat × Nat × Fresh)) (rest:List (Nat × Bool)):Bool:=als.all fun j=>(CN al j).isSome||rest.any fun x=>!x.2&&(wt ops j x.1&&!(isAl als x.1))
theorem knB_spec (h:knB ops als al rest=true):Known ops als al rest:=fun j hj=>by
  obtain ⟨k,hk,e⟩:=List.any_eq_true.1 (show (als.any fun k=>Nat.beq k j)=true from hj);obtain rfl:=Ao e;have:=Ax.1 h k hk;simp only [Bw,List.any_eq_true,Ah,Ck] at this;rcases this with h1 | ⟨⟨a,b⟩,h2,h3,h4,h5⟩
  · exact .inl (Option.isSome_iff_exists.1 h1)
  · simp only at h3 h4 h5
    subst h3;exact .inr ⟨a,h2,h4,h5⟩
theorem DQ {Mx : Seg → Seg} (ha : CN al i = none) (hp : ∀ F, (Mx F).Perm (M ++ F))
    (h:∀ F,Stp P N ops i l I (Mx F) fun l' I' M'=>∃ M1 al' L0',M'.Perm (M1++F)∧FpOk ops i M1 fp∧Ext P N ops als al L0 al' L0' l'∧knB ops als al' rest=true∧OFPX P N ops als F0 Kf al' L0' fp rest l' I' M1) (hS:dsB ops i L0=true:=by first | exact dsB_nil _ _ | kernel_rfl):OFPX P N ops als F0 Kf al L0 fp ((i,false)::rest) l I M:=by
  unfold OFPX;rw [ha];refine ⟨dsB_spec hS,?_⟩;exact fun F _=>Stp.perm (hp F).symm (Stp.mono (h F) fun l' I' M' ⟨M1,al',L0',a,b,e,k,c⟩=>⟨M1,al',L0',a,b.all,e,knB_spec k,c⟩)
theorem FM {F M1:Seg} (hp:M'.Perm (M1++F)) (hf:FpOk ops i M1 fp) (next:OFPX P N ops als F0 Kf al L0 fp rest l I M1) (hk:knB ops als al rest=true:=by kernel_rfl):∃ M1 al' L0',M'.Perm (M1++F)∧FpOk ops i M1 fp∧Ext P N ops als al L0 al' L0' l∧knB ops als al' rest=true∧OFPX P N ops als F0 Kf al' L0' fp rest l I M1:=⟨M1,al,L0,hp,hf,.inl ⟨rfl,rfl⟩,hk,next⟩
def asB (als:List Nat) (al:List (Nat × Nat × Fresh)):Bool:=al.all fun x=>isAl als x.1
theorem alFind_in:∀ (al:List (Nat × Nat × Fresh)) {i d:Nat} {E:Fresh},CN al i=some (d,E)→(i,d,E)∈al:=by
  intro al
  induction al with
  | nil=>intro i d E h;cases h
  | cons x r ih=>
    intro i d E h;unfold CN at h;cases hb:Nat.beq x.1 i with
    | true=>
      rw [hb] at h;simp only [cond_true,Cj] at h;have e:=Ao hb;rcases x with ⟨x1,x2⟩
      simp only at h e;subst h e;exact Aj
    | false=>
      rw [hb] at h;exact Ag _ (ih h)
theorem asB_spec (h:asB als al=true):∀ i d E,CN al i=some (d,E)→isAl als i=true:=fun i d E hi=>Ax.1 h _ (alFind_in al hi)
theorem FV (h:Kf l I M):OFPX P N ops als F0 Kf al L0 fp [] l I M:=h
def noLooks (ops:Array Oper) (i:Nat):Bool:=match ops[i]? with | some o=>(o.looksAt ops).isEmpty | none=>false
theorem PX (h2:noLooks ops i=true) (t:Nat):EA ops i t=false:=by
  unfold noLooks at h2;unfold EA;cases ho:ops[i]? with
  | none=>rfl
  | some o=>
    rw [ho] at h2;simp only [List.isEmpty_iff] at h2;simp [h2]
def supB (ops:Array Oper) (i:Nat) (L0:Sl):Bool:=match ops[i]? with
  | some o=>(o.looksAt ops).all fun t=>(DL t L0).isSome&&(List.range ops.size).all fun k=>!(dstB ops k t)||wt ops i k
  | none=>false
theorem supB_spec {L0:Sl} (h:supB ops i L0=true):∀ t,EA ops i t=true→∃ u,DL t L0=some u∧∀ k,DZ ops k=some t→wt ops i k=true:=fun t ht=>by
  unfold supB at h;unfold EA at ht;cases ho:ops[i]? with
  | none=>rw [ho] at h;cases h
  | some o=>
    rw [ho] at h ht;simp only [Ax,Ah,List.any_eq_true,Bw,Ck] at h ht;obtain ⟨u,hu,e⟩:=ht;obtain rfl:=Ao e;obtain ⟨h1,h2⟩:=h u hu;obtain ⟨v,hv⟩:=Option.isSome_iff_exists.1 h1;refine ⟨v,hv,fun k hk=>?_⟩;rcases h2 k (Bl.2 (PJ hk)) with h3 | h3
    · rw [OO hk] at h3;cases h3
    · exact h3
theorem alOk_cl {T:TypeId} {cs:Array Value} (h1:DZ ops i=some d) (h2:noLooks ops i=true) (h3:alAt P N ops [] i=some (d,T,cs)):AlOk P N ops [] i d (.cl T cs):=
  ⟨h1,rfl,(fun t ht=>by rw [PX h2] at ht;cases ht),fun I M=>sal d T cs (fun b=>⟨b,rfl,rfl,rfl⟩) h3⟩
theorem alOk_bsL {L0:Sl} {T:TypeId} {n:Nat} {cs:Array Value} (h1:DZ ops i=some d) (h0:DL d L0=none) (h2:supB ops i L0=true) (h3:bsAt P N ops L0 i=some (d,T,n,cs)):AlOk P N ops L0 i d (.bs T n cs):=
  ⟨h1,h0,supB_spec h2,fun I M=>sbs d T n cs (fun b=>⟨b,rfl,rfl,rfl⟩) h3⟩
theorem HU:∀ i d E,CN [] i=some (d,E)→AlOk P N ops L0 i d E:=fun _ _ _ h=>by cases h
theorem MZ {E:Fresh} (h:AlOk P N ops L0 i d E) (r:∀ i d E,CN al i=some (d,E)→AlOk P N ops L0 i d E):∀ i' d' E',CN ((i,d,E)::al) i'=some (d',E')→AlOk P N ops L0 i' d' E':=fun i' d' E' h'=>by
  unfold CN at h';cases hb:Nat.beq i i' with
  | true=>
    have e:=Ao hb;rw [hb] at h';simp only [cond_true,Cj,Bs] at h';obtain ⟨rfl,rfl⟩:=h';exact e▸h
  | false=>
    rw [hb] at h';exact r i' d' E' h'
end
def alInjS (ops:Array Oper) (als:List Nat):Bool:=als.all fun i=>als.all fun j=>Nat.beq i j||!(match DZ ops i,DZ ops j with | some a,some b=>Nat.beq a b | _,_=>false)
theorem alInjS_spec {ops:Array Oper} {als:List Nat} (h:alInjS ops als=true):∀ i j d,isAl als i=true→isAl als j=true→DZ ops i=some d→DZ ops j=some d→i=j:=fun i j d hi hj h1 h2=>by
  obtain ⟨k,hk,e⟩:=List.any_eq_true.1 (show (als.any fun k=>Nat.beq k i)=true from hi);obtain rfl:=Ao e;obtain ⟨k',hk',e'⟩:=List.any_eq_true.1 (show (als.any fun k=>Nat.beq k j)=true from hj);obtain rfl:=Ao e';have:=Ax.1 (Ax.1 h _ hk) _ hk';rw [h1,h2] at this;simp only [Nat.beq_refl,Bool.not_true,Bool.or_false] at this;exact Ao this
section
variable {ρ:Option Nat} {P:Program} {N:Nat} {Q:Exit→Act→World→Prop} {ds:List Deferred} {C:List Nat→Code} {p:List Nat} {l:Sl} {I:Imm} {M0 M F0:Seg}
theorem rdX (al : List (Nat × Nat × Fresh)) (n0 : Nat) (order : List (Nat × Bool)) (hM : M0.Perm (M ++ F0)) (hA : ∀ i d E, CN al i = some (d, E) → AlOk P N (GR (C p)) [] i d E) (h : OFPX P N (GR (C p)) (al.map Prod.fst) F0 (fun l I M => Seq (ρ := ρ) P N (GR (C p)) Q ds n0 l I (M ++ F0)) al [] [] order l I M) (hI : (alInjS (GR (C p)) (al.map Prod.fst) && (asB (al.map Prod.fst) al && knB (GR (C p)) (al.map Prod.fst) al order)) = true := by kernel_rfl)
    (hm:P.follows .mixedOrders=true:=by kernel_rfl) (hc:OS (C p)=true:=by kernel_rfl) (hok:okAllX (al.map Prod.fst) (GR (C p)) n0 order=true:=by kernel_rfl):Run (ρ:=ρ) P N (C p) Q ds l I M0:=by
  obtain ⟨id,hid⟩:=JM hc;simp only [Ah] at hI;exact fun a w hS hD hW=>run_drawX _ al n0 order hm hid hok hA (asB_spec hI.2.1) (knB_spec hI.2.2) (alInjS_spec hI.1) (fun _ _ h=>by cases h) h a w hS hD (hW.perm hM)
def regB (ops:Array Oper) (L0:Sl):Bool:=L0.all fun x=>(List.range ops.size).any fun k=>dstB ops k x.1
theorem look_mem:∀ (L:Sl) {t:Nat} {u:Value},DL t L=some u→∃ x∈L,x.1=t:=by
  intro L
  induction L with
  | nil=>intro t u h;cases h
  | cons x r ih=>
    intro t u h;rcases x with ⟨k,v⟩
    unfold DL at h;cases hb:Nat.beq k t with
    | true=>exact ⟨_,Aj,Ao hb⟩
    | false=>
      rw [hb] at h;obtain ⟨y,hy,e⟩:=ih h;exact ⟨y,Ag _ hy,e⟩
theorem regB_spec {ops:Array Oper} {L0:Sl} (h:regB ops L0=true):∀ t u,DL t L0=some u→∃ k,DZ ops k=some t:=fun t u ht=>by
  obtain ⟨x,hx,rfl⟩:=look_mem L0 ht;obtain ⟨k,_,hk⟩:=List.any_eq_true.1 (Ax.1 h x hx);refine ⟨k,?_⟩;unfold dstB at hk;unfold DZ;cases ho:ops[k]? with
  | none=>rw [ho] at hk;cases hk
  | some o=>
    rw [ho] at hk;simp only at hk;cases hd:o.dst with
    | none=>rw [hd] at hk;cases hk
    | some d=>
      rw [hd] at hk;simp only at hk;rw [Ao hk] at hd
      simpa using hd
theorem rdY (L0 : Sl) (als : List Nat) (al : List (Nat × Nat × Fresh)) (n0 : Nat) (order : List (Nat × Bool)) (hM : M0.Perm (M ++ F0)) (hA : ∀ i d E, CN al i = some (d, E) → AlOk P N (GR (C p)) L0 i d E) (h : OFPX P N (GR (C p)) als F0 (fun l I M => Seq (ρ := ρ) P N (GR (C p)) Q ds n0 l I (M ++ F0)) al L0 [] order l I M) (hI : (alInjS (GR (C p)) als && (asB als al && knB (GR (C p)) als al order)) = true := by kernel_rfl)
    (hm:P.follows .mixedOrders=true:=by kernel_rfl) (hc:OS (C p)=true:=by kernel_rfl) (hok:okAllX als (GR (C p)) n0 order=true:=by kernel_rfl) (hr:regB (GR (C p)) L0=true:=by kernel_rfl):Run (ρ:=ρ) P N (C p) Q ds l I M0:=by
  obtain ⟨id,hid⟩:=JM hc;simp only [Ah] at hI;exact fun a w hS hD hW=>run_drawX _ al n0 order hm hid hok hA (asB_spec hI.2.1) (knB_spec hI.2.2) (alInjS_spec hI.1) (fun t u ht=>.inl (regB_spec hr t u ht)) h a w hS hD (hW.perm hM)
end
end Go.Sl
namespace Go.Sh
open Go Go.Sl
def Rev {α:Type} (d:α) (xs zs:List α) (k:Nat):Prop:=zs.length=xs.length∧∀ p,p<xs.length→zs.getD p d=if p<k∨xs.length-k≤p then xs.getD (xs.length-1-p) d else xs.getD p d
theorem Rev.start {α:Type} (d:α) (xs:List α):Rev d xs xs 0:=⟨rfl,fun p hp=>by rw [if_neg (by omega)]⟩
theorem getD_set {α:Type} {d z:α} {xs:List α} {j p:Nat} (hj:j<xs.length):(xs.set j z).getD p d=if p=j then z else xs.getD p d:=by
  simp only [List.getD]
  by_cases e:j=p
  · subst e;rw [Bp hj,if_pos rfl];rfl
  · rw [Bk e,if_neg (Ne.symm e)]
theorem Rev.step {α:Type} {d:α} {xs zs:List α} {k j:Nat} (h:Rev d xs zs k) (hj:j=xs.length-1-k) (hk:k<j):Rev d xs ((zs.set k (zs.getD j d)).set j (zs.getD k d)) (k+1):=by
  obtain ⟨h1,h2⟩:=h;refine ⟨by simp [h1],fun p hp=>?_⟩;rw [getD_set (by rw [Bv];omega),getD_set (by omega)]
  by_cases e1:p=j
  · subst e1
    rw [if_pos rfl,if_pos (by omega),h2 k (by omega),if_neg (by omega)]
    congr 1;omega
  · rw [if_neg e1]
    by_cases e2:p=k
    · subst e2
      rw [if_pos rfl,if_pos (by omega),h2 j (by omega),if_neg (by omega),hj]
    · rw [if_neg e2,h2 p hp]
      by_cases e3:p<k∨xs.length-k≤p
      · rw [if_pos e3,if_pos (by omega)]
      · rw [if_neg e3,if_neg (by omega)]
theorem Rev.done {α:Type} {d:α} {xs zs:List α} {k:Nat} (h:Rev d xs zs k) (hk:xs.length-1-k≤k):zs=xs.reverse:=by
  obtain ⟨h1,h2⟩:=h;refine list_eq (d:=d) (by simp [h1]) fun p hp=>?_
  rw [h1] at hp;have e:xs.reverse.getD p d=xs.getD (xs.length-1-p) d:=by
    simp only [List.getD];rw [List.getElem?_reverse hp]
  rw [e,h2 p hp]
  by_cases e3:p<k∨xs.length-k≤p
  · rw [if_pos e3]
  · rw [if_neg e3]
    congr 1;omega
end Go.Sh
namespace Go.Sl
open Go
theorem one1_shift (z:Sh.Shift):∀ w∈(List.range 3).map (Sh.shiftCell z),DF w=true:=by
  intro w hw;obtain ⟨f,hf,rfl⟩:=Ai.1 hw;have:=Bl.1 hf
  match f,this with
  | 0,_=>rfl
  | 1,_=>rfl
  | 2,_=>rfl
structure Borns (es:Array MapEntry) (cl:Nat):Prop where
  once:(es.toList.map (·.born)).Nodup
  lt:∀ e∈es.toList,e.born<cl
def MapB {κ:Type} (enc:κ→Value) (es:Array MapEntry) (cl:Nat) (kvs:List (κ × Value)):Prop:=MapIs enc es kvs∧Borns es cl
theorem MapB.nil {κ:Type} (enc:κ→Value) (cl:Nat):MapB enc #[] cl []:=⟨rfl,by simp,fun _ h=>by simp at h⟩
theorem Borns.push {es:Array MapEntry} {cl:Nat} (h:Borns es cl) (k v:Value):Borns (es.push { key:=k,val:=v,born:=cl }) (cl+1):=by
  refine ⟨?_,fun e he=>?_⟩
  · simp only [Array.toList_push,Ba,Aw,Cs]
    refine Au.2 ⟨h.once,by simp,fun a ha b hb=>?_⟩;obtain ⟨e,he,rfl⟩:=Ai.1 ha;simp at hb;subst hb;have:=h.lt e he;omega
  · simp only [Array.toList_push,Ab,Af] at he
    rcases he with he | rfl
    · have:=h.lt e he;omega
    · show cl<cl+1;omega
theorem modify_born (es:Array MapEntry) (j:Nat) (f:MapEntry→MapEntry) (hf:∀ e,(f e).born=e.born):(es.modify j f).toList.map (·.born)=es.toList.map (·.born):=by
  apply List.ext_getElem?
  intro n;simp only [Cy,Array.getElem?_toList,Array.getElem?_modify]
  split
  · cases es[n]? <;> simp [hf]
  · rfl
theorem Borns.modify {es:Array MapEntry} {cl:Nat} (h:Borns es cl) (j:Nat) (f:MapEntry→MapEntry) (hf:∀ e,(f e).born=e.born):Borns (es.modify j f) cl:=by
  refine ⟨by rw [modify_born _ _ _ hf];exact h.once,fun e he=>?_⟩;have:e.born∈(es.modify j f).toList.map (·.born):=Ak he;rw [modify_born _ _ _ hf] at this;obtain ⟨e',he',e1⟩:=Ai.1 this;rw [← e1];exact h.lt e' he'
section
variable {κ:Type} [DecidableEq κ]
theorem findKv_lt (k:κ):∀ (kvs:List (κ × Value)) (i j:Nat) (u:Value),HD k kvs i=some (j,u)→i≤j∧j-i<kvs.length∧kvs[j-i]?=some (k,u):=by
  intro kvs
  induction kvs with
  | nil=>intro i j u h;cases h
  | cons x r ih=>
    intro i j u h;simp only [HD] at h
    split at h
    · rename_i e
      cases h;simp [← e]
    · obtain ⟨h1,h2,h3⟩:=ih _ _ _ h
      refine ⟨by omega,by simp;omega,?_⟩;rw [show j-i=(j-(i+1))+1 by omega];simpa using h3
end
theorem key_at {κ:Type} {enc:κ→Value} {es:Array MapEntry} {kvs:List (κ × Value)} (his:MapIs enc es kvs) {j:Nat} {k:κ} {u:Value} (h:kvs[j]?=some (k,u)):∃ e,es[j]?=some e∧e.key=enc k∧e.val=u:=by
  have:=congrArg (fun l=>l[j]?) his;simp only [Cy,Array.getElem?_toList,h,Cw,MM] at this;cases he:es[j]? with
  | none=>rw [he] at this;cases this
  | some e=>rw [he] at this;simp only [Cw,Cj,Bs] at this;exact ⟨e,rfl,this.1,this.2⟩
section
variable {ρ:Option Nat} {P:Program} {N:Nat} {ops:Array Oper} {i:Nat} {l:Sl} {I:Imm} {R M:Seg} {d:Nat} {ty:TypeId} {gd:Option (Nat × Bool)} {K:Sl→Imm→Seg→Prop}
variable {κ:Type} [DecidableEq κ] {enc:κ→Value}
theorem QD {a:Value} {Q:Value→Seg→Prop} (h:Q a M):wpL P (Instr.keyThatStays a a) Q I M:=by
  unfold Instr.keyThatStays
  split
  · exact h
  · rw [AE]
    show (if (Question.extern "map.whichKeyStays" 2).forced then _ else ∀ t,_)
    split
    · show Q _ M;split <;> exact h
    · intro t;show Q _ M;split <;> exact h
end
def LH (seen:Array Nat) (e:MapEntry):Bool:=!seen.contains e.born
def Left {κ:Type} (enc:κ→Value) (es:Array MapEntry) (seen:Array Nat) (todo:List (κ × Value)):Prop:=(es.toList.filter (LH seen)).map (fun e=>(e.key,e.val))=todo.map (MM enc)
def AtEntry {κ:Type} (enc:κ→Value) (es:Array MapEntry) (seen:Array Nat) (x:κ × Value):Prop:=∃ e,e∈es.toList∧seen.back?=some e.born∧e.key=enc x.1∧e.val=x.2
theorem Left.start {κ:Type} {enc:κ→Value} {es:Array MapEntry} {kvs:List (κ × Value)} (h:MapIs enc es kvs):Left enc es #[] kvs:=by
  unfold Left;have:es.toList.filter (LH #[])=es.toList:=List.filter_eq_self.2 fun e _=>by simp [LH]
  rw [this];exact h
theorem born_inj {es:Array MapEntry} {cl:Nat} (h:Borns es cl) {e e':MapEntry} (he:e∈es.toList) (he':e'∈es.toList) (hb:e.born=e'.born):e=e':=by
  obtain ⟨a,ha,rfl⟩:=Cc.1 he;obtain ⟨b,hb',rfl⟩:=Cc.1 he';have:a=b:=(List.getElem_inj (h₀:=by simpa using ha) (h₁:=by simpa using hb') h.once).1 (by simpa using hb);subst this;rfl
theorem new_push {es:Array MapEntry} {cl:Nat} (h:Borns es cl) {seen:Array Nat} {A B:List MapEntry} {e:MapEntry} (hs:es.toList.filter (LH seen)=A++e::B):es.toList.filter (LH (seen.push e.born))=A++B:=by
  have hnd:(es.toList.map (·.born)).Nodup:=h.once;have hsub:(A++e::B).Sublist es.toList:=by rw [← hs];exact List.filter_sublist
  have hn2:((A++e::B).map (·.born)).Nodup:=(hsub.map _).nodup hnd;have e1:es.toList.filter (LH (seen.push e.born))=(es.toList.filter (LH seen)).filter (fun x=>!(x.born == e.born)):=by
    rw [List.filter_filter];refine List.filter_congr fun x _=>?_
    simp only [LH,Array.contains_push,Bool.not_or];rw [Bool.and_comm]
  rw [e1,hs,Cm,Cr];rw [Ba,Aw] at hn2;have hd:=Au.1 hn2;have hd2:=Cb.1 hd.2.1;have hA:A.filter (fun x=>!(x.born == e.born))=A:=List.filter_eq_self.2 fun x hx=>by
    have:=hd.2.2 x.born (Ak hx) e.born (by simp)
    simpa using this
  have hB:B.filter (fun x=>!(x.born == e.born))=B:=List.filter_eq_self.2 fun x hx=>by
    have:x.born≠e.born:=fun e2=>hd2.1 (by rw [← e2];exact Ak hx)
    simpa using this
  rw [hA,hB];simp
section
variable {P:Program} {N:Nat} {ops:Array Oper} {i:Nat} {l:Sl} {I:Imm} {R M:Seg} {d:Nat} {ty:TypeId} {gd:Option (Nat × Bool)} {K:Sl→Imm→Seg→Prop}
theorem stp_range {x : Operand} {T kt et r cl : Nat} {es : Array MapEntry} (hop : FH ops N i = some (some d, .range T x, ty, gd)) (hg : FL ops l gd = some true) (hT : tyMap P T = some (kt, et)) (hx : CB l x = some (.map (some r))) (hm : Holds I M r (.map es cl))
    (h:∀ b,K ((d,.pointer (some ⟨b,0,none⟩))::l) I ((b,Obj.mapIter (some r) cl #[] cl)::M)):Stp P N ops i l I M K:=
  DP hop hg (LJ hx) (by
    show wpL P (Instr.range T (rho l x) >>= fun x=>pure (Next.value x)) _ I M
    rw [BI hx]
    refine DB ?_
    unfold Instr.range
    rw [AE,AK (HO hT)]
    show wpL P (Sem.getObj r _) _ I M
    exact ⟨_,hm,rfl,fun b=>⟨_,.inl rfl,h b⟩⟩)
theorem stp_next {κ : Type} {enc : κ → Value} {x : Operand} {r cl b : Nat} {es : Array MapEntry} {seen : Array Nat} {todo : List (κ × Value)} (n : Nat) (hop : FH ops N i = some (some d, .next x false, ty, gd)) (hg : FL ops l gd = some true)
    (hx:CB l x=some (.pointer (some ⟨b,0,none⟩))) (hn:M[n]?=some (b,Obj.mapIter (some r) cl seen cl)) (hm:Holds I M r (.map es cl)) (hb:Borns es cl) (hl:Left enc es seen todo)
    (h0:todo=[]→K ((d,.tuple #[.bool false])::l) I M)
    (h1:∀ A y B seen',todo=A++y::B→Left enc es seen' (A++B)→AtEntry enc es seen' y→K ((d,.tuple #[.bool true,enc y.1,y.2])::l) I (M.set n (b,Obj.mapIter (some r) cl seen' cl))):Stp P N ops i l I M K:=
  DP hop hg (LJ hx) (by
    show wpL P (Instr.next (rho l x) false ty >>= fun x=>pure (Next.value x)) _ I M
    rw [BI hx]
    refine DB ?_
    unfold Instr.next
    show wpL P (Sem.getObj b _) _ I M
    refine ⟨_,.inl (An hn),rfl,?_⟩
    show wpL P (Sem.getObj r _) _ I M
    refine ⟨_,hm,rfl,?_⟩
    have hc:(!seen.isEmpty&&!es.isEmpty&&es.all (fun (e:MapEntry)=>decide (e.born≥cl)))=false:=by
      rcases Nat.eq_zero_or_pos es.size with hz | hz
      · have:es.isEmpty=true:=by simpa [Array.isEmpty] using hz
        rw [this];simp
      · have : es.all (fun (e : MapEntry) => decide (e.born ≥ cl)) = false := by
          rw [Array.all_eq_false]
          refine ⟨0,hz,?_⟩
          have:=hb.lt es[0] (by simp)
          simp;omega
        rw [this];simp
    show wpL P (if (!seen.isEmpty&&!es.isEmpty&&es.all (fun (e:MapEntry)=>decide (e.born≥cl)))=true then _ else _) _ I M
    rw [hc]
    simp only [Bz,if_false]
    have hold:(es.filter (LH seen)).filter (fun (e:MapEntry)=>decide (e.born<cl))=es.filter (LH seen):=by
      rw [Array.filter_eq_self];intro e he
      have:=hb.lt e (by simpa using (Array.mem_filter.1 he).1);simpa using this
    have hnew:(es.filter (LH seen)).filter (fun (e:MapEntry)=>decide (e.born≥cl))=#[]:=by
      rw [Array.filter_eq_empty_iff];intro e he
      have:=hb.lt e (by simpa using (Array.mem_filter.1 he).1);simp;omega
    have e0:(fun e:MapEntry=>!seen.contains e.born)=LH seen:=rfl
    rw [e0]
    rw [hold,hnew,Array.append_empty]
    have hfl:(es.filter (LH seen)).toList=es.toList.filter (LH seen):=by simp
    generalize hL:es.filter (LH seen)=L at hfl
    have take : ∀ (q : Nat), q < L.size → wpL P (match (L.map some)[q]? with
        | some (some e)=>(do
          Go.setObj b (.mapIter (some r) cl (seen.push e.born) cl)
          pure (Value.tuple #[.bool true,e.key,e.val]))
        | some none=>pure (.tuple #[.bool false])
        | none=>stuck "Next: no such candidate") (fun v M'=>∃ u,(Next.value v=.value u∨(Next.value v=.skip∧u=undef))∧K ((d,u)::l) I M') I M:=fun q hq=>by
      have hget:(L.map some)[q]?=some (some L[q]):=by simp [hq]
      rw [hget]
      have hsp:es.toList.filter (LH seen)=L.toList.take q++L[q]::L.toList.drop (q+1):=by
        rw [← hfl]
        have:=Ch (l:=L.toList) (i:=q) (by simpa using hq)
        rw [show L[q]=L.toList[q]'(by simpa using hq) from by simp,← this,Ce]
      have hl2:(L.toList.take q++L[q]::L.toList.drop (q+1)).map (fun e=>(e.key,e.val))=todo.map (MM enc):=by rw [← hsp];exact hl
      have hlen:todo.length=L.size:=by
        have:=congrArg List.length hl2
        simp only [Bi,Ad,Be,Aq,Cq,Array.length_toList] at this
        omega
      have hspt:todo=todo.take q++todo[q]'(by omega)::todo.drop (q+1):=by
        have:=Ch (l:=todo) (i:=q) (by omega)
        rw [← this,Ce]
      rw [hspt,Ba,Ba,Aw,Aw] at hl2
      have hk:(L.toList.take q).map (fun e=>(e.key,e.val))=(todo.take q).map (MM enc)∧(L[q].key,L[q].val)::(L.toList.drop (q+1)).map (fun e=>(e.key,e.val))=MM enc (todo[q]'(by omega))::(todo.drop (q+1)).map (MM enc):=
        List.append_inj hl2 (by simp;omega)
      obtain ⟨k1,k2⟩:=hk
      simp only [List.cons.injEq,MM,Bs] at k2
      obtain ⟨⟨k3,k4⟩,k5⟩:=k2
      have hmem:L[q]∈es.toList:=by
        have:L[q]∈es.toList.filter (LH seen):=by rw [hsp];simp
        exact (Bh.1 this).1
      show wpL P (Sem.setObj b _ _) _ I M
      refine GG n rfl hn rfl ?_
      refine ⟨_,.inl rfl,?_⟩
      rw [k3,k4]
      refine h1 (todo.take q) (todo[q]'(by omega)) (todo.drop (q+1)) (seen.push L[q].born) hspt ?_ ⟨L[q],hmem,by simp,k3,k4⟩
      unfold Left
      rw [new_push hb hsp,Ba,Ba,k1,k5]
    by_cases hz:L.size=0
    · have hLe:L=#[]:=Array.size_eq_zero_iff.1 hz
      subst hLe
      have ht:todo=[]:=by
        unfold Left at hl
        rw [← hfl] at hl
        simpa using hl.symm
      have:((if (#[]:Array MapEntry).isEmpty=true then #[none] else #[])++Array.map some (#[]:Array MapEntry))=#[none]:=by simp
      rw [this,AE]
      show (if (Question.mapNext 1).forced=true then _ else _)
      rw [if_pos (by decide)]
      exact ⟨_,.inl rfl,h0 ht⟩
    · have : ((if L.isEmpty = true then #[none] else #[]) ++ Array.map some L) = L.map some := by
        have:L.isEmpty=false:=by simpa [Array.isEmpty] using hz
        rw [this];simp
      rw [this,AE,Array.size_map]
      show (if (Question.mapNext L.size).forced=true then _ else ∀ t,_)
      split
      · exact take 0 (by omega)
      · intro t
        exact take (t%L.size) (Nat.mod_lt _ (by omega)))
theorem stp_entry {κ : Type} {enc : κ → Value} {x : Operand} {r cl b : Nat} {es : Array MapEntry} {seen : Array Nat} {y : κ × Value} (hop : FH ops N i = some (some d, .entry x, ty, gd)) (hg : FL ops l gd = some true)
    (hx:CB l x=some (.pointer (some ⟨b,0,none⟩))) (hn:(b,Obj.mapIter (some r) cl seen cl)∈M) (hm:Holds I M r (.map es cl)) (hb:Borns es cl) (ha:AtEntry enc es seen y)
    (h:K ((d,.tuple #[enc y.1,y.2])::l) I M):Stp P N ops i l I M K:=
  DP hop hg (LJ hx) (by
    obtain ⟨e,he,hbk,k1,k2⟩:=ha
    show wpL P (Instr.entry (rho l x) >>= fun x=>pure (Next.value x)) _ I M
    rw [BI hx]
    refine DB ?_
    unfold Instr.entry
    show wpL P (Sem.getObj b _) _ I M
    refine ⟨_,.inl hn,rfl,?_⟩
    dsimp only [Sem.bind]
    rw [hbk]
    show wpL P (Sem.getObj r _) _ I M
    refine ⟨_,hm,rfl,?_⟩
    dsimp only [Sem.bind]
    rw [if_neg (by simp)]
    have hf:es.find? (fun x=>x.born == e.born)=some e:=by
      rw [← Array.find?_toList]
      cases hq:es.toList.find? (fun x=>x.born == e.born) with
      | none=>have:=List.find?_eq_none.1 hq e he;simp at this
      | some e'=>
        have h1:=List.find?_some hq;have h2:=List.mem_of_find?_eq_some hq
        rw [born_inj hb h2 he (by simpa using h1)]
    rw [hf]
    refine ⟨_,.inl rfl,?_⟩
    rw [k1,k2];exact h)
end
end Go.Sl
namespace Go.Sh
open Go Go.Sl
def hkCells (k:HKey):Array Value:=#[.int .i64 k.pl,.int .i64 k.so,.bool k.soil]
def encH (k:HKey):Value:=.agg (hkCells k)
def intV (h:Hs):List (HKey × Value):=h.map fun x=>(x.1,.int .i64 x.2)
end Go.Sh
namespace Go.Sl
open Go
section
variable {P:Program} {N:Nat} {ops:Array Oper} {i:Nat} {l:Sl} {I:Imm} {d:Nat} {ty:TypeId} {gd:Option (Nat × Bool)} {κ:Type} [DecidableEq κ] {enc:κ→Value}
end
section
variable {P:Program} {N:Nat} {ops:Array Oper} {i:Nat} {l:Sl} {I:Imm} {M:Seg} {ty:TypeId} {gd:Option (Nat × Bool)} {K:Sl→Imm→Seg→Prop} {κ:Type} [DecidableEq κ] {enc:κ→Value}
theorem stp_mapUpdateB {x y u : Operand} {T kt et r cl : Nat} {es : Array MapEntry} {kvs : List (κ × Value)} {k : κ} {v : Value} (n : Nat) (hop : FH ops N i = some (none, .mapUpdate T x y u, ty, gd)) (hg : FL ops l gd = some true)
    (hT:tyMap P T=some (kt,et)) (hK:KeyOk P kt enc) (hx:CB l x=some (.map (some r))) (hy:CB l y=some (enc k)) (hu:CB l u=some v) (hn:M[n]?=some (r,Obj.map es cl)) (hb:MapB enc es cl kvs)
    (h:∀ es' cl',MapB enc es' cl' (upd k v kvs)→K l I (M.set n (r,Obj.map es' cl'))):Stp P N ops i l I M K:=
  DP hop hg (known3 hx hy hu) (by
    obtain ⟨his,hbo⟩:=hb
    show wpL P (Instr.mapUpdate T (rho l x) (rho l y) (rho l u) >>= fun _=>pure Next.skip) _ I M
    rw [BI hx,BI hy,BI hu,AE]
    unfold Instr.mapUpdate
    rw [AE,AK (HO hT)]
    show wpL P (Sem.getObj r _) _ I M
    refine ⟨_,.inl (An hn),rfl,?_⟩
    show wpL P (Instr.checkKey _ _ _ _ >>= _) _ I _
    rw [AE]
    refine hK.check _ _ _ _ _ ?_
    rw [AE]
    refine hK.find k es.toList kvs _ _ _ his ?_
    have hf:=MB k v kvs 0
    cases hkv:HD k kvs 0 with
    | none=>
      rw [hkv] at hf
      simp only at hf
      show wpL P (Sem.setObj r _ _) _ I M
      refine GG n rfl hn rfl ?_
      refine ⟨undef,.inr ⟨rfl,rfl⟩,h _ _ ⟨?_,hbo.push _ _⟩⟩
      rw [hf.1]
      exact OU his k v cl
    | some p=>
      obtain ⟨j,w⟩:=p
      rw [hkv] at hf
      simp only [Cu] at hf
      obtain ⟨_,h1,_,h2⟩:=hf
      obtain ⟨_,_,h3⟩:=findKv_lt k kvs 0 j w hkv
      rw [Cu] at h3
      obtain ⟨e,he,hek,hev⟩:=key_at his h3
      have hold:((es[j]?).map (·.key)).getD (enc k)=enc k:=by rw [he];exact hek
      show wpL P (Instr.keyThatStays (((es[j]?).map (·.key)).getD (enc k)) (enc k) >>= _) _ I M
      rw [AE,hold]
      refine QD ?_
      show wpL P (Sem.setObj r _ _) _ I M
      refine GG n rfl hn rfl ?_
      refine ⟨undef,.inr ⟨rfl,rfl⟩,h _ _ ⟨?_,hbo.modify _ _ (fun _=>rfl)⟩⟩
      rw [h1]
      exact mapIs_set his j k v _ rfl)
end
end Go.Sl
namespace Go.Sh
open Go Go.Sl
def MapH (es:Array MapEntry) (cl:Nat) (H:Hs):Prop:=MapB encH es cl (intV H)∧(H.map Prod.fst).Nodup
theorem MapH.nil (cl:Nat):MapH #[] cl []:=⟨MapB.nil _ _,by simp⟩
end Go.Sh
namespace Go.Sl
open Go Go.Sh
section
variable {P:Program} {N:Nat} {ops:Array Oper} {i:Nat} {l:Sl} {I:Imm} {M:Seg} {ty:TypeId} {gd:Option (Nat × Bool)} {K:Sl→Imm→Seg→Prop} {d:Nat}
theorem map_cut {α β:Type} {f:α→β} {l:List α} {A B:List β} {y:β} (h:l.map f=A++y::B):∃ A' y' B',l=A'++y'::B'∧A=A'.map f∧y=f y'∧B=B'.map f:=by
  obtain ⟨A',R,rfl,h1,h2⟩:=List.map_eq_append_iff.1 h;obtain ⟨y',B',rfl,h3,h4⟩:=List.map_eq_cons_iff.1 h2;exact ⟨A',y',B',rfl,h1.symm,h3.symm,h4.symm⟩
end
end Go.Sl
namespace Go.Sh
open Go Go.Sl
def NegP (ks:List HKey) (dn:Hs):Prop:=∀ k,k∈ks↔∃ x∈dn,x.1=k∧x.2<0
section
variable {ks:List HKey} {dn A B todo H:Hs} {y:HKey × Int}
theorem NegP.nil:NegP [] []:=fun k=>by simp
end
end Go.Sh
namespace Go.Sl
open Go
section
variable {ρ:Option Nat} {P:Program} {N:Nat} {ops:Array Oper} {Q:Exit→Act→World→Prop} {ds:List Deferred} {i:Nat} {l:Sl} {I:Imm} {M:Seg}
def tyChan (P:Program) (t:TypeId):Option TypeId:=
  match P.underlying t with
  | some (.chan _ e)=>some e
  | _=>none
def SeqX {ρ:Option Nat} (P:Program) (N:Nat) (ops:Array Oper) (Q:Exit→Act→World→Prop) (ds:List Deferred) (i:Nat) (l:Sl) (I:Imm) (M:Seg):Prop:=
  ∀ a w,Slots N l a→a.defers=ds→St I M w→∀ (b:Frame) (k:List Item) (cs:List Frame),b.roundOf=ρ →
    ∃ e a' w',Q e a' w'∧ArrivesIn (Machine.fenced P (fen ρ)) P (lone (b.atR a (.inRegion ops (List.range' i (ops.size-i))::k)) cs w) b k cs e a' w'
theorem seqX_of (h:Seq (ρ:=ρ) P N ops Q ds i l I M):SeqX (ρ:=ρ) P N ops Q ds i l I M:=
  fun a w hS hD hW b k cs hb=>wp_opsIn _ a w (h a w hS hD hW) b k cs hb trivial (QT _ _)
theorem run_regionX {c:Code} {id:Nat} (hc:c=.region id ops false) (h:SeqX (ρ:=ρ) P N ops Q ds 0 l I M):Run (ρ:=ρ) P N c Q ds l I M:=by
  subst hc;intro a w hS hD hW b k cs hb hf hr;obtain ⟨e,a',w',hq,harr⟩:=h a w hS hD hW b k cs hb;rw [Cu,← List.range_eq_range'] at harr;exact ⟨e,a',w',hq,.of_steps (.one (fenced_calm hf hr rfl) stepR_region) harr⟩
theorem one_fen {m m':Machine} (h:step P m=.next m'):StepsIn (Machine.fenced P (fen ρ)) P m m':=stepsIn_fen.2 (Steps.one h)
theorem finR {b:Frame} {a:Act} {o:Oper} {i:Nat} {rest:List Nat} {k:List Item} (ho:ops[i]?=some o) (v:Value):(b.atR a (.inRegion ops (i::rest)::k)).finish v=b.atR (a.put o.dst v) (.inRegion ops rest::k):=by
  rw [Frame.finish_atR,ho];rfl
theorem step_res {o : Oper} {a : Act} {w : World} {K : Value → World → Prop} {rest : List Nat} {b : Frame} {k : List Item} {cs : List Frame} (ho : ops[i]? = some o) (hw : Region.wanted o (yielded ops a.tmps) = true) (hd : ∀ c, o.op ≠ .defer c)
    (h:Res P K ((execOp a.eval o).run P w)) :
    ∃ v w',K v w'∧Steps P (lone (b.atR a (.inRegion ops (i::rest)::k)) cs w) (lone (b.atR (a.put o.dst v) (.inRegion ops rest::k)) cs w'):=by
  have hg:=stepGR_op (P:=P) (b:=b) (k:=k) (cs:=cs) (w:=w) (rest:=rest) ho hw;rw [Oper.semAt_eq _ _ o hd] at hg;have hf:=fun v=>finR (b:=b) (a:=a) (rest:=rest) (k:=k) ho v
  generalize hE:(execOp a.eval o).run P w=r at h
  cases r with
  | halt x w'=>exact h.elim
  | ok n w'=>
    cases n <;> first | exact h.elim | skip
    case value v=>exact ⟨v,w',h,.one (step_lone_go (by rw [hg,← hf];simp [stepG.apply,hE]))⟩
    case skip=>exact ⟨undef,w',h,.one (step_lone_go (by rw [hg,← hf];simp [stepG.apply,hE]))⟩
    case round lp f tmps assign body=>
      obtain ⟨e,w2,⟨v,rfl,hK⟩,hs⟩:=(roundIn_fen (ρ:=none) (m:=0)).1 h |>.2 (b.atR a (.inRegion ops (i::rest)::k)) cs (QT _ _)
      have henter:step P (lone (b.atR a (.inRegion ops (i::rest)::k)) cs w)=.next (lone (Frame.round lp f tmps assign body .normal) (b.atR a (.inRegion ops (i::rest)::k)::cs) w'):=
        step_lone_go (by rw [hg];simp [stepG.apply,hE,Frame.atR])
      refine ⟨v,w2,hK,.head henter ?_⟩;rw [← hf];exact stepsIn_fen.1 hs
    case enter f args=>
      obtain ⟨e,w2,fr,⟨v,rfl,hK⟩,hs,_,hl⟩:=h (b.atR a (.inRegion ops (i::rest)::k)::cs)
      have henter:step P (lone (b.atR a (.inRegion ops (i::rest)::k)) cs w)=.next (lone (Frame.enter P f args .normal) (b.atR a (.inRegion ops (i::rest)::k)::cs) w'):=
        step_lone_go (by rw [hg];simp [stepG.apply,hE,Frame.atR])
      refine ⟨v,w2,hK,.head henter (Steps.trans hs (.one ?_))⟩;rw [← hf];exact step_leave_returned hl
theorem OB {d : Nat} {v : Value} (h : Det P N ops i l I M d v)
    (next:SeqX (ρ:=ρ) P N ops Q ds (i+1) ((d,v)::l) I M):SeqX (ρ:=ρ) P N ops Q ds i l I M:=by
  obtain ⟨o,ho,hd,hN,hs,h⟩:=h;intro a w hS hD hW b k cs hb;have hlt:i<ops.size:=(Ap.1 ho).1;rw [IQ hlt];have hag:∀ t∈o.looksAt ops,∀ u,DL t l=some u→a.tmps[t]?=some u:=fun t _ u hu=>hS.get t u hu
  rcases h with ⟨hg,rfl⟩ | ⟨hg,hk,hx⟩
  · obtain ⟨e,a',w',hq,harr⟩:=next _ _ (hS.put hN _) (by rw [FP];exact hD) hW b k cs hb
    have hsk:=stepR_op_skip (P:=P) (b:=b) (a:=a) (k:=k) (cs:=cs) (w:=w) (ops:=ops) (i:=i) (rest:=List.range' (i+1) (ops.size-(i+1))) (by simp [ho,DI hg hag]);simp only [ho,Option.bind_some,hd] at hsk;exact ⟨e,a',w',hq,.of_steps (one_fen hsk) harr⟩
  · have:=hx I [] w (Imm.le.refl I) (by rw [Aa];exact hW)
    rw [← MA hs hk hag] at this;obtain ⟨u,w',⟨rfl,hst⟩,hsteps⟩:=step_res (b:=b) (k:=k) (cs:=cs) (rest:=List.range' (i+1) (ops.size-(i+1))) ho (DI hg hag) hs.2 this;rw [Aa] at hst;rw [hd] at hsteps;obtain ⟨e,a',w2,hq,harr⟩:=next _ _ (hS.put hN _) (by rw [FP];exact hD) hst b k cs hb;exact ⟨e,a',w2,hq,.of_steps (stepsIn_fen.2 hsteps) harr⟩
theorem setChan_St {c cap cap' s r s' r':Nat} {buf buf':Array Value} {cl cl' tm tm':Bool} {w:World} {j:Nat} (h:St I M w) (hj:M[j]?=some (c,.chan cap buf cl s r tm)):St I (M.set j (c,.chan cap' buf' cl' s' r' tm')) (w.setChan c cap' buf' cl' s' r' tm'):=by
  have hh:w.heap[c]?=some (.chan cap buf cl s r tm):=h.mem _ _ (An hj);have hlt:c<w.heap.size:=(Ap.1 hh).1;exact h.put hj rfl rfl rfl (by simp [World.setChan,hlt]) (fun b hb=>by simp only [World.setChan];rw [Array.getElem?_setIfInBounds_ne (Ne.symm hb)])
theorem seqX_recv {x : Operand} {c cap s r d T el : Nat} {v : Value} {rest buf : Array Value} {z : Value} {tm : Bool} {ty : TypeId} (j : Nat) (hop : FH ops N i = some (some d, .recv T x false, ty, none)) (hT : tyChan P T = some el) (hz : JI P el = some z)
    (hx:CB l x=some (.chan (some c))) (hj:M[j]?=some (c,.chan cap buf false s r tm)) (hb0:buf=#[v]++rest)
    (next:SeqX (ρ:=ρ) P N ops Q ds (i+1) ((d,v)::l) I (M.set j (c,.chan cap rest false s (r+1) tm))):SeqX (ρ:=ρ) P N ops Q ds i l I M:=by
  obtain ⟨o,ho,hd,hop2,hty,hgd,hN,hs⟩:=GQ hop;intro a w hS hD hW b k cs hb;have hlt:i<ops.size:=(Ap.1 ho).1;rw [IQ hlt];have hw:Region.wanted o (yielded ops a.tmps)=true:=by unfold Region.wanted;rw [hgd]
  have hg:=stepGR_op (P:=P) (b:=b) (k:=k) (cs:=cs) (w:=w) (rest:=List.range' (i+1) (ops.size-(i+1))) ho hw;rw [Oper.semAt_eq _ _ o hs.2] at hg;have hrun:(execOp a.eval o).run P w=.ok (.comm #[{ chan:=.chan (some c),send:=none,zero:=z }] true (.recv false)) w:=by
    obtain ⟨dir,hu⟩:∃ dir,P.underlying T=some (.chan dir el):=by
      unfold tyChan at hT
      split at hT
      · cases hT;exact ⟨_,by assumption⟩
      · cases hT
    obtain ⟨inf,hi,hzi⟩:∃ inf,P.info? el=some inf∧inf.zero=some z:=by
      unfold JI at hz;cases hI:P.info? el with
      | none=>rw [hI] at hz;cases hz
      | some inf=>rw [hI] at hz;exact ⟨inf,rfl,hz⟩
    rw [GN,hop2];simp [KB,execOp,underlying,zeroValue,typeInfo,hu,hi,hzi,LF hS hx]
  have hh:w.heap[c]?=some (.chan cap buf false s r tm):=hW.mem _ _ (An hj)
  obtain ⟨es,hes⟩:∃ es,stepG P true (Go.Conc.G (b.atR a (.inRegion ops (i::List.range' (i+1) (ops.size-(i+1)))::k)) cs) w=.comm (Go.Conc.G (b.atR a (.inRegion ops (i::List.range' (i+1) (ops.size-(i+1)))::k)) cs) #[Go.Conc.rcase c z] true (.recv false) w es:=
    ⟨_,hg.trans (by simp only [stepG.apply,if_true,Sem.runT_eq,hrun,GStep.after,Go.Conc.rcase,Go.Conc.G];rfl)⟩
  have hst:=Go.Conc.step_lone_recv_buf (P:=P) (cs:=cs) (cap:=cap) (buf:=buf) (closed:=false) (s:=s) (r:=r) (tm:=tm) false hes hh (by rw [hb0,Array.size_append];show 0<1+_;omega);have e1:buf.extract 1 buf.size=rest:=by rw [hb0];simp
  have e2:buf.getD 0 undef=v:=by rw [hb0];simp [Array.getD]
  rw [finR ho,hd,e1] at hst;simp only [Go.Conc.got,e2] at hst;obtain ⟨e,a',w2,hq,harr⟩:=next _ _ (hS.put (hN d rfl) v) (by rw [FP];exact hD) (setChan_St hW hj) b k cs hb;exact ⟨e,a',w2,hq,.of_steps (one_fen hst) harr⟩
theorem seqX_send {x y : Operand} {c cap s r : Nat} {v : Value} {buf : Array Value} {tm : Bool} {ty : TypeId} (j : Nat) (hop : FH ops N i = some (none, .send x y, ty, none)) (hx : CB l x = some (.chan (some c))) (hy : CB l y = some v)
    (hj:M[j]?=some (c,.chan cap buf false s r tm)) (hroom:buf.size<cap)
    (next:SeqX (ρ:=ρ) P N ops Q ds (i+1) l I (M.set j (c,.chan cap (buf.push v) false (s+1) r tm))):SeqX (ρ:=ρ) P N ops Q ds i l I M:=by
  obtain ⟨o,ho,hd,hop2,hty,hgd,hN,hs⟩:=GQ hop;intro a w hS hD hW b k cs hb;have hlt:i<ops.size:=(Ap.1 ho).1;rw [IQ hlt];have hw:Region.wanted o (yielded ops a.tmps)=true:=by unfold Region.wanted;rw [hgd]
  have hg:=stepGR_op (P:=P) (b:=b) (k:=k) (cs:=cs) (w:=w) (rest:=List.range' (i+1) (ops.size-(i+1))) ho hw;rw [Oper.semAt_eq _ _ o hs.2] at hg;have he:execOp a.eval o=pure (.comm #[{ chan:=.chan (some c),send:=some v,zero:=.tuple #[] }] true .send):=by
    rw [GN,hop2];show (pure (.comm #[{ chan:=a.eval x,send:=some (a.eval y),zero:=.tuple #[] }] true .send):Sem Next)=_;rw [LF hS hx,LF hS hy]
  rw [he] at hg;have hh:w.heap[c]?=some (.chan cap buf false s r tm):=hW.mem _ _ (An hj)
  obtain ⟨es,hes⟩:∃ es,stepG P true (Go.Conc.G (b.atR a (.inRegion ops (i::List.range' (i+1) (ops.size-(i+1)))::k)) cs) w=.comm (Go.Conc.G (b.atR a (.inRegion ops (i::List.range' (i+1) (ops.size-(i+1)))::k)) cs) #[Go.Conc.scase c v (.tuple #[])] true .send w es:=
    ⟨_,hg.trans (by simp only [stepG.apply,if_true,pure,Sem.runT_eq,Sem.run,GStep.after,Go.Conc.scase,Go.Conc.G];rfl)⟩
  have hst:=Go.Conc.step_lone_send_room (P:=P) (cs:=cs) (cap:=cap) (buf:=buf) (s:=s) (r:=r) (tm:=tm) hes hh hroom;rw [finR ho,hd] at hst;obtain ⟨e,a',w2,hq,harr⟩:=next _ _ (show Slots N l (a.put none undef) from hS) (by rw [FP];exact hD) (setChan_St hW hj) b k cs hb;exact ⟨e,a',w2,hq,.of_steps (one_fen hst) harr⟩
end
end Go.Sl
namespace Go.Sh
open Go Go.Sl
def plcV (p:Plc):Value:=.agg #[.int .i64 p.st,.int .i64 p.ga]
def flatQ:List (Nat × SK):=[(0,.i .i64),(1,.i .i64)]
theorem KD {P:Program} {kt:TypeId} (h:KK P 4 kt=some (2,flatQ)) (hagg:DR P kt=some true):KeyOk P kt plcV:=
  keyOk_flat h (by decide) hagg (fun p:Plc=>#[.int .i64 p.st,.int .i64 p.ga]) (fun _=>rfl) (fun _=>rfl) (fun a b=>by
    obtain ⟨a1,a2⟩:=a;obtain ⟨b1,b2⟩:=b
    show ((a1 == b1)&&((a2 == b2)&&true))=decide ((⟨a1,a2⟩:Plc)=⟨b1,b2⟩)
    simp only [Bool.and_true,Plc.mk.injEq,Bool.decide_and];rfl)
def bufQ (qs:List Plc):Array Value:=(qs.map plcV).toArray
theorem bufQ_push (qs:List Plc) (p:Plc):(bufQ qs).push (plcV p)=bufQ (qs++[p]):=by simp [bufQ]
theorem bufQ_cons (p:Plc) (qs:List Plc):bufQ (p::qs)=#[plcV p]++bufQ qs:=by simp [bufQ]
theorem bufQ_size (qs:List Plc):(bufQ qs).size=qs.length:=by simp [bufQ]
end Go.Sh
namespace Go.Sl
open Go
section
variable {P:Program} {N:Nat} {ops:Array Oper} {i:Nat} {l:Sl} {I:Imm} {M:Seg} {ty:TypeId} {gd:Option (Nat × Bool)} {K:Sl→Imm→Seg→Prop} {κ:Type} [DecidableEq κ] {enc:κ→Value}
theorem stp_insertBQ {x y u : Operand} {T kt et r cl : Nat} {es : Array MapEntry} {kvs : List (κ × Value)} {k : κ} {v : Value} (n : Nat) (hop : FH ops N i = some (none, .insert T x y u, ty, gd)) (hg : FL ops l gd = some true)
    (hT:tyMap P T=some (kt,et)) (hK:KeyOk P kt enc) (hx:CB l x=some (.map (some r))) (hy:CB l y=some (enc k)) (hu:CB l u=some v) (hn:M[n]?=some (r,Obj.map es cl)) (hb:MapB enc es cl kvs)
    (h:∀ es' cl',MapB enc es' cl' (upd k v kvs)→K l I (M.set n (r,Obj.map es' cl'))):Stp P N ops i l I M K:=
  DP hop hg (known3 hx hy hu) (by
    obtain ⟨his,hbo⟩:=hb
    show wpL P (Instr.mapUpdate T (rho l x) (rho l y) (rho l u) >>= fun _=>pure Next.skip) _ I M
    rw [BI hx,BI hy,BI hu,AE]
    unfold Instr.mapUpdate
    rw [AE,AK (HO hT)]
    show wpL P (Sem.getObj r _) _ I M
    refine ⟨_,.inl (An hn),rfl,?_⟩
    show wpL P (Instr.checkKey _ _ _ _ >>= _) _ I _
    rw [AE]
    refine hK.check _ _ _ _ _ ?_
    rw [AE]
    refine hK.find k es.toList kvs _ _ _ his ?_
    have hf:=MB k v kvs 0
    cases hkv:HD k kvs 0 with
    | none=>
      rw [hkv] at hf
      simp only at hf
      show wpL P (Sem.setObj r _ _) _ I M
      refine GG n rfl hn rfl ?_
      refine ⟨undef,.inr ⟨rfl,rfl⟩,h _ _ ⟨?_,hbo.push _ _⟩⟩
      rw [hf.1]
      exact OU his k v cl
    | some p=>
      obtain ⟨j,w⟩:=p
      rw [hkv] at hf
      simp only [Cu] at hf
      obtain ⟨_,h1,_,h2⟩:=hf
      obtain ⟨_,_,h3⟩:=findKv_lt k kvs 0 j w hkv
      rw [Cu] at h3
      obtain ⟨e,he,hek,hev⟩:=key_at his h3
      have hold:((es[j]?).map (·.key)).getD (enc k)=enc k:=by rw [he];exact hek
      show wpL P (Instr.keyThatStays (((es[j]?).map (·.key)).getD (enc k)) (enc k) >>= _) _ I M
      rw [AE,hold]
      refine QD ?_
      show wpL P (Sem.setObj r _ _) _ I M
      refine GG n rfl hn rfl ?_
      refine ⟨undef,.inr ⟨rfl,rfl⟩,h _ _ ⟨?_,hbo.modify _ _ (fun _=>rfl)⟩⟩
      rw [h1]
      exact mapIs_set his j k v _ rfl)
end
open Go Go.Sh
section
variable {P:Program} {N:Nat} {ops:Array Oper} {i:Nat} {l:Sl} {I:Imm} {M:Seg} {ty:TypeId} {gd:Option (Nat × Bool)} {K:Sl→Imm→Seg→Prop} {d:Nat}
theorem stp_setTrueQ {x y u : Operand} {T kt et r cl : Nat} {es : Array MapEntry} {ks : List Plc} {k : Plc} (n : Nat) (hop : FH ops N i = some (none, .mapUpdate T x y u, ty, gd)) (hg : FL ops l gd = some true)
    (hT:tyMap P T=some (kt,et)) (hK:KeyOk P kt plcV) (hx:CB l x=some (.map (some r))) (hy:CB l y=some (plcV k)) (hu:CB l u=some (.bool true)) (hn:M[n]?=some (r,Obj.map es cl)) (hb:MapB plcV es cl (FA ks)) (hk:k∉ks)
    (h:∀ es' cl',MapB plcV es' cl' (FA (ks++[k]))→K l I (M.set n (r,Obj.map es' cl'))):Stp P N ops i l I M K:=
  stp_mapUpdateB n hop hg hT hK hx hy hu hn hb fun es' cl' h'=>h es' cl' (by rw [LR,if_neg hk] at h';exact h')
theorem stp_insertTrueQ {x y u : Operand} {T kt et r cl : Nat} {es : Array MapEntry} {ks : List Plc} {k : Plc} (n : Nat) (hop : FH ops N i = some (none, .insert T x y u, ty, gd)) (hg : FL ops l gd = some true)
    (hT:tyMap P T=some (kt,et)) (hK:KeyOk P kt plcV) (hx:CB l x=some (.map (some r))) (hy:CB l y=some (plcV k)) (hu:CB l u=some (.bool true)) (hn:M[n]?=some (r,Obj.map es cl)) (hb:MapB plcV es cl (FA ks)) (hk:k∉ks)
    (h:∀ es' cl',MapB plcV es' cl' (FA (ks++[k]))→K l I (M.set n (r,Obj.map es' cl'))):Stp P N ops i l I M K:=
  stp_insertBQ n hop hg hT hK hx hy hu hn hb fun es' cl' h'=>h es' cl' (by rw [LR,if_neg hk] at h';exact h')
theorem stp_nextQ {x : Operand} {r cl b : Nat} {es : Array MapEntry} {seen : Array Nat} {todo : List Plc} (n : Nat) (hop : FH ops N i = some (some d, .next x false, ty, gd)) (hg : FL ops l gd = some true)
    (hx:CB l x=some (.pointer (some ⟨b,0,none⟩))) (hn:M[n]?=some (b,Obj.mapIter (some r) cl seen cl)) (hm:Holds I M r (.map es cl)) (hb:Borns es cl) (hl:Left plcV es seen (FA todo))
    (h0:todo=[]→K ((d,.tuple #[.bool false])::l) I M)
    (h1:∀ A (y:Plc) B seen',todo=A++y::B→Left plcV es seen' (FA (A++B))→AtEntry plcV es seen' (y,.bool true)→K ((d,.tuple #[.bool true,plcV y,.bool true])::l) I (M.set n (b,Obj.mapIter (some r) cl seen' cl))):Stp P N ops i l I M K:=
  stp_next n hop hg hx hn hm hb hl (fun h=>h0 (by simpa [FA] using h)) fun A y B seen' e hl' ha=>by
    obtain ⟨A',y',B',rfl,rfl,rfl,rfl⟩:=map_cut (show todo.map _=A++y::B from e);exact h1 A' y' B' seen' rfl (by simpa [FA] using hl') ha
theorem stp_makeChan {x : Operand} {T el bs n : Nat} (hop : FH ops N i = some (some d, .makeChan T x, ty, gd)) (hg : FL ops l gd = some true) (hT : tyChan P T = some el) (hb : KR P el = some bs) (hbs : bs ≤ 256)
    (hx:CB l x=some (.int .i64 (n:Int))) (hn:n≤1000) (next:∀ b,K ((d,.chan (some b))::l) I ((b,Obj.chan n #[] false 0 0 false)::M)):Stp P N ops i l I M K:=by
  obtain ⟨dir,hu⟩:∃ dir,P.underlying T=some (.chan dir el):=by
    unfold tyChan at hT
    split at hT
    · cases hT;exact ⟨_,by assumption⟩
    · cases hT
  obtain ⟨inf,hi,hby⟩:∃ inf,P.info? el=some inf∧inf.bytes=bs:=by
    unfold KR at hb;cases hi:P.info? el with
    | none=>rw [hi] at hb;cases hb
    | some inf=>rw [hi] at hb;exact ⟨inf,rfl,by simpa using hb⟩
  refine DP hop hg (LJ hx) ?_;show wpL P (Instr.makeChan T (rho l x) >>= fun x=>pure (Next.value x)) _ I M;refine DB ?_;rw [BI hx];unfold Instr.makeChan;show wpL P (underlying T >>= _) _ I M;rw [AE,AK hu];show wpL P (typeInfo el >>= _) _ I M;rw [AE,DW hi];have h1:(inf.bytes:Int)*(n:Int)≤((256*1000:Nat):Int):=by
    rw [← Int.natCast_mul];exact Int.ofNat_le.2 (Nat.mul_le_mul (by omega) hn)
  have h2:¬ ((n:Int)<0∨(n:Int)>IntKind.i64.max∨(inf.bytes:Int)*(n:Int)>2 ^ 48-112):=by
    rintro (h | h | h)
    · omega
    · have:IntKind.i64.max=9223372036854775807:=by decide
      omega
    · omega
  rw [if_neg h2];intro b;exact ⟨_,.inl rfl,next b⟩
end
end Go.Sl
namespace Go.Sh
open Go Go.Sl
section
variable (W:Wag) (N:Net) (rb:List Int) (p:Plc)
structure RInv (ks qs:List Plc):Prop where
  once:ks.Nodup
  here:p∈ks
  rch:∀ q∈ks,Rch W N rb p q
  sub:∀ q∈qs,q∈ks
  qonce:qs.Nodup
  shut:∀ q∈ks,q∉qs→∀ r,Nx W N rb q r→r∈ks
  good:∀ q∈ks,FY q
structure RIn (ks qs:List Plc) (now:Plc) (i:Nat):Prop where
  once:ks.Nodup
  here:p∈ks
  rch:∀ q∈ks,Rch W N rb p q
  sub:∀ q∈qs,q∈ks
  qonce:qs.Nodup
  shut:∀ q∈ks,q∉qs→q≠now→∀ r,Nx W N rb q r→r∈ks
  good:∀ q∈ks,FY q
  nowin:now∈ks
  done:∀ j,j<i→j<N.tracks.length→(CT W N rb now j).2.2=0→(CT W N rb now j).1∈ks
end
section
variable {W:Wag} {N:Net} {rb:List Int} {p now:Plc} {ks qs:List Plc} {i:Nat}
theorem run_goodR (hN:GoodNet N) {q:Plc} (hq:FY q) (hi:i<N.tracks.length) (h:(CT W N rb q i).2.2=0):FY (CT W N rb q i).1:=by
  have hr:=hN.at hi;have hs:=hN.stops;have ha:=hr.a;have hb:=hr.b;have hg:=hr.gauge;obtain ⟨hq1,hq2⟩:=hq;unfold CT at h ⊢;simp only at h ⊢;have hnx:0≤IG (N.tracks.getD i AB) q.st∧IG (N.tracks.getD i AB) q.st<6:=by unfold IG;split <;> omega
  split at h
  · simp at h
  · rename_i h1
    rw [if_neg h1]
    split at h
    · rename_i h2
      rw [if_pos h2];exact ⟨hnx,hq2⟩
    · rename_i h2
      rw [if_neg h2]
      split at h
      · rename_i h3
        exfalso
        cases hb:BU W (N.tracks.getD i AB) 6 with
        | nil=>rw [hb] at h3;simp at h3
        | cons x r=>
          rw [hb] at h;have hx:x∈BU W (N.tracks.getD i AB) 6:=by rw [hb];simp
          obtain ⟨k,_,rfl⟩:=Ai.1 hx;simp at h;omega
      · rename_i h3
        rw [if_neg h3]
        split at h
        · simp at h
        · rename_i h4
          rw [if_neg h4];exact ⟨hnx,hg⟩
theorem RInv.start (hp:FY p):RInv W N rb p [p] [p]:=
  ⟨by simp,by simp,fun q hq=>by rw [Af.1 hq];exact .here,fun q hq=>hq,by simp,fun q hq hn=>absurd hq hn,fun q hq=>by rw [Af.1 hq];exact hp⟩
theorem RInv.pop (h:RInv W N rb p ks (now::qs)):RIn W N rb p ks qs now 0:=
  ⟨h.once,h.here,h.rch,fun q hq=>h.sub q (Ag _ hq),(Cb.1 h.qonce).2,fun q hq h1 h2=>h.shut q hq (by simp [h1,h2]),h.good,h.sub now (by simp),fun j hj=>absurd hj (by omega)⟩
theorem RIn.skip (h:RIn W N rb p ks qs now i) (hs:¬ (CT W N rb now i).2.2=0∨(CT W N rb now i).1∈ks):RIn W N rb p ks qs now (i+1):=
  ⟨h.once,h.here,h.rch,h.sub,h.qonce,h.shut,h.good,h.nowin,fun j hj hn hr=>by
    by_cases e:j=i
    · subst e;exact hs.elim (fun q=>absurd hr q) id
    · exact h.done j (by omega) hn hr⟩
theorem RIn.add (hN:GoodNet N) (h:RIn W N rb p ks qs now i) (hi:i<N.tracks.length) (hr:(CT W N rb now i).2.2=0) (hk:(CT W N rb now i).1∉ks):RIn W N rb p (ks++[(CT W N rb now i).1]) (qs++[(CT W N rb now i).1]) now (i+1):=by
  generalize hx:(CT W N rb now i).1=x at hk ⊢
  refine ⟨Au.2 ⟨h.once,by simp,fun a ha b hb e=>?_⟩,by simp [h.here],fun q hq=>?_,fun q hq=>?_,Au.2 ⟨h.qonce,by simp,fun a ha b hb e=>?_⟩,fun q hq h1 h2 r hr2=>?_,fun q hq=>?_,by simp [h.nowin],fun j hj hn hr2=>?_⟩
  · rw [Af.1 hb] at e;exact hk (e▸ha)
  · rcases Ab.1 hq with hq | hq
    · exact h.rch q hq
    · rw [Af.1 hq,← hx];exact .more (h.rch now h.nowin) ⟨i,hi,hr,rfl⟩
  · rcases Ab.1 hq with hq | hq
    · exact Bd _ (h.sub q hq)
    · exact Bb _ hq
  · rw [Af.1 hb] at e;exact hk (e▸h.sub a ha)
  · rcases Ab.1 hq with hq | hq
    · exact Bd _ (h.shut q hq (fun z=>h1 (Bd _ z)) h2 r hr2)
    · exact absurd (Bb _ hq) h1
  · rcases Ab.1 hq with hq | hq
    · exact h.good q hq
    · rw [Af.1 hq,← hx];exact run_goodR hN (h.good now h.nowin) hi hr
  · by_cases e:j=i
    · subst e;rw [hx];simp
    · exact Bd _ (h.done j (by omega) hn hr2)
theorem RIn.done' (h:RIn W N rb p ks qs now i) (hi:N.tracks.length≤i):RInv W N rb p ks qs:=
  ⟨h.once,h.here,h.rch,h.sub,h.qonce,fun q hq h1 r ⟨j,hj,hr,he⟩=>by
    by_cases e:q=now
    · subst e;rw [← he];exact h.done j (by omega) hj hr
    · exact h.shut q hq h1 e r ⟨j,hj,hr,he⟩,h.good⟩
theorem RInv.ends (h:RInv W N rb p ks []):∀ q,q∈ks↔Rch W N rb p q:=fun q=>⟨h.rch q,fun hr=>by
  induction hr with
  | here=>exact h.here
  | more _ h2 ih=>exact h.shut _ ih (by simp) _ h2⟩
theorem RIn.few (h:RIn W N rb p ks qs now i):ks.length≤18∧qs.length≤ks.length:=⟨QR h.once h.good,h.qonce.length_le_of_subset h.sub⟩
theorem RInv.few (h:RInv W N rb p ks qs):ks.length≤18∧qs.length≤ks.length:=⟨QR h.once h.good,h.qonce.length_le_of_subset h.sub⟩
end
end Go.Sh
namespace Go.Sl
open Go Go.Sh
abbrev encQ:=plcV
section
variable {ρ:Option Nat} {P:Program} {N:Nat} {Q:Exit→Act→World→Prop} {ds:List Deferred} {i:Nat} {l:Sl} {I:Imm} {M:Seg} {C:List Nat→Code} {p:List Nat} {ops:Array Oper}
theorem rrX (h:SeqX (ρ:=ρ) P N (GR (C p)) Q ds 0 l I M) (hc:OT (C p)=true:=by kernel_rfl):Run (ρ:=ρ) P N (C p) Q ds l I M:=by
  obtain ⟨id,hid⟩:=PL hc;exact run_regionX hid h
theorem seqX_sendQ {x y : Operand} {c cap s r : Nat} {v : Plc} {qs : List Plc} {tm : Bool} {ty : TypeId} (j : Nat) (hop : FH ops N i = some (none, .send x y, ty, none)) (hx : CB l x = some (.chan (some c))) (hy : CB l y = some (plcV v))
    (hj:M[j]?=some (c,.chan cap (bufQ qs) false s r tm)) (hroom:qs.length<cap)
    (next:SeqX (ρ:=ρ) P N ops Q ds (i+1) l I (M.set j (c,.chan cap (bufQ (qs++[v])) false (s+1) r tm))):SeqX (ρ:=ρ) P N ops Q ds i l I M:=
  seqX_send j hop hx hy hj (by rw [bufQ_size];exact hroom) (by rw [bufQ_push];exact next)
theorem seqX_recvQ {x : Operand} {c cap s r d T el : Nat} {v : Plc} {qs : List Plc} {z : Value} {tm : Bool} {ty : TypeId} (j : Nat) (hop : FH ops N i = some (some d, .recv T x false, ty, none)) (hT : tyChan P T = some el) (hz : JI P el = some z)
    (hx:CB l x=some (.chan (some c))) (hj:M[j]?=some (c,.chan cap (bufQ (v::qs)) false s r tm))
    (next:SeqX (ρ:=ρ) P N ops Q ds (i+1) ((d,plcV v)::l) I (M.set j (c,.chan cap (bufQ qs) false s (r+1) tm))):SeqX (ρ:=ρ) P N ops Q ds i l I M:=
  seqX_recv j hop hT hz hx hj (bufQ_cons v qs) next
end
end Go.Sl
namespace Go.Sh
open Go Go.Sl
noncomputable def FD (W:Wag) (N:Net) (rb:List Int) (p:Plc) (to:Int):Bool:=@decide (∃ q,Rch W N rb p q∧q.st=to) (Classical.propDecidable _)
section
variable {W:Wag} {N:Net} {rb:List Int} {p:Plc} {to:Int}
theorem comesB_iff:FD W N rb p to=true↔∃ q,Rch W N rb p q∧q.st=to:=@decide_eq_true_iff _ (Classical.propDecidable _)
theorem comesB_yes {ks td:List Plc} {y:Plc} (h:∀ q:Plc,q∈ks↔Rch W N rb p q) (hy:y∈td) (hs:∀ q∈td,q∈ks) (e:y.st=to):FD W N rb p to=true:=comesB_iff.2 ⟨y,(h y).1 (hs y hy),e⟩
theorem comesB_no {ks:List Plc} (h:∀ q:Plc,q∈ks↔Rch W N rb p q) (hn:∀ q∈ks,q∉([]:List Plc)→¬ q.st=to):FD W N rb p to=false:=by
  cases hb:FD W N rb p to with
  | false=>rfl
  | true=>obtain ⟨q,hq,e⟩:=comesB_iff.1 hb;exact absurd e (hn q ((h q).2 hq) (by simp))
theorem todo_skip {ks A B:List Plc} {y:Plc} (h:∀ q∈ks,q∉A++y::B→¬ q.st=to) (hy:¬ y.st=to):∀ q∈ks,q∉A++B→¬ q.st=to:=fun q hq hn=>by
  by_cases e:q=y
  · subst e;exact hy
  · exact h q hq (by simp only [Ab,Ac] at hn ⊢;rintro (h1 | h1 | h1) <;> simp_all)
theorem todo_sub {ks A B:List Plc} {y:Plc} (h:∀ q∈A++y::B,q∈ks):∀ q∈A++B,q∈ks:=fun q hq=>h q (by simp only [Ab,Ac] at hq ⊢;rcases hq with h1 | h1 <;> simp_all)
end
def IsTrp (I:Imm) (v:Value) (T:Trp):Prop:=∃ v1,v=.agg #[v1,.int .i64 T.km,.int .i64 T.ch]∧AF I v1 T.way
theorem IsTrp.mono {I J:Imm} {v:Value} {T:Trp} (h:IsTrp I v T) (le:I.le J):IsTrp J v T:=by
  obtain ⟨v1,h0,h1⟩:=h;exact ⟨v1,h0,h1.mono le⟩
theorem mkTrp {I:Imm} {v1:Value} {way:List Int} {km ch:Int} (h1:AF I v1 way):IsTrp I (.agg #[v1,.int .i64 km,.int .i64 ch]) ⟨way,km,ch⟩:=⟨v1,rfl,h1⟩
structure Trpv where
  way:Lst
  km:Int
  ch:Int
def CS:Trpv:=⟨noLst,0,0⟩
def HI (x:Trpv):Trp:=⟨x.way.l,x.km,x.ch⟩
def trpvVals (x:Trpv):List Value:=[.slice x.way.a x.way.l.length x.way.c,.int .i64 x.km,.int .i64 x.ch]
abbrev JT:=OP trpvVals
abbrev IsTrpvs:=IsSl 3 JT CS
theorem one_trpvCell (ys:List Trpv):∀ c∈DM 3 JT ys,DF c=true:=one_rec (vals:=trpvVals) (fun _=>rfl) (fun _=>rfl) ys
abbrev TrpvOk (I:Imm) (x:Trpv):Prop:=AF I (.slice x.way.a x.way.l.length x.way.c) x.way.l
theorem trpT_getD {xs:List Trpv} {k:Nat} (hk:k<xs.length):(xs.map HI).getD k QL=HI (xs.getD k CS):=by
  rw [List.getD,List.getD,Cy,Bf hk];rfl
section
variable {a b:Trp}
theorem better_km (h:¬ a.km=b.km):HC a b=decide (a.km<b.km):=by unfold HC;rw [if_pos h]
theorem better_ch (h:a.km=b.km) (h2:¬ a.ch=b.ch):HC a b=decide (a.ch<b.ch):=by unfold HC;rw [if_neg (fun q=>q h),if_pos h2]
theorem better_way (h:a.km=b.km) (h2:a.ch=b.ch):HC a b=decide (cmpL a.way b.way<0):=by unfold HC;rw [if_neg (fun q=>q h),if_neg (fun q=>q h2)]
end
section
variable {xs:List Trpv} {k:Nat}
theorem least_first (h:0<xs.length):CK ((xs.map HI).take 1)=HI (xs.getD 0 CS):=by
  cases xs with
  | nil=>simp at h
  | cons x r=>rfl
theorem least_zero (hk:k=0) (h:k<xs.length):CK ((xs.map HI).take (k+1))=HI (xs.getD k CS):=by subst hk;exact least_first h
theorem least_next (hk:0<k) (h:k<xs.length):CK ((xs.map HI).take (k+1))=if HC (HI (xs.getD k CS)) (CK ((xs.map HI).take k))=true then HI (xs.getD k CS) else CK ((xs.map HI).take k):=by
  rw [CF (d:=QL) (by rw [Bi];exact h),leastT_snoc,trpT_getD h];intro e;have:=congrArg List.length e;rw [Be,Bi,Cg] at this;omega
theorem least_done (h:xs.length≤k):CK ((xs.map HI).take k)=CK (xs.map HI):=by rw [Bq (by rw [Bi];exact h)]
end
section
variable {W:Wag} {N:Net} {to:Int} {f k:Nat} {ks:List Plc} {q:Plc} {T:Trp} {n:Nat}
theorem erase_last (h:q∉ks):(ks++[q]).erase q=ks:=by rw [List.erase_append_right _ h];simp
theorem met_few (hn:ks.Nodup) (hg:∀ p∈ks,FY p) (hq:q∉ks) (hp:FY q):ks.length≤17:=by
  have:(ks++[q]).length≤18:=QR (Au.2 ⟨hn,by simp,by simp;exact fun a ha e=>hq (e▸ha)⟩) (by simp;exact fun r hr=>hr.elim (hg r) (fun e=>e▸hp));rw [Ad] at this;simp at this;omega
theorem met_once (hn:ks.Nodup) (hq:q∉ks):(ks++[q]).Nodup:=Au.2 ⟨hn,by simp,by simp;exact fun a ha e=>hq (e▸ha)⟩
theorem met_good (hg:∀ p∈ks,FY p) (hp:FY q):∀ p∈ks++[q],FY p:=fun p h=>(Ab.1 h).elim (hg p) fun e=>Af.1 e▸hp
theorem dfs_here (h:q.st=to):dfsM W N to (f+1) ks q T=[T]:=by rw [LB,if_pos h]
theorem dfs_on (h:¬ q.st=to):dfsM W N to (f+1) ks q T=(List.range N.tracks.length).flatMap (brM W N to f ks q T):=by rw [LB,if_neg h]
theorem br_skip (h:¬ (CT W N [] q k).2.2=0∨(CT W N [] q k).1∈ks++[q]):brM W N to f ks q T k=[]:=by
  unfold brM;rcases h with h | h
  · rw [if_pos h]
  · rw [if_pos h];split <;> rfl
theorem br_go (h:(CT W N [] q k).2.2=0) (h2:(CT W N [] q k).1∉ks++[q]):brM W N to f ks q T k=dfsM W N to f (ks++[q]) (CT W N [] q k).1 (goT W N q T k):=by
  unfold brM;rw [if_neg (fun z=>z h),if_neg h2]
theorem dfs_end (hk:n≤k) (hk2:k≤n) {g:Nat→List Trp}:(List.range k).flatMap g=(List.range n).flatMap g:=by rw [show k=n by omega]
end
def ES (W:Wag) (N:Net) (p:Plc) (to:Int):List Int × Int × Int:=if QN W N p to=[] then ([],0,11) else ((CK (QN W N p to)).way,(CK (QN W N p to)).km,0)
section
variable {W:Wag} {N:Net} {to:Int} {p:Plc} {xs:List Trpv}
theorem wayE_no (h:xs.map HI=QN W N p to) (hl:xs.length=0):ES W N p to=([],0,11):=by
  unfold ES;rw [if_pos (by rw [← h,Dg hl];rfl)]
theorem wayE_yes (h:xs.map HI=QN W N p to) (hl:0<xs.length):ES W N p to=((CK (xs.map HI)).way,(CK (xs.map HI)).km,0):=by
  unfold ES;rw [if_neg (by rw [← h];intro e;have:=congrArg List.length e;rw [Bi,Cg] at this;omega),h]
theorem wayE_law (hN : GoodNet N) (hp : FY p) (to : Int) : (ES W N p to = ([], 0, 11) ∧ FD W N [] p to = false) ∨
    (∃ way,ES W N p to=(way,kmM N way,0)∧okM W N p way∧(endM N p way).st=to∧way.length≤17):=by
  by_cases h:QN W N p to=[]
  · refine .inl ⟨by unfold ES;rw [if_pos h],?_⟩
    cases hb:FD W N [] p to with
    | false=>rfl
    | true=>
      obtain ⟨q,hq,e⟩:=comesB_iff.1 hb;exact absurd h (reach_found hN hp hq e)
  · obtain ⟨way,e1,e2,e3,e4,e5⟩:=dfs_sound 18 [] p QL _ (leastT_mem h)
    refine .inr ⟨way,?_,e2,e3,by omega⟩;unfold ES;rw [if_neg h];rw [show (CK (QN W N p to)).way=way from by rw [show QN W N p to=dfsM W N to 18 [] p QL from rfl,e1];rfl,show (CK (QN W N p to)).km=kmM N way from by rw [show QN W N p to=dfsM W N to 18 [] p QL from rfl,e4];show 0+_=_;omega]
theorem comes_way (hN:GoodNet N) (hp:FY p) (h:FD W N [] p to=true):(ES W N p to).2.2=0:=by
  rcases wayE_law (W:=W) hN hp to with ⟨_,h2⟩ | ⟨way,h1,_⟩
  · rw [h] at h2;cases h2
  · rw [h1]
theorem wayE_here (h:p.st=to):ES W N p to=([],0,0):=by
  have e:QN W N p to=[QL]:=dfs_here h;unfold ES;rw [e,if_neg (by simp)];rfl
end
section
variable {α:Type} {c:α→α→Int}
theorem insB_perm (x:α):∀ l:List α,(insB c x l).Perm (x::l):=by
  intro l
  induction l with
  | nil=>exact .refl _
  | cons y r ih=>
    simp only [insB]
    split
    · exact .refl _
    · exact (List.Perm.cons y ih).trans (.swap x y r)
theorem insB_at (d x:α):∀ (l:List α) (j:Nat),j≤l.length→(∀ z∈l.drop j,c x z<0)→(j=0∨¬ c x (l.getD (j-1) d)<0)→insB c x l=l.take j++x::l.drop j:=by
  intro l
  induction l with
  | nil=>intro j hj _ _;simp at hj;subst hj;rfl
  | cons y r ih=>
    intro j hj hd hs;cases j with
    | zero=>
      simp only [insB];simp only [List.drop_zero] at hd;rw [if_pos ⟨hd y (by simp),fun z hz=>hd z (by simp [hz])⟩];rfl
    | succ j=>
      have hs:¬ c x ((y::r).getD j d)<0:=by
        rcases hs with hs | hs
        · omega
        · exact hs
      simp only [insB];rw [if_neg]
      · rw [ih j (by simpa using hj) (by simpa using hd) ?_]
        · simp
        · cases j with
          | zero=>exact .inl rfl
          | succ j=>exact .inr (by simpa [List.getD] using hs)
      · rintro ⟨h1,h2⟩
        cases j with
        | zero=>exact hs (by simpa [List.getD] using h1)
        | succ j=>
          have hj2:j<r.length:=by simp at hj;omega
          exact hs (by simpa [List.getD,hj2] using h2 _ (List.getElem_mem hj2))
def HY (c:α→α→Int) (l:List α):List α:=l.foldl (fun p x=>insB c x p) []
theorem isort_perm_aux:∀ (l p:List α),(l.foldl (fun p x=>insB c x p) p).Perm (p++l):=by
  intro l
  induction l with
  | nil=>intro p;rw [Aa];exact .refl _
  | cons x r ih=>
    intro p;exact (ih _).trans (((insB_perm x p).append_right r).trans (Az.symm))
theorem KC (l:List α):(HY c l).Perm l:=isort_perm_aux l []
theorem isort_snoc (l:List α) (x:α):HY c (l++[x])=insB c x (HY c l):=by simp [HY]
theorem isort_take {l:List α} {k:Nat} {d:α} (hk:k<l.length):HY c (l.take (k+1))=insB c (l.getD k d) (HY c (l.take k)):=by
  rw [CF (d:=d) hk,isort_snoc]
structure Strict (c:α→α→Int) (l:List α):Prop where
  tri:∀ a∈l,∀ b∈l,a≠b→(c a b<0∨c b a<0)
  irr:∀ a∈l,¬ c a a<0
  trans:∀ a∈l,∀ b∈l,∀ d∈l,c a b<0→c b d<0→c a d<0
theorem Strict.perm {l l':List α} (h:Strict c l) (p:l'.Perm l):Strict c l':=
  ⟨fun a ha b hb=>h.tri a (p.subset ha) b (p.subset hb),fun a ha=>h.irr a (p.subset ha),fun a ha b hb d hd=>h.trans a (p.subset ha) b (p.subset hb) d (p.subset hd)⟩
theorem Strict.sub {l l':List α} (h:Strict c l) (p:∀ x∈l',x∈l):Strict c l':=
  ⟨fun a ha b hb=>h.tri a (p a ha) b (p b hb),fun a ha=>h.irr a (p a ha),fun a ha b hb d hd=>h.trans a (p a ha) b (p b hb) d (p d hd)⟩
abbrev Asc' (c:α→α→Int) (l:List α):Prop:=l.Pairwise fun a b=>c a b<0
theorem insB_sorted {x:α}:∀ {p:List α},Strict c (x::p)→x∉p→Asc' c p→Asc' c (insB c x p):=by
  intro p
  induction p with
  | nil=>intro _ _ _;simp [insB]
  | cons y r ih=>
    intro hs hx hp;simp only [insB];have hp':=List.pairwise_cons.1 hp
    split
    · rename_i h
      refine List.pairwise_cons.2 ⟨fun z hz=>?_,hp⟩;rcases Ac.1 hz with rfl | hz
      · exact h.1
      · exact h.2 z hz
    · rename_i h
      refine List.pairwise_cons.2 ⟨fun z hz=>?_,ih (hs.sub fun z hz=>?_) (fun hh=>hx (by simp [hh])) hp'.2⟩
      · have hz2:=(insB_perm x r).subset hz
        rcases Ac.1 hz2 with rfl | hz2
        · -- y comes ahead of x
          rcases hs.tri y (by simp) z (by simp) (fun e=>hx (by simp [e])) with h1 | h1
          · exact h1
          · exfalso
            refine h ⟨h1,fun w hw=>?_⟩;exact hs.trans z (by simp) y (by simp) w (by simp [hw]) h1 (hp'.1 w hw)
        · exact hp'.1 z hz2
      · rcases Ac.1 hz with rfl | hz
        · simp
        · simp [hz]
theorem QI:∀ (l p:List α),Strict c (p++l)→(p++l).Nodup→Asc' c p→Asc' c (l.foldl (fun p x=>insB c x p) p):=by
  intro l
  induction l with
  | nil=>intro p _ _ h;exact h
  | cons x r ih=>
    intro p hs hn hp;have hq:(insB c x p++r).Perm (p++x::r):=((insB_perm x p).append_right r).trans Az.symm;refine ih _ (hs.perm hq) (hq.nodup_iff.2 hn) (insB_sorted (hs.sub fun z hz=>?_) ?_ hp)
    · rcases Ac.1 hz with rfl | hz <;> simp_all
    · have:=(Az (l₁:=p) (l₂:=r) (a:=x)).nodup_iff.1 hn
      exact fun hh=>(Cb.1 this).1 (by simp [hh])
theorem isort_sorted {l:List α} (hs:Strict c l) (hn:l.Nodup):Asc' c (HY c l):=QI l [] (by simpa using hs) (by simpa using hn) List.Pairwise.nil
theorem asc_unique:∀ {l l':List α},Strict c l→l.Perm l'→Asc' c l→Asc' c l'→l=l':=by
  intro l
  induction l with
  | nil=>intro l' _ p _ _;exact (List.nil_perm.1 p).symm
  | cons x r ih=>
    intro l' hs p h1 h2;cases l' with
    | nil=>exact (List.perm_nil.1 p)
    | cons y s=>
      have h1':=List.pairwise_cons.1 h1;have h2':=List.pairwise_cons.1 h2;have e:x=y:=by
        have hx:x∈y::s:=p.subset (by simp);have hy:y∈x::r:=p.symm.subset (by simp);rcases Ac.1 hx with e | hx
        · exact e
        rcases Ac.1 hy with e | hy
        · exact e.symm
        exfalso
        exact hs.irr x (by simp) (hs.trans x (by simp) y (by simp [hy]) x (by simp) (h1'.1 y hy) (h2'.1 x hx))
      subst e;rw [ih (hs.sub fun z hz=>by simp [hz]) (List.Perm.cons_inv p) h1'.2 h2'.2]
end
def sortS (l:List Slip):List Slip:=HY cmpSlip l
end Go.Sh
namespace Go.Sl
open Go
abbrev sB (l:List UInt8):ByteArray:=⟨l.toArray⟩
abbrev sV (l:List UInt8):Value:=.string ⟨l.toArray⟩
theorem sB_size (a:List UInt8):(sB a).size=a.length:=by simp [sB,ByteArray.size]
section
variable {ρ:Option Nat} {P:Program} {N:Nat} {ops:Array Oper} {i:Nat} {l:Sl} {I:Imm} {R M:Seg} {d:Nat} {ty:TypeId} {gd:Option (Nat × Bool)}
end
theorem sB_get (l:List UInt8) (i:Nat):(sB l)[i]?=l[i]?:=by
  by_cases h:i<l.length
  · rw [getElem?_pos (sB l) i (by rw [sB_size];exact h),Bf h]
    rfl
  · rw [getElem?_neg (sB l) i (by rw [sB_size];exact h),List.getElem?_eq_none (by omega)]
section
variable {ρ:Option Nat} {P:Program} {N:Nat} {ops:Array Oper} {i:Nat} {l:Sl} {I:Imm} {R M:Seg} {d:Nat} {ty:TypeId} {gd:Option (Nat × Bool)}
def byteAt (s:List UInt8) (j:Nat):Int:=((s.getD j 0).toNat:Int)
theorem det_indexS {x y : Operand} {T : TypeId} {s : List UInt8} {k : IntKind} (j : Nat) (hop : FH ops N i = some (some d, .index T x y, ty, gd)) (hg : FL ops l gd = some true)
    (hT:P.underlying T=some .string) (hx:CB l x=some (sV s)) (hy:CB l y=some (.int k (j:Int))) (hj:j<s.length):Det P N ops i l I R d (.int .u8 (byteAt s j)):=
  FF hop hg (HE hx hy) fun I' M'=>by
    show wpL P (Instr.index T (rho l x) (rho l y) >>= fun x=>pure (Next.value x)) _ I' M';rw [BI hx,BI hy];refine DB ?_;unfold Instr.index;show wpL P (underlying T >>= _) _ I' M';rw [AE,AK hT];simp only [if_pos (Int.natCast_nonneg j),Bx];have e:(({ data:=s.toArray }:ByteArray)[j]?)=some s[j]:=by rw [show ({ data:=s.toArray }:ByteArray)=sB s from rfl,sB_get,Bf hj]
    rw [e];have e2:byteAt s j=(s[j].toNat:Int):=by simp [byteAt,List.getD_eq_getElem?_getD,Bf hj]
    rw [e2];exact ⟨rfl,rfl⟩
end
section
variable {ρ:Option Nat} {P:Program} {N:Nat} {ops:Array Oper} {i:Nat} {l:Sl} {I:Imm} {R M:Seg} {d:Nat} {ty:TypeId} {gd:Option (Nat × Bool)}
end
section
variable {P:Program} {N:Nat} {fn:Func} {I I₀:Imm} {post:Value→Imm→Seg→Prop} {F M:Seg} {l:Sl}
theorem EC {t u r : Nat} {T : TypeId} {b off n : Nat} {vs : List Value} {v x y : Value} (M' : Seg) (hr : fn.results = #[.cell t T, .tmp u, .tmp r]) (ht : DL t l = some (.pointer (some ⟨b, off, none⟩))) (hsz : CW P T = some n) (hn : vs.length = n)
    (hs:SeesN I M b off vs) (hv:(DR P T=some true∧v=.agg vs.toArray)∨(DR P T=some false∧vs=[v])) (hu:DL u l=some x) (hy:DL r l=some y)
    (hsub:(M'++F).Sublist M) (hle:I₀.le I) (hp:post (.tuple #[v,x,y]) I M') :
    Pst N (RetQ P fn I₀ post F) .ret [] l I M:=fun a w hS hD hW=>
  ⟨hD,.tuple #[v,x,y],by
    have h1:=OZ (P:=P) hW hs hn hsz hv
    simp [results,hr,hS.get t _ ht,hS.get u _ hu,hS.get r _ hy,asAddr,h1,Sem.run_bind,Result.andThen,pure,Sem.run],_,I,M',rfl,hle,hp,hW.sub hsub⟩
end
section
variable {ρ:Option Nat} {P:Program} {N:Nat} {ops:Array Oper} {i:Nat} {l:Sl} {I:Imm} {R M:Seg} {d:Nat} {ty:TypeId} {gd:Option (Nat × Bool)} {K:Sl→Imm→Seg→Prop}
end
end Go.Sl
namespace Go.Sh
open Go Go.Sl
section
variable {α:Type} {c:α→α→Int} {l zs:List α} {i j m:Nat} {d:α}
def InsI (c:α→α→Int) (l zs:List α) (i:Nat):Prop:=zs=HY c (l.take i)++l.drop i
def InsAt (c:α→α→Int) (d:α) (l zs:List α) (i j:Nat):Prop:=
  j≤i∧i<l.length∧zs=(HY c (l.take i)).take j++l.getD i d::((HY c (l.take i)).drop j++l.drop (i+1))∧∀ z∈(HY c (l.take i)).drop j,c (l.getD i d) z<0
theorem ER (h:i≤l.length):(HY c (l.take i)).length=i:=by rw [(KC _).length_eq,Be];omega
theorem InsI.start:InsI c l l 1:=by
  unfold InsI;cases l with
  | nil=>rfl
  | cons x r=>rfl
theorem InsI.len (h:InsI c l zs i):zs.length=l.length:=by
  rw [h,Ad,(KC _).length_eq,Be,Cq];omega
theorem InsI.into (h:InsI c l zs i) (hi:i<l.length):InsAt c d l zs i i:=by
  have hl:=ER (c:=c) (Nat.le_of_lt hi);refine ⟨Bj _,hi,?_,?_⟩
  · rw [h,Bq (l:=HY c (l.take i)) (by omega),List.drop_of_length_le (l:=HY c (l.take i)) (by omega),Ch hi]
    simp [List.getD,hi]
  · rw [List.drop_of_length_le (by omega)];intro z hz;cases hz
theorem InsI.done (h:InsI c l zs i) (hi:l.length≤i):zs=HY c l:=by
  rw [h,Bq hi,List.drop_of_length_le hi,Aa]
theorem InsAt.len (h:InsAt c d l zs i j):zs.length=l.length:=by
  obtain ⟨h1,h2,h3,_⟩:=h;have hl:=ER (c:=c) (Nat.le_of_lt h2);rw [h3];simp only [Ad,Aq,Be,Cq,hl];omega
theorem InsAt.at_j (h:InsAt c d l zs i j):zs.getD j d=l.getD i d:=by
  obtain ⟨h1,h2,h3,_⟩:=h;have hl:=ER (c:=c) (Nat.le_of_lt h2);rw [h3,List.getD_eq_getElem?_getD,Cn (by rw [Be];omega)];rw [show j-((HY c (l.take i)).take j).length=0 by rw [Be];omega];rfl
theorem InsAt.at_m (h:InsAt c d l zs i j) (hm:m<j):zs.getD m d=(HY c (l.take i)).getD m d:=by
  obtain ⟨h1,h2,h3,_⟩:=h;have hl:=ER (c:=c) (Nat.le_of_lt h2);rw [h3,List.getD_eq_getElem?_getD,Bt (by rw [Be];omega),List.getElem?_take_of_lt hm,← List.getD_eq_getElem?_getD]
theorem InsAt.step (h:InsAt c d l zs i j) (hm:m+1=j) (hlt:c (zs.getD j d) (zs.getD m d)<0):InsAt c d l ((zs.set j (zs.getD m d)).set m (zs.getD j d)) i m:=by
  rw [h.at_j,h.at_m (m:=m) (by omega)] at hlt ⊢;obtain ⟨h1,h2,h3,h4⟩:=h;have hl:=ER (c:=c) (Nat.le_of_lt h2);unfold InsAt
  generalize HY c (l.take i)=q at h3 h4 hl hlt ⊢
  generalize l.getD i d=x at h3 h4 hlt ⊢
  have hmq:m<q.length:=by omega
  have hd:q.drop m=q.getD m d::q.drop (m+1):=by rw [Ch hmq];simp [List.getD,hmq]
  refine ⟨by omega,h2,?_,?_⟩
  · subst hm
    rw [CF (d:=d) hmq] at h3;rw [h3,List.set_append_right _ _ (by simp;omega),show m+1-(q.take m++[q.getD m d]).length=0 by simp;omega,List.set_cons_zero,Am,List.set_append_right _ _ (by simp;omega),show m-(q.take m).length=0 by simp;omega,List.singleton_append,List.set_cons_zero,hd];rfl
  · rw [hd]
    intro z hz;rcases Ac.1 hz with rfl | hz
    · exact hlt
    · rw [hm] at hz;exact h4 z hz
theorem InsAt.done (h:InsAt c d l zs i j) (hs:j=0∨¬ c (zs.getD j d) (zs.getD (j-1) d)<0):InsI c l zs (i+1):=by
  rcases Nat.eq_zero_or_pos j with h0 | h0
  · obtain ⟨h1,h2,h3,h4⟩:=h
    unfold InsI;rw [isort_take (d:=d) h2,insB_at d _ _ j (by rw [ER (Nat.le_of_lt h2)];exact h1) h4 (.inl h0),h3];simp
  · rw [h.at_j,h.at_m (m:=j-1) (by omega)] at hs
    obtain ⟨h1,h2,h3,h4⟩:=h;unfold InsI;rw [isort_take (d:=d) h2,insB_at d _ _ j (by rw [ER (Nat.le_of_lt h2)];exact h1) h4 hs,h3];simp
theorem InsAt.done2 {u:Nat} (h:InsAt c d l zs i j) (hu:u=0) (hb:(cmp .gtr (j:Int) (u:Int)&&cmp .lss (c (zs.getD j d) (zs.getD ((j:Int)-1).toNat d)) 0)=false):InsI c l zs (i+1):=by
  subst hu;refine h.done ?_;rcases Nat.eq_zero_or_pos j with h0 | h0
  · exact .inl h0
  · refine .inr ?_
    rw [show ((j:Int)-1).toNat=j-1 by omega] at hb;simp only [cmp,Bool.and_eq_false_iff,Al] at hb;rcases hb with hb | hb
    · omega
    · omega
end
def SmallS (s:Slip):Prop:=-1000000≤s.hour∧s.hour≤1000000∧-1000000≤s.num∧s.num≤1000000
def cmpZ (x y:Int):Int:=x-y
theorem less_cmpZ {x y:Int}:cmp .lss x y=cmp .lss (cmpZ x y) 0:=by
  show decide (x<y)=decide (x-y<0);exact decide_eq_decide.2 (by omega)
theorem u8_id {m:Nat} (h:m<256):IntKind.u8.wrap (m:Int)=m:=by
  have h1:IntKind.u8.signed=false:=rfl;have h2:IntKind.u8.bits=8:=rfl;simp only [IntKind.wrap,h1,h2,Bool.false_and,Bz,if_false];omega
theorem u64_id {m:Nat} (h:m<1000000):IntKind.u64.wrap (m:Int)=m:=by
  have h1:IntKind.u64.signed=false:=rfl;have h2:IntKind.u64.bits=64:=rfl;simp only [IntKind.wrap,h1,h2,Bool.false_and,Bz,if_false];omega
theorem byteAt_range {s:List UInt8} {j:Nat}:0≤byteAt s j∧byteAt s j≤255:=by
  unfold byteAt;have:=(s.getD j 0).toNat_lt;omega
end Go.Sh
namespace Go.Sl
open Go
end Go.Sl
namespace Go.Sh
open Go Go.Sl
section
variable {α:Type} {p:α→Bool} {l:List α} {d:α} {k:Nat}
end
section
variable {L:Lin} {k:Nat}
section
variable (h3:inB (L.keeps.getD k noKeep).place 0 (L.places-1)=true) (h4:inB (L.keeps.getD k noKeep).hour 0 200=true)
include h3
include h4
variable (h5:inB (L.keeps.getD k noKeep).who 1 9=true)
include h5
end
end
section
variable {L:Lin} {k:Nat}
end
end Go.Sh
namespace Go.Sl
open Go
def IterP {α:Type} (P:Program) (gf:FuncId) (cv:List Value) (enc:α→List Value) (seq:List α) (R:List α→Imm→Seg→Prop) (I0:Imm):Prop:=
  ∀ (L:Nat) (Cl Sp:List α→Imm→Seg→Prop),(∀ xs I J M,I.le J→Cl xs I M→Cl xs J M) →
    (∀ xs x I Mr M,(xs++[x]) <+: seq→I0.le I→R (xs++[x]) I Mr→Cl xs I M→Yt P L (enc x).toArray I (Mr++M) (fun v I' M'=>(v=.bool true∧∃ Mr' M2,M'=Mr'++M2∧R (xs++[x]) I' Mr'∧Cl (xs++[x]) I' M2)∨(v=.bool false∧Sp (xs++[x]) I' M'))) →
    ∀ I Mr M,I0.le I→R [] I Mr→Cl [] I M→Ct P gf (.func (.yield L) #[] #[]::cv).toArray I (Mr++M) (fun _ I' M'=>(∃ Mr' M2,M'=Mr'++M2∧R seq I' Mr'∧Cl seq I' M2)∨(∃ xs,Sp xs I' M'))
section
variable {ρ:Option Nat} {P:Program} {N:Nat} {ops:Array Oper} {i:Nat} {l:Sl} {I:Imm} {R M:Seg} {ty:TypeId} {gd:Option (Nat × Bool)} {K:Sl→Imm→Seg→Prop} {Q:Exit→Act→World→Prop} {ds:List Deferred}
theorem run_rangeFuncP {α : Type} {c : Code} {g : Operand} {ps : Array Tmp} {assign body : Code} {gf : FuncId} {cv : List Value} {enc : α → List Value} {seq : List α} {R : List α → Imm → Seg → Prop} {Mr M0 F0 : Seg}
    (Cl:List α→Imm→Seg→Prop) (Sp:Code→List α→Imm→Seg→Prop) (sl:α→Nat→Sl) (mm:α→Nat→Seg)
    (hc:c=.rangeFunc g ps assign body) (hg:CB l g=some (.func (.func gf) #[] cv.toArray)) (hcall:DN P gf=true) (hps:∀ x,(enc x).length=ps.size) (hpN:ps.all (fun t=>Nat.blt t N)=true)
    (it:IterP P gf cv enc seq R I)
    (hmono:∀ xs I J M,I.le J→Cl xs I M→Cl xs J M)
    (hM:M.Perm (Mr++(M0++F0))) (hr:R [] I Mr) (h0:Cl [] I M0)
    (hassign:∀ L x I1 M1,Run (ρ:=some L) P N assign (Exit.then (fun a w=>∃ k,Slots N (sl x k) a∧a.defers=[]∧St I1 (mm x k++M1) w) (fun _ _ _=>False)) [] (putAll (ps.toList.zip (enc x)) l) I1 M1)
    (hbody:∀ L x k xs I1 Mr1 M1 F1,(xs++[x]) <+: seq→I.le I1→R (xs++[x]) I1 Mr1→Cl xs I1 M1 →
      Run (ρ:=some L) P N body (RoundQ I1 (fun o I' M'=>match o with | none=>∃ Mr' M2,M'=Mr'++M2∧R (xs++[x]) I' Mr'∧Cl (xs++[x]) I' M2 | some c=>Sp c (xs++[x]) I' M') F1) [] (sl x k) I1 (mm x k++(Mr1++(M1++F1))))
    (hdone:∀ D I' Mr' M',I.le I'→R seq I' Mr'→Cl seq I' M'→Pst N Q .normal (mark D::ds) l I' ((D,.deferred (some []))::(Mr'++(M'++F0))))
    (hstop:∀ D c xs I' M',I.le I'→Sp c xs I' M'→Run (ρ:=none) P N c Q (mark D::ds) l I' ((D,.deferred (some []))::(M'++F0))) :
    Run (ρ:=none) P N c Q ds l I M:=by
  subst hc;intro a w hS hD hW;refine wpIn_rangeFunc fun fn _=>?_
  obtain ⟨rec,hrec⟩:∃ rec:LoopState→Option Code→Loop,rec=fun st pe=>{ state:=st,pending:=pe,fn,tmps:=a.tmps,params:=ps,assign,body,defers:=w.heap.size }:=⟨_,rfl⟩
  have hW2:St I ((w.heap.size+1,.loop (rec .ready none))::(w.heap.size,.deferred (some []))::(Mr++(M0++F0))) ((w.alloc (.deferred (some []))).alloc (.loop (rec .ready none))):=by
    have h1:=(hW.perm hM).new (.deferred (some []));have h2:=h1.new (.loop (rec .ready none));have e:(w.heap.push (Obj.deferred (some []))).size=w.heap.size+1:=by simp
    rw [e] at h2;exact h2
  generalize hw1:((w.alloc (.deferred (some []))).alloc (.loop (rec .ready none)))=w1 at hW2
  refine ⟨w.heap.size+1,[mark w.heap.size],w1,{ target:=.fn (.func gf) cv.toArray,args:=#[.func (.yield (w.heap.size+1)) #[] #[]] },w1,gf,(.func (.yield (w.heap.size+1)) #[] #[]::cv).toArray,w1,?_,?_,fun _ _=>trivial,?_,fun h=>by simp [fen,Fence.wide] at h,?_⟩
  · rw [← hw1,hrec];exact run_enterLoop_outer _ _ _ _ _
  · unfold resolve
    simp only [LF hS hg,Deferred.ofValue];simp [Act.eval,pure,Sem.run]
  · show (callFunc gf (#[Value.func (.yield (w.heap.size+1)) #[] #[]]++cv.toArray)).run P w1=_
    rw [HR hcall];simp
  · refine callsIn_fen.2 ?_
    clear hw1 hW
    generalize w.heap.size+1=L at hW2 hrec ⊢
    generalize w.heap.size=D at hW2 hrec ⊢
    have hit:=it L (fun xs I M=>∃ M0,M=(L,.loop (rec .ready none))::(D,.deferred (some []))::M0∧Cl xs I M0)
      (fun xs I M=>∃ c M0,M=(L,.loop (rec .done (some c)))::(D,.deferred (some []))::M0∧Sp c xs I M0)
      (fun xs I J M le ⟨M0,e,h⟩=>⟨M0,e,hmono xs I J M0 le h⟩) ?_ I Mr ((L,.loop (rec .ready none))::(D,.deferred (some []))::M0) (Imm.le.refl I) hr ⟨M0,rfl,h0⟩
    · refine (hit F0 w1 (hW2.perm ?_)).mono ?_
      · rw [Am]
        exact ((Az (l₁:=Mr)).trans (.cons _ (Az (l₁:=Mr)))).symm
      · rintro e w' ⟨v,I',M',rfl,hle,hp,st⟩
        rcases hp with ⟨Mr',M2,rfl,hR,M3,rfl,hcl⟩ | ⟨xs,c,M3,rfl,hsp⟩
        · have st2 := st.perm (show ((Mr' ++ ((L, Obj.loop (rec .ready none)) :: (D, .deferred (some [])) :: M3)) ++ F0).Perm ((L, Obj.loop (rec .ready none)) :: (D, .deferred (some [])) :: (Mr' ++ (M3 ++ F0))) by
            rw [Am]
            exact (Az (l₁:=Mr')).trans (.cons _ (Az (l₁:=Mr'))))
          have hl:=st2.mem _ _ Aj;refine ⟨none,_,by have:=run_endLoop (P:=P) hl (by rw [hrec];simp);rw [hrec] at this;exact this,?_⟩;refine hdone D I' Mr' M3 hle hR hcl _ _ ⟨hS.size,hS.get⟩ (by show [mark D]++a.defers=_;rw [hD];rfl) ?_;exact (St.putObj st2).drop
        · have hl:=st.mem (L) (.loop (rec .done (some c))) (by simp)
          refine ⟨some c,_,by have:=run_endLoop (P:=P) hl (by rw [hrec];simp);rw [hrec] at this;exact this,?_⟩;refine hstop D c xs I' M3 hle hsp _ _ ⟨hS.size,hS.get⟩ (by show [mark D]++a.defers=_;rw [hD];rfl) ?_;exact (St.putObj (M:=(D,Obj.deferred (some []))::(M3++F0)) st).drop
    · rintro xs x I1 Mr1 M1' hpre hle hR ⟨M1,rfl,hcl⟩ F1 w2 st
      have hl:=st.mem L (.loop (rec .ready none)) (by simp);have hy:=run_yield (P:=P) (args:=(enc x).toArray) hl (by rw [hrec];simpa using hps x);rw [hrec] at hy;refine ⟨_,_,assign,body,hy,roundIn_of_wpIn (F:=fen none) trivial ?_⟩;have hfold:((ps.zip (enc x).toArray).foldl (fun tmps (t,a)=>tmps.setIfInBounds t a) a.tmps)=(ps.toList.zip (enc x)).foldl (fun t (x:Tmp × Value)=>t.setIfInBounds x.1 x.2) a.tmps:=by
        rw [← Array.foldl_toList];simp
      simp only;rw [hfold];refine wpIn_mono (hassign L x I1 _ _ w2 (slots_fold (ps.toList.zip (enc x)) l a.tmps ⟨hS.size,hS.get⟩ ?_) rfl st) ?_
      · intro y hy'
        have:=(List.of_mem_zip (show (y.1,y.2)∈ps.toList.zip (enc x) from hy')).1;have h3:=Array.all_eq_true'.1 hpN y.1 (by simpa using this);exact Bn h3
      · rintro e a1 w3 hq
        cases e with
        | normal=>
          obtain ⟨k,hS3,hD3,st3⟩:=hq;have st4:St I1 ((L,.loop (rec .ready none))::(mm x k++(Mr1++(M1++((D,.deferred (some []))::F1))))) w3:=st3.perm ((Bo (mm x k) perm3).trans Az);have hl3:=st4.mem L (.loop (rec .ready none)) Aj;refine ⟨_,run_beginRound hl3 (by rw [hrec]),?_⟩;have st5:St I1 (mm x k++(Mr1++(M1++((L,.loop { rec .ready none with state:=.busy })::(D,.deferred (some []))::F1)))) (w3.putObj L (.loop { rec .ready none with state:=.busy })):=by
            refine (St.putObj st4).perm ?_;refine (Az (l₁:=mm x k)).symm.trans (Bo (mm x k) ?_);have:=(perm3 (A:=Mr1) (B:=M1) (C:=F1) (x:=(L,Obj.loop { rec .ready none with state:=.busy })) (y:=(D,Obj.deferred (some [])))).symm;refine this.trans ?_;rw [Am];refine Bo Mr1 ?_;show ((L,Obj.loop { rec .ready none with state:=.busy })::(D,.deferred (some []))::(M1++F1)).Perm _;exact ((Az (l₁:=M1)).trans (.cons _ (Az (l₁:=M1)))).symm
          refine wpIn_mono (hbody L x k xs I1 Mr1 M1 _ hpre hle hR hcl a1 _ hS3 hD3 st5) ?_
          have fin : ∀ (jump : Option Code) (I' : Imm) (M' : Seg) (w6 : World), St I' (M' ++ ((L, .loop { rec .ready none with state := .busy }) :: (D, .deferred (some [])) :: F1)) w6 →
              (Instr.endRound L jump).run P w6=.ok (.bool jump.isNone) (w6.putObj L (.loop (rec (if jump.isNone then .ready else .done) jump))) ∧
              St I' ((L,.loop (rec (if jump.isNone then .ready else .done) jump))::(M'++((D,.deferred (some []))::F1))) (w6.putObj L (.loop (rec (if jump.isNone then .ready else .done) jump))):=fun jump I' M' w6 st6=>by
            have st7:=st6.perm perm4;have hl7:=st7.mem _ _ Aj;have:=run_endRound (P:=P) jump hl7;rw [hrec] at this ⊢;exact ⟨this,by rw [hrec] at st7;exact St.putObj st7⟩
          rintro e a6 w6 hq6
          have stop : ∀ (c : Code), (∃ I' M', I1.le I' ∧ Sp c (xs ++ [x]) I' M' ∧ St I' (M' ++ ((L, .loop { rec .ready none with state := .busy }) :: (D, .deferred (some [])) :: F1)) w6) →
              ∃ v w',(Instr.endRound L (some c)).run P w6=.ok v w'∧RQ I1 (fun v I' M'=>(v=.bool true∧∃ Mr' M2,M'=Mr'++M2∧R (xs++[x]) I' Mr'∧∃ M0,M2=(L,.loop (rec .ready none))::(D,.deferred (some []))::M0∧Cl (xs++[x]) I' M0) ∨
                (v=.bool false∧∃ c M0,M'=(L,.loop (rec .done (some c)))::(D,.deferred (some []))::M0∧Sp c (xs++[x]) I' M0)) F1 (.returned v) w':=by
            rintro c ⟨I',M',hle',hp,st6⟩
            obtain ⟨h1,h2⟩:=fin (some c) I' M' w6 st6;exact ⟨_,_,h1,_,I',_,rfl,hle',.inr ⟨rfl,c,M',rfl,hp⟩,h2.perm (.cons _ Az)⟩
          cases e with
          | normal=>
            obtain ⟨I',M',hle',⟨Mr',M2,rfl,hR',hcl'⟩,st6⟩:=hq6;obtain ⟨h1,h2⟩:=fin none I' _ w6 st6;refine ⟨_,_,h1,_,I',_,rfl,hle',.inl ⟨rfl,Mr',_,rfl,hR',M2,rfl,hcl'⟩,h2.perm ?_⟩;rw [Am];exact perm3.symm
          | ret=>exact stop .ret hq6
          | exit id=>exact stop (.exit id) hq6
          | goto t=>exact stop (.goto t) hq6
          | panic ch=>exact hq6.elim
          | outgrown=>exact hq6.elim
        | exit id=>exact hq.elim
        | goto t=>exact hq.elim
        | ret=>exact hq.elim
        | panic ch=>exact hq.elim
        | outgrown=>exact hq.elim
end
section
variable {P:Program} {N:Nat} {ops:Array Oper} {i:Nat} {l:Sl} {I:Imm} {M:Seg} {ty:TypeId} {gd:Option (Nat × Bool)} {K:Sl→Imm→Seg→Prop}
theorem call_runB {f : Operand} {fid : FuncId} {args : Array Operand} {tys : Array TypeId} {fs vals cv : List Value} {ρ : Operand → Value} {w : World} (hf : ρ f = .func (.func fid) fs.toArray cv.toArray) (hvals : args.toList.map ρ = vals) (hc : DN P fid = true) :
    (KB ρ (.call { callee:=.value f,args,argTypes:=tys }) ty).run P w=.ok (.enter fid (fs++vals++cv).toArray) w:=by
  have e:args.map ρ=vals.toArray:=by apply Array.ext';simp [hvals]
  show (do let d ← resolve ρ { callee:=.value f,args,argTypes:=tys } ty;invoke d.target d.args:Sem Next).run P w=_;unfold resolve;simp only [e,hf,Deferred.ofValue];show (callFunc fid ((fs.toArray++vals.toArray)++cv.toArray)).run P w=_;rw [HR hc];simp
theorem stp_callB {d : Option Tmp} {f : Operand} {fid : FuncId} {args : Array Operand} {tys : Array TypeId} {fs vals cv : List Value} {pre F : Seg} {post : Value → Imm → Seg → Prop} {argv : Array Value}
    (hop:FH ops N i=some (d,.call { callee:=.value f,args,argTypes:=tys },ty,gd)) (hg:FL ops l gd=some true) (hf:CB l f=some (.func (.func fid) fs.toArray cv.toArray)) (hv:NF l args.toList=some vals)
    (hc:DN P fid=true) (ha:(fs++vals++cv).toArray=argv) (ct:Ct P fid argv I pre post) (hM:M.Perm (pre++F))
    (h:∀ v I' M',I.le I'→post v I' M'→K (ups d v l) I' (M'++F)):Stp P N ops i l I M K:=by
  obtain ⟨o,ho,rfl,he,rfl,rfl,hN,hs⟩:=GQ hop;obtain ⟨h1,h2⟩:=HL hv;refine ⟨o,ho,hN,hs,hg,?_,fun w st=>?_⟩
  · rw [he]
    intro x hx;simp only [Op.operands,Call.operands] at hx;rcases Df.1 hx with hx | hx
    · simp at hx;subst hx;exact ED hf
    · exact h1 x (by simpa using hx)
  · rw [GN,he,call_runB (BI hf) h2 hc,ha]
    refine (ct F w (st.perm hM)).mono fun e w' ⟨v,I',M',hv',hle,hp,st'⟩=>?_
    exact ⟨v,hv',I',M'++F,hle,st',h v I' M' hle hp⟩
end
end Go.Sl
namespace Go.Sh
open Go Go.Sl
section
variable {s:Slip} {H:Hs}
end
structure GoodS (l:List Slip):Prop where
  len:l.length<20
  ok:∀ s∈l,(1≤s.kind∧s.kind≤6)∧(0≤s.amt∧s.amt≤50)∧SmallS s
theorem GoodS.sub {l l':List Slip} (h:GoodS l) (hl:l'.length≤l.length) (hm:∀ x∈l',x∈l):GoodS l':=⟨Nat.lt_of_le_of_lt hl h.len,fun s hs=>h.ok s (hm s hs)⟩
section
variable {S:List Slip} {H:Hs} {k:Nat}
end
end Go.Sh
namespace Go.Sl
open Go
section
variable {P:Program} {N:Nat} {ops:Array Oper} {i:Nat} {l:Sl} {I:Imm} {M:Seg} {ty:TypeId} {gd:Option (Nat × Bool)} {K:Sl→Imm→Seg→Prop}
end
end Go.Sl

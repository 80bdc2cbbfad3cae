/- A part of the proof of the laws of this seat. -/
import Derived.Test.YtmhdidbgjpeadaaGreatP1
import Derived.Test.YtmhdidbgjpeadaaGreatProg
set_option linter.unusedVariables false
set_option linter.unusedSimpArgs false
namespace Go.Sh
open Go Go.Sl
section
variable {α:Type} {c:α→α→Int}
theorem insB_perm (x:α):∀ l:List α,(insB c x l).Perm (x::l):=by
  intro l
  induction l with
  | nil=>exact .refl _
  | cons y r ih=>
    simp only [insB]
    split
    · exact .refl _
    · exact (List.Perm.cons y ih).trans (.swap x y r)
theorem insB_at (d x:α):∀ (l:List α) (j:Nat),j≤l.length→(∀ z∈l.drop j,c x z<0)→(j=0∨¬ c x (l.getD (j-1) d)<0)→insB c x l=l.take j++x::l.drop j:=by
  intro l
  induction l with
  | nil=>intro j hj _ _;simp at hj;subst hj;rfl
  | cons y r ih=>
    intro j hj hd hs;cases j with
    | zero=>
      simp only [insB];simp only [List.drop_zero] at hd;rw [if_pos ⟨hd y (by simp),fun z hz=>hd z (by simp [hz])⟩];rfl
    | succ j=>
      have hs:¬ c x ((y::r).getD j d)<0:=by
        rcases hs with hs | hs
        · omega
        · exact hs
      simp only [insB];rw [if_neg]
      · rw [ih j (by simpa using hj) (by simpa using hd) ?_]
        · simp
        · cases j with
          | zero=>exact .inl rfl
          | succ j=>exact .inr (by simpa [List.getD] using hs)
      · rintro ⟨h1,h2⟩
        cases j with
        | zero=>exact hs (by simpa [List.getD] using h1)
        | succ j=>
          have hj2:j<r.length:=by simp at hj;omega
          exact hs (by simpa [List.getD,hj2] using h2 _ (List.getElem_mem hj2))
def AJ (c:α→α→Int) (l:List α):List α:=l.foldl (fun p x=>insB c x p) []
theorem isort_perm_aux:∀ (l p:List α),(l.foldl (fun p x=>insB c x p) p).Perm (p++l):=by
  intro l
  induction l with
  | nil=>intro p;rw [List.append_nil];exact .refl _
  | cons x r ih=>
    intro p;exact (ih _).trans (((insB_perm x p).append_right r).trans (List.perm_middle.symm))
theorem EE (l:List α):(AJ c l).Perm l:=isort_perm_aux l []
theorem isort_snoc (l:List α) (x:α):AJ c (l++[x])=insB c x (AJ c l):=by simp [AJ]
theorem isort_take {l:List α} {k:Nat} {d:α} (hk:k<l.length):AJ c (l.take (k+1))=insB c (l.getD k d) (AJ c (l.take k)):=by
  rw [DI (d:=d) hk,isort_snoc]
structure Strict (c:α→α→Int) (l:List α):Prop where
  tri:∀ a∈l,∀ b∈l,a≠b→(c a b<0∨c b a<0)
  irr:∀ a∈l,¬ c a a<0
  trans:∀ a∈l,∀ b∈l,∀ d∈l,c a b<0→c b d<0→c a d<0
theorem Strict.perm {l l':List α} (h:Strict c l) (p:l'.Perm l):Strict c l':=
  ⟨fun a ha b hb=>h.tri a (p.subset ha) b (p.subset hb),fun a ha=>h.irr a (p.subset ha),fun a ha b hb d hd=>h.trans a (p.subset ha) b (p.subset hb) d (p.subset hd)⟩
theorem Strict.sub {l l':List α} (h:Strict c l) (p:∀ x∈l',x∈l):Strict c l':=
  ⟨fun a ha b hb=>h.tri a (p a ha) b (p b hb),fun a ha=>h.irr a (p a ha),fun a ha b hb d hd=>h.trans a (p a ha) b (p b hb) d (p d hd)⟩
abbrev Asc' (c:α→α→Int) (l:List α):Prop:=l.Pairwise fun a b=>c a b<0
theorem insB_sorted {x:α}:∀ {p:List α},Strict c (x::p)→x∉p→Asc' c p→Asc' c (insB c x p):=by
  intro p
  induction p with
  | nil=>intro _ _ _;simp [insB]
  | cons y r ih=>
    intro hs hx hp;simp only [insB];have hp':=List.pairwise_cons.1 hp
    split
    · rename_i h
      refine List.pairwise_cons.2 ⟨fun z hz=>?_,hp⟩;rcases List.mem_cons.1 hz with rfl | hz
      · exact h.1
      · exact h.2 z hz
    · rename_i h
      refine List.pairwise_cons.2 ⟨fun z hz=>?_,ih (hs.sub fun z hz=>?_) (fun hh=>hx (by simp [hh])) hp'.2⟩
      · have hz2:=(insB_perm x r).subset hz
        rcases List.mem_cons.1 hz2 with rfl | hz2
        · -- y comes ahead of x
          rcases hs.tri y (by simp) z (by simp) (fun e=>hx (by simp [e])) with h1 | h1
          · exact h1
          · exfalso
            refine h ⟨h1,fun w hw=>?_⟩;exact hs.trans z (by simp) y (by simp) w (by simp [hw]) h1 (hp'.1 w hw)
        · exact hp'.1 z hz2
      · rcases List.mem_cons.1 hz with rfl | hz
        · simp
        · simp [hz]
theorem OL:∀ (l p:List α),Strict c (p++l)→(p++l).Nodup→Asc' c p→Asc' c (l.foldl (fun p x=>insB c x p) p):=by
  intro l
  induction l with
  | nil=>intro p _ _ h;exact h
  | cons x r ih=>
    intro p hs hn hp;have hq:(insB c x p++r).Perm (p++x::r):=((insB_perm x p).append_right r).trans List.perm_middle.symm;refine ih _ (hs.perm hq) (hq.nodup_iff.2 hn) (insB_sorted (hs.sub fun z hz=>?_) ?_ hp)
    · rcases List.mem_cons.1 hz with rfl | hz <;> simp_all
    · have:=(List.perm_middle (l₁:=p) (l₂:=r) (a:=x)).nodup_iff.1 hn
      exact fun hh=>(List.nodup_cons.1 this).1 (by simp [hh])
theorem NW {l:List α} (hs:Strict c l) (hn:l.Nodup):Asc' c (AJ c l):=OL l [] (by simpa using hs) (by simpa using hn) List.Pairwise.nil
theorem asc_unique:∀ {l l':List α},Strict c l→l.Perm l'→Asc' c l→Asc' c l'→l=l':=by
  intro l
  induction l with
  | nil=>intro l' _ p _ _;exact (List.nil_perm.1 p).symm
  | cons x r ih=>
    intro l' hs p h1 h2;cases l' with
    | nil=>exact (List.perm_nil.1 p)
    | cons y s=>
      have h1':=List.pairwise_cons.1 h1;have h2':=List.pairwise_cons.1 h2;have e:x=y:=by
        have hx:x∈y::s:=p.subset (by simp);have hy:y∈x::r:=p.symm.subset (by simp);rcases List.mem_cons.1 hx with e | hx
        · exact e
        rcases List.mem_cons.1 hy with e | hy
        · exact e.symm
        exfalso
        exact hs.irr x (by simp) (hs.trans x (by simp) y (by simp [hy]) x (by simp) (h1'.1 y hy) (h2'.1 x hx))
      subst e;rw [ih (hs.sub fun z hz=>by simp [hz]) (List.Perm.cons_inv p) h1'.2 h2'.2]
end
def sortS (l:List Slip):List Slip:=AJ AC l
end Go.Sh
namespace Go.Sl
open Go
section
variable {ρ:Option Nat} {P:Program} {N:Nat} {ops:Array Oper} {Q:Exit→Act→World→Prop} {ds:List Deferred} {i:Nat} {l:Sl} {I I₀:Imm} {R M F:Seg} {fn:Func} {post:Value→Imm→Seg→Prop}
theorem rt1 (t : Nat) {v : Value} (hv : DC t l = some v) (hle : I₀.le I) (hp : post v I []) (hr : fn.results = #[.tmp t] := by kernel_rfl) (hs : ([] ++ F).Sublist M := by exact TR _) :
    Pst N (RetQ P fn I₀ post F) .ret [] l I M:=GX [] hr hv hs hle hp
theorem DO (t : Nat) {v : Value} (M' : Seg) (hv : DC t l = some v) (hs : (M' ++ F).Sublist M) (hle : I₀.le I) (hp : post v I M') (hr : fn.results = #[.tmp t] := by kernel_rfl) :
    Pst N (RetQ P fn I₀ post F) .ret [] l I M:=GX M' hr hv hs hle hp
theorem rt2 (t u : Nat) {v x : Value} (hv : DC t l = some v) (hx : DC u l = some x) (hle : I₀.le I) (hp : post (.tuple #[v, x]) I []) (hr : fn.results = #[.tmp t, .tmp u] := by kernel_rfl) (hs : ([] ++ F).Sublist M := by exact TR _) :
    Pst N (RetQ P fn I₀ post F) .ret [] l I M:=pst_ret2 [] hr hv hx hs hle hp
theorem rt2s (t u : Nat) {v x : Value} (M' : Seg) (hv : DC t l = some v) (hx : DC u l = some x) (hs : (M' ++ F).Sublist M) (hle : I₀.le I) (hp : post (.tuple #[v, x]) I M') (hr : fn.results = #[.tmp t, .tmp u] := by kernel_rfl) :
    Pst N (RetQ P fn I₀ post F) .ret [] l I M:=pst_ret2 M' hr hv hx hs hle hp
theorem dpv (d:Nat) (v:Value) (h:pvAt P N ops l i=some (d,v):=by kernel_rfl):Det P N ops i l I R d v:=det_pv h
theorem dld (d x : Nat) (T : TypeId) {b off : Nat} (v : Value) (hx : DC x l = some (.pointer (some ⟨b, off, none⟩))) (hs : Sees I R ⟨b, off, none⟩ v) (hop : EQ ops N i = some (some d, .load T (.tmp x), T, none) := by kernel_rfl) (hT : DP P T = some false := by kernel_rfl) :
    Det P N ops i l I R d v:=KK hop rfl hT hx hs
theorem dfa (d x : Nat) (T : TypeId) (k o : Nat) (ty : TypeId) {b off : Nat} (hx : DC x l = some (.pointer (some ⟨b, off, none⟩))) (hop : EQ ops N i = some (some d, .fieldAddr T (.tmp x) k, ty, none) := by kernel_rfl) (hT : tyOff P T k = some o := by kernel_rfl) :
    Det P N ops i l I R d (.pointer (some ⟨b,off+o,none⟩)):=LX hop rfl hT hx
theorem sap {α : Type} {d : Nat} (x y : Nat) (T E sz bs : Nat) (z : Value) (cell : α → Nat → Value) {v u : Value} (xs ys : List α) (Ms : Seg) {Rest : Seg} {K : Sl → Imm → Seg → Prop}
    (hx:DC x l=some v) (hy:DC y l=some u) (own:Own E sz cell v xs Ms) (hM:M.Perm (Ms++Rest)) (hone:∀ c∈BN sz cell ys,CD c=true) (hsrc:Src I (Ms++Rest) u ys.length (BN sz cell ys))
    (next:∀ v' Ms',Own E sz cell v' (xs++ys) Ms'→K ((d,v')::l) I (Ms'++Rest))
    (hneed:xs.length+ys.length≤274877906944:=by first | omega | (simp only [List.length_cons,List.length_nil];omega) | (simp only [List.length_cons,List.length_nil,List.length_append];omega) | (simp only [List.length_cons,List.length_nil,List.length_append,List.length_take,List.length_drop];omega) | (simp only [List.length_cons,List.length_nil,List.length_append,List.length_take,List.length_map];omega))
    (hop:EQ ops N i=some (some d,.call { callee:=.builtin .append,args:=#[.tmp x,.tmp y],argTypes:=#[T,T] },T,none):=by kernel_rfl)
    (hT:GO P T=some E:=by kernel_rfl) (hsz:DJ P E=some sz:=by kernel_rfl) (hz:GQ P E=some z:=by kernel_rfl) (hzc:z.cells.size=sz:=by kernel_rfl) (hb:LM P E=some bs:=by kernel_rfl) (hbs:1≤bs∧bs≤256:=by decide):Stp P N ops i l I M K:=
  stp_append hop rfl hT hsz hz hzc hb hbs hT hx hy own hM hone hsrc hneed next
theorem snm (vs:List Value) (b:Nat) (T:TypeId) (h:(b,Obj.cells vs.toArray T (0,0))∈M:=by simp):SeesN I M b 0 vs:=seesN_mem (n:=vs.length) h (by simp)
theorem FpOk.wt {M:Seg} {k:Nat} {pr:Seg→Prop} {fp:List (Nat × (Seg→Prop))} (f:FpOk ops i M fp) (h:Go.Sl.wt ops i k=true:=by kernel_rfl):FpOk ops i M ((k,pr)::fp):=.wait h f
theorem kk:(∀ b,(true&&b)=b)∧(∀ b,(false&&b)=false)∧(∀ b,(b&&true)=b)∧(∀ b,(b&&false)=false)∧(∀ b,(true||b)=true)∧(∀ b,(false||b)=b)∧(∀ b,(b||true)=true)∧(∀ b,(b||false)=b)∧(∀ a b:Bool,(bif true then a else b)=a)∧(∀ a b:Bool,(bif false then a else b)=b):=
  ⟨kA,kB,kC,kD,kE,kF,kG,kH,kI,kJ⟩
theorem sun (n:Nat) {l' l:Sl} (h2:Sub (l'.drop n) l) (h:pickL l (l'.take n) true=some (l'.take n):=by kernel_rfl):Sub l' l:=by
  intro t v ht;rw [← List.take_append_drop n l',HP] at ht;cases hq:DC t (l'.take n) with
  | none=>rw [hq] at ht;exact h2 t v ht
  | some u=>rw [hq] at ht;cases ht;exact KP h hq
theorem dln (d x : Nat) (T : TypeId) (vs : List Value) {b off : Nat} (hx : DC x l = some (.pointer (some ⟨b, off, none⟩))) (hs : SeesN I R b off vs) (hop : EQ ops N i = some (some d, .load T (.tmp x), T, none) := by kernel_rfl) (hT : DP P T = some true := by kernel_rfl) (hn : DJ P T = some vs.length := by kernel_rfl) :
    Det P N ops i l I R d (.agg vs.toArray):=det_loadN hop rfl hT hn hx rfl hs
theorem rmA {c:Code} {M':Seg} (next:Run (ρ:=ρ) P N c Q ds l I M') (h:∀ w,St I M w→St I M' w:=by intro w h;simpa only [List.append_assoc,List.cons_append,List.nil_append] using h):Run (ρ:=ρ) P N c Q ds l I M:=run_mem h next
abbrev SD (N:Nat) (l:Sl) (I:Imm) (M:Seg) (a:Act) (w:World) (p:Prop):Prop:=Slots N l a∧a.defers=[]∧St I M w∧p
abbrev SE (N:Nat) (l:Sl) (I:Imm) (M:Seg) (a:Act) (w:World):Prop:=Slots N l a∧a.defers=[]∧St I M w
noncomputable def cod (f:Func) (p:List Nat):Code:=sub (JG f) p
end
end Go.Sl
namespace Go.Sh
open Go Go.Sl
abbrev BP (s:Slip):Array Value:=#[vI s.num,vI s.hour,vI s.kind,vI s.place,vI s.to,vI s.sort,.bool s.soil,vI s.amt]
abbrev slipL (s:Slip):List Value:=[vI s.num,vI s.hour,vI s.kind,vI s.place,vI s.to,vI s.sort,.bool s.soil,vI s.amt]
abbrev JQ (x:Event):Array Value:=#[vI x.slip.num,vI x.slip.hour,vI x.slip.kind,vI x.slip.place,vI x.slip.to,vI x.slip.sort,.bool x.slip.soil,vI x.slip.amt,vI x.gap,.bool x.below]
abbrev evntL (x:Event):List Value:=[vI x.slip.num,vI x.slip.hour,vI x.slip.kind,vI x.slip.place,vI x.slip.to,vI x.slip.sort,.bool x.slip.soil,vI x.slip.amt,vI x.gap,.bool x.below]
abbrev keepA (k:Keep):Array Value:=#[vI k.place,vI k.hour,vI k.who]
abbrev keepL (k:Keep):List Value:=[vI k.place,vI k.hour,vI k.who]
abbrev KO (L:Lin) (a b c:Value):Array Value:=#[vI L.places,vI L.sorts,a,b,c]
abbrev linL (L:Lin) (a b c:Value):List Value:=[vI L.places,vI L.sorts,a,b,c]
abbrev zSlpA:Array Value:=#[vI 0,vI 0,vI 0,vI 0,vI 0,vI 0,.bool false,vI 0]
end Go.Sh
namespace Go.Proofs.YtmhdidbgjpeadaaGreat
open Go Go.Sl Go.Sh
set_option maxRecDepth 100000
noncomputable def c_EqualInts_ct:=cod Tryz.f17
theorem EqualInts_ct (I:Imm) (a:Value) (xs:List Int) (b:Value) (ys:List Int) (a_f:DX I a xs) (b_f:DX I b ys):CtV Tryz.prog 17 #[a,b] I (.bool (decide (xs=ys))):=by
 obtain ⟨a0,a1,b1,b4,rfl,b2,b3,a7⟩:=id a_f;obtain ⟨a2,a3,b5,b8,rfl,b6,b7,a8⟩:=id b_f;refine fr (args:=[_,_]) (N:=26) Tryz.func17 (fun F=>?_);show Run _ _ (c_EqualInts_ct []) _ _ [(0,_),(1,_)] _ _;refine rnm (rqr ?_);refine sp 1 [(4,.bool false)] (se (rq (rqr (sp 5 [(10,.bool (!(cmp .eql (↑(xs.length)) (↑(ys.length)))))] (se (rc 10 rfl (fun h1=>?_) (fun h1=>?_)))))))
 ·
  have a4:=h1;have h1:=CF (CQ h1);refine rqr (sp 1 [(4,.bool false)] (se (BE (RP (rt1 4 rfl (IR _) ?_)))));exact ⟨by rw [decide_eq_false (fun e=>h1 (by rw [e]))],rfl⟩
 have a4:=h1;have h1:=CL (CU h1);refine AN (NX (rq (rqr (sp 1 [(5,vI 0)] (se (rb 0 ?_))))));refine rl (fun mz a w=>∃ k:Nat,(k≤xs.length)∧(xs.length=ys.length)∧(xs.take k=ys.take k)∧SD 26 [(5,vI ↑k),(0,vS a0 xs.length a1),(1,vS a2 ys.length a3)] I F a w (mz=xs.length-k)) ?_ ?_
 ·intro a w hS hD hW;exact ⟨_,0,Nat.zero_le _,by omega,rfl,hS.sub su,hD,hW,rfl⟩
 rintro mz a w ⟨k,hk,hl,ht,hS,hD,hW,rfl⟩
 refine AQ hS hD hW ?_;clear hS hD hW a w;refine rq (rqr (sp 4 [(14,.bool (cmp .lss ↑k (↑(xs.length))))] (se (rc 14 rfl (fun h2=>?_) (fun h2=>?_)))))
 ·
  have a5:=h2;have h2:=BZ h2;refine AN (NX (rq (rb 1 (rq ?_))));refine rd0 8 (ox 2 [(18,vI ↑k),(17,vS a0 xs.length a1)] ?_);refine AG (di 19 1 k a7.addr) ?_;refine AG (dl 20 (DY a7 k (by omega))) (ox 2 [(22,vI ↑k),(21,vS a2 ys.length a3)] ?_);refine AG (di 23 1 k a8.addr) ?_;refine AG (dl 24 (DY a8 k (by omega))) ?_;refine BD (sp 1 [(25,.bool (!(cmp .eql (xs.getD k 0) (ys.getD k 0))))] (se (rc 25 rfl (fun h3=>?_) (fun h3=>?_))))
  ·
   have a6:=h3;have h3:=CF (CQ h3);refine rqr (sp 1 [(4,.bool false)] (se (BE (RB (RP (RP (RB (RP (rt1 4 rfl (IR _) ?_)))))))));exact ⟨by rw [decide_eq_false (getD_ne hl h3)],rfl⟩
  have a6:=h3;have h3:=CL (CU h3);refine AN (NB (NX (rr (sp 1 [(15,vI ↑k)] (sd (da 16 ↑k 1) (sp 1 [(5,vI (↑k+1))] (ee ?_)))))));refine AL (xs.length-(k+1)) (by omega) ?_;intro a w hS hD hW;exact ⟨k+1,by omega,hl,take_step (d:=0) hl ht (by omega) h3,hS.sub su,hD,hW,rfl⟩
 have a5:=h2;have h2:=CG h2;refine BK 0 (EP (EP (EB (NX (rqr (sp 1 [(4,.bool true)] (se (BE (rt1 4 rfl (IR _) ?_)))))))));exact ⟨by rw [decide_eq_true (take_all hl ht (by omega))],rfl⟩
noncomputable def c_Index_ct:=cod Tryz.f133
theorem Index_ct (I:Imm) (a:Value) (xs:List Int) (n:Int) (a_f:DX I a xs):CtV Tryz.prog 133 #[a,vI n] I (vI (seat xs n)):=by
 obtain ⟨a0,a1,a6,a9,rfl,a7,a8,a4⟩:=id a_f;refine fr (args:=[_,_]) (N:=19) Tryz.func133 (fun F=>?_);show Run _ _ (c_Index_ct []) _ _ [(0,_),(1,_)] _ _;refine rnm (rqr ?_);refine sp 1 [(4,vI 0)] (se (rq (rqr (sp 3 [(8,vI 0),(7,vI (↑(xs.length)))] (se (rb 0 ?_))))));refine rl (fun mz a w=>∃ k:Nat,(k≤xs.length)∧(n∉xs.take k)∧SD 19 [(8,vI ↑k),(0,vS a0 xs.length a1),(1,vI n),(7,vI (↑(xs.length)))] I F a w (mz=xs.length-k)) ?_ ?_
 ·intro a w hS hD hW;exact ⟨_,0,Nat.zero_le _,by simp,hS.sub su,hD,hW,rfl⟩
 rintro mz a w ⟨k,hk,hn,hS,hD,hW,rfl⟩
 refine AQ hS hD hW ?_;clear hS hD hW a w;refine rqr (sp 1 [(9,.bool (cmp .lss ↑k (↑(xs.length))))] (se (rq (rc 9 rfl (fun h1=>?_) (fun h1=>?_)))))
 ·
  have a2:=h1;have h1:=BZ h1;refine AN (NX (rq (rb 1 (rqr (sp 2 [(5,vI ↑k)] (sn (sp 3 [(13,vI ↑k),(12,vS a0 xs.length a1),(11,vI n)] (sd (di 14 1 k a4.addr) (sd (dl 15 (DY a4 k (by omega))) (sp 1 [(16,.bool (cmp .eql n (xs.getD k 0)))] (se (rc 16 rfl (fun h2=>?_) (fun h2=>?_)))))))))))))
  ·
   have a3:=h2;have h2:=CL h2;refine rqr (sp 2 [(4,vI ↑k)] (se (BE (RB (RP (RP (RB (RP (rt1 4 rfl (IR _) ?_)))))))));exact ⟨by rw [seat_hit hn (by omega) h2.symm],rfl⟩
  have a3:=h2;have h2:=CF h2;refine AN (NB (NX (rr (sd (da 18 ↑k 1) (sp 1 [(8,vI (↑k+1))] (ee ?_))))));refine AL (xs.length-(k+1)) (by omega) ?_;intro a w hS hD hW;exact ⟨k+1,by omega,not_take_succ hn (by omega) (fun e=>h2 e.symm),hS.sub su,hD,hW,rfl⟩
 have a2:=h1;have h1:=CG h1;refine BK 0 (EP (EP (EB (NX (rqr (sp 1 [(4,vI (-1))] (se (BE (rt1 4 rfl (IR _) ?_)))))))));exact ⟨by rw [seat_miss hn (by omega)],rfl⟩
noncomputable def c_Contains:=cod Tryz.f123
theorem Contains_ct (I:Imm) (a:Value) (xs:List Int) (n:Int) (a_f:DX I a xs):CtV Tryz.prog 123 #[a,vI n] I (.bool (decide (n∈xs))):=by
 obtain ⟨a0,a1,a3,a6,rfl,a4,a5,a7⟩:=id a_f;refine fr (args:=[_,_]) (N:=9) Tryz.func123 (fun F=>?_);show Run _ _ (c_Contains []) _ _ [(0,_),(1,_)] _ _;refine rnm (rqr ?_);refine sp 1 [(4,.bool false)] (sn (sp 2 [(6,vI n),(5,vS a0 xs.length a1)] (sd (dc 7 (fun I' hI=>(Index_ct I' _ _ n (a_f.mono hI) :))) (sp 2 [(4,.bool (cmp .geq (seat xs n) 0))] (se (BE (rt1 4 rfl (IR _) ?_)))))));exact ⟨by rw [seat_neg],rfl⟩
noncomputable def c_CloneInts_ct:=cod Tryz.f61
theorem CloneInts_ct (I:Imm) (a:Value) (xs:List Int) (a_f:DX I a xs) (hl:xs.length≤1000000):Ct Tryz.prog 61 #[a] I ([]) (fun v I' M'=>∃ u:Value,∃ Ms:Seg,v=u∧M'=Ms∧Own 3 1 AX u xs Ms):=by
 obtain ⟨a0,a1,b2,b5,rfl,b3,b4,a6⟩:=id a_f;refine fr (args:=[_]) (N:=8) Tryz.func61 (fun F=>?_);show Run _ _ (c_CloneInts_ct []) _ _ [(0,_)] _ _;refine rnm (rqr ?_);refine sp 1 [(2,vN)] (se (rq (rqr (sp 1 [(3,vS a0 xs.length a1)] (sd (IJ (e:=3) (x:=(.tmp 3)) (y:=(.const vN)) (T:=22) (T':=22) (d:=4) (ty:=4) (gd:=none) (by kernel_rfl) rfl (by kernel_rfl) rfl rfl) (se (rc 4 rfl (fun h1=>?_) (fun h1=>?_))))))))
 ·
  have a2:=h1;refine rqr (sp 1 [(2,vN)] (se (BE (RP ?_))));obtain rfl:=a6.nil h1;refine GX (t:=2) ([]) (by kernel_rfl) rfl (TR _) (IR _) ?_;exact ⟨_,_,rfl,rfl,Own.nil _ _ _⟩
 have a2:=h1;refine AN (NX (rqr (sS (sbs 5 3 0 #[] (fun b1=>(sp 1 [(6,vS a0 xs.length a1)] ?_))))));have a7:Own 3 1 AX (vS (some ⟨b1,0,none⟩) 0 0) ([]:List Int) [(bX b1 #[] 3)]:=Own.lit rfl rfl;refine sS (sap (d:=7) 5 6 22 3 1 8 (vI 0) AX ([]:List Int) xs [(bX b1 #[] 3)] rfl rfl a7 (PR _) (DG _) a_f.src (fun v4 a4 a3=>?_));rw [NA] at a3;refine nm ?_;obtain ⟨a8,a9,rfl,b6⟩:=a3.shape;refine sp 1 [(2,vS a8 xs.length a9)] (se (BE (DO 2 a4 rfl (TA (TR _) _) (IR _) ?_)));exact ⟨_,_,rfl,rfl,a3⟩
noncomputable def c_next:=cod Tryz.f24
theorem next_ct (I:Imm) (p:Nat) (p_s:Int):Ct Tryz.prog 24 #[vP p 0] I ([(bX p #[.int .u64 p_s] 63)]) (fun v I' M'=>∃ p_t:Int,∃ r:Int,v=.int .u64 r∧M'=[(bX p #[.int .u64 p_t] 63)]∧(0≤r∧r≤18446744073709551615)):=by
 refine fr (args:=[_]) (N:=29) Tryz.func24 (fun F=>?_);show Run _ _ (c_next []) _ _ [(0,_)] _ _;refine rnm (rqr ?_);refine sp 1 [(2,.int .u64 0)] (sn (sp 4 [(7,vP p 0),(4,vP p 0)] (sd (dlb 8 0 0 p (.int .u64 p_s)) (sp 4 [(12,vP p 0),(10,.int .u64 (IntKind.u64.wrap (AS .add (IntKind.u64.wrap (AS .mul p_s 2862933555777941757)) 3037000493)))] (sS (ss 0 0 p [.int .u64 (IntKind.u64.wrap (AS .add (IntKind.u64.wrap (AS .mul p_s 2862933555777941757)) 3037000493))] [.int .u64 (IntKind.u64.wrap (AS .add (IntKind.u64.wrap (AS .mul p_s 2862933555777941757)) 3037000493))] (_::_) (cs:=[_]) rfl rfl (se (rq ?_))))))));refine rd0 9 (ox 3 [(15,vP p 0)] ?_);refine AG (dlb 16 0 0 p (.int .u64 (IntKind.u64.wrap (AS .add (IntKind.u64.wrap (AS .mul p_s 2862933555777941757)) 3037000493)))) (ox 3 [(19,vP p 0)] ?_);refine AG (dlb 20 0 0 p (.int .u64 (IntKind.u64.wrap (AS .add (IntKind.u64.wrap (AS .mul p_s 2862933555777941757)) 3037000493)))) ?_;refine AG (FH (x:=(.tmp 20)) (y:=(.const (.int .u64 31))) (T:=61) (T':=64) (d:=21) (ty:=61) (gd:=none) (by kernel_rfl) rfl rfl rfl (by omega)) ?_;refine BD (sp 2 [(3,.int .u64 (IntKind.u64.wrap (BitVec.ofInt IntKind.u64.bits (IntKind.u64.wrap (AS .add (IntKind.u64.wrap (AS .mul p_s 2862933555777941757)) 3037000493)) ^^^ BitVec.ofInt IntKind.u64.bits ((IntKind.u64.wrap (AS .add (IntKind.u64.wrap (AS .mul p_s 2862933555777941757)) 3037000493)).fdiv (2 ^ (min (31:Int).toNat IntKind.u64.bits)))).toNat))] (sn (sp 3 [(3,.int .u64 (IntKind.u64.wrap (AS .mul (IntKind.u64.wrap (BitVec.ofInt IntKind.u64.bits (IntKind.u64.wrap (AS .add (IntKind.u64.wrap (AS .mul p_s 2862933555777941757)) 3037000493)) ^^^ BitVec.ofInt IntKind.u64.bits ((IntKind.u64.wrap (AS .add (IntKind.u64.wrap (AS .mul p_s 2862933555777941757)) 3037000493)).fdiv (2 ^ (min (31:Int).toNat IntKind.u64.bits)))).toNat) 10723151780598845931)))] (sn (sp 2 [(26,.int .u64 (IntKind.u64.wrap (AS .mul (IntKind.u64.wrap (BitVec.ofInt IntKind.u64.bits (IntKind.u64.wrap (AS .add (IntKind.u64.wrap (AS .mul p_s 2862933555777941757)) 3037000493)) ^^^ BitVec.ofInt IntKind.u64.bits ((IntKind.u64.wrap (AS .add (IntKind.u64.wrap (AS .mul p_s 2862933555777941757)) 3037000493)).fdiv (2 ^ (min (31:Int).toNat IntKind.u64.bits)))).toNat) 10723151780598845931))),(25,.int .u64 (IntKind.u64.wrap (AS .mul (IntKind.u64.wrap (BitVec.ofInt IntKind.u64.bits (IntKind.u64.wrap (AS .add (IntKind.u64.wrap (AS .mul p_s 2862933555777941757)) 3037000493)) ^^^ BitVec.ofInt IntKind.u64.bits ((IntKind.u64.wrap (AS .add (IntKind.u64.wrap (AS .mul p_s 2862933555777941757)) 3037000493)).fdiv (2 ^ (min (31:Int).toNat IntKind.u64.bits)))).toNat) 10723151780598845931)))] (sd (FH (x:=(.tmp 26)) (y:=(.const (.int .u64 30))) (T:=61) (T':=64) (d:=27) (ty:=61) (gd:=none) (by kernel_rfl) rfl rfl rfl (by omega)) (sp 2 [(2,.int .u64 (IntKind.u64.wrap (BitVec.ofInt IntKind.u64.bits (IntKind.u64.wrap (AS .mul (IntKind.u64.wrap (BitVec.ofInt IntKind.u64.bits (IntKind.u64.wrap (AS .add (IntKind.u64.wrap (AS .mul p_s 2862933555777941757)) 3037000493)) ^^^ BitVec.ofInt IntKind.u64.bits ((IntKind.u64.wrap (AS .add (IntKind.u64.wrap (AS .mul p_s 2862933555777941757)) 3037000493)).fdiv (2 ^ (min (31:Int).toNat IntKind.u64.bits)))).toNat) 10723151780598845931)) ^^^ BitVec.ofInt IntKind.u64.bits ((IntKind.u64.wrap (AS .mul (IntKind.u64.wrap (BitVec.ofInt IntKind.u64.bits (IntKind.u64.wrap (AS .add (IntKind.u64.wrap (AS .mul p_s 2862933555777941757)) 3037000493)) ^^^ BitVec.ofInt IntKind.u64.bits ((IntKind.u64.wrap (AS .add (IntKind.u64.wrap (AS .mul p_s 2862933555777941757)) 3037000493)).fdiv (2 ^ (min (31:Int).toNat IntKind.u64.bits)))).toNat) 10723151780598845931)).fdiv (2 ^ (min (30:Int).toNat IntKind.u64.bits)))).toNat))] (se (BE (DO 2 ([(bX p #[.int .u64 (IntKind.u64.wrap (AS .add (IntKind.u64.wrap (AS .mul p_s 2862933555777941757)) 3037000493))] 63)]) rfl (TK _ (TR _)) (IR _) ?_))))))))));exact ⟨_,_,rfl,rfl,u64_range _⟩
noncomputable def c_Up:=cod Tryz.f9
theorem Up_ct (I:Imm) (p:Nat) (p_s:Int) (most:Int) (hm:most≤1000000):Ct Tryz.prog 9 #[vP p 0,vI most] I ([(bX p #[.int .u64 p_s] 63)]) (fun v I' M'=>∃ p_t:Int,∃ n:Nat,v=vI ↑n∧M'=[(bX p #[.int .u64 p_t] 63)]∧(n=0∨(n:Int)≤most)):=by
 refine fr (args:=[_,_]) (N:=15) Tryz.func9 (fun F=>?_);show Run _ _ (c_Up []) _ _ [(0,_),(1,_)] _ _;refine rnm (rqr ?_);refine sp 1 [(4,vI 0)] (se (rq (rqr (sp 2 [(6,.bool (cmp .lss most 1))] (se (rc 6 rfl (fun h1=>?_) (fun h1=>?_)))))))
 ·
  have a0:=h1;have h1:=BZ h1;refine rqr (sp 1 [(4,vI 0)] (se (BE (RP (DO 4 ([(bX p #[.int .u64 p_s] 63)]) rfl (TK _ (TR _)) (IR _) ?_)))));exact ⟨_,0,rfl,rfl,.inl rfl⟩
 have a0:=h1;have h1:=CG h1;refine AN (NX (rqr (sp 1 [(7,vP p 0)] (sS (sc (some 8) (F:=(F)) (next_ct _ p p_s :) (.refl _) (fun a9 I1 a7 a1 a6=>?_))))));obtain ⟨a2,r7,a4,a3,a8⟩:=a6;rw [a4,a3];clear a4 a3;refine nm ?_;refine sd (FH (x:=(.tmp 8)) (y:=(.const (.int .u64 13))) (T:=61) (T':=64) (d:=9) (ty:=61) (gd:=none) (by kernel_rfl) rfl rfl rfl (by omega)) (sp 1 [(10,vI most)] (sd (da 11 most 1) (sp 1 [(12,.int .u64 (IntKind.u64.wrap (most+1)))] (BJ 12 rfl (show (.int .u64 (IntKind.u64.wrap (most+1)):Value)=.int .u64 (most+1) from congrArg (Value.int .u64) (IntWalk.u64_in _ (by omega))) (sd (det_rem (x:=(.tmp 9)) (y:=(.tmp 12)) (T:=61) (T':=61) (d:=13) (ty:=61) (gd:=none) (by kernel_rfl) rfl rfl rfl (by exact fdiv_nonneg (by omega) (by decide)) (by omega)) (sp 1 [(14,vI (IntKind.i64.wrap (((r7).fdiv (2 ^ (min (13:Int).toNat IntKind.u64.bits)))%(most+1))))] ?_))))));obtain ⟨n,hn,a5⟩:=up_nat (x:=(r7).fdiv (2 ^ (min (13:Int).toNat IntKind.u64.bits))) h1 hm (fdiv_nonneg (by omega) (by decide));refine BJ 14 rfl (show (vI (IntKind.i64.wrap (((r7).fdiv (2 ^ (min (13:Int).toNat IntKind.u64.bits)))%(most+1))):Value)=vI ↑n from congrArg (Value.int .i64) hn) (sp 1 [(4,vI ↑n)] (se (BE (DO 4 ([(bX p #[.int .u64 a2] 63)]) rfl (TK _ (TR _)) a1 ?_))));exact ⟨_,_,rfl,rfl,.inr a5⟩
noncomputable def c_From:=cod Tryz.f7
theorem ID (I:Imm) (p:Nat) (p_s:Int) (lo:Int) (hi:Int) (h1:0≤lo∧lo≤hi) (h2:hi≤1000000):Ct Tryz.prog 7 #[vP p 0,vI lo,vI hi] I ([(bX p #[.int .u64 p_s] 63)]) (fun v I' M'=>∃ p_t:Int,∃ r:Int,v=vI r∧M'=[(bX p #[.int .u64 p_t] 63)]∧(lo≤r∧r≤hi)):=by
 refine fr (args:=[_,_,_]) (N:=14) Tryz.func7 (fun F=>?_);show Run _ _ (c_From []) _ _ [(0,_),(1,_),(2,_)] _ _;refine rnm (rqr ?_);refine sp 1 [(6,vI 0)] (sn (sp 4 [(10,vI lo),(9,vI hi),(8,vP p 0),(7,vI lo)] (sd (dsb 11 hi lo) (sS (sc (some 12) (F:=(F)) (Up_ct _ p p_s (hi-lo) (by omega) :) (.refl _) (fun a7 I1 a5 a0 a4=>?_))))));obtain ⟨a1,n7,a3,a2,a6⟩:=a4;rw [a3,a2];clear a3 a2;refine nm ?_;refine sd (da 13 lo ↑n7) (sp 1 [(6,vI (lo+↑n7))] (se (BE (DO 6 ([(bX p #[.int .u64 a1] 63)]) rfl (TK _ (TR _)) a0 ?_))));exact ⟨_,_,rfl,rfl,by omega⟩
noncomputable def c_Chance:=cod Tryz.f10
theorem JK (I:Imm) (p:Nat) (p_s:Int) (n:Int) (m:Int) (h1:0≤m∧m≤1000000):Ct Tryz.prog 10 #[vP p 0,vI n,vI m] I ([(bX p #[.int .u64 p_s] 63)]) (fun v I' M'=>∃ p_t:Int,∃ r:Bool,v=.bool r∧M'=[(bX p #[.int .u64 p_t] 63)]):=by
 refine fr (args:=[_,_,_]) (N:=13) Tryz.func10 (fun F=>?_);show Run _ _ (c_Chance []) _ _ [(0,_),(1,_),(2,_)] _ _;refine rnm (rqr ?_);refine sp 1 [(6,.bool false)] (sn (sp 2 [(8,vI m),(7,vP p 0)] (sd (dsb 9 m 1) (sS (sc (some 10) (F:=(F)) (Up_ct _ p p_s (m-1) (by omega) :) (.refl _) (fun a7 I1 a5 a0 a4=>?_))))));obtain ⟨a1,n7,a3,a2,a6⟩:=a4;rw [a3,a2];clear a3 a2;refine nm ?_;refine sp 3 [(6,.bool (cmp .lss ↑n7 n))] (se (BE (DO 6 ([(bX p #[.int .u64 a1] 63)]) rfl (TK _ (TR _)) a0 ?_)));exact ⟨_,_,rfl,rfl⟩
noncomputable def c_One:=cod Tryz.f19
theorem One_ct (I:Imm) (p:Nat) (p_s:Int) (a:Value) (xs:List Int) (a_f:DX I a xs) (hx:0<xs.length∧xs.length≤1000000):Ct Tryz.prog 19 #[vP p 0,a] I ([(bX p #[.int .u64 p_s] 63)]) (fun v I' M'=>∃ p_t:Int,∃ r:Int,v=vI r∧M'=[(bX p #[.int .u64 p_t] 63)]∧(r∈xs)):=by
 obtain ⟨a4,a5,b1,b4,rfl,b2,b3,a1⟩:=id a_f;refine fr (args:=[_,_]) (N:=16) Tryz.func19 (fun F=>?_);show Run _ _ (c_One []) _ _ [(0,_),(1,_)] _ _;refine rnm (rqr ?_);refine sp 1 [(4,vI 0)] (se (rq (rqr (sp 3 [(7,.bool (cmp .eql (↑(xs.length)) 0))] (se (rc 7 rfl (fun h1=>?_) (fun h1=>?_)))))))
 ·
  have a2:=h1;have h1:=CL h1;refine rqr (sp 1 [(4,vI 0)] (se (BE (RP (DO 4 [] rfl (TC _ (TR _)) (IR _) ?_)))))
  exfalso;omega
 have a2:=h1;have h1:=CF h1;refine AN (NX (rqr (sp 4 [(11,vI (↑(xs.length))),(9,vP p 0),(8,vS a4 xs.length a5)] (sd (dsb 12 (↑(xs.length)) 1) (sS (sc (some 13) (F:=(F)) (Up_ct _ p p_s ((↑(xs.length))-1) (by omega) :) (.refl _) (fun b6 I1 b0 a0 a9=>?_)))))));obtain ⟨a3,n7,a7,a6,b5⟩:=a9;rw [a7,a6];clear a7 a6;replace a1:=a1.mono a0;refine nm ?_;refine sd (di 14 1 n7 a1.addr) (sd (dl 15 (DY a1 n7 (by omega))) (sp 1 [(4,vI (xs.getD n7 0))] (se (BE (DO 4 ([(bX p #[.int .u64 a3] 63)]) rfl (TK _ (TR _)) a0 ?_)))));exact ⟨_,_,rfl,rfl,BC (by omega)⟩
noncomputable def c_NewBag:=cod Tryz.f4
theorem NewBag_ct (I:Imm) (a:Value) (xs:List Int) (a_f:DX I a xs):Ct Tryz.prog 4 #[a] I ([]) (fun v I' M'=>∃ u:Nat,∃ us:Int,v=vP u 0∧M'=[(bX u #[.int .u64 us] 63)]):=by
 obtain ⟨a0,a1,a5,a8,rfl,a6,a7,a3⟩:=id a_f;refine fr (args:=[_]) (N:=41) Tryz.func4 (fun F=>?_);show Run _ _ (c_NewBag []) _ _ [(0,_)] _ _;refine rnm (rqr ?_);refine sp 1 [(2,.pointer none)] (sn (sp 1 [(5,.agg #[.int .u64 11400714819323198485])] (sS (sb 6 63 #[.int .u64 11400714819323198485] (fun b1=>(sp 1 [(3,vP b1 0)] (se (rq (rqr (sp 1 [(4,vI 0)] (se (rb 0 ?_))))))))))));refine rl (fun mz a w=>∃ k:Nat,∃ s:Int,(k≤xs.length)∧SD 41 [(4,vI ↑k),(0,vS a0 xs.length a1),(2,.pointer none),(3,vP b1 0)] I ((bX b1 #[.int .u64 s] 63)::F) a w (mz=xs.length-k)) ?_ ?_
 ·intro a w hS hD hW;exact ⟨_,0,11400714819323198485,Nat.zero_le _,hS.sub su,hD,hW,rfl⟩
 rintro mz a w ⟨k,s,hk,hS,hD,hW,rfl⟩
 refine AQ hS hD hW ?_;clear hS hD hW a w;refine rq (rqr (sp 4 [(10,.bool (cmp .lss ↑k (↑(xs.length))))] (se (rc 10 rfl (fun h1=>?_) (fun h1=>?_)))))
 ·
  have a2:=h1;have h1:=BZ h1;refine AN (NX (rq (rb 1 (rq ?_))));refine rd0 12 (ox 4 [(16,vP b1 0),(13,vP b1 0)] ?_);refine AG (dlb 17 0 0 b1 (.int .u64 s)) (ox 2 [(19,vI ↑k),(18,vS a0 xs.length a1)] ?_);refine AG (di 20 1 k a3.addr) ?_;refine AG (dl 21 (DY a3 k (by omega))) (ox 3 [(24,.int .u64 (IntKind.u64.wrap (AS .mul (IntKind.u64.wrap (AS .add s (IntKind.u64.wrap (xs.getD k 0)))) 13787848793156543929)))] ?_);refine BD (sp 2 [(26,vP b1 0)] (sS (ss 0 0 b1 [.int .u64 (IntKind.u64.wrap (AS .mul (IntKind.u64.wrap (AS .add s (IntKind.u64.wrap (xs.getD k 0)))) 13787848793156543929))] [.int .u64 (IntKind.u64.wrap (AS .mul (IntKind.u64.wrap (AS .add s (IntKind.u64.wrap (xs.getD k 0)))) 13787848793156543929))] (_::_) (cs:=[_]) rfl rfl (se ?_))));refine rd0 11 (ox 4 [(30,vP b1 0),(27,vP b1 0)] ?_);refine AG (dlb 31 0 0 b1 (.int .u64 (IntKind.u64.wrap (AS .mul (IntKind.u64.wrap (AS .add s (IntKind.u64.wrap (xs.getD k 0)))) 13787848793156543929)))) (ox 3 [(34,vP b1 0)] ?_);refine AG (dlb 35 0 0 b1 (.int .u64 (IntKind.u64.wrap (AS .mul (IntKind.u64.wrap (AS .add s (IntKind.u64.wrap (xs.getD k 0)))) 13787848793156543929)))) ?_;refine AG (FH (x:=(.tmp 35)) (y:=(.const (.int .u64 29))) (T:=61) (T':=64) (d:=36) (ty:=61) (gd:=none) (by kernel_rfl) rfl rfl rfl (by omega)) (ox 1 [(37,.int .u64 (IntKind.u64.wrap (BitVec.ofInt IntKind.u64.bits (IntKind.u64.wrap (AS .mul (IntKind.u64.wrap (AS .add s (IntKind.u64.wrap (xs.getD k 0)))) 13787848793156543929)) ^^^ BitVec.ofInt IntKind.u64.bits ((IntKind.u64.wrap (AS .mul (IntKind.u64.wrap (AS .add s (IntKind.u64.wrap (xs.getD k 0)))) 13787848793156543929)).fdiv (2 ^ (min (29:Int).toNat IntKind.u64.bits)))).toNat))] ?_);refine BD (sp 2 [(39,vP b1 0)] (sS (ss 0 0 b1 [.int .u64 (IntKind.u64.wrap (BitVec.ofInt IntKind.u64.bits (IntKind.u64.wrap (AS .mul (IntKind.u64.wrap (AS .add s (IntKind.u64.wrap (xs.getD k 0)))) 13787848793156543929)) ^^^ BitVec.ofInt IntKind.u64.bits ((IntKind.u64.wrap (AS .mul (IntKind.u64.wrap (AS .add s (IntKind.u64.wrap (xs.getD k 0)))) 13787848793156543929)).fdiv (2 ^ (min (29:Int).toNat IntKind.u64.bits)))).toNat)] [.int .u64 (IntKind.u64.wrap (BitVec.ofInt IntKind.u64.bits (IntKind.u64.wrap (AS .mul (IntKind.u64.wrap (AS .add s (IntKind.u64.wrap (xs.getD k 0)))) 13787848793156543929)) ^^^ BitVec.ofInt IntKind.u64.bits ((IntKind.u64.wrap (AS .mul (IntKind.u64.wrap (AS .add s (IntKind.u64.wrap (xs.getD k 0)))) 13787848793156543929)).fdiv (2 ^ (min (29:Int).toNat IntKind.u64.bits)))).toNat)] (_::_) (cs:=[_]) rfl rfl (ee (NB (NX (rr (sp 1 [(11,vI ↑k)] (sd (da 12 ↑k 1) (sp 1 [(4,vI (↑k+1))] (ee ?_)))))))))));refine AL (xs.length-(k+1)) (by omega) ?_;intro a w hS hD hW;exact ⟨k+1,IntKind.u64.wrap (BitVec.ofInt IntKind.u64.bits (IntKind.u64.wrap (AS .mul (IntKind.u64.wrap (AS .add s (IntKind.u64.wrap (xs.getD k 0)))) 13787848793156543929)) ^^^ BitVec.ofInt IntKind.u64.bits ((IntKind.u64.wrap (AS .mul (IntKind.u64.wrap (AS .add s (IntKind.u64.wrap (xs.getD k 0)))) 13787848793156543929)).fdiv (2 ^ (min (29:Int).toNat IntKind.u64.bits)))).toNat,by omega,hS.sub su,hD,hW,rfl⟩
 have a2:=h1;have h1:=CG h1;refine BK 0 (EP (EP (EB (NX (rqr (sp 2 [(2,vP b1 0)] (se (BE (DO 2 ([(bX b1 #[.int .u64 s] 63)]) rfl (TK _ (TR _)) (IR _) ?_)))))))));exact ⟨_,_,rfl,rfl⟩
noncomputable def c_Grow:=cod Tryz.f128
theorem Grow_ct (I:Imm) (n:Nat) (hn:n≤1000000):Ct Tryz.prog 128 #[vN,vI ↑n] I [] (fun v I' M'=>∃ Ms,M'=Ms∧Own 3 1 AX v ([]:List Int) Ms):=by
 refine fr (args:=[_,_]) (N:=27) Tryz.func128 (fun F=>?_);show Run _ _ (c_Grow []) _ _ [(0,_),(1,_)] _ _;refine rnm (rqr ?_);refine sp 1 [(4,vN)] (se (rq (rqr (sp 2 [(6,.bool (cmp .lss ↑n 0))] (se (rc 6 rfl (fun h1=>?_) (fun h1=>?_)))))))
 ·
  have a0:=h1;have h1:=BZ h1
  exfalso;omega
 have a0:=h1;have h1:=CG h1;refine AN (NX (rq (rqr (sp 5 [(12,vI 0),(10,vI 0),(8,vI ↑n)] (sd (dsb 13 0 0) (sd (dsb 14 ↑n (0-0)) (BJ 14 rfl (show (vI (↑n-(0-0)):Value)=vI ↑n from congrArg (Value.int .i64) (by omega)) (sp 1 [(1,vI ↑n)] (sn (sp 2 [(16,.bool (cmp .gtr ↑n 0))] (se (rc 16 rfl (fun h2=>?_) (fun h2=>?_)))))))))))))
 ·
  have a1:=h2;have h2:=IL h2;refine rr (sp 3 [(19,vI 0),(17,vN)] (sd (GA (DQ (x:=.tmp 17) (lo:=none) (hi:=some (.tmp 19)) (T:=22) (e:=3) (sz:=1) 0 0 (d:=20) (ty:=22) (gd:=none) (by kernel_rfl) rfl (by kernel_rfl) (by kernel_rfl) rfl (.inl ⟨rfl,rfl⟩) (.inr ⟨_,.i64,rfl,rfl⟩) (Nat.le_refl _) (Nat.le_refl _)) (show _=Value.slice none 0 0 from rfl)) (sp 1 [(21,vI ↑n)] (sS (stp_appendN (x:=.tmp 20) (y:=.tmp 21) (T:=22) (T':=3) (E:=3) (bs:=8) (n:=n) (z:=vI 0) (d:=22) (ty:=22) (gd:=none) (by kernel_rfl) rfl (by kernel_rfl) (by kernel_rfl) (by kernel_rfl) rfl (by kernel_rfl) (by decide) (by kernel_rfl) rfl rfl ⟨by omega,hn⟩ (fun gb nc zs a4 a3=>?_))))));show Seq _ _ _ _ _ _ ((22,vS (some ⟨gb,0,none⟩) n nc)::_) _ _;refine sp 2 [(24,vI 0)] (sd (GA (DQ (x:=.tmp 22) (lo:=none) (hi:=some (.tmp 24)) (T:=22) (e:=3) (sz:=1) 0 0 (d:=25) (ty:=22) (gd:=none) (by kernel_rfl) rfl (by kernel_rfl) (by kernel_rfl) rfl (.inl ⟨rfl,rfl⟩) (.inr ⟨_,.i64,rfl,rfl⟩) (Nat.le_refl _) (Nat.zero_le _)) (show _=Value.slice (some ⟨gb,0,none⟩) 0 nc by simp [EU])) ?_);have a2:Own 3 1 AX (vS (some ⟨gb,0,none⟩) 0 nc) ([]:List Int) [(gb,Obj.cells (List.toArray zs) 3 (0,0))]:=Own.empty a3;refine AR (M':=([(gb,Obj.cells (List.toArray zs) 3 (0,0))]++F)) (fun w h=>h) (sp 1 [(0,vS (some ⟨gb,0,none⟩) 0 nc)] (sn (sp 2 [(4,vS (some ⟨gb,0,none⟩) 0 nc)] (se (BE (DO 4 ([(gb,Obj.cells (List.toArray zs) 3 (0,0))]) rfl (TK _ (TR _)) (IR _) ?_))))));exact ⟨_,rfl,a2⟩
 have a1:=h2;have h2:=JS h2;refine AN (NX (rqr (sp 2 [(4,vN)] (se (BE (DO 4 ([]) rfl (TR _) (IR _) ?_))))));exact ⟨[],rfl,Own.nil _ _ _⟩
noncomputable def c_Concat:=cod Tryz.f107
theorem Concat_ct (I:Imm) (s:Value) (xss:List (List Int)) (s_f:IsRows I s xss) (hl:xss.flatten.length≤1000000):Ct Tryz.prog 107 #[s] I ([]) (fun v I' M'=>∃ u:Value,∃ Ms:Seg,v=u∧M'=Ms∧Own 3 1 AX u xss.flatten Ms):=by
 obtain ⟨b1,b2,f3,f6,e9,rfl,f4,f5,a6,b3⟩:=id s_f;refine fr (args:=[_]) (N:=36) Tryz.func107 (fun F=>?_);show Run _ _ (c_Concat []) _ _ [(0,_)] _ _;refine rnm (rqr ?_);refine sp 1 [(2,vN)] (sn (sp 1 [(3,vI 0)] (se (rq (rqr (sp 3 [(11,vI 0),(10,vI (↑(xss.length))),(9,vS b1 xss.length b2)] (se (rb 0 ?_))))))));refine rl (fun mz a w=>∃ k:Nat,(k≤xss.length)∧SD 36 [(3,vI (↑(xss.take k).flatten.length)),(11,vI ↑k),(0,vS b1 xss.length b2),(2,vN),(9,vS b1 xss.length b2),(10,vI (↑(xss.length)))] I F a w (mz=xss.length-k)) ?_ ?_
 ·intro a w hS hD hW;exact ⟨_,0,Nat.zero_le _,hS.sub su,hD,hW,rfl⟩
 rintro mz a w ⟨k,hk,hS,hD,hW,rfl⟩
 refine AQ hS hD hW ?_;refine rqr (sp 1 [(12,.bool (cmp .lss ↑k (↑(xss.length))))] (se (rq (rc 12 rfl (fun h1=>?_) (fun h1=>?_)))))
 ·
  have c1:=h1;have h1:=BZ h1;refine AN (NX (rq (rb 1 (rqr (sd (di 13 1 k a6.addr) ?_)))));have b6:=b3 k (by omega);obtain ⟨c5,c6,d7,e0,b5,d8,d9,e1⟩:=id b6;rw [b5] at b6;refine sd (GA (dl 14 (ML a6 k (by omega))) b5) (sp 1 [(5,vS c5 (xss.getD k []).length c6)] (sn (sp 3 [(17,vI (↑((xss.getD k []).length))),(15,vI (↑(xss.take k).flatten.length))] (sd (da 18 (↑(xss.take k).flatten.length) (↑((xss.getD k []).length)) (hr:=by have hq:=flat_le xss k (by omega);omega)) (sp 1 [(3,vI ((↑(xss.take k).flatten.length)+(↑((xss.getD k []).length))))] (sn (sp 2 [(20,.bool (cmp .lss ((↑(xss.take k).flatten.length)+(↑((xss.getD k []).length))) 0))] (se (rc 20 rfl (fun h2=>?_) (fun h2=>?_))))))))))
  ·
   have c2:=h2;have h2:=BZ h2
   exfalso;omega
  have c2:=h2;have h2:=CG h2;refine AN (NB (NX (rr (sd (da 22 ↑k 1) (sp 1 [(11,vI (↑k+1))] (ee ?_))))));refine AL (xss.length-(k+1)) (by omega) ?_;intro a w hS hD hW;exact ⟨k+1,by omega,hS.sub (.consE 3 rfl (congrArg (Value.int .i64) (flat_succ (by omega)).symm) su),hD,hW,rfl⟩
 have c1:=h1;have h1:=CG h1;refine BK 0 (EP (EP (EB (NX (rqr (sp 1 [(23,vI (↑(xss.take k).flatten.length))] ?_))))));have d4:(xss.take k).flatten=xss.flatten:=by rw [KE (by omega)]
 rw [d4];have c4:=Grow_ct I xss.flatten.length hl;refine sS (EN (d:=(some 24)) (f:=(.func 128)) (fid:=128) (args:=#[(.const vN),(.tmp 23)]) (tys:=#[22,3]) (cv:=[]) (F:=(F)) (ty:=22) (gd:=none) (by kernel_rfl) rfl rfl rfl (by kernel_rfl) rfl c4 (PR _) (fun f2 I2 f1 a7 d5=>?_));obtain ⟨d3,c8,b4⟩:=d5;replace a6:=a6.mono a7;replace b3:=fun i hi=>(b3 i hi).mono a7
 rw [c8];clear c8;obtain ⟨a9,b0,rfl,e7⟩:=b4.shape;refine nm ?_;show Seq _ _ _ _ _ _ ((24,vS a9 ([]:List Int).length b0)::_) _ _;refine sp 1 [(6,vS a9 ([]:List Int).length b0)] (se (rq (rqr (sp 3 [(27,vI 0),(26,vI (↑(xss.length))),(25,vS b1 xss.length b2)] (se (rb 2 ?_))))));refine rl (fun mz a w=>∃ J1:Imm,∃ j:Nat,∃ a4:Value,∃ a0:Seg,(I2.le J1)∧(j≤xss.length)∧(Own 3 1 AX a4 ((xss.take j).flatten) a0)∧SD 36 [(6,a4),(27,vI ↑j),(2,vN),(25,vS b1 xss.length b2),(26,vI (↑(xss.length)))] J1 (a0++F) a w (mz=xss.length-j)) ?_ ?_
 ·intro a w hS hD hW;exact ⟨_,I2,0,vS a9 ([]:List Int).length b0,d3,IR _,Nat.zero_le _,b4,hS.sub su,hD,hW,rfl⟩
 rintro mz a w ⟨J1,j,a4,a0,hJ1,hj,a3,hS,hD,hW,rfl⟩
 refine AQ hS hD hW ?_;replace a6:=a6.mono hJ1;replace b3:=fun i hi=>(b3 i hi).mono hJ1
 obtain ⟨a1,a2,rfl,c0⟩:=a3.shape;refine rqr (sp 1 [(28,.bool (cmp .lss ↑j (↑(xss.length))))] (se (rq (rc 28 rfl (fun h3=>?_) (fun h3=>?_)))))
 ·
  have c3:=h3;have h3:=BZ h3;refine AN (NX (rq (rb 3 (rqr (sd (di 29 1 j a6.addr) ?_)))));have a8:=b3 j (by omega);obtain ⟨b7,b8,e2,e5,b9,e3,e4,e6⟩:=id a8;rw [b9] at a8;refine sd (GA (dl 30 (ML a6 j (by omega))) b9) (sp 1 [(8,vS b7 (xss.getD j []).length b8)] (se (rr (sp 2 [(32,vS b7 (xss.getD j []).length b8),(31,vS a1 ((xss.take j).flatten).length a2)] (sS (stp_append (d:=33) (x:=(.tmp 31)) (y:=(.tmp 32)) (T:=22) (T':=22) (E:=3) (E':=3) (sz:=1) (bs:=8) (z:=vI 0) (cell:=AX) (xs:=(xss.take j).flatten) (ys:=xss.getD j []) (Ms:=a0) (ty:=22) (gd:=none) (by kernel_rfl) rfl (by kernel_rfl) (by kernel_rfl) (by kernel_rfl) (by kernel_rfl) (by kernel_rfl) (by decide) (by kernel_rfl) rfl rfl a3 (PR _) (DG _) a8.src (by first | omega | (have hq:=flat_le xss j (by omega);omega)) (fun v9 d2 c9=>(nm ?_))))))));obtain ⟨d0,d1,rfl,f0⟩:=c9.shape;refine sp 1 [(6,vS d0 (((xss.take j).flatten)++(xss.getD j [])).length d1)] (ee (NB (NX (rr (sd (da 34 ↑j 1) (sp 1 [(27,vI (↑j+1))] (ee ?_)))))));refine AL (xss.length-(j+1)) (by omega) ?_;intro a w hS hD hW;exact ⟨J1,j+1,vS d0 (((xss.take j).flatten)++(xss.getD j [])).length d1,d2,hJ1,by omega,((flat_take (xss:=xss) (k:=j) (by omega)).symm▸c9),hS.sub su,hD,hW,rfl⟩
 have c3:=h3;have h3:=CG h3;refine BK 2 (EP (EP (EB (NX (rqr (sp 2 [(2,vS a1 ((xss.take j).flatten).length a2)] (se (BE (DO 2 a0 rfl (TA (TR _) _) (IT a7 hJ1) ?_)))))))));exact ⟨_,_,rfl,rfl,((show (xss.take j).flatten=xss.flatten from by rw [KE (by omega)])▸a3)⟩
end Go.Proofs.YtmhdidbgjpeadaaGreat
namespace Go.Sh
open Go Go.Sl
def giveOf (h nd:List Int) (b:Int) (i:Nat):Int:=if nd.getD i 0≤h.getD i 0 then (h.getD i 0-nd.getD i 0)/b else 0
def getOf (h nd:List Int) (b:Int) (i:Nat):Int:=if nd.getD i 0≤h.getD i 0 then 0 else (nd.getD i 0-h.getD i 0+b-1)/b
def givesM (h nd:List Int) (b:Int):List Int:=(List.range h.length).map (giveOf h nd b)
def getsM (h nd:List Int) (b:Int):List Int:=(List.range h.length).map (getOf h nd b)
def pF (n m:Nat):Nat:=(n*n-m)/n
def pT (n m:Nat):Nat:=(n*n-m)%n
def most (n m:Nat) (g l:List Int):Nat:=(min (g.getD (pF n m) 0) (l.getD (pT n m) 0)).toNat
def less (k:Nat) (b:Nat) (l:List Int):List Int:=l.set k (l.getD k 0-(b:Int))
def listsM (n:Nat):Nat→List Int→List Int→List (List Cart)
  | 0,_,l=>if (∀ x∈l,x≤0) then [[]] else []
  | m+1,g,l=>((List.range (most n (m+1) g l)).flatMap fun b=>(listsM n m (less (pF n (m+1)) (b+1) g) (less (pT n (m+1)) (b+1) l)).map (fun r=>⟨(pF n (m+1):Int),(pT n (m+1):Int),(b:Int)+1⟩::r))++listsM n m g l
def growD (n:Nat):Nat→Nat→Int→List Int→List Int→Option (List Cart)
  | _,0,left,_,_=>if left=0 then some [] else none
  | 0,_+1,_,_,_=>none
  | m+1,h+1,left,g,l=>
    if left<(h:Int)+1 then none
    else match (List.range (most n (m+1) g l)).findSome? (fun b=>(growD n m h (left-(b+1:Nat)) (less (pF n (m+1)) (b+1) g) (less (pT n (m+1)) (b+1) l)).map (fun r=>(⟨(pF n (m+1):Int),(pT n (m+1):Int),(b:Int)+1⟩:Cart)::r)) with
      | some x=>some x
      | none=>growD n m (h+1) left g l
theorem less_sum {k b:Nat} {l:List Int} (hb:(b:Int)+1≤l.getD k 0):(less k (b+1) l).sum=l.sum-(b+1:Nat):=by
  have hk:k<l.length:=by
    rcases Nat.lt_or_ge k l.length with h | h
    · exact h
    · simp [List.getD,List.getElem?_eq_none h] at hb;omega
  unfold less
  induction l generalizing k with
  | nil=>simp at hk
  | cons x r ih=>
    cases k with
    | zero=>simp [List.getD];omega
    | succ k=>
      have e:(x::r).getD (k+1) 0=r.getD k 0:=by simp [List.getD]
      rw [e] at hb ⊢;have:=ih hb (by simpa using hk);simp only [List.set_cons_succ,List.sum_cons];omega
theorem most_lt {n m b:Nat} {g l:List Int} (h:b<most n m g l):(b:Int)+1≤g.getD (pF n m) 0∧(b:Int)+1≤l.getD (pT n m) 0:=by
  unfold most at h;omega
theorem sum_nonneg:∀ {l:List Int},(∀ x∈l,0≤x)→0≤l.sum:=by
  intro l
  induction l with
  | nil=>intro _;simp
  | cons x r ih=>intro h;have:=ih (fun y hy=>h y (by simp [hy]));have:=h x (by simp);simp;omega
theorem less_length {k b:Nat} {l:List Int}:(less k b l).length=l.length:=by simp [less]
structure Pool (h nd:List Int) (b:Int):Prop where
  some:0<h.length
  few:h.length≤4
  same:nd.length=h.length
  each:∀ i,i<h.length→inB (h.getD i 0) 0 50=true∧inB (nd.getD i 0) 0 50=true
  bale:1≤b∧b≤10
section
variable {h nd:List Int} {b:Int}
end
section
variable {h nd:List Int} {b:Int}
theorem LR {p:Nat→Prop} {k:Nat} (h:∀ i,i<k→p i) (hk:p k):∀ i,i<k+1→p i:=fun i hi=>by
  by_cases e:i=k
  · subst e;exact hk
  · exact h i (by omega)
end
end Go.Sh
namespace Go.Proofs.YtmhdidbgjpeadaaGreat
open Go Go.Sl Go.Sh
set_option maxRecDepth 100000
noncomputable def cIn (p:List Nat):Code:=sub (JG Tryz.f81) p
theorem MZ (I:Imm) (n:Int) (lo:Int) (hi:Int):CtV Tryz.prog 81 #[vI n,vI lo,vI hi] I (.bool (inB n lo hi)):=by
 refine fr (args:=[_,_,_]) (N:=15) Tryz.func81 (fun F=>?_);show Run _ _ (cIn []) _ _ [(0,vI n),(1,vI lo),(2,vI hi)] _ _;refine rnm (rqr ?_);refine sp 1 [(6,.bool false)] (se (rq ?_));refine BW (fun a w=>SE 15 [(6,.bool ((cmp .leq lo n)&&(cmp .leq n hi)))] I F a w) ?_ ?_
 ·
  refine rr (sp 4 [(10,.bool (cmp .leq lo n))] ?_);refine AV 10 rfl (fun h1=>?_) (fun h1=>?_)
  ·
   have a0:=h1;have a0:=leq_t a0;refine sp 5 [(6,.bool (cmp .leq n hi))] (ee ?_);refine AM (fun a w hS hD hW=>⟨hS.sub (.consE 6 rfl (congrArg Value.bool (by simp only [h1,kk])) (.nil _)),hD,hW⟩)
  have a0:=h1;have a0:=leq_f a0;refine sp 5 [(6,.bool false)] (ee ?_);refine AM (fun a w hS hD hW=>⟨hS.sub (.consE 6 rfl (congrArg Value.bool (by simp only [h1,kk])) (.nil _)),hD,hW⟩)
 rintro a w ⟨hS,hD,hW⟩
 refine AQ hS hD hW ?_;refine BE (rt1 6 rfl (IR _) ?_);exact ⟨by simp [inB,cmp],rfl⟩
end Go.Proofs.YtmhdidbgjpeadaaGreat
namespace Go.Sh
open Go Go.Sl
section
variable {α:Type} {c:α→α→Int} {l zs:List α} {i j m:Nat} {d:α}
def InsI (c:α→α→Int) (l zs:List α) (i:Nat):Prop:=zs=AJ c (l.take i)++l.drop i
def InsAt (c:α→α→Int) (d:α) (l zs:List α) (i j:Nat):Prop:=
  j≤i∧i<l.length∧zs=(AJ c (l.take i)).take j++l.getD i d::((AJ c (l.take i)).drop j++l.drop (i+1))∧∀ z∈(AJ c (l.take i)).drop j,c (l.getD i d) z<0
theorem DU (h:i≤l.length):(AJ c (l.take i)).length=i:=by rw [(EE _).length_eq,List.length_take];omega
theorem InsI.start:InsI c l l 1:=by
  unfold InsI;cases l with
  | nil=>rfl
  | cons x r=>rfl
theorem InsI.len (h:InsI c l zs i):zs.length=l.length:=by
  rw [h,List.length_append,(EE _).length_eq,List.length_take,List.length_drop];omega
theorem InsI.into (h:InsI c l zs i) (hi:i<l.length):InsAt c d l zs i i:=by
  have hl:=DU (c:=c) (Nat.le_of_lt hi);refine ⟨Nat.le_refl _,hi,?_,?_⟩
  · rw [h,List.take_of_length_le (l:=AJ c (l.take i)) (by omega),List.drop_of_length_le (l:=AJ c (l.take i)) (by omega),List.drop_eq_getElem_cons hi]
    simp [List.getD,hi]
  · rw [List.drop_of_length_le (by omega)];intro z hz;cases hz
theorem InsI.done (h:InsI c l zs i) (hi:l.length≤i):zs=AJ c l:=by
  rw [h,List.take_of_length_le hi,List.drop_of_length_le hi,List.append_nil]
theorem swapG {l:List α} {i j:Nat} {d:α} (hi:i<l.length) (hj:j<l.length):((l.set i (l.getD j d)).set j (l.getD i d)).Perm l:=by
  have e1:l.getD i d=l[i]:=by simp [List.getD,hi]
  have e2:l.getD j d=l[j]:=by simp [List.getD,hj]
  rw [e1,e2];exact List.set_set_perm hi hj
theorem InsAt.len (h:InsAt c d l zs i j):zs.length=l.length:=by
  obtain ⟨h1,h2,h3,_⟩:=h;have hl:=DU (c:=c) (Nat.le_of_lt h2);rw [h3];simp only [List.length_append,List.length_cons,List.length_take,List.length_drop,hl];omega
theorem InsAt.at_j (h:InsAt c d l zs i j):zs.getD j d=l.getD i d:=by
  obtain ⟨h1,h2,h3,_⟩:=h;have hl:=DU (c:=c) (Nat.le_of_lt h2);rw [h3,List.getD_eq_getElem?_getD,List.getElem?_append_right (by rw [List.length_take];omega)];rw [show j-((AJ c (l.take i)).take j).length=0 by rw [List.length_take];omega];rfl
theorem InsAt.at_m (h:InsAt c d l zs i j) (hm:m<j):zs.getD m d=(AJ c (l.take i)).getD m d:=by
  obtain ⟨h1,h2,h3,_⟩:=h;have hl:=DU (c:=c) (Nat.le_of_lt h2);rw [h3,List.getD_eq_getElem?_getD,List.getElem?_append_left (by rw [List.length_take];omega),List.getElem?_take_of_lt hm,← List.getD_eq_getElem?_getD]
theorem InsAt.step (h:InsAt c d l zs i j) (hm:m+1=j) (hlt:c (zs.getD j d) (zs.getD m d)<0):InsAt c d l ((zs.set j (zs.getD m d)).set m (zs.getD j d)) i m:=by
  rw [h.at_j,h.at_m (m:=m) (by omega)] at hlt ⊢;obtain ⟨h1,h2,h3,h4⟩:=h;have hl:=DU (c:=c) (Nat.le_of_lt h2);unfold InsAt
  generalize AJ c (l.take i)=q at h3 h4 hl hlt ⊢
  generalize l.getD i d=x at h3 h4 hlt ⊢
  have hmq:m<q.length:=by omega
  have hd:q.drop m=q.getD m d::q.drop (m+1):=by rw [List.drop_eq_getElem_cons hmq];simp [List.getD,hmq]
  refine ⟨by omega,h2,?_,?_⟩
  · subst hm
    rw [DI (d:=d) hmq] at h3;rw [h3,List.set_append_right _ _ (by simp;omega),show m+1-(q.take m++[q.getD m d]).length=0 by simp;omega,List.set_cons_zero,List.append_assoc,List.set_append_right _ _ (by simp;omega),show m-(q.take m).length=0 by simp;omega,List.singleton_append,List.set_cons_zero,hd];rfl
  · rw [hd]
    intro z hz;rcases List.mem_cons.1 hz with rfl | hz
    · exact hlt
    · rw [hm] at hz;exact h4 z hz
theorem InsAt.done (h:InsAt c d l zs i j) (hs:j=0∨¬ c (zs.getD j d) (zs.getD (j-1) d)<0):InsI c l zs (i+1):=by
  rcases Nat.eq_zero_or_pos j with h0 | h0
  · obtain ⟨h1,h2,h3,h4⟩:=h
    unfold InsI;rw [isort_take (d:=d) h2,insB_at d _ _ j (by rw [DU (Nat.le_of_lt h2)];exact h1) h4 (.inl h0),h3];simp
  · rw [h.at_j,h.at_m (m:=j-1) (by omega)] at hs
    obtain ⟨h1,h2,h3,h4⟩:=h;unfold InsI;rw [isort_take (d:=d) h2,insB_at d _ _ j (by rw [DU (Nat.le_of_lt h2)];exact h1) h4 hs,h3];simp
theorem InsAt.done2 {u:Nat} (h:InsAt c d l zs i j) (hu:u=0) (hb:(cmp .gtr (j:Int) (u:Int)&&cmp .lss (c (zs.getD j d) (zs.getD ((j:Int)-1).toNat d)) 0)=false):InsI c l zs (i+1):=by
  subst hu;refine h.done ?_;rcases Nat.eq_zero_or_pos j with h0 | h0
  · exact .inl h0
  · refine .inr ?_
    rw [show ((j:Int)-1).toNat=j-1 by omega] at hb;simp only [cmp,Bool.and_eq_false_iff,decide_eq_false_iff_not] at hb;rcases hb with hb | hb
    · omega
    · omega
end
def NS (s:Slip):Prop:=-1000000≤s.hour∧s.hour≤1000000∧-1000000≤s.num∧s.num≤1000000
def cmpZ (x y:Int):Int:=x-y
theorem less_cmpZ {x y:Int}:cmp .lss x y=cmp .lss (cmpZ x y) 0:=by
  show decide (x<y)=decide (x-y<0);exact decide_eq_decide.2 (by omega)
theorem u8_id {m:Nat} (h:m<256):IntKind.u8.wrap (m:Int)=m:=by
  have h1:IntKind.u8.signed=false:=rfl;have h2:IntKind.u8.bits=8:=rfl;simp only [IntKind.wrap,h1,h2,Bool.false_and,Bool.false_eq_true,if_false];omega
theorem u64_id {m:Nat} (h:m<1000000):IntKind.u64.wrap (m:Int)=m:=by
  have h1:IntKind.u64.signed=false:=rfl;have h2:IntKind.u64.bits=64:=rfl;simp only [IntKind.wrap,h1,h2,Bool.false_and,Bool.false_eq_true,if_false];omega
theorem byteAt_range {s:List UInt8} {j:Nat}:0≤byteAt s j∧byteAt s j≤255:=by
  unfold byteAt;have:=(s.getD j 0).toNat_lt;omega
end Go.Sh
namespace Go.Sl
open Go
theorem leMono {Q:Imm→Prop} {I I':Imm} (le:I.le I') (h:∀ J,I.le J→Q J):∀ J,I'.le J→Q J:=fun J hJ=>h J (le.trans hJ)
end Go.Sl
namespace Go.Sh
open Go Go.Sl
section
variable {α:Type} {p:α→Bool} {l:List α} {d:α} {k:Nat}
def OU (p:α→Bool) (l:List α):Int:=match l.findIdx? p with
  | some i=>(i:Int)
  | none=>-1
theorem OV (h:∀ j,j<k→p (l.getD j d)=false) (hk:k<l.length) (hp:p (l.getD k d)=true):OU p l=k:=by
  have:l.findIdx? p=some k:=by
    rw [List.findIdx?_eq_some_iff_getElem];refine ⟨hk,by simpa [List.getD,hk] using hp,fun j hj=>?_⟩;have:=h j hj
    simpa [List.getD,show j<l.length by omega] using this
  unfold OU;rw [this]
theorem MD (h:∀ j,j<k→p (l.getD j d)=false) (hk:l.length≤k):OU p l=-1:=by
  have:l.findIdx? p=none:=by
    rw [List.findIdx?_eq_none_iff];intro x hx;obtain ⟨j,hj,rfl⟩:=List.mem_iff_getElem.1 hx;have:=h j (by omega)
    simpa [List.getD,hj] using this
  unfold OU;rw [this]
theorem MC:cmp .geq (OU p l) 0=l.any p:=by
  unfold OU;cases h:l.findIdx? p with
  | none=>
    have:l.any p=false:=by
      rw [List.any_eq_false];intro x hx;have:=List.findIdx?_eq_none_iff.1 h x hx;simp [this]
    rw [this];decide
  | some i=>
    have:l.any p=true:=by
      rw [List.findIdx?_eq_some_iff_getElem] at h;obtain ⟨h1,h2,_⟩:=h;exact List.any_eq_true.2 ⟨_,List.getElem_mem h1,h2⟩
    rw [this];simp [cmp]
theorem idxF_spec (h:0≤OU p l):∃ i:Nat,OU p l=↑i∧i<l.length∧p (l.getD i d)=true∧∀ j,j<i→p (l.getD j d)=false:=by
  unfold OU at h ⊢;cases e:l.findIdx? p with
  | none=>rw [e] at h;simp at h
  | some i=>
    rw [List.findIdx?_eq_some_iff_getElem] at e;obtain ⟨h1,h2,h3⟩:=e;refine ⟨i,rfl,h1,by simpa [List.getD,h1] using h2,fun j hj=>?_⟩;have:=h3 j hj
    simpa [List.getD,show j<l.length by omega] using this
theorem idxF_neg (h:OU p l<0):l.any p=false:=by rw [← MC];simp [cmp];omega
end
section
variable {L:Lin} {k:Nat}
theorem startErr_1 (h:¬ (L.start.length:Int)=L.places):DM L=2:=if_pos h
theorem all_at {α:Type} {p:α→Bool} {l:List α} {d:α} (hk:k<l.length) (h:l.all p=true):p (l.getD k d)=true:=by
  have:=List.all_eq_true.1 h (l.getD k d) (by simp [List.getD,hk]);exact this
theorem all_bad {α:Type} {p:α→Bool} {l:List α} {d:α} (hk:k<l.length) (h:p (l.getD k d)=false):l.all p=false:=by
  cases e:l.all p with
  | false=>rfl
  | true=>rw [all_at (d:=d) hk e] at h;cases h
theorem all_good {α:Type} {p:α→Bool} {l:List α} (h:∀ x∈l.take k,p x=true) (hk:l.length≤k):l.all p=true:=List.all_eq_true.2 fun x hx=>h x (by rw [List.take_of_length_le hk];exact hx)
theorem startErr_2 (h:(L.start.length:Int)=L.places) (hk:k<L.start.length) (hb:¬ ((L.start.getD k []).length:Int)=L.sorts):DM L=2:=by
  unfold DM;rw [if_neg (fun x=>x h),if_pos (all_bad (d:=[]) hk (decide_eq_false hb))]
theorem startErr_3 (h:(L.start.length:Int)=L.places) (ha:(L.start.all fun r=>decide ((r.length:Int)=L.sorts))=true) (hk:k<L.start.flatten.length) (hb:inB (L.start.flatten.getD k 0) 0 50=false):DM L=1:=by
  unfold DM;rw [if_neg (fun x=>x h),if_neg (by rw [ha];decide),if_pos (all_bad (d:=0) hk hb)]
theorem startErr_4 (h:(L.start.length:Int)=L.places) (ha:(L.start.all fun r=>decide ((r.length:Int)=L.sorts))=true) (hb:(L.start.flatten.all fun n=>inB n 0 50)=true):DM L=0:=by
  unfold DM;rw [if_neg (fun x=>x h),if_neg (by rw [ha];decide),if_neg (by rw [hb];decide)]
theorem flat_small {xss:List (List Int)} {m:Nat} (h:∀ r∈xss,r.length≤m):xss.flatten.length≤xss.length*m:=by
  induction xss with
  | nil=>simp
  | cons x r ih=>
    have h1:=h x (by simp);have h2:=ih (fun y hy=>h y (by simp [hy]));simp only [List.flatten_cons,List.length_append,List.length_cons,Nat.succ_mul];omega
theorem keepsErr_many (h:4<L.keeps.length):DZ L=6:=if_pos h
theorem HU (h:¬ 4<L.keeps.length) (hz:FC (EX L) k=0) (hk:k<L.keeps.length) {e:Int} (he:EX L k=e) (hne:e≠0):DZ L=e:=by
  unfold DZ;rw [if_neg h,firstE_hit hz (by rw [he];exact hne) hk,he]
theorem keepsErr_none (h:¬ 4<L.keeps.length) (hz:FC (EX L) k=0) (hk:k=L.keeps.length):DZ L=0:=by unfold DZ;rw [if_neg h,← hk,hz]
section
variable (h3:inB (L.keeps.getD k AU).place 0 (L.places-1)=true) (h4:inB (L.keeps.getD k AU).hour 0 200=true)
theorem keepErr_3 (h:inB (L.keeps.getD k AU).place 0 (L.places-1)=false):EX L k=3:=if_pos h
include h3
theorem keepErr_1 (h:inB (L.keeps.getD k AU).hour 0 200=false):EX L k=1:=by unfold EX;rw [if_neg (by rw [h3];decide),if_pos h]
include h4
theorem keepErr_1b (h:inB (L.keeps.getD k AU).who 1 9=false):EX L k=1:=by unfold EX;rw [if_neg (by rw [h3];decide),if_neg (by rw [h4];decide),if_pos h]
variable (h5:inB (L.keeps.getD k AU).who 1 9=true)
include h5
theorem keepErr_4 (h:((L.keeps.take k).any fun x=>decide (x.place=(L.keeps.getD k AU).place)&&decide (x.hour=(L.keeps.getD k AU).hour))=true):EX L k=4:=by unfold EX;rw [if_neg (by rw [h3];decide),if_neg (by rw [h4];decide),if_neg (by rw [h5];decide),if_pos h]
theorem keepErr_ok (h:((L.keeps.take k).any fun x=>decide (x.place=(L.keeps.getD k AU).place)&&decide (x.hour=(L.keeps.getD k AU).hour))=false):EX L k=0:=by unfold EX;rw [if_neg (by rw [h3];decide),if_neg (by rw [h4];decide),if_neg (by rw [h5];decide),if_neg (by rw [h];decide)]
end
theorem least_t {k:Int} (h:k=4):Value.int .i64 0=.int .i64 (if k=4 then 0 else 1):=by rw [if_pos h]
theorem least_f {k:Int} (h:k≠4):Value.int .i64 1=.int .i64 (if k=4 then 0 else 1):=by rw [if_neg h]
def NK (L:Lin) (s:Slip):Int:=
  bif !inB s.num 1 999 then 1 else bif !inB s.hour 0 200 then 1 else bif !inB s.kind 1 6 then 8
  else bif !inB s.place 0 (L.places-1) then 3
  else bif cmp .eql s.kind 1&&!inB s.to 0 (L.places-1) then 3
  else bif cmp .eql s.kind 1&&cmp .eql s.to s.place then 4
  else bif !cmp .eql s.kind 1&&!cmp .eql s.to 0 then 1
  else bif !inB s.sort 0 (L.sorts-1) then 3
  else bif s.soil&&(!cmp .eql s.kind 1&&!cmp .eql s.kind 4) then 1
  else bif !inB s.amt (if s.kind=4 then 0 else 1) 50 then 1 else 0
theorem EY (L:Lin) (s:Slip):FD L s=NK L s:=by
  unfold FD NK;simp only [EC,Bool.cond_eq_ite,Bool.and_eq_true,Bool.not_eq_true',decide_eq_true_eq,decide_eq_false_iff_not]
end
section
variable {L:Lin} {k:Nat}
def linC (L:Lin):Int:=bif !inB L.places 1 4||!inB L.sorts 1 2 then 1 else bif !cmp .eql (DM L) 0 then DM L else bif !cmp .eql (DZ L) 0 then DZ L else bif cmp .gtr (L.slips.length:Int) 8 then 6 else FC (DT L) L.slips.length
theorem ME (L:Lin):HO L=linC L:=by
  unfold HO linC
  by_cases e:8<L.slips.length
  · have e2:(8:Int)<L.slips.length:=by omega
    cases inB L.places 1 4 <;> cases inB L.sorts 1 2 <;> simp [cmp,Bool.cond_eq_ite,e2,e]
  · have e2:¬ (8:Int)<L.slips.length:=by omega
    cases inB L.places 1 4 <;> cases inB L.sorts 1 2 <;> simp [cmp,Bool.cond_eq_ite,e2,e]
theorem linErr_at {x:Int} (h0:FC (DT L) L.slips.length=x) (h1:(!inB L.places 1 4||!inB L.sorts 1 2)=false) (h2:(!cmp .eql (DM L) 0)=false) (h3:(!cmp .eql (DZ L) 0)=false) (h4:cmp .gtr (L.slips.length:Int) 8=false):HO L=x:=by
  rw [ME];simp only [linC,h1,h2,h3,h4,cond_false,h0]
theorem slipAt_bad (h:FD L (L.slips.getD k AD)≠0):DT L k=FD L (L.slips.getD k AD):=if_pos h
theorem slipAt_dup (h:FD L (L.slips.getD k AD)=0) (h2:hasNum (L.slips.getD k AD).num (L.slips.take k)=true):DT L k=4:=by unfold DT;rw [if_neg (fun x=>x h),if_pos h2]
theorem slipAt_ok (h:FD L (L.slips.getD k AD)=0) (h2:hasNum (L.slips.getD k AD).num (L.slips.take k)=false):DT L k=0:=by unfold DT;rw [if_neg (fun x=>x h),if_neg (by rw [h2];decide)]
theorem slips_hit (hz:FC (DT L) k=0) (hk:k<L.slips.length) {e:Int} (he:DT L k=e) (hne:e≠0):FC (DT L) L.slips.length=e:=by rw [firstE_hit hz (by rw [he];exact hne) hk,he]
end
theorem openTo_done {st:List (List Int)} {k j:Nat} (h:j=(st.getD k []).length):NE (k:Int) (st.getD k []) j (MJ st k)=MJ st (k+1):=by subst h;rfl
theorem openH_at {L:Lin} {k:Nat} (h:k=L.start.length):MJ L.start k=MI L:=by subst h;rfl
def Within (B:Int) (H:Hs):Prop:=∀ k,-B≤DK k H∧DK k H≤B
theorem Within.put {B B':Int} {H:Hs} (h:Within B H) {k:HKey} {v:Int} (h1:-B'≤v) (h2:v≤B') (hb:B≤B'):Within B' (IG k v H):=fun j=>by
  rw [getH_put];have:=h j;split <;> omega
theorem Within.add {B:Int} {H:Hs} (h:Within B H) {k:HKey} {d:Int} (h1:-50≤d) (h2:d≤50):Within (B+50) (MR k d H):=h.put (by have:=h k;omega) (by have:=h k;omega) (by omega)
theorem Within.doSlip {B:Int} {H:Hs} (h:Within B H) {s:Slip} (h1:0≤s.amt) (h2:s.amt≤50) (hB:0≤B):Within (B+100) (doSlip s H):=by
  have up:∀ {H:Hs},Within (B+50) H→Within (B+100) H:=fun h k=>by have:=h k;omega
  have tw:∀ {H:Hs},Within (B+50+50) H→Within (B+100) H:=fun h k=>by have:=h k;omega
  unfold Sh.doSlip
  split
  · exact tw ((h.add (by omega) (by omega)).add (by omega) (by omega))
  split
  · exact tw ((h.add (by omega) (by omega)).add (by omega) (by omega))
  split
  · exact tw ((h.add (by omega) (by omega)).add (by omega) (by omega))
  split
  · exact up (h.put (by omega) (by omega) (by omega))
  split
  · exact up (h.add (by omega) (by omega))
  · exact up (h.add (by omega) (by omega))
end Go.Sh
namespace Go.Sl
open Go
structure Borns (es:Array MapEntry) (cl:Nat):Prop where
  once:(es.toList.map (·.born)).Nodup
  lt:∀ e∈es.toList,e.born<cl
def MapB {κ:Type} (enc:κ→Value) (es:Array MapEntry) (cl:Nat) (kvs:List (κ × Value)):Prop:=MapIs enc es kvs∧Borns es cl
theorem MapB.nil {κ:Type} (enc:κ→Value) (cl:Nat):MapB enc #[] cl []:=⟨rfl,by simp,fun _ h=>by simp at h⟩
theorem Borns.push {es:Array MapEntry} {cl:Nat} (h:Borns es cl) (k v:Value):Borns (es.push { key:=k,val:=v,born:=cl }) (cl+1):=by
  refine ⟨?_,fun e he=>?_⟩
  · simp only [Array.toList_push,List.map_append,List.map_cons,List.map_nil]
    refine List.nodup_append.2 ⟨h.once,by simp,fun a ha b hb=>?_⟩;obtain ⟨e,he,rfl⟩:=List.mem_map.1 ha;simp at hb;subst hb;have:=h.lt e he;omega
  · simp only [Array.toList_push,List.mem_append,List.mem_singleton] at he
    rcases he with he | rfl
    · have:=h.lt e he;omega
    · show cl<cl+1;omega
theorem modify_born (es:Array MapEntry) (j:Nat) (f:MapEntry→MapEntry) (hf:∀ e,(f e).born=e.born):(es.modify j f).toList.map (·.born)=es.toList.map (·.born):=by
  apply List.ext_getElem?
  intro n;simp only [List.getElem?_map,Array.getElem?_toList,Array.getElem?_modify]
  split
  · cases es[n]? <;> simp [hf]
  · rfl
theorem Borns.modify {es:Array MapEntry} {cl:Nat} (h:Borns es cl) (j:Nat) (f:MapEntry→MapEntry) (hf:∀ e,(f e).born=e.born):Borns (es.modify j f) cl:=by
  refine ⟨by rw [modify_born _ _ _ hf];exact h.once,fun e he=>?_⟩;have:e.born∈(es.modify j f).toList.map (·.born):=List.mem_map_of_mem he;rw [modify_born _ _ _ hf] at this;obtain ⟨e',he',e1⟩:=List.mem_map.1 this;rw [← e1];exact h.lt e' he'
def ent {κ:Type} [DecidableEq κ] (k:κ) (z:Value):List (κ × Value)→List (κ × Value)
  | []=>[(k,z)]
  | x::r=>if x.1=k then x::r else x::ent k z r
section
variable {κ:Type} [DecidableEq κ]
theorem getKv_ent (k:κ) (z:Value):∀ kvs:List (κ × Value),(IZ k (ent k z kvs)).getD z=(IZ k kvs).getD z:=by
  intro kvs
  induction kvs with
  | nil=>simp [ent,IZ]
  | cons x r ih=>simp only [ent];split <;> simp_all [IZ]
theorem upd_ent (k:κ) (z v:Value):∀ kvs:List (κ × Value),upd k v (ent k z kvs)=upd k v kvs:=by
  intro kvs
  induction kvs with
  | nil=>simp [ent,upd]
  | cons x r ih=>simp only [ent];split <;> simp_all [upd]
theorem findKv_ent (k : κ) (z : Value) : ∀ (kvs : List (κ × Value)) (i : Nat), (match ED k kvs i with
    | some (j,u)=>ent k z kvs=kvs∧ED k (ent k z kvs) i=some (j,u)
    | none=>ent k z kvs=kvs++[(k,z)]∧ED k (ent k z kvs) i=some (i+kvs.length,z)):=by
  intro kvs
  induction kvs with
  | nil=>intro i;simp [ED,ent]
  | cons x r ih=>
    intro i;simp only [ED,ent]
    by_cases h:x.1=k
    · simp [h,ED]
    · simp only [if_neg h]
      have:=ih (i+1);cases hf:ED k r (i+1) with
      | none=>
        rw [hf] at this;obtain ⟨h1,h2⟩:=this;refine ⟨by rw [h1];rfl,?_⟩;show (if x.1=k then some (i,x.2) else ED k (ent k z r) (i+1))=_;rw [if_neg h,h2,List.length_cons];congr 2;omega
      | some p=>
        rw [hf] at this;obtain ⟨h1,h2⟩:=this;refine ⟨by rw [h1],?_⟩;show (if x.1=k then some (i,x.2) else ED k (ent k z r) (i+1))=_;rw [if_neg h,h2]
theorem findKv_lt (k:κ):∀ (kvs:List (κ × Value)) (i j:Nat) (u:Value),ED k kvs i=some (j,u)→i≤j∧j-i<kvs.length∧kvs[j-i]?=some (k,u):=by
  intro kvs
  induction kvs with
  | nil=>intro i j u h;cases h
  | cons x r ih=>
    intro i j u h;simp only [ED] at h
    split at h
    · rename_i e
      cases h;simp [← e]
    · obtain ⟨h1,h2,h3⟩:=ih _ _ _ h
      refine ⟨by omega,by simp;omega,?_⟩;rw [show j-i=(j-(i+1))+1 by omega];simpa using h3
end
theorem key_at {κ:Type} {enc:κ→Value} {es:Array MapEntry} {kvs:List (κ × Value)} (his:MapIs enc es kvs) {j:Nat} {k:κ} {u:Value} (h:kvs[j]?=some (k,u)):∃ e,es[j]?=some e∧e.key=enc k∧e.val=u:=by
  have:=congrArg (fun l=>l[j]?) his;simp only [List.getElem?_map,Array.getElem?_toList,h,Option.map_some,KR] at this;cases he:es[j]? with
  | none=>rw [he] at this;cases this
  | some e=>rw [he] at this;simp only [Option.map_some,Option.some.injEq,Prod.mk.injEq] at this;exact ⟨e,rfl,this.1,this.2⟩
def Stamp {κ:Type} [DecidableEq κ] (es:Array MapEntry) (kvs:List (κ × Value)) (st:Nat) (k:κ):Prop:=∃ j u,ED k kvs 0=some (j,u)∧(es[j]?).map (·.born)=some st
section
variable {ρ:Option Nat} {P:Program} {N:Nat} {ops:Array Oper} {i:Nat} {l:Sl} {I:Imm} {R M:Seg} {d:Nat} {ty:TypeId} {gd:Option (Nat × Bool)} {K:Sl→Imm→Seg→Prop}
variable {κ:Type} [DecidableEq κ] {enc:κ→Value}
theorem set_same {es:Array MapEntry} {j:Nat} {e:MapEntry} (h:es[j]?=some e) {key:Value} (hk:key=e.key):es.modify j (fun e=>{ e with key })=es:=by
  apply Array.ext_getElem?
  intro n;rw [Array.getElem?_modify]
  split
  · rename_i e1;subst e1 hk;rw [h];rfl
  · rfl
theorem OH {a:Value} {Q:Value→Seg→Prop} (h:Q a M):wpL P (Instr.keyThatStays a a) Q I M:=by
  unfold Instr.keyThatStays
  split
  · exact h
  · rw [AE]
    show (if (Question.extern "map.whichKeyStays" 2).forced then _ else ∀ t,_)
    split
    · show Q _ M;split <;> exact h
    · intro t;show Q _ M;split <;> exact h
theorem OE {x y : Operand} {T kt et r cl : Nat} {es : Array MapEntry} {kvs : List (κ × Value)} {k : κ} {z : Value} (n : Nat) (hop : EQ ops N i = some (some d, .mapEntry T x y, ty, gd)) (hg : EJ ops l gd = some true)
    (hT:ON P T=some (kt,et)) (hK:KeyOk P kt enc) (hx:BM l x=some (.map (some r))) (hy:BM l y=some (enc k)) (hz:GQ P et=some z) (hn:M[n]?=some (r,Obj.map es cl)) (hb:MapB enc es cl kvs)
    (h:∀ es' cl' (st:Nat),MapB enc es' cl' (ent k z kvs)→Stamp es' (ent k z kvs) st k→K ((d,.tuple #[(IZ k kvs).getD z,.int .i64 (st:Int)])::l) I (M.set n (r,Obj.map es' cl'))):Stp P N ops i l I M K:=
  CS hop hg (HN hx hy) (by
    obtain ⟨his,hbo⟩:=hb
    show wpL P (Instr.mapEntry T (rho l x) (rho l y) >>= fun x=>pure (Next.value x)) _ I M
    rw [AZ hx,AZ hy]
    refine CX ?_
    unfold Instr.mapEntry
    rw [AE,AK (IQ hT)]
    show wpL P (Sem.getObj r _) _ I M
    refine ⟨_,.inl (List.mem_of_getElem? hn),rfl,?_⟩
    show wpL P (Instr.checkKey _ _ _ _ >>= _) _ I _
    rw [AE]
    refine hK.check _ _ _ _ _ ?_
    rw [AE]
    refine hK.find k es.toList kvs _ _ _ his ?_
    have hf:=findKv_ent k z kvs 0
    have hgk:=findKv_get k kvs 0
    cases hkv:ED k kvs 0 with
    | none=>
      rw [hkv] at hf hgk
      simp only at hf
      simp only [Option.map_none] at hgk
      show wpL P (zeroValue et >>= _) _ I M
      rw [AE,CY hz]
      show wpL P (Sem.setObj r _ _) _ I M
      refine FP n rfl hn rfl ?_
      refine ⟨_,.inl rfl,?_⟩
      have h1:=h (es.push { key:=enc k,val:=z,born:=cl }) (cl+1) cl ⟨by rw [hf.1];exact NC his k z cl,hbo.push _ _⟩ ⟨_,_,hf.2,by
        have hs:=MapIs.size his
        rw [Nat.zero_add,← hs];simp⟩
      rw [← hgk] at h1
      exact h1
    | some p=>
      obtain ⟨j,w⟩:=p
      rw [hkv] at hf hgk
      simp only at hf
      simp only [Option.map_some] at hgk
      obtain ⟨_,_,h3⟩:=findKv_lt k kvs 0 j w hkv
      rw [Nat.sub_zero] at h3
      obtain ⟨e,he,hek,hev⟩:=key_at his h3
      have hold:((es[j]?).map (·.key)).getD (enc k)=enc k:=by rw [he];exact hek
      show wpL P (Instr.keyThatStays (((es[j]?).map (·.key)).getD (enc k)) (enc k) >>= _) _ I M
      rw [AE,hold]
      refine OH ?_
      show wpL P (Sem.setObj r _ _) _ I M
      refine FP n rfl hn rfl ?_
      refine ⟨_,.inl rfl,?_⟩
      rw [set_same he hek.symm]
      have h1:=h es cl e.born ⟨by rw [hf.1];exact his,hbo⟩ ⟨_,_,hf.2,by rw [he];rfl⟩
      rw [← hgk] at h1
      rw [he]
      exact h1)
theorem KX {x y u : Operand} {T r cl st : Nat} {es : Array MapEntry} {kvs : List (κ × Value)} {k : κ} {v : Value} (n : Nat) (hop : EQ ops N i = some (none, .entryStore T x y u, ty, gd)) (hg : EJ ops l gd = some true)
    (hx:BM l x=some (.map (some r))) (hy:BM l y=some (.int .i64 (st:Int))) (hu:BM l u=some v) (hn:M[n]?=some (r,Obj.map es cl)) (hb:MapB enc es cl kvs) (hst:Stamp es kvs st k)
    (h:∀ es',MapB enc es' cl (upd k v kvs)→K l I (M.set n (r,Obj.map es' cl))):Stp P N ops i l I M K:=
  CS hop hg (known3 hx hy hu) (by
    obtain ⟨his,hbo⟩:=hb
    obtain ⟨j,w,hj,hs⟩:=hst
    show wpL P (Instr.entryStore T (rho l x) (rho l y) (rho l u) >>= fun _=>pure Next.skip) _ I M
    rw [AZ hx,AZ hy,AZ hu,AE]
    unfold Instr.entryStore
    show wpL P (Sem.getObj r _) _ I M
    refine ⟨_,.inl (List.mem_of_getElem? hn),rfl,?_⟩
    obtain ⟨_,_,h3⟩:=findKv_lt k kvs 0 j w hj
    rw [Nat.sub_zero] at h3
    obtain ⟨e,he,hek,hev⟩:=key_at his h3
    rw [he] at hs
    simp only [Option.map_some,Option.some.injEq] at hs
    have hjl:j<es.size:=(Array.getElem?_eq_some_iff.1 he).1
    have hej:es[j]=e:=(Array.getElem?_eq_some_iff.1 he).2
    have hfi:es.findIdx? (fun e=>(e.born:Int) == (st:Int))=some j:=by
      rw [Array.findIdx?_eq_some_iff_getElem]
      refine ⟨hjl,by rw [hej,hs];simp,fun q hq=>?_⟩
      have hne:es[q].born≠st:=fun e1=>by
        have h4:(es.toList.map (·.born))[q]'(by simp;omega)=(es.toList.map (·.born))[j]'(by simpa using hjl):=by simp [e1,hej,hs]
        have:=(List.getElem_inj hbo.once).1 h4
        omega
      simp only [Bool.not_eq_true,beq_eq_false_iff_ne,ne_eq]
      intro e1;exact hne (by omega)
    show wpL P (match es.findIdx? (fun e=>(e.born:Int) == (st:Int)) with
      | some i=>Go.setObj r (.map (es.modify i fun e=>{ e with val:=v }) cl)
      | none=>unsupported (.noEntry "instr/MapEntry.the entry is gone")) _ I M
    rw [hfi]
    show wpL P (Sem.setObj r _ _) _ I M
    refine FP n rfl hn rfl ?_
    refine ⟨undef,.inr ⟨rfl,rfl⟩,h _ ⟨?_,hbo.modify _ _ (fun _=>rfl)⟩⟩
    have hq:=MV k v kvs 0
    rw [hj] at hq
    simp only [Nat.sub_zero] at hq
    rw [hq.2.1]
    have e2:es.modify j (fun e=>{ e with val:=v })=es.modify j (fun e=>{ e with key:=enc k,val:=v }):=by
      apply Array.ext_getElem?
      intro q
      rw [Array.getElem?_modify,Array.getElem?_modify]
      split
      · rename_i e1;subst e1;rw [he];simp [hek]
      · rfl
    rw [e2]
    exact mapIs_set his j k v (enc k) rfl)
end
def JV (seen:Array Nat) (e:MapEntry):Bool:=!seen.contains e.born
def Left {κ:Type} (enc:κ→Value) (es:Array MapEntry) (seen:Array Nat) (todo:List (κ × Value)):Prop:=(es.toList.filter (JV seen)).map (fun e=>(e.key,e.val))=todo.map (KR enc)
def AtEntry {κ:Type} (enc:κ→Value) (es:Array MapEntry) (seen:Array Nat) (x:κ × Value):Prop:=∃ e,e∈es.toList∧seen.back?=some e.born∧e.key=enc x.1∧e.val=x.2
theorem Left.start {κ:Type} {enc:κ→Value} {es:Array MapEntry} {kvs:List (κ × Value)} (h:MapIs enc es kvs):Left enc es #[] kvs:=by
  unfold Left;have:es.toList.filter (JV #[])=es.toList:=List.filter_eq_self.2 fun e _=>by simp [JV]
  rw [this];exact h
theorem born_inj {es:Array MapEntry} {cl:Nat} (h:Borns es cl) {e e':MapEntry} (he:e∈es.toList) (he':e'∈es.toList) (hb:e.born=e'.born):e=e':=by
  obtain ⟨a,ha,rfl⟩:=List.mem_iff_getElem.1 he;obtain ⟨b,hb',rfl⟩:=List.mem_iff_getElem.1 he';have:a=b:=(List.getElem_inj (h₀:=by simpa using ha) (h₁:=by simpa using hb') h.once).1 (by simpa using hb);subst this;rfl
theorem new_push {es:Array MapEntry} {cl:Nat} (h:Borns es cl) {seen:Array Nat} {A B:List MapEntry} {e:MapEntry} (hs:es.toList.filter (JV seen)=A++e::B):es.toList.filter (JV (seen.push e.born))=A++B:=by
  have hnd:(es.toList.map (·.born)).Nodup:=h.once;have hsub:(A++e::B).Sublist es.toList:=by rw [← hs];exact List.filter_sublist
  have hn2:((A++e::B).map (·.born)).Nodup:=(hsub.map _).nodup hnd;have e1:es.toList.filter (JV (seen.push e.born))=(es.toList.filter (JV seen)).filter (fun x=>!(x.born == e.born)):=by
    rw [List.filter_filter];refine List.filter_congr fun x _=>?_
    simp only [JV,Array.contains_push,Bool.not_or];rw [Bool.and_comm]
  rw [e1,hs,List.filter_append,List.filter_cons];rw [List.map_append,List.map_cons] at hn2;have hd:=List.nodup_append.1 hn2;have hd2:=List.nodup_cons.1 hd.2.1;have hA:A.filter (fun x=>!(x.born == e.born))=A:=List.filter_eq_self.2 fun x hx=>by
    have:=hd.2.2 x.born (List.mem_map_of_mem hx) e.born (by simp)
    simpa using this
  have hB:B.filter (fun x=>!(x.born == e.born))=B:=List.filter_eq_self.2 fun x hx=>by
    have:x.born≠e.born:=fun e2=>hd2.1 (by rw [← e2];exact List.mem_map_of_mem hx)
    simpa using this
  rw [hA,hB];simp
section
variable {P:Program} {N:Nat} {ops:Array Oper} {i:Nat} {l:Sl} {I:Imm} {R M:Seg} {d:Nat} {ty:TypeId} {gd:Option (Nat × Bool)} {K:Sl→Imm→Seg→Prop}
theorem stp_range {x : Operand} {T kt et r cl : Nat} {es : Array MapEntry} (hop : EQ ops N i = some (some d, .range T x, ty, gd)) (hg : EJ ops l gd = some true) (hT : ON P T = some (kt, et)) (hx : BM l x = some (.map (some r))) (hm : Holds I M r (.map es cl))
    (h:∀ b,K ((d,.pointer (some ⟨b,0,none⟩))::l) I ((b,Obj.mapIter (some r) cl #[] cl)::M)):Stp P N ops i l I M K:=
  CS hop hg (KV hx) (by
    show wpL P (Instr.range T (rho l x) >>= fun x=>pure (Next.value x)) _ I M
    rw [AZ hx]
    refine CX ?_
    unfold Instr.range
    rw [AE,AK (IQ hT)]
    show wpL P (Sem.getObj r _) _ I M
    exact ⟨_,hm,rfl,fun b=>⟨_,.inl rfl,h b⟩⟩)
theorem stp_next {κ : Type} {enc : κ → Value} {x : Operand} {r cl b : Nat} {es : Array MapEntry} {seen : Array Nat} {todo : List (κ × Value)} (n : Nat) (hop : EQ ops N i = some (some d, .next x false, ty, gd)) (hg : EJ ops l gd = some true)
    (hx:BM l x=some (.pointer (some ⟨b,0,none⟩))) (hn:M[n]?=some (b,Obj.mapIter (some r) cl seen cl)) (hm:Holds I M r (.map es cl)) (hb:Borns es cl) (hl:Left enc es seen todo)
    (h0:todo=[]→K ((d,.tuple #[.bool false])::l) I M)
    (h1:∀ A y B seen',todo=A++y::B→Left enc es seen' (A++B)→AtEntry enc es seen' y→K ((d,.tuple #[.bool true,enc y.1,y.2])::l) I (M.set n (b,Obj.mapIter (some r) cl seen' cl))):Stp P N ops i l I M K:=
  CS hop hg (KV hx) (by
    show wpL P (Instr.next (rho l x) false ty >>= fun x=>pure (Next.value x)) _ I M
    rw [AZ hx]
    refine CX ?_
    unfold Instr.next
    show wpL P (Sem.getObj b _) _ I M
    refine ⟨_,.inl (List.mem_of_getElem? hn),rfl,?_⟩
    show wpL P (Sem.getObj r _) _ I M
    refine ⟨_,hm,rfl,?_⟩
    have hc:(!seen.isEmpty&&!es.isEmpty&&es.all (fun (e:MapEntry)=>decide (e.born≥cl)))=false:=by
      rcases Nat.eq_zero_or_pos es.size with hz | hz
      · have:es.isEmpty=true:=by simpa [Array.isEmpty] using hz
        rw [this];simp
      · have : es.all (fun (e : MapEntry) => decide (e.born ≥ cl)) = false := by
          rw [Array.all_eq_false]
          refine ⟨0,hz,?_⟩
          have:=hb.lt es[0] (by simp)
          simp;omega
        rw [this];simp
    show wpL P (if (!seen.isEmpty&&!es.isEmpty&&es.all (fun (e:MapEntry)=>decide (e.born≥cl)))=true then _ else _) _ I M
    rw [hc]
    simp only [Bool.false_eq_true,if_false]
    have hold:(es.filter (JV seen)).filter (fun (e:MapEntry)=>decide (e.born<cl))=es.filter (JV seen):=by
      rw [Array.filter_eq_self];intro e he
      have:=hb.lt e (by simpa using (Array.mem_filter.1 he).1);simpa using this
    have hnew:(es.filter (JV seen)).filter (fun (e:MapEntry)=>decide (e.born≥cl))=#[]:=by
      rw [Array.filter_eq_empty_iff];intro e he
      have:=hb.lt e (by simpa using (Array.mem_filter.1 he).1);simp;omega
    have e0:(fun e:MapEntry=>!seen.contains e.born)=JV seen:=rfl
    rw [e0]
    rw [hold,hnew,Array.append_empty]
    have hfl:(es.filter (JV seen)).toList=es.toList.filter (JV seen):=by simp
    generalize hL:es.filter (JV seen)=L at hfl
    have take : ∀ (q : Nat), q < L.size → wpL P (match (L.map some)[q]? with
        | some (some e)=>(do
          Go.setObj b (.mapIter (some r) cl (seen.push e.born) cl)
          pure (Value.tuple #[.bool true,e.key,e.val]))
        | some none=>pure (.tuple #[.bool false])
        | none=>stuck "Next: no such candidate") (fun v M'=>∃ u,(Next.value v=.value u∨(Next.value v=.skip∧u=undef))∧K ((d,u)::l) I M') I M:=fun q hq=>by
      have hget:(L.map some)[q]?=some (some L[q]):=by simp [hq]
      rw [hget]
      have hsp:es.toList.filter (JV seen)=L.toList.take q++L[q]::L.toList.drop (q+1):=by
        rw [← hfl]
        have:=List.drop_eq_getElem_cons (l:=L.toList) (i:=q) (by simpa using hq)
        rw [show L[q]=L.toList[q]'(by simpa using hq) from by simp,← this,List.take_append_drop]
      have hl2:(L.toList.take q++L[q]::L.toList.drop (q+1)).map (fun e=>(e.key,e.val))=todo.map (KR enc):=by rw [← hsp];exact hl
      have hlen:todo.length=L.size:=by
        have:=congrArg List.length hl2
        simp only [List.length_map,List.length_append,List.length_take,List.length_cons,List.length_drop,Array.length_toList] at this
        omega
      have hspt:todo=todo.take q++todo[q]'(by omega)::todo.drop (q+1):=by
        have:=List.drop_eq_getElem_cons (l:=todo) (i:=q) (by omega)
        rw [← this,List.take_append_drop]
      rw [hspt,List.map_append,List.map_append,List.map_cons,List.map_cons] at hl2
      have hk:(L.toList.take q).map (fun e=>(e.key,e.val))=(todo.take q).map (KR enc)∧(L[q].key,L[q].val)::(L.toList.drop (q+1)).map (fun e=>(e.key,e.val))=KR enc (todo[q]'(by omega))::(todo.drop (q+1)).map (KR enc):=
        List.append_inj hl2 (by simp;omega)
      obtain ⟨k1,k2⟩:=hk
      simp only [List.cons.injEq,KR,Prod.mk.injEq] at k2
      obtain ⟨⟨k3,k4⟩,k5⟩:=k2
      have hmem:L[q]∈es.toList:=by
        have:L[q]∈es.toList.filter (JV seen):=by rw [hsp];simp
        exact (List.mem_filter.1 this).1
      show wpL P (Sem.setObj b _ _) _ I M
      refine FP n rfl hn rfl ?_
      refine ⟨_,.inl rfl,?_⟩
      rw [k3,k4]
      refine h1 (todo.take q) (todo[q]'(by omega)) (todo.drop (q+1)) (seen.push L[q].born) hspt ?_ ⟨L[q],hmem,by simp,k3,k4⟩
      unfold Left
      rw [new_push hb hsp,List.map_append,List.map_append,k1,k5]
    by_cases hz:L.size=0
    · have hLe:L=#[]:=Array.size_eq_zero_iff.1 hz
      subst hLe
      have ht:todo=[]:=by
        unfold Left at hl
        rw [← hfl] at hl
        simpa using hl.symm
      have:((if (#[]:Array MapEntry).isEmpty=true then #[none] else #[])++Array.map some (#[]:Array MapEntry))=#[none]:=by simp
      rw [this,AE]
      show (if (Question.mapNext 1).forced=true then _ else _)
      rw [if_pos (by decide)]
      exact ⟨_,.inl rfl,h0 ht⟩
    · have : ((if L.isEmpty = true then #[none] else #[]) ++ Array.map some L) = L.map some := by
        have:L.isEmpty=false:=by simpa [Array.isEmpty] using hz
        rw [this];simp
      rw [this,AE,Array.size_map]
      show (if (Question.mapNext L.size).forced=true then _ else ∀ t,_)
      split
      · exact take 0 (by omega)
      · intro t
        exact take (t%L.size) (Nat.mod_lt _ (by omega)))
theorem stp_entry {κ : Type} {enc : κ → Value} {x : Operand} {r cl b : Nat} {es : Array MapEntry} {seen : Array Nat} {y : κ × Value} (hop : EQ ops N i = some (some d, .entry x, ty, gd)) (hg : EJ ops l gd = some true)
    (hx:BM l x=some (.pointer (some ⟨b,0,none⟩))) (hn:(b,Obj.mapIter (some r) cl seen cl)∈M) (hm:Holds I M r (.map es cl)) (hb:Borns es cl) (ha:AtEntry enc es seen y)
    (h:K ((d,.tuple #[enc y.1,y.2])::l) I M):Stp P N ops i l I M K:=
  CS hop hg (KV hx) (by
    obtain ⟨e,he,hbk,k1,k2⟩:=ha
    show wpL P (Instr.entry (rho l x) >>= fun x=>pure (Next.value x)) _ I M
    rw [AZ hx]
    refine CX ?_
    unfold Instr.entry
    show wpL P (Sem.getObj b _) _ I M
    refine ⟨_,.inl hn,rfl,?_⟩
    dsimp only [Sem.bind]
    rw [hbk]
    show wpL P (Sem.getObj r _) _ I M
    refine ⟨_,hm,rfl,?_⟩
    dsimp only [Sem.bind]
    rw [if_neg (by simp)]
    have hf:es.find? (fun x=>x.born == e.born)=some e:=by
      rw [← Array.find?_toList]
      cases hq:es.toList.find? (fun x=>x.born == e.born) with
      | none=>have:=List.find?_eq_none.1 hq e he;simp at this
      | some e'=>
        have h1:=List.find?_some hq;have h2:=List.mem_of_find?_eq_some hq
        rw [born_inj hb h2 he (by simpa using h1)]
    rw [hf]
    refine ⟨_,.inl rfl,?_⟩
    rw [k1,k2];exact h)
end
end Go.Sl
namespace Go.Sh
open Go Go.Sl
def hkCells (k:HKey):Array Value:=#[.int .i64 k.pl,.int .i64 k.so,.bool k.soil]
def KN (k:HKey):Value:=.agg (hkCells k)
def flatH:List (Nat × SK):=[(0,.i .i64),(1,.i .i64),(2,.b)]
theorem BF {P:Program} {kt:TypeId} (h:IX P 4 kt=some (3,flatH)) (hagg:DP P kt=some true):KeyOk P kt KN:=
  keyOk_flat h (by decide) hagg hkCells (fun _=>rfl) (fun _=>rfl) (fun a b=>by
    obtain ⟨a1,a2,a3⟩:=a;obtain ⟨b1,b2,b3⟩:=b
    show ((a1 == b1)&&((a2 == b2)&&((a3 == b3)&&true)))=decide ((⟨a1,a2,a3⟩:HKey)=⟨b1,b2,b3⟩)
    simp only [Bool.and_true,HKey.mk.injEq,Bool.decide_and];rfl)
def intV (h:Hs):List (HKey × Value):=h.map fun x=>(x.1,.int .i64 x.2)
theorem BQ (k:HKey) (h:Hs):(IZ k (intV h)).getD (.int .i64 0)=.int .i64 (DK k h):=by
  induction h with
  | nil=>rfl
  | cons x r ih => simp only [intV, List.map_cons, IZ, DK] at ih ⊢; split; · rfl
                   · exact ih
theorem upd_intV (k:HKey) (v:Int) (h:Hs):upd k (.int .i64 v) (intV h)=intV (IG k v h):=by
  induction h with
  | nil=>rfl
  | cons x r ih => simp only [intV, List.map_cons, upd, IG] at ih ⊢; split; · rfl
                   · rw [ih];rfl
end Go.Sh
namespace Go.Sl
open Go
def LkPr {κ:Type} [DecidableEq κ] (r:Nat) (enc:κ→Value) (k:κ) (z v:Value):Seg→Prop:=fun X=>∃ es cl kvs,X=[(r,Obj.map es cl)]∧MapIs enc es kvs∧(IZ k kvs).getD z=v
section
variable {P:Program} {N:Nat} {ops:Array Oper} {i:Nat} {l:Sl} {I:Imm} {d:Nat} {ty:TypeId} {gd:Option (Nat × Bool)} {κ:Type} [DecidableEq κ] {enc:κ→Value}
theorem EL {x y : Operand} {T kt et r : Nat} {k : κ} {z v : Value} (hop : EQ ops N i = some (some d, .lookup T x y false, ty, gd)) (hg : EJ ops l gd = some true)
    (hT:ON P T=some (kt,et)) (hK:KeyOk P kt enc) (hx:BM l x=some (.map (some r))) (hy:BM l y=some (enc k)) (hz:GQ P et=some z):∀ X,LkPr r enc k z v X→Det P N ops i l I X d v:=by
  rintro X ⟨es,cl,kvs,rfl,h1,h2⟩
  exact IK (cl:=cl) hop hg hT hK hx hy hz (.inl (by simp)) h1 h2
theorem JB {r cl:Nat} {es:Array MapEntry} {kvs:List (κ × Value)} {k:κ} {z v:Value} (h:MapB enc es cl kvs) (hv:(IZ k kvs).getD z=v):LkPr r enc k z v [(r,Obj.map es cl)]:=⟨es,cl,kvs,rfl,h.1,hv⟩
theorem GV {r cl:Nat} {es:Array MapEntry} {kvs:List (κ × Value)} {k k':κ} {z v:Value} (h:MapB enc es cl (ent k z kvs)) (hk:k'=k) (hv:(IZ k' kvs).getD z=v):LkPr r enc k' z v [(r,Obj.map es cl)]:=⟨es,cl,_,rfl,h.1,by subst hk;rw [getKv_ent];exact hv⟩
end
section
variable {P:Program} {N:Nat} {ops:Array Oper} {i:Nat} {l:Sl} {I:Imm} {M:Seg} {ty:TypeId} {gd:Option (Nat × Bool)} {K:Sl→Imm→Seg→Prop} {κ:Type} [DecidableEq κ] {enc:κ→Value}
theorem KY {x y u : Operand} {T kt et r cl : Nat} {es : Array MapEntry} {kvs : List (κ × Value)} {k : κ} {v : Value} (n : Nat) (hop : EQ ops N i = some (none, .mapUpdate T x y u, ty, gd)) (hg : EJ ops l gd = some true)
    (hT:ON P T=some (kt,et)) (hK:KeyOk P kt enc) (hx:BM l x=some (.map (some r))) (hy:BM l y=some (enc k)) (hu:BM l u=some v) (hn:M[n]?=some (r,Obj.map es cl)) (hb:MapB enc es cl kvs)
    (h:∀ es' cl',MapB enc es' cl' (upd k v kvs)→K l I (M.set n (r,Obj.map es' cl'))):Stp P N ops i l I M K:=
  CS hop hg (known3 hx hy hu) (by
    obtain ⟨his,hbo⟩:=hb
    show wpL P (Instr.mapUpdate T (rho l x) (rho l y) (rho l u) >>= fun _=>pure Next.skip) _ I M
    rw [AZ hx,AZ hy,AZ hu,AE]
    unfold Instr.mapUpdate
    rw [AE,AK (IQ hT)]
    show wpL P (Sem.getObj r _) _ I M
    refine ⟨_,.inl (List.mem_of_getElem? hn),rfl,?_⟩
    show wpL P (Instr.checkKey _ _ _ _ >>= _) _ I _
    rw [AE]
    refine hK.check _ _ _ _ _ ?_
    rw [AE]
    refine hK.find k es.toList kvs _ _ _ his ?_
    have hf:=MV k v kvs 0
    cases hkv:ED k kvs 0 with
    | none=>
      rw [hkv] at hf
      simp only at hf
      show wpL P (Sem.setObj r _ _) _ I M
      refine FP n rfl hn rfl ?_
      refine ⟨undef,.inr ⟨rfl,rfl⟩,h _ _ ⟨?_,hbo.push _ _⟩⟩
      rw [hf.1]
      exact NC his k v cl
    | some p=>
      obtain ⟨j,w⟩:=p
      rw [hkv] at hf
      simp only [Nat.sub_zero] at hf
      obtain ⟨_,h1,_,h2⟩:=hf
      obtain ⟨_,_,h3⟩:=findKv_lt k kvs 0 j w hkv
      rw [Nat.sub_zero] at h3
      obtain ⟨e,he,hek,hev⟩:=key_at his h3
      have hold:((es[j]?).map (·.key)).getD (enc k)=enc k:=by rw [he];exact hek
      show wpL P (Instr.keyThatStays (((es[j]?).map (·.key)).getD (enc k)) (enc k) >>= _) _ I M
      rw [AE,hold]
      refine OH ?_
      show wpL P (Sem.setObj r _ _) _ I M
      refine FP n rfl hn rfl ?_
      refine ⟨undef,.inr ⟨rfl,rfl⟩,h _ _ ⟨?_,hbo.modify _ _ (fun _=>rfl)⟩⟩
      rw [h1]
      exact mapIs_set his j k v _ rfl)
end
end Go.Sl
namespace Go.Sh
open Go Go.Sl
def MapH (es:Array MapEntry) (cl:Nat) (H:Hs):Prop:=MapB KN es cl (intV H)∧(H.map Prod.fst).Nodup
def EntH (es:Array MapEntry) (cl:Nat) (H:Hs) (k:HKey) (st:Nat):Prop:=MapB KN es cl (ent k (.int .i64 0) (intV H))∧Stamp es (ent k (.int .i64 0) (intV H)) st k∧(H.map Prod.fst).Nodup
theorem MapH.nil (cl:Nat):MapH #[] cl []:=⟨MapB.nil _ _,by simp⟩
theorem putH_keys (k:HKey) (v:Int):∀ H:Hs,(IG k v H).map Prod.fst=if k∈H.map Prod.fst then H.map Prod.fst else H.map Prod.fst++[k]:=by
  intro H
  induction H with
  | nil=>rfl
  | cons x r ih=>
    simp only [IG]
    by_cases h:x.1=k
    · simp [h]
    · rw [if_neg h]
      simp only [List.map_cons,ih,List.mem_cons,Ne.symm h,false_or]
      split <;> simp
theorem putH_once {k:HKey} {v:Int} {H:Hs} (h:(H.map Prod.fst).Nodup):((IG k v H).map Prod.fst).Nodup:=by
  rw [putH_keys]
  split
  · exact h
  · rename_i hk
    exact List.nodup_append.2 ⟨h,by simp,fun a ha b hb=>by
      simp only [List.mem_singleton] at hb
      intro e;rw [e,hb] at ha;exact hk ha⟩
theorem getH_mem {H:Hs} (h:(H.map Prod.fst).Nodup) {x:HKey × Int} (hx:x∈H):DK x.1 H=x.2:=by
  induction H with
  | nil=>cases hx
  | cons y r ih=>
    rw [List.map_cons,List.nodup_cons] at h;simp only [DK];rcases List.mem_cons.1 hx with rfl | hx
    · rw [if_pos rfl]
    · rw [if_neg (fun e=>h.1 (by rw [e];exact List.mem_map_of_mem hx)),ih h.2 hx]
theorem mem_getH {H:Hs} {k:HKey} (h:DK k H≠0):(k,DK k H)∈H:=by
  induction H with
  | nil=>exact absurd rfl h
  | cons y r ih=>
    simp only [DK] at h ⊢
    by_cases e:y.1=k
    · rw [if_pos e];subst e;exact List.mem_cons_self
    · rw [if_neg e] at h ⊢;exact List.mem_cons_of_mem _ (ih h)
theorem falls_iff {h g:Hs} (hg:(g.map Prod.fst).Nodup):falls h g=true↔∃ k,DK k g<0∧0≤DK k h:=by
  unfold falls;simp only [List.any_eq_true,Bool.and_eq_true,decide_eq_true_eq]
  constructor
  · rintro ⟨x,hx,h1,h2⟩;exact ⟨x.1,by rw [getH_mem hg hx];exact h1,h2⟩
  · rintro ⟨k,h1,h2⟩;exact ⟨_,mem_getH (by omega),h1,h2⟩
def Negs (ks:List HKey) (H:Hs):Prop:=∀ k,k∈ks↔DK k H<0
end Go.Sh
namespace Go.Sl
open Go Go.Sh
section
variable {P:Program} {N:Nat} {ops:Array Oper} {i:Nat} {l:Sl} {I:Imm} {M:Seg} {ty:TypeId} {gd:Option (Nat × Bool)} {K:Sl→Imm→Seg→Prop} {d:Nat}
theorem stp_putH {x y u : Operand} {T kt et r cl : Nat} {es : Array MapEntry} {H : Hs} {k : HKey} {v : Int} (n : Nat) (hop : EQ ops N i = some (none, .mapUpdate T x y u, ty, gd)) (hg : EJ ops l gd = some true)
    (hT:ON P T=some (kt,et)) (hK:KeyOk P kt KN) (hx:BM l x=some (.map (some r))) (hy:BM l y=some (KN k)) (hu:BM l u=some (.int .i64 v)) (hn:M[n]?=some (r,Obj.map es cl)) (hb:MapH es cl H)
    (h:∀ es' cl',MapH es' cl' (IG k v H)→K l I (M.set n (r,Obj.map es' cl'))):Stp P N ops i l I M K:=
  KY n hop hg hT hK hx hy hu hn hb.1 fun es' cl' h'=>h es' cl' ⟨upd_intV k v H▸h',putH_once hb.2⟩
theorem HX {x y : Operand} {T kt et r cl : Nat} {es : Array MapEntry} {H : Hs} {k : HKey} (n : Nat) (hop : EQ ops N i = some (some d, .mapEntry T x y, ty, gd)) (hg : EJ ops l gd = some true)
    (hT:ON P T=some (kt,et)) (hK:KeyOk P kt KN) (hx:BM l x=some (.map (some r))) (hy:BM l y=some (KN k)) (hz:GQ P et=some (.int .i64 0)) (hn:M[n]?=some (r,Obj.map es cl)) (hb:MapH es cl H)
    (h:∀ es' cl' (st:Nat),EntH es' cl' H k st→K ((d,.tuple #[.int .i64 (DK k H),.int .i64 (st:Int)])::l) I (M.set n (r,Obj.map es' cl'))):Stp P N ops i l I M K:=
  OE n hop hg hT hK hx hy hz hn hb.1 fun es' cl' st h1 h2=>by
    rw [BQ];exact h es' cl' st ⟨h1,h2,hb.2⟩
theorem GN {x y u : Operand} {T r cl st : Nat} {es : Array MapEntry} {H : Hs} {k : HKey} {v : Int} (n : Nat) (hop : EQ ops N i = some (none, .entryStore T x y u, ty, gd)) (hg : EJ ops l gd = some true)
    (hx:BM l x=some (.map (some r))) (hy:BM l y=some (.int .i64 (st:Int))) (hu:BM l u=some (.int .i64 v)) (hn:M[n]?=some (r,Obj.map es cl)) (hb:EntH es cl H k st)
    (h:∀ es',MapH es' cl (IG k v H)→K l I (M.set n (r,Obj.map es' cl))):Stp P N ops i l I M K:=
  KX (k:=k) n hop hg hx hy hu hn hb.1 hb.2.1 fun es' h'=>h es' ⟨by rw [upd_ent,upd_intV] at h';exact h',putH_once hb.2.2⟩
theorem map_cut {α β:Type} {f:α→β} {l:List α} {A B:List β} {y:β} (h:l.map f=A++y::B):∃ A' y' B',l=A'++y'::B'∧A=A'.map f∧y=f y'∧B=B'.map f:=by
  obtain ⟨A',R,rfl,h1,h2⟩:=List.map_eq_append_iff.1 h;obtain ⟨y',B',rfl,h3,h4⟩:=List.map_eq_cons_iff.1 h2;exact ⟨A',y',B',rfl,h1.symm,h3.symm,h4.symm⟩
theorem stp_nextH {x : Operand} {r cl b : Nat} {es : Array MapEntry} {seen : Array Nat} {todo : Hs} (n : Nat) (hop : EQ ops N i = some (some d, .next x false, ty, gd)) (hg : EJ ops l gd = some true)
    (hx:BM l x=some (.pointer (some ⟨b,0,none⟩))) (hn:M[n]?=some (b,Obj.mapIter (some r) cl seen cl)) (hm:Holds I M r (.map es cl)) (hb:Borns es cl) (hl:Left KN es seen (intV todo))
    (h0:todo=[]→K ((d,.tuple #[.bool false])::l) I M)
    (h1:∀ A (y:HKey × Int) B seen',todo=A++y::B→Left KN es seen' (intV (A++B))→AtEntry KN es seen' (y.1,.int .i64 y.2)→K ((d,.tuple #[.bool true,KN y.1,.int .i64 y.2])::l) I (M.set n (b,Obj.mapIter (some r) cl seen' cl))):Stp P N ops i l I M K:=
  stp_next n hop hg hx hn hm hb hl (fun h=>h0 (by simpa [intV] using h)) fun A y B seen' e hl' ha=>by
    obtain ⟨A',y',B',rfl,rfl,rfl,rfl⟩:=map_cut (show todo.map _=A++y::B from e);exact h1 A' y' B' seen' rfl (by simpa [intV] using hl') ha
theorem stp_nextK {x : Operand} {r cl b : Nat} {es : Array MapEntry} {seen : Array Nat} {todo : List HKey} (n : Nat) (hop : EQ ops N i = some (some d, .next x false, ty, gd)) (hg : EJ ops l gd = some true)
    (hx:BM l x=some (.pointer (some ⟨b,0,none⟩))) (hn:M[n]?=some (b,Obj.mapIter (some r) cl seen cl)) (hm:Holds I M r (.map es cl)) (hb:Borns es cl) (hl:Left KN es seen (KS todo))
    (h0:todo=[]→K ((d,.tuple #[.bool false])::l) I M)
    (h1:∀ A (y:HKey) B seen',todo=A++y::B→Left KN es seen' (KS (A++B))→AtEntry KN es seen' (y,.bool true)→K ((d,.tuple #[.bool true,KN y,.bool true])::l) I (M.set n (b,Obj.mapIter (some r) cl seen' cl))):Stp P N ops i l I M K:=
  stp_next n hop hg hx hn hm hb hl (fun h=>h0 (by simpa [KS] using h)) fun A y B seen' e hl' ha=>by
    obtain ⟨A',y',B',rfl,rfl,rfl,rfl⟩:=map_cut (show todo.map _=A++y::B from e);exact h1 A' y' B' seen' rfl (by simpa [KS] using hl') ha
theorem stp_setTrue {x y u : Operand} {T kt et r cl : Nat} {es : Array MapEntry} {ks : List HKey} {k : HKey} (n : Nat) (hop : EQ ops N i = some (none, .mapUpdate T x y u, ty, gd)) (hg : EJ ops l gd = some true)
    (hT:ON P T=some (kt,et)) (hK:KeyOk P kt KN) (hx:BM l x=some (.map (some r))) (hy:BM l y=some (KN k)) (hu:BM l u=some (.bool true)) (hn:M[n]?=some (r,Obj.map es cl)) (hb:MapB KN es cl (KS ks))
    (h:∀ es' cl',MapB KN es' cl' (KS (if k∈ks then ks else ks++[k]))→K l I (M.set n (r,Obj.map es' cl'))):Stp P N ops i l I M K:=
  KY n hop hg hT hK hx hy hu hn hb fun es' cl' h'=>h es' cl' (by rw [upd_trues] at h';exact h')
end
end Go.Sl
namespace Go.Sh
open Go Go.Sl
def IsBook (T:TypeId) (I:Imm) (b:Nat) (v1 v2 v3:Value) (r:Nat) (L:Lin):Prop:=
  I.blk b=some (Obj.cells #[.int .i64 L.places,.int .i64 L.sorts,v1,v2,v3,.map (some r)] T (0,0))∧IsRows I v1 L.start∧IsKeeps I v2 L.keeps∧KZ I v3 L.slips
theorem IsBook.mono {T:TypeId} {I J:Imm} {b:Nat} {v1 v2 v3:Value} {r:Nat} {L:Lin} (h:IsBook T I b v1 v2 v3 r L) (le:I.le J):IsBook T J b v1 v2 v3 r L:=
  ⟨le.blk _ _ h.1,h.2.1.mono le,h.2.2.1.mono le,h.2.2.2.mono le⟩
def NegP (ks:List HKey) (dn:Hs):Prop:=∀ k,k∈ks↔∃ x∈dn,x.1=k∧x.2<0
section
variable {ks:List HKey} {dn A B todo H:Hs} {y:HKey × Int}
theorem NegP.nil:NegP [] []:=fun k=>by simp
theorem NegP.skip (h:NegP ks dn) (hy:¬ y.2<0):NegP ks (dn++[y]):=fun k=>by
  rw [h k]
  constructor
  · rintro ⟨x,hx,h1⟩;exact ⟨x,by simp [hx],h1⟩
  · rintro ⟨x,hx,h1,h2⟩
    rcases List.mem_append.1 hx with hx | hx
    · exact ⟨x,hx,h1,h2⟩
    · simp only [List.mem_singleton] at hx;subst hx;exact absurd h2 hy
theorem NegP.add (h:NegP ks dn) (hy:y.2<0):NegP (if y.1∈ks then ks else ks++[y.1]) (dn++[y]):=fun k=>by
  have e:k∈(if y.1∈ks then ks else ks++[y.1])↔k∈ks∨k=y.1:=by
    split
    · rename_i hk;exact ⟨.inl,fun q=>q.elim id (fun e=>e▸hk)⟩
    · simp
  rw [e,h k]
  constructor
  · rintro (⟨x,hx,h1⟩ | rfl)
    · exact ⟨x,by simp [hx],h1⟩
    · exact ⟨y,by simp,rfl,hy⟩
  · rintro ⟨x,hx,h1,h2⟩
    rcases List.mem_append.1 hx with hx | hx
    · exact .inl ⟨x,hx,h1,h2⟩
    · simp only [List.mem_singleton] at hx;subst hx;exact .inr h1.symm
theorem perm_took (h:(dn++todo).Perm H) (e:todo=A++y::B):((dn++[y])++(A++B)).Perm H:=by
  subst e;refine List.Perm.trans ?_ h;rw [List.append_assoc];exact List.Perm.append_left _ (List.perm_middle (l₁:=A)).symm
theorem took_len (e:todo=A++y::B):(A++B).length<todo.length:=by subst e;simp
theorem NegP.done (h:NegP ks dn) (hp:(dn++todo).Perm H) (he:todo=[]) (hn:(H.map Prod.fst).Nodup):Negs ks H:=fun k=>by
  subst he;rw [List.append_nil] at hp;rw [h k]
  constructor
  · rintro ⟨x,hx,rfl,h2⟩;rw [getH_mem hn (hp.mem_iff.1 hx)];exact h2
  · intro hk;exact ⟨_,hp.mem_iff.2 (mem_getH (by omega)),rfl,hk⟩
end
end Go.Sh
namespace Go.Sl
open Go
def IterP {α:Type} (P:Program) (gf:FuncId) (cv:List Value) (enc:α→List Value) (seq:List α) (R:List α→Imm→Seg→Prop) (I0:Imm):Prop:=
  ∀ (L:Nat) (Cl Sp:List α→Imm→Seg→Prop),(∀ xs I J M,I.le J→Cl xs I M→Cl xs J M) →
    (∀ xs x I Mr M,(xs++[x]) <+: seq→I0.le I→R (xs++[x]) I Mr→Cl xs I M→Yt P L (enc x).toArray I (Mr++M) (fun v I' M'=>(v=.bool true∧∃ Mr' M2,M'=Mr'++M2∧R (xs++[x]) I' Mr'∧Cl (xs++[x]) I' M2)∨(v=.bool false∧Sp (xs++[x]) I' M'))) →
    ∀ I Mr M,I0.le I→R [] I Mr→Cl [] I M→Ct P gf (.func (.yield L) #[] #[]::cv).toArray I (Mr++M) (fun _ I' M'=>(∃ Mr' M2,M'=Mr'++M2∧R seq I' Mr'∧Cl seq I' M2)∨(∃ xs,Sp xs I' M'))
section
variable {ρ:Option Nat} {P:Program} {N:Nat} {ops:Array Oper} {i:Nat} {l:Sl} {I:Imm} {R M:Seg} {ty:TypeId} {gd:Option (Nat × Bool)} {K:Sl→Imm→Seg→Prop} {Q:Exit→Act→World→Prop} {ds:List Deferred}
theorem run_rangeFuncP {α : Type} {c : Code} {g : Operand} {ps : Array Tmp} {assign body : Code} {gf : FuncId} {cv : List Value} {enc : α → List Value} {seq : List α} {R : List α → Imm → Seg → Prop} {Mr M0 F0 : Seg}
    (Cl:List α→Imm→Seg→Prop) (Sp:Code→List α→Imm→Seg→Prop) (sl:α→Nat→Sl) (mm:α→Nat→Seg)
    (hc:c=.rangeFunc g ps assign body) (hg:BM l g=some (.func (.func gf) #[] cv.toArray)) (hcall:CB P gf=true) (hps:∀ x,(enc x).length=ps.size) (hpN:ps.all (fun t=>Nat.blt t N)=true)
    (it:IterP P gf cv enc seq R I)
    (hmono:∀ xs I J M,I.le J→Cl xs I M→Cl xs J M)
    (hM:M.Perm (Mr++(M0++F0))) (hr:R [] I Mr) (h0:Cl [] I M0)
    (hassign:∀ L x I1 M1,Run (ρ:=some L) P N assign (Exit.then (fun a w=>∃ k,Slots N (sl x k) a∧a.defers=[]∧St I1 (mm x k++M1) w) (fun _ _ _=>False)) [] (putAll (ps.toList.zip (enc x)) l) I1 M1)
    (hbody:∀ L x k xs I1 Mr1 M1 F1,(xs++[x]) <+: seq→I.le I1→R (xs++[x]) I1 Mr1→Cl xs I1 M1 →
      Run (ρ:=some L) P N body (RoundQ I1 (fun o I' M'=>match o with | none=>∃ Mr' M2,M'=Mr'++M2∧R (xs++[x]) I' Mr'∧Cl (xs++[x]) I' M2 | some c=>Sp c (xs++[x]) I' M') F1) [] (sl x k) I1 (mm x k++(Mr1++(M1++F1))))
    (hdone:∀ D I' Mr' M',I.le I'→R seq I' Mr'→Cl seq I' M'→Pst N Q .normal (mark D::ds) l I' ((D,.deferred (some []))::(Mr'++(M'++F0))))
    (hstop:∀ D c xs I' M',I.le I'→Sp c xs I' M'→Run (ρ:=none) P N c Q (mark D::ds) l I' ((D,.deferred (some []))::(M'++F0))) :
    Run (ρ:=none) P N c Q ds l I M:=by
  subst hc;intro a w hS hD hW;refine wpIn_rangeFunc fun fn _=>?_
  obtain ⟨rec,hrec⟩:∃ rec:LoopState→Option Code→Loop,rec=fun st pe=>{ state:=st,pending:=pe,fn,tmps:=a.tmps,params:=ps,assign,body,defers:=w.heap.size }:=⟨_,rfl⟩
  have hW2:St I ((w.heap.size+1,.loop (rec .ready none))::(w.heap.size,.deferred (some []))::(Mr++(M0++F0))) ((w.alloc (.deferred (some []))).alloc (.loop (rec .ready none))):=by
    have h1:=(hW.perm hM).new (.deferred (some []));have h2:=h1.new (.loop (rec .ready none));have e:(w.heap.push (Obj.deferred (some []))).size=w.heap.size+1:=by simp
    rw [e] at h2;exact h2
  generalize hw1:((w.alloc (.deferred (some []))).alloc (.loop (rec .ready none)))=w1 at hW2
  refine ⟨w.heap.size+1,[mark w.heap.size],w1,{ target:=.fn (.func gf) cv.toArray,args:=#[.func (.yield (w.heap.size+1)) #[] #[]] },w1,gf,(.func (.yield (w.heap.size+1)) #[] #[]::cv).toArray,w1,?_,?_,fun _ _=>trivial,?_,fun h=>by simp [fen,Fence.wide] at h,?_⟩
  · rw [← hw1,hrec];exact run_enterLoop_outer _ _ _ _ _
  · unfold resolve
    simp only [MU hS hg,Deferred.ofValue];simp [Act.eval,pure,Sem.run]
  · show (callFunc gf (#[Value.func (.yield (w.heap.size+1)) #[] #[]]++cv.toArray)).run P w1=_
    rw [FN hcall];simp
  · refine callsIn_fen.2 ?_
    clear hw1 hW
    generalize w.heap.size+1=L at hW2 hrec ⊢
    generalize w.heap.size=D at hW2 hrec ⊢
    have hit:=it L (fun xs I M=>∃ M0,M=(L,.loop (rec .ready none))::(D,.deferred (some []))::M0∧Cl xs I M0)
      (fun xs I M=>∃ c M0,M=(L,.loop (rec .done (some c)))::(D,.deferred (some []))::M0∧Sp c xs I M0)
      (fun xs I J M le ⟨M0,e,h⟩=>⟨M0,e,hmono xs I J M0 le h⟩) ?_ I Mr ((L,.loop (rec .ready none))::(D,.deferred (some []))::M0) (Imm.le.refl I) hr ⟨M0,rfl,h0⟩
    · refine (hit F0 w1 (hW2.perm ?_)).mono ?_
      · rw [List.append_assoc]
        exact ((List.perm_middle (l₁:=Mr)).trans (.cons _ (List.perm_middle (l₁:=Mr)))).symm
      · rintro e w' ⟨v,I',M',rfl,hle,hp,st⟩
        rcases hp with ⟨Mr',M2,rfl,hR,M3,rfl,hcl⟩ | ⟨xs,c,M3,rfl,hsp⟩
        · have st2 := st.perm (show ((Mr' ++ ((L, Obj.loop (rec .ready none)) :: (D, .deferred (some [])) :: M3)) ++ F0).Perm ((L, Obj.loop (rec .ready none)) :: (D, .deferred (some [])) :: (Mr' ++ (M3 ++ F0))) by
            rw [List.append_assoc]
            exact (List.perm_middle (l₁:=Mr')).trans (.cons _ (List.perm_middle (l₁:=Mr'))))
          have hl:=st2.mem _ _ List.mem_cons_self;refine ⟨none,_,by have:=run_endLoop (P:=P) hl (by rw [hrec];simp);rw [hrec] at this;exact this,?_⟩;refine hdone D I' Mr' M3 hle hR hcl _ _ ⟨hS.size,hS.get⟩ (by show [mark D]++a.defers=_;rw [hD];rfl) ?_;exact (St.putObj st2).drop
        · have hl:=st.mem (L) (.loop (rec .done (some c))) (by simp)
          refine ⟨some c,_,by have:=run_endLoop (P:=P) hl (by rw [hrec];simp);rw [hrec] at this;exact this,?_⟩;refine hstop D c xs I' M3 hle hsp _ _ ⟨hS.size,hS.get⟩ (by show [mark D]++a.defers=_;rw [hD];rfl) ?_;exact (St.putObj (M:=(D,Obj.deferred (some []))::(M3++F0)) st).drop
    · rintro xs x I1 Mr1 M1' hpre hle hR ⟨M1,rfl,hcl⟩ F1 w2 st
      have hl:=st.mem L (.loop (rec .ready none)) (by simp);have hy:=run_yield (P:=P) (args:=(enc x).toArray) hl (by rw [hrec];simpa using hps x);rw [hrec] at hy;refine ⟨_,_,assign,body,hy,roundIn_of_wpIn (F:=fen none) trivial ?_⟩;have hfold:((ps.zip (enc x).toArray).foldl (fun tmps (t,a)=>tmps.setIfInBounds t a) a.tmps)=(ps.toList.zip (enc x)).foldl (fun t (x:Tmp × Value)=>t.setIfInBounds x.1 x.2) a.tmps:=by
        rw [← Array.foldl_toList];simp
      simp only;rw [hfold];refine wpIn_mono (hassign L x I1 _ _ w2 (NM (ps.toList.zip (enc x)) l a.tmps ⟨hS.size,hS.get⟩ ?_) rfl st) ?_
      · intro y hy'
        have:=(List.of_mem_zip (show (y.1,y.2)∈ps.toList.zip (enc x) from hy')).1;have h3:=Array.all_eq_true'.1 hpN y.1 (by simpa using this);exact Nat.le_of_ble_eq_true h3
      · rintro e a1 w3 hq
        cases e with
        | normal=>
          obtain ⟨k,hS3,hD3,st3⟩:=hq;have st4:St I1 ((L,.loop (rec .ready none))::(mm x k++(Mr1++(M1++((D,.deferred (some []))::F1))))) w3:=st3.perm ((List.Perm.append_left (mm x k) perm3).trans List.perm_middle);have hl3:=st4.mem L (.loop (rec .ready none)) List.mem_cons_self;refine ⟨_,run_beginRound hl3 (by rw [hrec]),?_⟩;have st5:St I1 (mm x k++(Mr1++(M1++((L,.loop { rec .ready none with state:=.busy })::(D,.deferred (some []))::F1)))) (w3.putObj L (.loop { rec .ready none with state:=.busy })):=by
            refine (St.putObj st4).perm ?_;refine (List.perm_middle (l₁:=mm x k)).symm.trans (List.Perm.append_left (mm x k) ?_);have:=(perm3 (A:=Mr1) (B:=M1) (C:=F1) (x:=(L,Obj.loop { rec .ready none with state:=.busy })) (y:=(D,Obj.deferred (some [])))).symm;refine this.trans ?_;rw [List.append_assoc];refine List.Perm.append_left Mr1 ?_;show ((L,Obj.loop { rec .ready none with state:=.busy })::(D,.deferred (some []))::(M1++F1)).Perm _;exact ((List.perm_middle (l₁:=M1)).trans (.cons _ (List.perm_middle (l₁:=M1)))).symm
          refine wpIn_mono (hbody L x k xs I1 Mr1 M1 _ hpre hle hR hcl a1 _ hS3 hD3 st5) ?_
          have fin : ∀ (jump : Option Code) (I' : Imm) (M' : Seg) (w6 : World), St I' (M' ++ ((L, .loop { rec .ready none with state := .busy }) :: (D, .deferred (some [])) :: F1)) w6 →
              (Instr.endRound L jump).run P w6=.ok (.bool jump.isNone) (w6.putObj L (.loop (rec (if jump.isNone then .ready else .done) jump))) ∧
              St I' ((L,.loop (rec (if jump.isNone then .ready else .done) jump))::(M'++((D,.deferred (some []))::F1))) (w6.putObj L (.loop (rec (if jump.isNone then .ready else .done) jump))):=fun jump I' M' w6 st6=>by
            have st7:=st6.perm perm4;have hl7:=st7.mem _ _ List.mem_cons_self;have:=run_endRound (P:=P) jump hl7;rw [hrec] at this ⊢;exact ⟨this,by rw [hrec] at st7;exact St.putObj st7⟩
          rintro e a6 w6 hq6
          have stop : ∀ (c : Code), (∃ I' M', I1.le I' ∧ Sp c (xs ++ [x]) I' M' ∧ St I' (M' ++ ((L, .loop { rec .ready none with state := .busy }) :: (D, .deferred (some [])) :: F1)) w6) →
              ∃ v w',(Instr.endRound L (some c)).run P w6=.ok v w'∧RQ I1 (fun v I' M'=>(v=.bool true∧∃ Mr' M2,M'=Mr'++M2∧R (xs++[x]) I' Mr'∧∃ M0,M2=(L,.loop (rec .ready none))::(D,.deferred (some []))::M0∧Cl (xs++[x]) I' M0) ∨
                (v=.bool false∧∃ c M0,M'=(L,.loop (rec .done (some c)))::(D,.deferred (some []))::M0∧Sp c (xs++[x]) I' M0)) F1 (.returned v) w':=by
            rintro c ⟨I',M',hle',hp,st6⟩
            obtain ⟨h1,h2⟩:=fin (some c) I' M' w6 st6;exact ⟨_,_,h1,_,I',_,rfl,hle',.inr ⟨rfl,c,M',rfl,hp⟩,h2.perm (.cons _ List.perm_middle)⟩
          cases e with
          | normal=>
            obtain ⟨I',M',hle',⟨Mr',M2,rfl,hR',hcl'⟩,st6⟩:=hq6;obtain ⟨h1,h2⟩:=fin none I' _ w6 st6;refine ⟨_,_,h1,_,I',_,rfl,hle',.inl ⟨rfl,Mr',_,rfl,hR',M2,rfl,hcl'⟩,h2.perm ?_⟩;rw [List.append_assoc];exact perm3.symm
          | ret=>exact stop .ret hq6
          | exit id=>exact stop (.exit id) hq6
          | goto t=>exact stop (.goto t) hq6
          | panic ch=>exact hq6.elim
          | outgrown=>exact hq6.elim
        | exit id=>exact hq.elim
        | goto t=>exact hq.elim
        | ret=>exact hq.elim
        | panic ch=>exact hq.elim
        | outgrown=>exact hq.elim
end
section
variable {P:Program} {N:Nat} {ops:Array Oper} {i:Nat} {l:Sl} {I:Imm} {M:Seg} {ty:TypeId} {gd:Option (Nat × Bool)} {K:Sl→Imm→Seg→Prop}
theorem call_runB {f : Operand} {fid : FuncId} {args : Array Operand} {tys : Array TypeId} {fs vals cv : List Value} {ρ : Operand → Value} {w : World} (hf : ρ f = .func (.func fid) fs.toArray cv.toArray) (hvals : args.toList.map ρ = vals) (hc : CB P fid = true) :
    (JH ρ (.call { callee:=.value f,args,argTypes:=tys }) ty).run P w=.ok (.enter fid (fs++vals++cv).toArray) w:=by
  have e:args.map ρ=vals.toArray:=by apply Array.ext';simp [hvals]
  show (do let d ← resolve ρ { callee:=.value f,args,argTypes:=tys } ty;invoke d.target d.args:Sem Next).run P w=_;unfold resolve;simp only [e,hf,Deferred.ofValue];show (callFunc fid ((fs.toArray++vals.toArray)++cv.toArray)).run P w=_;rw [FN hc];simp
theorem stp_callB {d : Option Tmp} {f : Operand} {fid : FuncId} {args : Array Operand} {tys : Array TypeId} {fs vals cv : List Value} {pre F : Seg} {post : Value → Imm → Seg → Prop} {argv : Array Value}
    (hop:EQ ops N i=some (d,.call { callee:=.value f,args,argTypes:=tys },ty,gd)) (hg:EJ ops l gd=some true) (hf:BM l f=some (.func (.func fid) fs.toArray cv.toArray)) (hv:LJ l args.toList=some vals)
    (hc:CB P fid=true) (ha:(fs++vals++cv).toArray=argv) (ct:Ct P fid argv I pre post) (hM:M.Perm (pre++F))
    (h:∀ v I' M',I.le I'→post v I' M'→K (ups d v l) I' (M'++F)):Stp P N ops i l I M K:=by
  obtain ⟨o,ho,rfl,he,rfl,rfl,hN,hs⟩:=FU hop;obtain ⟨h1,h2⟩:=FL hv;refine ⟨o,ho,hN,hs,hg,?_,fun w st=>?_⟩
  · rw [he]
    intro x hx;simp only [Op.operands,Call.operands] at hx;rcases Array.mem_append.1 hx with hx | hx
    · simp at hx;subst hx;exact CR hf
    · exact h1 x (by simpa using hx)
  · rw [FQ,he,call_runB (AZ hf) h2 hc,ha]
    refine (ct F w (st.perm hM)).mono fun e w' ⟨v,I',M',hv',hle,hp,st'⟩=>?_
    exact ⟨v,hv',I',M'++F,hle,st',h v I' M' hle hp⟩
end
end Go.Sl
namespace Go.Sh
open Go Go.Sl
def doFn (g:Int→FuncId) (b:Nat) (k:Int):Value:=.func (.func (g k)) #[.pointer (some ⟨b,0,none⟩)] #[]
def fnTab (g:Int→FuncId) (b:Nat):List (Int × Value):=[(1,doFn g b 1),(2,doFn g b 2),(3,doFn g b 3),(4,doFn g b 4),(5,doFn g b 5),(6,doFn g b 6)]
theorem getKv_fn {g:Int→FuncId} {b:Nat} {k:Int} (h1:1≤k) (h2:k≤6):(IZ k (fnTab g b)).getD .nilFunc=doFn g b k:=by
  have:k=1∨k=2∨k=3∨k=4∨k=5∨k=6:=by omega
  rcases this with rfl | rfl | rfl | rfl | rfl | rfl <;> rfl
section
variable {s:Slip} {H:Hs}
theorem doSlip_1 (e:s.kind=1):doSlip s H=MR ⟨s.to,s.sort,s.soil⟩ s.amt (MR ⟨s.place,s.sort,s.soil⟩ (-s.amt) H):=by unfold doSlip;rw [if_pos e]
theorem doSlip_2 (e:s.kind=2):doSlip s H=MR ⟨s.place,s.sort,true⟩ s.amt (MR ⟨s.place,s.sort,false⟩ (-s.amt) H):=by unfold doSlip;rw [if_neg (by omega),if_pos e]
theorem doSlip_3 (e:s.kind=3):doSlip s H=MR ⟨s.place,s.sort,false⟩ s.amt (MR ⟨s.place,s.sort,true⟩ (-s.amt) H):=by unfold doSlip;rw [if_neg (by omega),if_neg (by omega),if_pos e]
theorem doSlip_4 (e:s.kind=4):doSlip s H=IG ⟨s.place,s.sort,s.soil⟩ s.amt H:=by unfold doSlip;rw [if_neg (by omega),if_neg (by omega),if_neg (by omega),if_pos e];rfl
theorem doSlip_5 (e:s.kind=5):doSlip s H=MR ⟨s.place,s.sort,false⟩ s.amt H:=by unfold doSlip;rw [if_neg (by omega),if_neg (by omega),if_neg (by omega),if_neg (by omega),if_pos e]
theorem doSlip_6 (e:s.kind=6):doSlip s H=MR ⟨s.place,s.sort,true⟩ (-s.amt) H:=by unfold doSlip;rw [if_neg (by omega),if_neg (by omega),if_neg (by omega),if_neg (by omega),if_neg (by omega)]
end
structure GoodS (l:List Slip):Prop where
  len:l.length<20
  ok:∀ s∈l,(1≤s.kind∧s.kind≤6)∧(0≤s.amt∧s.amt≤50)∧NS s
theorem GoodS.sub {l l':List Slip} (h:GoodS l) (hl:l'.length≤l.length) (hm:∀ x∈l',x∈l):GoodS l':=⟨Nat.lt_of_le_of_lt hl h.len,fun s hs=>h.ok s (hm s hs)⟩
theorem GoodS.perm {l l':List Slip} (h:GoodS l) (p:l'.Perm l):GoodS l':=h.sub (Nat.le_of_eq p.length_eq) fun x hx=>p.subset hx
theorem GoodS.sorted {l:List Slip} (h:GoodS l):GoodS (AJ AC l):=h.perm (EE l)
theorem GoodS.small {l:List Slip} (h:GoodS l):∀ x∈l,NS x:=fun x hx=>(h.ok x hx).2.2
section
variable {S:List Slip} {H:Hs} {k:Nat}
theorem HA:∀ {S:List Slip} {H:Hs},(evs H S).length=S.length:=by
  intro S
  induction S with
  | nil=>intro H;rfl
  | cons s r ih=>intro H;simp only [evs,List.length_cons,ih]
theorem evs_take:∀ {S:List Slip} {H:Hs} {k:Nat},k<S.length→(evs H S).take (k+1)=(evs H S).take k++[evOf (aft H (S.take k)) (S.getD k AD)]:=by
  intro S
  induction S with
  | nil=>intro H k h;simp at h
  | cons s r ih=>
    intro H k h;cases k with
    | zero=>rfl
    | succ k=>
      have:=ih (H:=doSlip s H) (k:=k) (by simpa using h);simp only [evs,List.take_succ_cons,this,List.cons_append];rfl
theorem aft_take (h:k<S.length):aft H (S.take (k+1))=doSlip (S.getD k AD) (aft H (S.take k)):=by
  rw [DI (d:=AD) h];unfold aft;rw [List.foldl_append];rfl
theorem aft_within {B:Int} (hB:0≤B) (hg:∀ s∈S,0≤s.amt∧s.amt≤50):∀ {H:Hs},Within B H→Within (B+100*S.length) (aft H S):=by
  induction S generalizing B with
  | nil=>intro H h;simpa [aft] using h
  | cons s r ih=>
    intro H h;have h1:=hg s (by simp);have:=ih (B:=B+100) (by omega) (fun x hx=>hg x (by simp [hx])) (h.doSlip h1.1 h1.2 hB);rw [show B+100*((s::r).length:Int)=B+100+100*(r.length:Int) by rw [List.length_cons];omega];exact this
theorem Within.mono {B B':Int} {H:Hs} (h:Within B H) (hb:B≤B'):Within B' H:=fun k=>by have:=h k;omega
theorem GoodS.within (hg:GoodS S) (h:Within 1000 H) (k:Nat):Within 100000 (aft H (S.take k)):=by
  have hl:=hg.len;refine (aft_within (by omega) (fun s hs=>(hg.ok s (List.mem_of_mem_take hs)).2.1) h).mono ?_;have:(S.take k).length≤S.length:=by rw [List.length_take];omega
  omega
end
theorem below_of {ks0 ks1:List HKey} {h g:Hs} {dn td:List HKey} (h0:Negs ks0 h) (h1:Negs ks1 g) (hp:(dn++td).Perm ks1) (ht:td=[]) (hn:(g.map Prod.fst).Nodup):(dn.any fun k=>!decide (k∈ks0))=falls h g:=by
  subst ht;rw [List.append_nil] at hp;rw [Bool.eq_iff_iff,falls_iff hn];simp only [List.any_eq_true,Bool.not_eq_true',decide_eq_false_iff_not]
  constructor
  · rintro ⟨k,hk,hk2⟩
    exact ⟨k,(h1 k).1 (hp.mem_iff.1 hk),Int.not_lt.1 fun hlt=>hk2 ((h0 k).2 hlt)⟩
  · rintro ⟨k,hk,hk2⟩
    exact ⟨k,hp.mem_iff.2 ((h1 k).2 hk),fun hm=>by have:=(h0 k).1 hm;omega⟩
theorem any_snoc {α:Type} {p:α→Bool} {l:List α} {x:α}:(l++[x]).any p=(l.any p||p x):=by simp
def EvR (r:Nat) (H:Hs) (S:List Slip) (n:Nat) (M:Seg):Prop:=∃ es cl,M=[(r,Obj.map es cl)]∧MapH es cl (aft H (S.take n))
def encEv (e:Event):List Value:=[.agg #[.int .i64 e.slip.num,.int .i64 e.slip.hour,.int .i64 e.slip.kind,.int .i64 e.slip.place,.int .i64 e.slip.to,.int .i64 e.slip.sort,.bool e.slip.soil,.int .i64 e.slip.amt,.int .i64 e.gap,.bool e.below]]
theorem evOf_mk {h:Hs} {s:Slip} {g:Int} {b:Bool} (h1:(evOf h s).gap=g) (h2:falls h (doSlip s h)=b):evOf h s=⟨s,g,b⟩:=by subst h1;subst h2;rfl
theorem gap_t {h:Hs} {s:Slip} (e:s.kind=4):(evOf h s).gap=s.amt-DK ⟨s.place,s.sort,s.soil⟩ h:=if_pos e
theorem gap_f {h:Hs} {s:Slip} (e:¬ s.kind=4):(evOf h s).gap=0:=if_neg e
theorem NF {α:Type} {dn todo A B H:List α} {y:α} (h:(dn++todo).Perm H) (e:todo=A++y::B):((dn++[y])++(A++B)).Perm H:=by
  subst e;refine List.Perm.trans ?_ h;rw [List.append_assoc];exact List.Perm.append_left _ (List.perm_middle (l₁:=A)).symm
theorem tookK_len {α:Type} {todo A B:List α} {y:α} (e:todo=A++y::B):(A++B).length<todo.length:=by subst e;simp
theorem fnTab_of {g:Int→FuncId} {b:Nat} {es:Array MapEntry} (h:MapIs encI es (upd (6:Int) (doFn g b 6) (upd (5:Int) (doFn g b 5) (upd (4:Int) (doFn g b 4) (upd (3:Int) (doFn g b 3) (upd (2:Int) (doFn g b 2) (upd (1:Int) (doFn g b 1) []))))))):MapIs encI es (fnTab g b):=by
  have e:(upd (6:Int) (doFn g b 6) (upd (5:Int) (doFn g b 5) (upd (4:Int) (doFn g b 4) (upd (3:Int) (doFn g b 3) (upd (2:Int) (doFn g b 2) (upd (1:Int) (doFn g b 1) []))))))=fnTab g b:=by simp [upd,fnTab]
  rw [e] at h;exact h
end Go.Sh
namespace Go.Sl
open Go
theorem Own.cutHi {α:Type} {E sz:Nat} {cell:α→Nat→Value} {a:Option Addr} {n c k:Nat} {xs:List α} {Ms:Seg} (h:Own E sz cell (.slice a n c) xs Ms) (hk:k≤xs.length):Own E sz cell (.slice a k c) (xs.take k) Ms:=by
  rcases h with ⟨hv,rfl,rfl⟩ | ⟨b,c',sp,hv,hc,rfl,hlen⟩
  · simp only [Value.slice.injEq] at hv
    obtain ⟨rfl,rfl,rfl⟩:=hv;simp at hk;subst hk;exact .inl ⟨rfl,rfl,rfl⟩
  · simp only [Value.slice.injEq] at hv
    obtain ⟨rfl,rfl,rfl⟩:=hv;refine .inr ⟨b,c,BN sz cell (xs.drop k)++sp,by rw [List.length_take,Nat.min_eq_left hk],by rw [List.length_take];omega,?_,?_⟩
    · rw [← List.append_assoc,show BN sz cell (xs.take k)++BN sz cell (xs.drop k)=BN sz cell xs by simp only [BN];rw [← List.flatMap_append,List.take_append_drop]]
    · rw [← List.append_assoc,show BN sz cell (xs.take k)++BN sz cell (xs.drop k)=BN sz cell xs by simp only [BN];rw [← List.flatMap_append,List.take_append_drop],hlen]
theorem Own.cutE {α:Type} {E sz:Nat} {cell:α→Nat→Value} {a:Option Addr} {n c k:Nat} {xs:List α} {Ms:Seg} (h:Own E sz cell (.slice a n c) xs Ms):(Value.slice (if c=0 then a else a.map (·.add (0*sz))) (k-0) (c-0))=.slice a k c:=by
  rcases h with ⟨hv,rfl,rfl⟩ | ⟨b,c',sp,hv,hc,rfl,hlen⟩
  · simp only [Value.slice.injEq] at hv
    obtain ⟨rfl,rfl,rfl⟩:=hv;simp
  · simp only [Value.slice.injEq] at hv
    obtain ⟨rfl,rfl,rfl⟩:=hv;simp [Addr.add]
section
variable {P:Program} {N:Nat} {ops:Array Oper} {i:Nat} {l:Sl} {I:Imm} {M:Seg} {ty:TypeId} {gd:Option (Nat × Bool)} {K:Sl→Imm→Seg→Prop}
theorem OD {M0 : Seg} {b : Builtin} {args : Array Operand} {tys : Array TypeId} {vals : List Value} {dst : Option Tmp}
    (hop:EQ ops N i=some (dst,.call { callee:=.builtin b,args,argTypes:=tys },ty,gd)) (hg:EJ ops l gd=some true) (hk:∀ x∈args,JA l x) (hvals:args.toList.map (rho l)=vals) (hM:M.Perm M0)
    (h:∀ (cs:Array Bool),wpL P (builtin b tys ty cs vals.toArray) (fun n M'=>∃ v M'',(n=.value v∨(n=.skip∧v=undef))∧M''.Sublist M'∧K (ups dst v l) I M'') I M0):Stp P N ops i l I M K:=
  HS hop hg (by simpa [Op.operands,Call.operands] using hk) hM (by
    have e:args.map (rho l)=vals.toArray:=by
      apply Array.ext'
      simp [hvals]
    show wpL P (do let d ← resolve (rho l) { callee:=.builtin b,args,argTypes:=tys } ty;invoke d.target d.args) _ I M0
    unfold resolve
    simp only [e]
    exact h _)
theorem stp_clearTail {α : Type} {x : Operand} {T E sz : Nat} {cell : α → Nat → Value} {a : Option Addr} {n c k : Nat} {xs : List α} {Ms R : Seg} {z : Value} {dst : Option Tmp}
    (hop:EQ ops N i=some (dst,.call { callee:=.builtin .clear,args:=#[x],argTypes:=#[T] },ty,gd)) (hg:EJ ops l gd=some true) (hT:GO P T=some E) (hz:GQ P E=some z) (hzs:z.cells.size=sz) (hz1:∀ v∈z.cells.toList,CD v=true) (hsz:0<sz)
    (own:Own E sz cell (.slice a n c) xs Ms) (hk:k≤n) (hx:BM l x=some (.slice (if c=k then a else a.map (·.add (k*sz))) (n-k) (c-k))) (hM:M.Perm (Ms++R))
    (next:∀ Ms',Own E sz cell (.slice a k c) (xs.take k) Ms'→K (ups dst (.tuple #[]) l) I (Ms'++R)):Stp P N ops i l I M K:=by
  refine OD (vals:=[.slice (if c=k then a else a.map (·.add (k*sz))) (n-k) (c-k)]) hop hg (KV hx) (by simp [AZ hx]) hM fun cs=>?_
  show wpL P (Builtin.clear_ #[T] ty #[.slice (if c=k then a else a.map (·.add (k*sz))) (n-k) (c-k)] >>= fun x=>pure (Next.value x)) _ I _;refine CX ?_;have hn:n=xs.length:=by obtain ⟨a',c',e,_⟩:=own.shape;cases e;rfl
  have done:∀ Ms',Own E sz cell (.slice a k c) (xs.take k) Ms'→(∃ v M'',(Next.value (.tuple #[])=.value v∨(Next.value (.tuple #[])=Next.skip∧v=undef))∧M''.Sublist (Ms'++R)∧K (ups dst v l) I M''):=fun Ms' h=>⟨_,_,.inl rfl,List.Sublist.refl _,next Ms' h⟩
  unfold Builtin.clear_;show wpL P (underlying T >>= _) _ I _;rw [AE,AK (BX hT)];rcases Nat.eq_zero_or_pos (n-k) with h0 | h0
  · rw [h0]
    have e:xs.take k=xs:=List.take_of_length_le (by omega);have hkn:k=n:=by omega
    cases (if c=k then a else a.map (·.add (k*sz))) with
    | none=>exact done Ms (own.cutHi (by omega))
    | some b=>exact done Ms (own.cutHi (by omega))
  · rcases own with ⟨hv,rfl,rfl⟩ | ⟨b,c',sp,hv,hc,rfl,hlen⟩
    · simp at hn;omega
    · simp only [Value.slice.injEq] at hv
      obtain ⟨rfl,_,rfl⟩:=hv;rw [if_neg (show ¬ c=k by omega)];obtain ⟨m,hm⟩:∃ m,n-k=m+1:=⟨n-k-1,by omega⟩;rw [hm];show wpL P (zeroValue E >>= _) _ I _;rw [AE,CY hz];show wpL P (storeCells (Addr.add ⟨b,0,none⟩ (k*sz)) (Builtin.zeroCells z.cells (m+1)).toList >>= _) _ I _;rw [AE,EU];have hzl:(Builtin.zeroCells z.cells (m+1)).toList.length=(m+1)*sz:=by simp [Builtin.zeroCells,hzs]
      have hA:(BN sz cell (xs.take k)).length=k*sz:=by rw [BB,List.length_take,Nat.min_eq_left (by omega)]
      have hs:BN sz cell xs=BN sz cell (xs.take k)++BN sz cell (xs.drop k):=by simp only [BN];rw [← List.flatMap_append,List.take_append_drop]
      have hB:(BN sz cell (xs.drop k)).length=(m+1)*sz:=by rw [BB,List.length_drop];congr 1;omega
      refine DW (T:=E) (k:=0) (Builtin.zeroCells z.cells (m+1)).toList 0 _ (BN sz cell xs++sp).toArray _ (by simp) ?_ ?_ ?_
      · rw [hs,hzl];simp only [List.size_toArray,List.length_append,hA,hB];omega
      · intro v hv
        simp only [Builtin.zeroCells,Array.toList_map,Array.toList_range,List.mem_map,List.mem_range] at hv;obtain ⟨q,hq,rfl⟩:=hv;have hlt:q%z.cells.size<z.cells.size:=Nat.mod_lt _ (by omega);rw [getElem!_pos z.cells (q%z.cells.size) hlt];exact hz1 _ (by simp)
      · have e2 : GP (BN sz cell xs ++ sp).toArray (0 + k * sz + 0) (Builtin.zeroCells z.cells (m + 1)).toList = (BN sz cell (xs.take k) ++ ((Builtin.zeroCells z.cells (m + 1)).toList ++ sp)).toArray := by
          apply Array.ext'
          have:=FY (Builtin.zeroCells z.cells (m+1)).toList (BN sz cell (xs.take k)) (BN sz cell (xs.drop k)++sp) (by rw [hzl,List.length_append,hB];omega);rw [hA] at this;rw [hs,show 0+k*sz+0=k*sz by omega,List.append_assoc,this,hzl,List.drop_append_of_le_length (by rw [hB];exact Nat.le_refl _),List.drop_of_length_le (by rw [hB];exact Nat.le_refl _)];simp
        rw [e2];refine done _ (.inr ⟨b,c,(Builtin.zeroCells z.cells (m+1)).toList++sp,by rw [List.length_take,Nat.min_eq_left (by omega)],by rw [List.length_take];omega,rfl,?_⟩);rw [← hlen,hs];simp only [List.length_append,hA,hB,hzl];omega
end
end Go.Sl
namespace Go.Sh
open Go Go.Sl
section
variable {α:Type} {p:α→Bool} {xs zs:List α} {i j:Nat} {d:α}
theorem idxF_ge:-1≤OU p xs:=by unfold OU;cases xs.findIdx? p <;> simp <;> omega
theorem filter_noneD (h:OU p xs=-1):xs.filter (fun x=>!p x)=xs:=by
  have:=idxF_neg (p:=p) (l:=xs) (by omega);rw [List.any_eq_false] at this;exact List.filter_eq_self.2 fun x hx=>by simpa using this x hx
def DelI (p:α→Bool) (xs zs:List α) (i j:Nat):Prop:=zs.length=xs.length∧i<j∧j≤xs.length∧zs.take i=(xs.take j).filter (fun x=>!p x)∧zs.drop j=xs.drop j
theorem DelI.start (hi:i<xs.length) (hp:p (xs.getD i d)=true) (hb:∀ j,j<i→p (xs.getD j d)=false):DelI p xs xs i (i+1):=by
  refine ⟨rfl,by omega,hi,?_,rfl⟩;rw [DI (d:=d) hi,List.filter_append];have h1:(xs.take i).filter (fun x=>!p x)=xs.take i:=List.filter_eq_self.2 fun x hx=>by
    obtain ⟨q,hq,rfl⟩:=List.mem_iff_getElem.1 hx;rw [List.length_take] at hq;have:=hb q (by omega);simp only [List.getElem_take]
    simpa [List.getD,show q<xs.length by omega] using this
  rw [h1];simp only [List.filter_cons,hp,List.filter_nil];simp
theorem DelI.at_j (h:DelI p xs zs i j) (hj:j<xs.length):zs.getD j d=xs.getD j d:=by
  obtain ⟨h1,h2,h3,h4,h5⟩:=h;have e:(zs.drop j)[0]?=(xs.drop j)[0]?:=by rw [h5]
  simp only [List.getElem?_drop,Nat.add_zero] at e;rw [List.getD_eq_getElem?_getD,List.getD_eq_getElem?_getD,e]
theorem drop_next (h:zs.drop j=xs.drop j):zs.drop (j+1)=xs.drop (j+1):=by
  rw [← List.drop_drop,← List.drop_drop,h]
theorem DelI.skip (h:DelI p xs zs i j) (hj:j<xs.length) (hp:p (zs.getD j d)=true):DelI p xs zs i (j+1):=by
  rw [h.at_j hj] at hp;obtain ⟨h1,h2,h3,h4,h5⟩:=h;refine ⟨h1,by omega,hj,?_,drop_next h5⟩;rw [DI (d:=d) hj,List.filter_append,← h4];simp only [List.filter_cons,hp,List.filter_nil];simp
theorem DelI.keep (h:DelI p xs zs i j) (hj:j<xs.length) (hp:p (zs.getD j d)=false):DelI p xs (zs.set i (zs.getD j d)) (i+1) (j+1):=by
  rw [h.at_j hj] at hp ⊢;obtain ⟨h1,h2,h3,h4,h5⟩:=h;refine ⟨by rw [List.length_set,h1],by omega,hj,?_,?_⟩
  · rw [DI (d:=d) hj,List.filter_append,← h4,DI (d:=d) (by rw [List.length_set];omega)]
    simp only [List.filter_cons,hp,List.filter_nil];have e1:(zs.set i (xs.getD j d)).take i=zs.take i:=by rw [List.take_set_of_le (Nat.le_refl _)]
    have e2:(zs.set i (xs.getD j d)).getD i d=xs.getD j d:=by rw [List.getD_eq_getElem?_getD,List.getElem?_set_self (by omega)];rfl
    rw [e1,e2];simp
  · rw [List.drop_set_of_lt (by omega)];exact drop_next h5
theorem DelI.done (h:DelI p xs zs i j) (hj:j=xs.length):zs.take i=xs.filter (fun x=>!p x):=by
  obtain ⟨h1,h2,h3,h4,h5⟩:=h;rw [h4,hj,List.take_length]
end
def slipsTo (L:Lin) (h:Int):List Slip:=L.slips.filter fun x=>!decide (h<x.hour)
def atL (L:Lin) (h:Int):Lin:=⟨L.places,L.sorts,L.start,L.keeps,slipsTo L h⟩
theorem GoodS.to {L:Lin} (hg:GoodS L.slips) (h:Int):GoodS (atL L h).slips:=hg.sub (List.length_filter_le _ _) fun x hx=>(List.mem_filter.1 hx).1
theorem EvR.full {r:Nat} {H:Hs} {S:List Slip} {M:Seg} {n:Nat} (h:EvR r H S n M) (hn:n=S.length):∃ es cl,M=[(r,Obj.map es cl)]∧MapH es cl (aft H S):=by
  obtain ⟨es,cl,h1,h2⟩:=h;rw [hn,List.take_length] at h2;exact ⟨es,cl,h1,h2⟩
structure GoodL (L:Lin):Prop where
  places:1≤L.places∧L.places≤4
  sorts:1≤L.sorts∧L.sorts≤2
  start:(L.start.length:Int)=L.places
  rows:∀ r∈L.start,(r.length:Int)=L.sorts
  nums:∀ r∈L.start,∀ n∈r,0≤n∧n≤50
  keeps:L.keeps.length≤4
  keep:∀ k,k<L.keeps.length→EX L k=0
  slips:L.slips.length≤8
  slip:∀ k,k<L.slips.length→DT L k=0
theorem all_of {α:Type} {p:α→Bool} {l:List α} (h:¬ l.all p=false):∀ x∈l,p x=true:=List.all_eq_true.1 (by simpa using h)
theorem lin_good {L:Lin} (h:HO L=0):GoodL L:=by
  unfold HO at h
  split at h;· omega
  rename_i h1
  split at h;· omega
  rename_i h2
  split at h;· omega
  rename_i h3
  split at h;· omega
  rename_i h4
  split at h;· omega
  rename_i h5
  have h3:DM L=0:=Decidable.not_not.1 h3;have h4:DZ L=0:=Decidable.not_not.1 h4;unfold DM at h3
  split at h3;· omega
  rename_i a1
  split at h3;· omega
  rename_i a2
  split at h3;· omega
  rename_i a3
  unfold DZ at h4
  split at h4;· omega
  rename_i b1
  refine ⟨EW (by simpa using h1),EW (by simpa using h2),Decidable.not_not.1 a1,fun r hr=>of_decide_eq_true (all_of a2 r hr),fun r hr n hn=>EW (all_of a3 n (List.mem_flatten.2 ⟨r,hr,hn⟩)),by omega,firstE_zero.1 h4,by omega,firstE_zero.1 h⟩
theorem NL {L:Lin} {s:Slip} (h:FD L s=0):(1≤s.num∧s.num≤999)∧(0≤s.hour∧s.hour≤200)∧(1≤s.kind∧s.kind≤6)∧(0≤s.place∧s.place≤L.places-1)∧(0≤s.sort∧s.sort≤L.sorts-1)∧(0≤s.amt∧s.amt≤50)∧(s.kind=1→0≤s.to∧s.to≤L.places-1∧s.to≠s.place):=by
  unfold FD at h
  split at h;· omega
  rename_i h1
  split at h;· omega
  rename_i h2
  split at h;· omega
  rename_i h3
  split at h;· omega
  rename_i h4
  split at h;· omega
  rename_i h5
  split at h;· omega
  rename_i h6
  split at h;· omega
  split at h;· omega
  rename_i h8
  split at h;· omega
  by_cases h10:inB s.amt (if s.kind=4 then 0 else 1) 50=false
  · rw [if_pos h10] at h;omega
  have e:∀ {b:Bool},¬ b=false→b=true:=fun hb=>by simpa using hb
  refine ⟨EW (e h1),EW (e h2),EW (e h3),EW (e h4),EW (e h8),?_,fun hk=>?_⟩
  · have:=EW (e h10)
    split at this <;> omega
  · have h5:inB s.to 0 (L.places-1)=true:=e fun hh=>h5 ⟨hk,hh⟩
    have:=EW h5;exact ⟨this.1,this.2,fun hh=>h6 ⟨hk,hh⟩⟩
section
variable {L:Lin} (g:GoodL L)
include g
theorem GoodL.slipAt {k:Nat} (hk:k<L.slips.length):FD L (L.slips.getD k AD)=0:=by
  have:=g.slip k hk;unfold DT at this
  split at this
  · rename_i h;exact absurd this h
  · rename_i h;exact Decidable.not_not.1 h
theorem GoodL.slipOf {s:Slip} (hs:s∈L.slips):FD L s=0:=by
  obtain ⟨k,hk,rfl⟩:=List.mem_iff_getElem.1 hs;have:=g.slipAt hk
  simpa [List.getD,hk] using this
theorem GoodL.goodS:GoodS L.slips:=⟨by have:=g.slips;omega,fun s hs=>by
  obtain ⟨h1,h2,h3,h4,h5,h6,_⟩:=NL (g.slipOf hs)
  exact ⟨h3,h6,by omega,by omega,by omega,by omega⟩⟩
omit g in
theorem openRow_within {B:Int} {p:Int} {row:List Int} (hB:0≤B) (hr:∀ n∈row,0≤n∧n≤B):∀ {j:Nat} {H:Hs},Within B H→Within B (NE p row j H):=by
  intro j
  induction j with
  | zero=>intro H h;exact h
  | succ j ih=>
    intro H h;refine (ih h).put ?_ ?_ (Int.le_refl _)
    · rcases Nat.lt_or_ge j row.length with hj | hj
      · have:=hr _ (BC (xs:=row) (d:=0) hj);omega
      · have:row.getD j 0=0:=by simp [List.getD,hj]
        omega
    · rcases Nat.lt_or_ge j row.length with hj | hj
      · exact (hr _ (BC (xs:=row) (d:=0) hj)).2
      · have:row.getD j 0=0:=by simp [List.getD,hj]
        omega
omit g in
theorem openTo_within {B:Int} {st:List (List Int)} (hB:0≤B) (hr:∀ r∈st,∀ n∈r,0≤n∧n≤B):∀ {i:Nat},i≤st.length→Within B (MJ st i):=by
  intro i
  induction i with
  | zero=>intro _ k;show -B≤(0:Int)∧(0:Int)≤B;omega
  | succ i ih=>intro hi;exact openRow_within hB (hr _ (BC (xs:=st) (d:=[]) hi)) (ih (by omega))
theorem GoodL.within:Within 1000 (MI L):=(openTo_within (B:=50) (by omega) g.nums (Nat.le_refl _)).mono (by omega)
end
def gapOf (e:Event):List Gap:=if e.gap≠0 then [⟨e.slip.num,e.gap⟩] else []
def gapsOf (l:List Event):List Gap:=l.flatMap gapOf
def GU (L:Lin):List Event:=evs (MI L) (AJ AC L.slips)
theorem eventsOf_length {L:Lin}:(GU L).length=L.slips.length:=by unfold GU;rw [HA];exact (EE _).length_eq
end Go.Sh
namespace Go.Sl
open Go
def IterE {α β:Type} (P:Program) (gf:FuncId) (cv:List Value) (enc:β→List Value) (pr:β→α) (seq:List α) (E:β→Imm→Prop) (R:Imm→Seg→Prop) (I0:Imm):Prop:=
  ∀ (L:Nat) (Cl Sp:List α→Imm→Seg→Prop),(∀ xs I J M,I.le J→Cl xs I M→Cl xs J M) →
    (∀ xs x I Mr M,(xs++[pr x]) <+: seq→I0.le I→E x I→Cl xs I M→Yt P L (enc x).toArray I (Mr++M) (fun v I' M'=>(v=.bool true∧∃ M2,M'=Mr++M2∧Cl (xs++[pr x]) I' M2)∨(v=.bool false∧Sp (xs++[pr x]) I' M'))) →
    ∀ I Mr M,I0.le I→R I Mr→Cl [] I M→Ct P gf (.func (.yield L) #[] #[]::cv).toArray I (Mr++M) (fun _ I' M'=>(∃ Mr' M2,M'=Mr'++M2∧Cl seq I' M2)∨(∃ xs,Sp xs I' M'))
section
variable {ρ:Option Nat} {P:Program} {N:Nat} {ops:Array Oper} {i:Nat} {l:Sl} {I:Imm} {R M:Seg} {ty:TypeId} {gd:Option (Nat × Bool)} {K:Sl→Imm→Seg→Prop} {Q:Exit→Act→World→Prop} {ds:List Deferred}
theorem run_rangeFuncE {α β : Type} {c : Code} {g : Operand} {ps : Array Tmp} {assign body : Code} {gf : FuncId} {cv : List Value} {enc : β → List Value} {pr : β → α} {seq : List α} {E : β → Imm → Prop} {R : Imm → Seg → Prop} {Mr M0 F0 : Seg}
    (Cl:List α→Imm→Seg→Prop) (Sp:Code→List α→Imm→Seg→Prop) (sl:β→Nat→Sl) (mm:β→Nat→Seg)
    (hc:c=.rangeFunc g ps assign body) (hg:BM l g=some (.func (.func gf) #[] cv.toArray)) (hcall:CB P gf=true) (hps:∀ x,(enc x).length=ps.size) (hpN:ps.all (fun t=>Nat.blt t N)=true)
    (it:IterE P gf cv enc pr seq E R I)
    (hmono:∀ xs I J M,I.le J→Cl xs I M→Cl xs J M)
    (hM:M.Perm (Mr++(M0++F0))) (hr:R I Mr) (h0:Cl [] I M0)
    (hassign:∀ L x I1 M1,Run (ρ:=some L) P N assign (Exit.then (fun a w=>∃ k,Slots N (sl x k) a∧a.defers=[]∧St I1 (mm x k++M1) w) (fun _ _ _=>False)) [] (putAll (ps.toList.zip (enc x)) l) I1 M1)
    (hbody:∀ L x k xs I1 Mr1 M1 F1,(xs++[pr x]) <+: seq→I.le I1→E x I1→Cl xs I1 M1 →
      Run (ρ:=some L) P N body (RoundQ I1 (fun o I' M'=>match o with | none=>∃ M2,M'=Mr1++M2∧Cl (xs++[pr x]) I' M2 | some c=>Sp c (xs++[pr x]) I' M') F1) [] (sl x k) I1 (mm x k++(Mr1++(M1++F1))))
    (hdone:∀ D I' Mr' M',I.le I'→Cl seq I' M'→Pst N Q .normal (mark D::ds) l I' ((D,.deferred (some []))::(Mr'++(M'++F0))))
    (hstop:∀ D c xs I' M',I.le I'→Sp c xs I' M'→Run (ρ:=none) P N c Q (mark D::ds) l I' ((D,.deferred (some []))::(M'++F0))) :
    Run (ρ:=none) P N c Q ds l I M:=by
  subst hc;intro a w hS hD hW;refine wpIn_rangeFunc fun fn _=>?_
  obtain ⟨rec,hrec⟩:∃ rec:LoopState→Option Code→Loop,rec=fun st pe=>{ state:=st,pending:=pe,fn,tmps:=a.tmps,params:=ps,assign,body,defers:=w.heap.size }:=⟨_,rfl⟩
  have hW2:St I ((w.heap.size+1,.loop (rec .ready none))::(w.heap.size,.deferred (some []))::(Mr++(M0++F0))) ((w.alloc (.deferred (some []))).alloc (.loop (rec .ready none))):=by
    have h1:=(hW.perm hM).new (.deferred (some []));have h2:=h1.new (.loop (rec .ready none));have e:(w.heap.push (Obj.deferred (some []))).size=w.heap.size+1:=by simp
    rw [e] at h2;exact h2
  generalize hw1:((w.alloc (.deferred (some []))).alloc (.loop (rec .ready none)))=w1 at hW2
  refine ⟨w.heap.size+1,[mark w.heap.size],w1,{ target:=.fn (.func gf) cv.toArray,args:=#[.func (.yield (w.heap.size+1)) #[] #[]] },w1,gf,(.func (.yield (w.heap.size+1)) #[] #[]::cv).toArray,w1,?_,?_,fun _ _=>trivial,?_,fun h=>by simp [fen,Fence.wide] at h,?_⟩
  · rw [← hw1,hrec];exact run_enterLoop_outer _ _ _ _ _
  · unfold resolve
    simp only [MU hS hg,Deferred.ofValue];simp [Act.eval,pure,Sem.run]
  · show (callFunc gf (#[Value.func (.yield (w.heap.size+1)) #[] #[]]++cv.toArray)).run P w1=_
    rw [FN hcall];simp
  · refine callsIn_fen.2 ?_
    clear hw1 hW
    generalize w.heap.size+1=L at hW2 hrec ⊢
    generalize w.heap.size=D at hW2 hrec ⊢
    have hit:=it L (fun xs I M=>∃ M0,M=(L,.loop (rec .ready none))::(D,.deferred (some []))::M0∧Cl xs I M0)
      (fun xs I M=>∃ c M0,M=(L,.loop (rec .done (some c)))::(D,.deferred (some []))::M0∧Sp c xs I M0)
      (fun xs I J M le ⟨M0,e,h⟩=>⟨M0,e,hmono xs I J M0 le h⟩) ?_ I Mr ((L,.loop (rec .ready none))::(D,.deferred (some []))::M0) (Imm.le.refl I) hr ⟨M0,rfl,h0⟩
    · refine (hit F0 w1 (hW2.perm ?_)).mono ?_
      · rw [List.append_assoc]
        exact ((List.perm_middle (l₁:=Mr)).trans (.cons _ (List.perm_middle (l₁:=Mr)))).symm
      · rintro e w' ⟨v,I',M',rfl,hle,hp,st⟩
        rcases hp with ⟨Mr',M2,rfl,M3,rfl,hcl⟩ | ⟨xs,c,M3,rfl,hsp⟩
        · have st2 := st.perm (show ((Mr' ++ ((L, Obj.loop (rec .ready none)) :: (D, .deferred (some [])) :: M3)) ++ F0).Perm ((L, Obj.loop (rec .ready none)) :: (D, .deferred (some [])) :: (Mr' ++ (M3 ++ F0))) by
            rw [List.append_assoc]
            exact (List.perm_middle (l₁:=Mr')).trans (.cons _ (List.perm_middle (l₁:=Mr'))))
          have hl:=st2.mem _ _ List.mem_cons_self;refine ⟨none,_,by have:=run_endLoop (P:=P) hl (by rw [hrec];simp);rw [hrec] at this;exact this,?_⟩;refine hdone D I' Mr' M3 hle hcl _ _ ⟨hS.size,hS.get⟩ (by show [mark D]++a.defers=_;rw [hD];rfl) ?_;exact (St.putObj st2).drop
        · have hl:=st.mem (L) (.loop (rec .done (some c))) (by simp)
          refine ⟨some c,_,by have:=run_endLoop (P:=P) hl (by rw [hrec];simp);rw [hrec] at this;exact this,?_⟩;refine hstop D c xs I' M3 hle hsp _ _ ⟨hS.size,hS.get⟩ (by show [mark D]++a.defers=_;rw [hD];rfl) ?_;exact (St.putObj (M:=(D,Obj.deferred (some []))::(M3++F0)) st).drop
    · rintro xs x I1 Mr1 M1' hpre hle hE ⟨M1,rfl,hcl⟩ F1 w2 st
      have hl:=st.mem L (.loop (rec .ready none)) (by simp);have hy:=run_yield (P:=P) (args:=(enc x).toArray) hl (by rw [hrec];simpa using hps x);rw [hrec] at hy;refine ⟨_,_,assign,body,hy,roundIn_of_wpIn (F:=fen none) trivial ?_⟩;have hfold:((ps.zip (enc x).toArray).foldl (fun tmps (t,a)=>tmps.setIfInBounds t a) a.tmps)=(ps.toList.zip (enc x)).foldl (fun t (x:Tmp × Value)=>t.setIfInBounds x.1 x.2) a.tmps:=by
        rw [← Array.foldl_toList];simp
      simp only;rw [hfold];refine wpIn_mono (hassign L x I1 _ _ w2 (NM (ps.toList.zip (enc x)) l a.tmps ⟨hS.size,hS.get⟩ ?_) rfl st) ?_
      · intro y hy'
        have:=(List.of_mem_zip (show (y.1,y.2)∈ps.toList.zip (enc x) from hy')).1;have h3:=Array.all_eq_true'.1 hpN y.1 (by simpa using this);exact Nat.le_of_ble_eq_true h3
      · rintro e a1 w3 hq
        cases e with
        | normal=>
          obtain ⟨k,hS3,hD3,st3⟩:=hq;have st4:St I1 ((L,.loop (rec .ready none))::(mm x k++(Mr1++(M1++((D,.deferred (some []))::F1))))) w3:=st3.perm ((List.Perm.append_left (mm x k) perm3).trans List.perm_middle);have hl3:=st4.mem L (.loop (rec .ready none)) List.mem_cons_self;refine ⟨_,run_beginRound hl3 (by rw [hrec]),?_⟩;have st5:St I1 (mm x k++(Mr1++(M1++((L,.loop { rec .ready none with state:=.busy })::(D,.deferred (some []))::F1)))) (w3.putObj L (.loop { rec .ready none with state:=.busy })):=by
            refine (St.putObj st4).perm ?_;refine (List.perm_middle (l₁:=mm x k)).symm.trans (List.Perm.append_left (mm x k) ?_);have:=(perm3 (A:=Mr1) (B:=M1) (C:=F1) (x:=(L,Obj.loop { rec .ready none with state:=.busy })) (y:=(D,Obj.deferred (some [])))).symm;refine this.trans ?_;rw [List.append_assoc];refine List.Perm.append_left Mr1 ?_;show ((L,Obj.loop { rec .ready none with state:=.busy })::(D,.deferred (some []))::(M1++F1)).Perm _;exact ((List.perm_middle (l₁:=M1)).trans (.cons _ (List.perm_middle (l₁:=M1)))).symm
          refine wpIn_mono (hbody L x k xs I1 Mr1 M1 _ hpre hle hE hcl a1 _ hS3 hD3 st5) ?_
          have fin : ∀ (jump : Option Code) (I' : Imm) (M' : Seg) (w6 : World), St I' (M' ++ ((L, .loop { rec .ready none with state := .busy }) :: (D, .deferred (some [])) :: F1)) w6 →
              (Instr.endRound L jump).run P w6=.ok (.bool jump.isNone) (w6.putObj L (.loop (rec (if jump.isNone then .ready else .done) jump))) ∧
              St I' ((L,.loop (rec (if jump.isNone then .ready else .done) jump))::(M'++((D,.deferred (some []))::F1))) (w6.putObj L (.loop (rec (if jump.isNone then .ready else .done) jump))):=fun jump I' M' w6 st6=>by
            have st7:=st6.perm perm4;have hl7:=st7.mem _ _ List.mem_cons_self;have:=run_endRound (P:=P) jump hl7;rw [hrec] at this ⊢;exact ⟨this,by rw [hrec] at st7;exact St.putObj st7⟩
          rintro e a6 w6 hq6
          have stop : ∀ (c : Code), (∃ I' M', I1.le I' ∧ Sp c (xs ++ [pr x]) I' M' ∧ St I' (M' ++ ((L, .loop { rec .ready none with state := .busy }) :: (D, .deferred (some [])) :: F1)) w6) →
              ∃ v w',(Instr.endRound L (some c)).run P w6=.ok v w'∧RQ I1 (fun v I' M'=>(v=.bool true∧∃ M2,M'=Mr1++M2∧∃ M0,M2=(L,.loop (rec .ready none))::(D,.deferred (some []))::M0∧Cl (xs++[pr x]) I' M0) ∨
                (v=.bool false∧∃ c M0,M'=(L,.loop (rec .done (some c)))::(D,.deferred (some []))::M0∧Sp c (xs++[pr x]) I' M0)) F1 (.returned v) w':=by
            rintro c ⟨I',M',hle',hp,st6⟩
            obtain ⟨h1,h2⟩:=fin (some c) I' M' w6 st6;exact ⟨_,_,h1,_,I',_,rfl,hle',.inr ⟨rfl,c,M',rfl,hp⟩,h2.perm (.cons _ List.perm_middle)⟩
          cases e with
          | normal=>
            obtain ⟨I',M',hle',⟨M2,rfl,hcl'⟩,st6⟩:=hq6;obtain ⟨h1,h2⟩:=fin none I' _ w6 st6;refine ⟨_,_,h1,_,I',_,rfl,hle',.inl ⟨rfl,_,rfl,M2,rfl,hcl'⟩,h2.perm ?_⟩;rw [List.append_assoc];exact perm3.symm
          | ret=>exact stop .ret hq6
          | exit id=>exact stop (.exit id) hq6
          | goto t=>exact stop (.goto t) hq6
          | panic ch=>exact hq6.elim
          | outgrown=>exact hq6.elim
        | exit id=>exact hq.elim
        | goto t=>exact hq.elim
        | ret=>exact hq.elim
        | panic ch=>exact hq.elim
        | outgrown=>exact hq.elim
end
end Go.Sl
namespace Go.Sh
open Go Go.Sl
def kstep (p h:Int) (q:Int × Int) (k:Keep):Int × Int:=bif cmp .eql k.place p&&(cmp .leq k.hour h&&cmp .gtr k.hour q.2) then (k.who,k.hour) else q
def IF (p h:Int) (ks:List Keep):Int × Int:=ks.foldl (kstep p h) (0,-1)
def BL (L:Lin) (p h:Int):Int:=(IF p h L.keeps).1
section
variable {p h:Int} {ks:List Keep} {k:Nat}
theorem kfold_t (hk:k<ks.length) (hc:(cmp .eql (ks.getD k AU).place p&&(cmp .leq (ks.getD k AU).hour h&&cmp .gtr (ks.getD k AU).hour (IF p h (ks.take k)).2))=true):((ks.getD k AU).who,(ks.getD k AU).hour)=IF p h (ks.take (k+1)):=by
  rw [DI (d:=AU) hk];unfold IF at *;rw [List.foldl_append];simp only [List.foldl_cons,List.foldl_nil,kstep];rw [hc];rfl
theorem kfold_f (hk:k<ks.length) (hc:(cmp .eql (ks.getD k AU).place p&&(cmp .leq (ks.getD k AU).hour h&&cmp .gtr (ks.getD k AU).hour (IF p h (ks.take k)).2))=false):IF p h (ks.take k)=IF p h (ks.take (k+1)):=by
  rw [DI (d:=AU) hk];unfold IF at *;rw [List.foldl_append];simp only [List.foldl_cons,List.foldl_nil,kstep];rw [hc];rfl
theorem kfold_who:∀ {ks:List Keep} {q:Int × Int},(ks.foldl (kstep p h) q).1=q.1∨(ks.foldl (kstep p h) q).1∈ks.map (·.who):=by
  intro ks
  induction ks with
  | nil=>intro q;exact .inl rfl
  | cons x r ih=>
    intro q;simp only [List.foldl_cons,List.map_cons,List.mem_cons];rcases ih (q:=kstep p h q x) with e | e
    · rw [e];unfold kstep;cases (cmp .eql x.place p&&(cmp .leq x.hour h&&cmp .gtr x.hour q.2)) with
      | true=>exact .inr (.inl rfl)
      | false=>exact .inl rfl
    · exact .inr (.inr e)
end
theorem keeperOf_mem {L:Lin} {p h:Int} (hn:BL L p h≠0):BL L p h∈L.keeps.map (·.who):=by
  rcases kfold_who (p:=p) (h:=h) (ks:=L.keeps) (q:=(0,-1)) with e | e
  · exact absurd e hn
  · exact e
def CE (L:Lin) (p since:Int):Nat→List Int
  | 0=>[]
  | n+1=>if (n:Int)<since then CE L p since n else if BL L p n=0 then CE L p since n else if BL L p n∈CE L p since n then CE L p since n else CE L p since n++[BL L p n]
section
variable {L:Lin} {p since:Int} {n:Nat}
theorem holdTo_1 (h:(n:Int)<since):CE L p since n=CE L p since (n+1):=(if_pos h).symm
theorem holdTo_2 (h:¬ (n:Int)<since) (h2:BL L p n=0):CE L p since n=CE L p since (n+1):=by simp only [CE];rw [if_neg h,if_pos h2]
theorem holdTo_3 (h:¬ (n:Int)<since) (h2:¬ BL L p n=0) (h3:BL L p n∈CE L p since n):CE L p since n=CE L p since (n+1):=by simp only [CE];rw [if_neg h,if_neg h2,if_pos h3]
theorem holdTo_4 (h:¬ (n:Int)<since) (h2:¬ BL L p n=0) (h3:¬ BL L p n∈CE L p since n):CE L p since n++[BL L p n]=CE L p since (n+1):=by simp only [CE];rw [if_neg h,if_neg h2,if_neg h3]
theorem holdTo_once:∀ n,(CE L p since n).Nodup∧∀ x∈CE L p since n,x∈L.keeps.map (·.who):=by
  intro n
  induction n with
  | zero=>exact ⟨List.nodup_nil,fun x hx=>by cases hx⟩
  | succ n ih=>
    simp only [CE]
    split
    · exact ih
    split
    · exact ih
    rename_i h2
    split
    · exact ih
    · rename_i h3
      refine ⟨List.nodup_append.2 ⟨ih.1,by simp,fun a ha b hb=>?_⟩,fun x hx=>?_⟩
      · simp only [List.mem_singleton] at hb;intro e;rw [e,hb] at ha;exact h3 ha
      · rcases List.mem_append.1 hx with hx | hx
        · exact ih.2 x hx
        · simp only [List.mem_singleton] at hx;subst hx;exact keeperOf_mem h2
omit p since n in
theorem once_len:∀ {l m:List Int},l.Nodup→(∀ x∈l,x∈m)→l.length≤m.length:=by
  intro l
  induction l with
  | nil=>intro m _ _;exact Nat.zero_le _
  | cons x r ih=>
    intro m hn hs;have hn2:=List.nodup_cons.1 hn;have hx:=hs x (by simp);have:=ih (m:=m.erase x) hn2.2 (fun y hy=>(List.mem_erase_of_ne (fun e=>hn2.1 (by rw [← e];exact hy))).2 (hs y (by simp [hy])));rw [List.length_erase_of_mem hx] at this;have h0:=List.length_pos_of_mem hx;rw [List.length_cons];omega
theorem holdTo_len (hk:L.keeps.length≤4):(CE L p since n).length≤4:=by
  have:=once_len (holdTo_once (L:=L) (p:=p) (since:=since) n).1 (holdTo_once n).2;rw [List.length_map] at this;omega
end
def DE (L:Lin) (s:Slip) (since:Int):List Int:=AJ cmpZ (CE L s.place since (s.hour+1).toNat)
theorem holdersOf_len {L:Lin} {s:Slip} {since:Int} (hk:L.keeps.length≤4):(DE L s since).length≤4:=by unfold DE;rw [(EE _).length_eq];exact holdTo_len hk
theorem holdersOf_at {L:Lin} {s:Slip} {since:Int} {n:Nat} (h:(n:Int)=s.hour+1):AJ cmpZ (CE L s.place since n)=DE L s since:=by unfold DE;rw [← h];rfl
abbrev EvH:=Sh.Event × List Int
def OJ (L:Lin) (q:Hs × List EvH) (e:Sh.Event):Hs × List EvH:=
  if e.slip.kind≠4 then q else (IG (keyOf e.slip) e.slip.hour q.1,if e.gap≠0 then q.2++[(e,DE L e.slip (DK (keyOf e.slip) q.1))] else q.2)
def EI (L:Lin) (l:List Sh.Event):Hs × List EvH:=l.foldl (OJ L) ([],[])
def FS (L:Lin):List EvH:=(EI L (GU L)).2
section
variable {L:Lin} {xs ys:List Sh.Event} {x:Sh.Event}
theorem HC:EI L (xs++[x])=OJ L (EI L xs) x:=by unfold EI;rw [List.foldl_append];rfl
theorem gfold_1 (h:x.slip.kind≠4):EI L xs=EI L (xs++[x]):=by rw [HC];unfold OJ;rw [if_pos h]
theorem gfold_2 (h:x.slip.kind=4):(EI L (xs++[x])).1=IG ⟨x.slip.place,x.slip.sort,x.slip.soil⟩ x.slip.hour (EI L xs).1:=by rw [HC];unfold OJ;rw [if_neg (fun e=>e h)];rfl
theorem gfold_3 (h:x.slip.kind=4) (h2:x.gap=0):(EI L xs).2=(EI L (xs++[x])).2:=by rw [HC];unfold OJ;rw [if_neg (fun e=>e h)];simp only;rw [if_neg (fun e=>e h2)]
theorem gfold_4 (h:x.slip.kind=4) (h2:x.gap≠0):(EI L xs).2++[(x,DE L x.slip (DK ⟨x.slip.place,x.slip.sort,x.slip.soil⟩ (EI L xs).1))]=(EI L (xs++[x])).2:=by rw [HC];unfold OJ;rw [if_neg (fun e=>e h)];simp only;rw [if_pos h2];rfl
theorem gfold_more:∀ {ys xs:List Sh.Event},(EI L xs).2 <+: (EI L (xs++ys)).2:=by
  intro ys
  induction ys with
  | nil=>intro xs;rw [List.append_nil];exact List.prefix_refl _
  | cons y r ih=>
    intro xs;have h1:(EI L xs).2 <+: (EI L (xs++[y])).2:=by
      rw [HC];unfold OJ
      split
      · exact List.prefix_refl _
      · simp only;split
        · exact List.prefix_append _ _
        · exact List.prefix_refl _
    have h2:=ih (xs:=xs++[y]);rw [List.append_assoc] at h2;exact h1.trans h2
theorem gfold_pre (h:xs <+: ys):(EI L xs).2 <+: (EI L ys).2:=by obtain ⟨r,rfl⟩:=h;exact gfold_more
end
def encEvH (q:EvH × (Option Addr × Nat)):List Value:=[.agg #[.int .i64 q.1.1.slip.num,.int .i64 q.1.1.slip.hour,.int .i64 q.1.1.slip.kind,.int .i64 q.1.1.slip.place,.int .i64 q.1.1.slip.to,.int .i64 q.1.1.slip.sort,.bool q.1.1.slip.soil,.int .i64 q.1.1.slip.amt,.int .i64 q.1.1.gap,.bool q.1.1.below,.slice q.2.1 q.1.2.length q.2.2]]
theorem evs_slip:∀ {S:List Slip} {H:Hs} {x:Sh.Event},x∈evs H S→x.slip∈S:=by
  intro S
  induction S with
  | nil=>intro H x hx;cases hx
  | cons s r ih=>
    intro H x hx;simp only [evs] at hx;rcases List.mem_cons.1 hx with rfl | hx
    · exact List.mem_cons_self
    · exact List.mem_cons_of_mem _ (ih hx)
theorem GoodL.ofEv {L:Lin} (g:GoodL L) {xs:List Sh.Event} {x:Sh.Event} {H:Hs} (h:(xs++[x]) <+: evs H (AJ AC L.slips)):0≤x.slip.hour∧x.slip.hour≤200:=
  (NL (g.slipOf ((EE _).subset (evs_slip (h.subset (List.mem_append_right _ List.mem_cons_self)))))).2.1
section
variable {L:Lin} {n:Int} {i:Nat}
end
section
variable {f:Nat→List Int × Bool} {i n:Nat}
end
section
variable {so:Int} {H H':Hs} {k:HKey} {v d:Int}
end
section
variable {L:Lin} {so hour:Int}
end
theorem sum_within {α:Type} {f:α→Int} {B:Int}:∀ {l:List α},(∀ x∈l,-B≤f x∧f x≤B)→-(B*l.length)≤(l.map f).sum∧(l.map f).sum≤B*l.length:=by
  intro l
  induction l with
  | nil=>intro _;simp
  | cons x r ih=>
    intro h;have h1:=ih (fun y hy=>h y (by simp [hy]));have h2:=h x (by simp);simp only [List.map_cons,List.sum_cons,List.length_cons,Int.natCast_add,Int.natCast_one,Int.mul_add,Int.mul_one];omega
theorem gap_small {L:Lin} (g:GoodL L):∀ x∈gapsOf (GU L),-1000000≤x.amt∧x.amt≤1000000:=by
  intro x hx;obtain ⟨e,he,hx⟩:=List.mem_flatMap.1 hx;unfold gapOf at hx
  split at hx
  · simp only [List.mem_singleton] at hx;subst hx
    obtain ⟨k,hk,rfl⟩:=List.mem_iff_getElem.1 he;have hk2:k<(AJ AC L.slips).length:=by unfold GU at hk;rwa [HA] at hk
    have ht:=evs_take (H:=MI L) hk2;have e3:(GU L)[k]=evOf (aft (MI L) ((AJ AC L.slips).take k)) ((AJ AC L.slips).getD k AD):=by
      have h1:((evs (MI L) (AJ AC L.slips)).take (k+1))[k]?=some (evOf (aft (MI L) ((AJ AC L.slips).take k)) ((AJ AC L.slips).getD k AD)):=by
        have hk3:k<(evs (MI L) (AJ AC L.slips)).length:=hk;rw [ht,List.getElem?_append_right (by rw [List.length_take];omega),List.length_take,Nat.min_eq_left (by omega)];simp
      rw [List.getElem?_take_of_lt (by omega)] at h1;exact (List.getElem?_eq_some_iff.1 h1).2
    rw [e3];have hw:=(g.goodS.sorted.within g.within k) (keyOf ((AJ AC L.slips).getD k AD));have ha:=(g.goodS.sorted.ok _ (BC (d:=AD) hk2)).2.1;simp only [evOf];split <;> omega
  · cases hx
section
variable {L:Lin} {G:List Gap} {so n X:Int} {i m k:Nat} {s:Slip}
end
section
variable {p kh to f h:Int} {ks:List Keep} {k:Nat}
theorem kfold_spec (h0:∀ x∈ks,0≤x.hour):∀ k,k≤ks.length→(IF p h (ks.take k)=(0,-1)∧∀ x∈ks.take k,x.place=p→¬ x.hour≤h)∨∃ x∈ks.take k,x.place=p∧x.hour≤h∧IF p h (ks.take k)=(x.who,x.hour)∧∀ y∈ks.take k,y.place=p→y.hour≤h→y.hour≤x.hour:=by
  intro k
  induction k with
  | zero=>intro _;exact .inl ⟨rfl,fun x hx=>by simp at hx⟩
  | succ k ih=>
    intro hk;have hm:=BC (xs:=ks) (d:=AU) (show k<ks.length by omega);have hin:∀ y,y∈ks.take (k+1)↔y∈ks.take k∨y=ks.getD k AU:=fun y=>by rw [DI (d:=AU) (by omega)];simp
    cases hc:(cmp .eql (ks.getD k AU).place p&&(cmp .leq (ks.getD k AU).hour h&&cmp .gtr (ks.getD k AU).hour (IF p h (ks.take k)).2)) with
    | true=>
      rw [← kfold_t (by omega) hc];simp only [EC,cmp_leq,cmp_gtr,Bool.and_eq_true,decide_eq_true_eq] at hc;refine .inr ⟨_,(hin _).2 (.inr rfl),hc.1,hc.2.1,rfl,fun y hy h1 h2=>?_⟩;rcases (hin y).1 hy with hy | rfl
      · rcases ih (by omega) with ⟨_,h3⟩ | ⟨x,_,_,_,h3,h4⟩
        · exact absurd h2 (h3 y hy h1)
        · have:=h4 y hy h1 h2;rw [h3] at hc;simp only at hc;omega
      · exact Int.le_refl _
    | false=>
      rw [← kfold_f (by omega) hc];have hn:¬ ((ks.getD k AU).place=p∧(ks.getD k AU).hour≤h∧(IF p h (ks.take k)).2<(ks.getD k AU).hour):=fun hh=>by
        simp only [EC,cmp_leq,cmp_gtr,hh.1,hh.2.1,hh.2.2,decide_true,Bool.and_self] at hc;cases hc
      rcases ih (by omega) with ⟨h2,h3⟩ | ⟨x,h1,h2,h5,h3,h4⟩
      · refine .inl ⟨h2,fun y hy h1 h4=>?_⟩
        rcases (hin y).1 hy with hy | rfl
        · exact h3 y hy h1 h4
        · refine hn ⟨h1,h4,?_⟩
          rw [h2];have:=h0 _ hm;simp only;omega
      · refine .inr ⟨x,(hin x).2 (.inl h1),h2,h5,h3,fun y hy h6 h7=>?_⟩
        rcases (hin y).1 hy with hy | rfl
        · exact h4 y hy h6 h7
        · rcases Int.lt_or_le x.hour (ks.getD k AU).hour with h8 | h8
          · exact absurd ⟨h6,h7,by rw [h3];exact h8⟩ hn
          · exact h8
end
theorem keepErr_ok2 {L:Lin} {i:Nat} (h:EX L i=0):(0≤(L.keeps.getD i AU).hour∧(L.keeps.getD i AU).hour≤200)∧(1≤(L.keeps.getD i AU).who∧(L.keeps.getD i AU).who≤9)∧∀ x∈L.keeps.take i,¬ (x.place=(L.keeps.getD i AU).place∧x.hour=(L.keeps.getD i AU).hour):=by
  unfold EX at h;simp only at h
  split at h;· omega
  split at h;· omega
  rename_i h2
  split at h;· omega
  rename_i h3
  split at h;· omega
  rename_i h4
  refine ⟨EW (by simpa using h2),EW (by simpa using h3),fun x hx hh=>h4 (List.any_eq_true.2 ⟨x,hx,by simp [hh.1,hh.2]⟩)⟩
section
variable {L:Lin} (g:GoodL L)
include g
theorem GoodL.keepOf {x:Keep} (hx:x∈L.keeps):(0≤x.hour∧x.hour≤200)∧(1≤x.who∧x.who≤9):=by
  obtain ⟨k,hk,rfl⟩:=List.mem_iff_getElem.1 hx;have:=keepErr_ok2 (g.keep k hk);have e:L.keeps.getD k AU=L.keeps[k]:=by simp [List.getD,hk]
  rw [e] at this;exact ⟨this.1,this.2.1⟩
theorem GoodL.keepOnce {x y:Keep} (hx:x∈L.keeps) (hy:y∈L.keeps) (h1:x.place=y.place) (h2:x.hour=y.hour):x=y:=by
  obtain ⟨i,hi,rfl⟩:=List.mem_iff_getElem.1 hx;obtain ⟨j,hj,rfl⟩:=List.mem_iff_getElem.1 hy;have aux:∀ i j (hi:i<L.keeps.length) (hj:j<L.keeps.length),i<j→¬ (L.keeps[i].place=L.keeps[j].place∧L.keeps[i].hour=L.keeps[j].hour):=fun i j hi hj hij hh=>by
    have:=(keepErr_ok2 (g.keep j hj)).2.2 L.keeps[i] (by rw [List.mem_take_iff_getElem];exact ⟨i,by omega,rfl⟩);have e:L.keeps.getD j AU=L.keeps[j]:=by simp [List.getD,hj]
    rw [e] at this;exact this hh
  rcases Nat.lt_trichotomy i j with h | h | h
  · exact absurd ⟨h1,h2⟩ (aux i j hi hj h)
  · subst h;rfl
  · exact absurd ⟨h1.symm,h2.symm⟩ (aux j i hj hi h)
theorem keeper_iff {p h w:Int} (hw:w≠0):BL L p h=w↔∃ x∈L.keeps,x.place=p∧x.hour≤h∧x.who=w∧∀ y∈L.keeps,y.place=p→y.hour≤h→y.hour≤x.hour:=by
  have hs:=kfold_spec (p:=p) (h:=h) (ks:=L.keeps) (fun x hx=>(g.keepOf hx).1.1) L.keeps.length (Nat.le_refl _);rw [List.take_length] at hs;unfold BL
  constructor
  · intro hh
    rcases hs with ⟨h1,_⟩ | ⟨x,hx,h1,h2,h3,h4⟩
    · rw [h1] at hh;exact absurd hh.symm hw
    · rw [h3] at hh;exact ⟨x,hx,h1,h2,hh,h4⟩
  · rintro ⟨x,hx,h1,h2,h3,h4⟩
    rcases hs with ⟨_,h5⟩ | ⟨y,hy,h5,h6,h7,h8⟩
    · exact absurd h2 (h5 x hx h1)
    · have e:x=y:=g.keepOnce hx hy (by rw [h1,h5]) (by have:=h8 x hx h1 h2;have:=h4 y hy h5 h6;omega)
      subst e;rw [h7];exact h3
omit g in
theorem holdTo_mem {p since x:Int}:∀ {n:Nat},x∈CE L p since n↔∃ h:Nat,h<n∧since≤h∧BL L p h=x∧x≠0:=by
  intro n
  induction n with
  | zero=>simp [CE]
  | succ n ih=>
    have up:(∃ h:Nat,h<n+1∧since≤h∧BL L p h=x∧x≠0)↔(∃ h:Nat,h<n∧since≤h∧BL L p h=x∧x≠0)∨(since≤n∧BL L p n=x∧x≠0):=by
      constructor
      · rintro ⟨h,h1,h2⟩
        rcases Nat.lt_or_ge h n with h3 | h3
        · exact .inl ⟨h,h3,h2⟩
        · have:h=n:=by omega
          subst this;exact .inr h2
      · rintro (⟨h,h1,h2⟩ | h2)
        · exact ⟨h,by omega,h2⟩
        · exact ⟨n,by omega,h2⟩
    rw [up,← ih];simp only [CE]
    split
    · rename_i h;exact ⟨.inl,fun q=>q.elim id (fun e=>by omega)⟩
    · split
      · rename_i h;exact ⟨.inl,fun q=>q.elim id (fun e=>absurd (e.2.1.symm.trans h) e.2.2)⟩
      · rename_i h1 h2
        split
        · rename_i h3;exact ⟨.inl,fun q=>q.elim id (fun e=>e.2.1▸h3)⟩
        · simp only [List.mem_append,List.mem_singleton]
          exact ⟨fun q=>q.elim .inl (fun e=>.inr ⟨by omega,e.symm,e▸h2⟩),fun q=>q.elim .inl (fun e=>.inr e.2.1.symm)⟩
omit g
theorem nodup_inj {α β:Type} {f:α→β} {l:List α} (h:(l.map f).Nodup):∀ a∈l,∀ b∈l,f a=f b→a=b:=by
  intro a ha b hb e
  induction l with
  | nil=>cases ha
  | cons x r ih=>
    rw [List.map_cons,List.nodup_cons] at h;rcases List.mem_cons.1 ha with rfl | ha1 <;> rcases List.mem_cons.1 hb with rfl | hb1
    · rfl
    · exact absurd (e▸List.mem_map_of_mem (f:=f) hb1) h.1
    · exact absurd (e▸List.mem_map_of_mem (f:=f) ha1) h.1
    · exact ih h.2 ha1 hb1
section
variable {i:Nat} (g:GoodL L) (hi:i<(AJ AC L.slips).length)
include g hi
end
end
section
variable {L:Lin} {p who frm to:Int} {ks:List Keep} {k:Keep} {i m:Nat}
end
section
variable {L:Lin} {G:List Gap} {n:Int} {i k m:Nat}
variable (g:GoodL L) (hi:i<(sortS L.slips).length)
include g hi
end
section
variable {A:List Slip} {s:Slip} {k:Nat}
end
abbrev Ods:=List (Debt × Int)
def OT (k:Debt):Ods→Int
  | []=>0
  | x::r=>if x.1=k then x.2 else OT k r
def putO (k:Debt) (v:Int):Ods→Ods
  | []=>[(k,v)]
  | x::r=>if x.1=k then (k,v)::r else x::putO k v r
theorem getO_put {k j:Debt} {v:Int} {h:Ods}:OT j (putO k v h)=if j=k then v else OT j h:=by
  induction h with
  | nil=>simp only [putO,OT];by_cases e:j=k <;> simp [e,Ne.symm,eq_comm]
  | cons x r ih=>
    simp only [putO]
    split
    · rename_i e
      simp only [OT]
      by_cases e2:j=k
      · subst e2;simp
      · simp only [if_neg e2];rw [if_neg (Ne.symm e2),e,if_neg (Ne.symm e2)]
    · rename_i e
      simp only [OT]
      split
      · rename_i e2;rw [if_neg (fun e3=>e (e2.trans e3))]
      · exact ih
def okCells (k:Debt):Array Value:=#[.int .i64 k.who,.int .i64 k.sort,.int .i64 k.amt]
def encO (k:Debt):Value:=.agg (okCells k)
def flatO:List (Nat × SK):=[(0,.i .i64),(1,.i .i64),(2,.i .i64)]
theorem keyOk_debt {P:Program} {kt:TypeId} (h:IX P 4 kt=some (3,flatO)) (hagg:DP P kt=some true):KeyOk P kt encO:=
  keyOk_flat h (by decide) hagg okCells (fun _=>rfl) (fun _=>rfl) (fun a b=>by
    obtain ⟨a1,a2,a3⟩:=a;obtain ⟨b1,b2,b3⟩:=b
    show ((a1 == b1)&&((a2 == b2)&&((a3 == b3)&&true)))=decide ((⟨a1,a2,a3⟩:Debt)=⟨b1,b2,b3⟩)
    simp only [Bool.and_true,Debt.mk.injEq,Bool.decide_and];rfl)
def intO (h:Ods):List (Debt × Value):=h.map fun x=>(x.1,.int .i64 x.2)
theorem MW (k:Debt) (h:Ods):(IZ k (intO h)).getD (.int .i64 0)=.int .i64 (OT k h):=by
  induction h with
  | nil=>rfl
  | cons x r ih => simp only [intO, List.map_cons, IZ, OT] at ih ⊢; split; · rfl
                   · exact ih
theorem upd_intO (k:Debt) (v:Int) (h:Ods):upd k (.int .i64 v) (intO h)=intO (putO k v h):=by
  induction h with
  | nil=>rfl
  | cons x r ih => simp only [intO, List.map_cons, upd, putO] at ih ⊢; split; · rfl
                   · rw [ih];rfl
def MapO (es:Array MapEntry) (cl:Nat) (H:Ods):Prop:=MapB encO es cl (intO H)∧(H.map Prod.fst).Nodup
def EntO (es:Array MapEntry) (cl:Nat) (H:Ods) (k:Debt) (st:Nat):Prop:=MapB encO es cl (ent k (.int .i64 0) (intO H))∧Stamp es (ent k (.int .i64 0) (intO H)) st k∧(H.map Prod.fst).Nodup
theorem MapO.nil (cl:Nat):MapO #[] cl []:=⟨MapB.nil _ _,by simp⟩
theorem putO_keys (k:Debt) (v:Int):∀ H:Ods,(putO k v H).map Prod.fst=if k∈H.map Prod.fst then H.map Prod.fst else H.map Prod.fst++[k]:=by
  intro H
  induction H with
  | nil=>rfl
  | cons x r ih=>
    simp only [putO]
    by_cases h:x.1=k
    · simp [h]
    · rw [if_neg h]
      simp only [List.map_cons,ih,List.mem_cons,Ne.symm h,false_or]
      split <;> simp
theorem putO_once {k:Debt} {v:Int} {H:Ods} (h:(H.map Prod.fst).Nodup):((putO k v H).map Prod.fst).Nodup:=by
  rw [putO_keys]
  split
  · exact h
  · rename_i hk
    exact List.nodup_append.2 ⟨h,by simp,fun a ha b hb=>by
      simp only [List.mem_singleton] at hb
      intro e;rw [e,hb] at ha;exact hk ha⟩
end Go.Sh
namespace Go.Sl
open Go Go.Sh
section
variable {P:Program} {N:Nat} {ops:Array Oper} {i:Nat} {l:Sl} {I:Imm} {M:Seg} {ty:TypeId} {gd:Option (Nat × Bool)} {K:Sl→Imm→Seg→Prop} {d:Nat}
theorem stp_entO {x y : Operand} {T kt et r cl : Nat} {es : Array MapEntry} {H : Ods} {k : Debt} (n : Nat) (hop : EQ ops N i = some (some d, .mapEntry T x y, ty, gd)) (hg : EJ ops l gd = some true)
    (hT:ON P T=some (kt,et)) (hK:KeyOk P kt encO) (hx:BM l x=some (.map (some r))) (hy:BM l y=some (encO k)) (hz:GQ P et=some (.int .i64 0)) (hn:M[n]?=some (r,Obj.map es cl)) (hb:MapO es cl H)
    (h:∀ es' cl' (st:Nat),EntO es' cl' H k st→K ((d,.tuple #[.int .i64 (OT k H),.int .i64 (st:Int)])::l) I (M.set n (r,Obj.map es' cl'))):Stp P N ops i l I M K:=
  OE n hop hg hT hK hx hy hz hn hb.1 fun es' cl' st h1 h2=>by
    rw [MW];exact h es' cl' st ⟨h1,h2,hb.2⟩
theorem stp_fillO {x y u : Operand} {T r cl st : Nat} {es : Array MapEntry} {H : Ods} {k : Debt} {v : Int} (n : Nat) (hop : EQ ops N i = some (none, .entryStore T x y u, ty, gd)) (hg : EJ ops l gd = some true)
    (hx:BM l x=some (.map (some r))) (hy:BM l y=some (.int .i64 (st:Int))) (hu:BM l u=some (.int .i64 v)) (hn:M[n]?=some (r,Obj.map es cl)) (hb:EntO es cl H k st)
    (h:∀ es',MapO es' cl (putO k v H)→K l I (M.set n (r,Obj.map es' cl))):Stp P N ops i l I M K:=
  KX (k:=k) n hop hg hx hy hu hn hb.1 hb.2.1 fun es' h'=>h es' ⟨by rw [upd_ent,upd_intO] at h';exact h',putO_once hb.2.2⟩
theorem stp_nextO {x : Operand} {r cl b : Nat} {es : Array MapEntry} {seen : Array Nat} {todo : Ods} (n : Nat) (hop : EQ ops N i = some (some d, .next x false, ty, gd)) (hg : EJ ops l gd = some true)
    (hx:BM l x=some (.pointer (some ⟨b,0,none⟩))) (hn:M[n]?=some (b,Obj.mapIter (some r) cl seen cl)) (hm:Holds I M r (.map es cl)) (hb:Borns es cl) (hl:Left encO es seen (intO todo))
    (h0:todo=[]→K ((d,.tuple #[.bool false])::l) I M)
    (h1:∀ A (y:Debt × Int) B seen',todo=A++y::B→Left encO es seen' (intO (A++B))→AtEntry encO es seen' (y.1,.int .i64 y.2)→K ((d,.tuple #[.bool true,encO y.1,.int .i64 y.2])::l) I (M.set n (b,Obj.mapIter (some r) cl seen' cl))):Stp P N ops i l I M K:=
  stp_next n hop hg hx hn hm hb hl (fun h=>h0 (by simpa [intO] using h)) fun A y B seen' e hl' ha=>by
    obtain ⟨A',y',B',rfl,rfl,rfl,rfl⟩:=map_cut (show todo.map _=A++y::B from e);exact h1 A' y' B' seen' rfl (by simpa [intO] using hl') ha
end
end Go.Sl
namespace Go.Sh
open Go Go.Sl
def oweK (q:EvH):Debt:=⟨q.2.getD 0 0,q.1.slip.sort,0⟩
def MK (O:Ods) (q:EvH):Ods:=if q.1.gap<0∧q.2.length=1 then putO (oweK q) (OT (oweK q) O-q.1.gap) O else O
def EG (l:List EvH):Ods:=l.foldl MK []
def mkD (q:Debt × Int):Debt:=⟨q.1.who,q.1.sort,q.2⟩
def EK (a b:Debt):Int:=if a.who≠b.who then a.who-b.who else a.sort-b.sort
def NR (s:Debt):Prop:=-1000000≤s.who∧s.who≤1000000∧-1000000≤s.sort∧s.sort≤1000000
def LL (L:Lin):List Debt × Int:=if HO L≠0 then ([],HO L) else (AJ EK ((EG (FS L)).map mkD),0)
section
variable {L:Lin} {xs:List EvH} {x:EvH}
theorem owesOf_snoc:EG (xs++[x])=MK (EG xs) x:=by unfold EG;rw [List.foldl_append];rfl
theorem owes_t (h:(cmp .lss x.1.gap 0&&cmp .eql (x.2.length:Int) 1)=true):putO ⟨x.2.getD 0 0,x.1.slip.sort,0⟩ (OT ⟨x.2.getD 0 0,x.1.slip.sort,0⟩ (EG xs)-x.1.gap) (EG xs)=EG (xs++[x]):=by
  simp only [cmp_lss,EC,Bool.and_eq_true,decide_eq_true_eq] at h;rw [owesOf_snoc];unfold MK;rw [if_pos ⟨h.1,by omega⟩];rfl
theorem owes_f (h:(cmp .lss x.1.gap 0&&cmp .eql (x.2.length:Int) 1)=false):EG xs=EG (xs++[x]):=by
  simp only [cmp_lss,EC,Bool.and_eq_false_iff,decide_eq_false_iff_not] at h;rw [owesOf_snoc];unfold MK;rw [if_neg (fun e=>by omega)]
theorem owedE_1 (h:HO L≠0):LL L=([],HO L):=if_pos h
theorem owedE_2 (h:HO L=0):LL L=(AJ EK ((EG (FS L)).map mkD),0):=if_neg (fun x=>x h)
theorem lack_in {q:EvH}:∀ {i:Nat} {E:List Sh.Event},i≤E.length→q∈(EI L (E.take i)).2→q.1∈E.take i∧q.1.gap≠0∧∃ s,q.2=DE L q.1.slip s:=by
  intro i
  induction i with
  | zero=>intro E _ hq;simp [EI] at hq
  | succ i ih=>
    intro E hi hq;rw [DI (d:=noEvent) (by omega:i<E.length)] at hq ⊢;rw [HC] at hq;unfold OJ at hq
    split at hq
    · exact ⟨List.mem_append_left _ (ih (by omega) hq).1,(ih (by omega) hq).2⟩
    · simp only at hq
      split at hq
      · rename_i hg
        rcases List.mem_append.1 hq with hq | hq
        · exact ⟨List.mem_append_left _ (ih (by omega) hq).1,(ih (by omega) hq).2⟩
        · simp only [List.mem_singleton] at hq;subst hq;exact ⟨by simp,hg,_,rfl⟩
      · exact ⟨List.mem_append_left _ (ih (by omega) hq).1,(ih (by omega) hq).2⟩
theorem lack_len:∀ {xs:List Sh.Event} {q:Hs × List EvH},((xs.foldl (OJ L) q).2).length≤q.2.length+xs.length:=by
  intro xs
  induction xs with
  | nil=>intro q;exact Nat.le_refl _
  | cons x r ih=>
    intro q;have h1:=ih (q:=OJ L q x);have h2:(OJ L q x).2.length≤q.2.length+1:=by
      unfold OJ;split
      · omega
      · simp only;split
        · simp
        · omega
    simp only [List.foldl_cons,List.length_cons];omega
variable (g:GoodL L)
include g
theorem lack_count:(FS L).length≤8:=by
  have h1:=lack_len (L:=L) (xs:=GU L) (q:=([],[]));have h2:=eventsOf_length (L:=L);have h3:=g.slips;unfold FS EI;simp only [List.length_nil] at h1;omega
theorem lack_all {q:EvH} (hq:q∈FS L):(-1000000≤q.1.gap∧q.1.gap≤1000000)∧(0≤q.1.slip.sort∧q.1.slip.sort≤1)∧∀ w∈q.2,1≤w∧w≤9:=by
  have h1:=lack_in (L:=L) (i:=(GU L).length) (E:=GU L) (Nat.le_refl _) (q:=q) (by rw [List.take_length];exact hq);rw [List.take_length] at h1;obtain ⟨h2,h3,s,h4⟩:=h1;have h5:=gap_small g ⟨q.1.slip.num,q.1.gap⟩ (List.mem_flatMap.2 ⟨q.1,h2,by unfold gapOf;rw [if_pos h3];simp⟩);have h6:=NL (g.slipOf ((EE _).subset (evs_slip h2)));have h7:=g.sorts;refine ⟨h5,by omega,fun w hw=>?_⟩;rw [h4] at hw;unfold DE at hw;have hw2:=(EE _).subset hw;obtain ⟨_,_,_,h8,h9⟩:=holdTo_mem.1 hw2;obtain ⟨k,hk,_,_,h10,_⟩:=(keeper_iff g h9).1 h8;have:=(g.keepOf hk).2;omega
theorem owes_keys:∀ {xs:List EvH},(∀ q∈xs,q∈FS L)→∀ x∈EG xs,x.1.amt=0∧(1≤x.1.who∧x.1.who≤9)∧(0≤x.1.sort∧x.1.sort≤1):=by
  have aux:∀ {xs:List EvH} {O:Ods},(∀ q∈xs,q∈FS L)→(∀ x∈O,x.1.amt=0∧(1≤x.1.who∧x.1.who≤9)∧(0≤x.1.sort∧x.1.sort≤1))→∀ x∈xs.foldl MK O,x.1.amt=0∧(1≤x.1.who∧x.1.who≤9)∧(0≤x.1.sort∧x.1.sort≤1):=by
    intro xs
    induction xs with
    | nil=>intro O _ h;exact h
    | cons q r ih=>
      intro O hq h;refine ih (fun y hy=>hq y (by simp [hy])) ?_;unfold MK
      split
      · rename_i hc
        intro x hx;have hk:x.1∈(putO (oweK q) (OT (oweK q) O-q.1.gap) O).map Prod.fst:=List.mem_map_of_mem hx;rw [putO_keys] at hk;have hl:=lack_all g (hq q (by simp));have hnew:x.1=oweK q→x.1.amt=0∧(1≤x.1.who∧x.1.who≤9)∧(0≤x.1.sort∧x.1.sort≤1):=fun e=>by
          rw [e];exact ⟨rfl,hl.2.2 _ (BC (d:=0) (by omega)),hl.2.1⟩
        have hold:x.1∈O.map Prod.fst→x.1.amt=0∧(1≤x.1.who∧x.1.who≤9)∧(0≤x.1.sort∧x.1.sort≤1):=fun e=>by
          obtain ⟨y,hy,e2⟩:=List.mem_map.1 e;rw [← e2];exact h y hy
        split at hk
        · exact hold hk
        · rcases List.mem_append.1 hk with hk | hk
          · exact hold hk
          · exact hnew (List.mem_singleton.1 hk)
      · exact h
  intro xs hq x hx;exact aux hq (fun x hx=>by cases hx) x hx
theorem owes_bound {k:Debt}:∀ {xs:List EvH},(∀ q∈xs,q∈FS L)→0≤OT k (EG xs)∧OT k (EG xs)≤1000000*xs.length:=by
  have aux:∀ {xs:List EvH} {O:Ods} {B:Int},(∀ q∈xs,q∈FS L)→(∀ k,0≤OT k O∧OT k O≤B)→∀ k,0≤OT k (xs.foldl MK O)∧OT k (xs.foldl MK O)≤B+1000000*xs.length:=by
    intro xs
    induction xs with
    | nil=>intro O B _ h k;have:=h k;simp only [List.foldl_nil,List.length_nil];omega
    | cons q r ih=>
      intro O B hq h k
      have:=ih (O:=MK O q) (B:=B+1000000) (fun y hy=>hq y (by simp [hy])) (fun j=>by
        have hl:=(lack_all g (hq q (by simp))).1
        unfold MK;split
        · rw [getO_put];have:=h j;have:=h (oweK q);split <;> omega
        · have:=h j;omega) k
      simp only [List.foldl_cons,List.length_cons,Int.natCast_add,Int.natCast_one];omega
  intro xs hq;have:=aux (O:=[]) (B:=0) hq (fun k=>by simp [OT]) k;unfold EG;omega
end
section
variable {O dn td:Ods}
theorem OG (hn:(O.map Prod.fst).Nodup) (ha:∀ x∈O,x.1.amt=0):Strict EK (O.map mkD):=by
  refine ⟨fun a ha' b hb' hne=>?_,fun a _=>?_,fun a _ b _ d _ h1 h2=>?_⟩
  · obtain ⟨p,hp,rfl⟩:=List.mem_map.1 ha'
    obtain ⟨q,hq,rfl⟩:=List.mem_map.1 hb'
    have:¬ (p.1.who=q.1.who∧p.1.sort=q.1.sort):=fun e=>hne (by
      have e1:p.1=q.1:=by
        have h1:=ha p hp;have h2:=ha q hq
        cases hp1:p.1;cases hq1:q.1
        rw [hp1,hq1] at e;rw [hp1] at h1;rw [hq1] at h2
        simp only at e h1 h2
        rw [e.1,e.2,h1,h2]
      have:=nodup_inj hn p hp q hq e1
      rw [this])
    unfold EK mkD;simp only
    split <;> split <;> omega
  · unfold EK;split <;> omega
  · unfold EK at *;split at h1 <;> split at h2 <;> split <;> omega
theorem nodup_debts (hn:(O.map Prod.fst).Nodup) (ha:∀ x∈O,x.1.amt=0):(O.map mkD).Nodup:=by
  have hs:=OG hn ha;rw [List.Nodup,List.pairwise_map];have h1:O.Pairwise fun a b=>a.1≠b.1:=List.pairwise_map.1 hn
  refine List.Pairwise.imp_of_mem (fun {a b} hA hB hab e=>hab ?_) h1;have h2:=ha a hA;have h3:=ha b hB;unfold mkD at e;simp only [Debt.mk.injEq] at e;cases ha1:a.1;cases hb1:b.1;rw [ha1] at h2 e;rw [hb1] at h3 e;simp only at h2 h3 e;rw [e.1,e.2.1,h2,h3]
theorem debts_sorted (hn:(O.map Prod.fst).Nodup) (ha:∀ x∈O,x.1.amt=0) (hp:(dn++td).Perm O) (ht:td=[]):AJ EK (dn.map mkD)=AJ EK (O.map mkD):=by
  subst ht;rw [List.append_nil] at hp;have hpm:(dn.map mkD).Perm (O.map mkD):=hp.map _;have hs:=OG hn ha;have hnd:=nodup_debts hn ha;exact asc_unique ((hs.perm hpm).perm (EE _)) ((EE _).trans (hpm.trans (EE _).symm)) (NW (hs.perm hpm) (hpm.nodup_iff.2 hnd)) (NW hs hnd)
theorem small_debts {L:Lin} (g:GoodL L) (hp:(dn++td).Perm (EG (FS L))):∀ x∈dn.map mkD,NR x:=fun x hx=>by
  obtain ⟨q,hq,rfl⟩:=List.mem_map.1 hx;have:=owes_keys g (xs:=FS L) (fun _ h=>h) q (hp.subset (List.mem_append_left _ hq));unfold NR mkD;simp only;omega
theorem owes_len:∀ {xs:List EvH},(EG xs).length≤xs.length:=by
  have aux:∀ {xs:List EvH} {O:Ods},(xs.foldl MK O).length≤O.length+xs.length:=by
    intro xs
    induction xs with
    | nil=>intro O;exact Nat.le_refl _
    | cons q r ih=>
      intro O;have h1:=ih (O:=MK O q);have h2:(MK O q).length≤O.length+1:=by
        unfold MK;split
        · have h3:=congrArg List.length (putO_keys (oweK q) (OT (oweK q) O-q.1.gap) O)
          rw [List.length_map] at h3
          split at h3
          · rw [List.length_map] at h3;omega
          · rw [List.length_append,List.length_map,List.length_singleton] at h3;omega
        · omega
      simp only [List.foldl_cons,List.length_cons];omega
  intro xs;have:=aux (xs:=xs) (O:=[]);unfold EG;simp only [List.length_nil] at this;omega
end
end Go.Sh
namespace Go.Proofs.YtmhdidbgjpeadaaGreat
open Go Go.Sl Go.Sh
set_option maxRecDepth 100000
noncomputable def c_owed1:=cod Tryz.f70
theorem owed1_ct (I:Imm) (a:Debt) (b:Debt) (hr:NR a∧NR b):CtV Tryz.prog 70 #[.agg #[vI a.who,vI a.sort,vI a.amt],.agg #[vI b.who,vI b.sort,vI b.amt]] I (vI (EK a b)):=by
 refine fr (args:=[_,_]) (N:=20) Tryz.func70 (fun F=>?_);show Run _ _ (c_owed1 []) _ _ [(0,_),(1,_)] _ _;refine rnm ?_;obtain ⟨⟨hr1,hr2,hr3,hr4⟩,hr5,hr6,hr7,hr8⟩:=hr;refine rqr (sS (sb 2 117 #[vI a.who,vI a.sort,vI a.amt] (fun b1=>(sS (sb 3 117 #[vI b.who,vI b.sort,vI b.amt] (fun b3=>(sp 1 [(4,vI 0)] (se (rq (rqr (sp 1 [(5,vP b1 0)] (sd (dlb 6 1 0 b1 (vI a.who)) (sp 1 [(7,vP b3 0)] (sd (dlb 8 0 0 b3 (vI b.who)) (sp 1 [(9,.bool (!(cmp .eql a.who b.who)))] (se (rc 9 rfl (fun h1=>?_) (fun h1=>?_))))))))))))))))))
 ·
  have a0:=h1;have h1:=CF (CQ h1);refine rqr (sp 1 [(10,vP b1 0)] (sd (dlb 11 1 0 b1 (vI a.who)) (sp 1 [(12,vP b3 0)] (sd (dlb 13 0 0 b3 (vI b.who)) (sd (dsb 14 a.who b.who) (sp 1 [(4,vI (a.who-b.who))] (se (BE (RP (DO 4 [] rfl (TC _ (TC _ (TR _))) (IR _) ?_))))))))));exact ⟨congrArg (Value.int .i64) (if_pos h1).symm,rfl⟩
 have a0:=h1;have h1:=CL (CU h1);refine AN (NX (rqr (sp 1 [(15,vP b1 1)] (sd (dlb 16 1 1 b1 (vI a.sort)) (sp 1 [(17,vP b3 1)] (sd (dlb 18 0 1 b3 (vI b.sort)) (sd (dsb 19 a.sort b.sort) (sp 1 [(4,vI (a.sort-b.sort))] (se (BE (DO 4 [] rfl (TC _ (TC _ (TR _))) (IR _) ?_)))))))))));exact ⟨congrArg (Value.int .i64) (if_neg (fun x=>x h1)).symm,rfl⟩
noncomputable def c_insSortD:=cod Tryz.f136
theorem insSortD_ct (I:Imm) (d:Value) (xs:List Debt) (d_Ms:Seg) (u:Nat) (v:Nat) (d_h:Own 117 3 CO d xs d_Ms) (h0:u=0) (hb:v=xs.length) (hsm:∀ x∈xs,NR x) (hl:xs.length≤1000000):Ct Tryz.prog 136 #[d,vI ↑u,vI ↑v,.func (.func 70) #[] #[]] I d_Ms (fun v I' M'=>∃ d_Mt:Seg,v=.tuple #[]∧M'=d_Mt∧Own 117 3 CO d (AJ EK xs) d_Mt):=by
 obtain ⟨a3,a4,rfl,c7⟩:=d_h.shape;refine fr (args:=[_,_,_,_]) (N:=53) Tryz.func136 (fun F=>?_);show Run _ _ (c_insSortD []) _ _ [(0,_),(1,_),(2,_),(3,_)] _ _;refine rnm (rqr ?_);refine sp 1 [(10,vI ↑u)] (sd (da 11 ↑u 1) (BJ 11 rfl (show (vI (↑u+1):Value)=vI (↑(1:Nat)) from congrArg (Value.int .i64) (by omega)) (sp 1 [(8,vI (↑(1:Nat)))] (se (rb 0 ?_)))));refine rl (fun mz a w=>∃ i:Nat,∃ zs:List Debt,∃ a2:Seg,(1≤i)∧(InsI EK xs zs i)∧(zs.Perm xs)∧(Own 117 3 CO (vS a3 xs.length a4) zs a2)∧SD 53 [(0,(vS a3 xs.length a4)),(8,vI ↑i),(1,vI ↑u),(2,vI ↑v),(3,.func (.func 70) #[] #[])] I (a2++F) a w (mz=xs.length-i)) ?_ ?_
 ·intro a w hS hD hW;exact ⟨_,1,xs,d_Ms,Nat.le_refl _,InsI.start,PR _,d_h,hS.sub su,hD,hW,rfl⟩
 rintro mz a w ⟨i,zs,a2,c8,b1,c5,a8,hS,hD,hW,rfl⟩
 refine AQ hS hD hW ?_;have d1:=b1.len;refine rq (rqr (sp 3 [(14,.bool (cmp .lss ↑i ↑v))] (se (rc 14 rfl (fun h1=>?_) (fun h1=>?_)))))
 ·
  have c1:=h1;have h1:=BZ h1;refine AN (NX (rq (rb 1 (rqr (sp 2 [(9,vI ↑i)] (se (rb 2 ?_)))))));refine rl (fun mz a w=>∃ j:Nat,∃ ys:List Debt,∃ a0:Seg,(InsAt EK CP xs ys i j)∧(ys.Perm xs)∧(Own 117 3 CO (vS a3 xs.length a4) ys a0)∧SD 53 [(0,(vS a3 xs.length a4)),(9,vI ↑j),(1,vI ↑u),(2,vI ↑v),(3,.func (.func 70) #[] #[]),(8,vI ↑i)] I (a0++F) a w (mz=j+1)) ?_ ?_
  ·intro a w hS hD hW;exact ⟨_,i,zs,a2,b1.into (by omega),c5,a8,hS.sub su,hD,hW,rfl⟩
  rintro mz a w ⟨j,ys,a0,b9,a7,a1,hS,hD,hW,rfl⟩
  refine AQ hS hD hW ?_;have d0:=b9.len;have c9:=b9.1;refine rq (rq ?_);refine BW (fun a w=>SE 53 [(0,vS a3 xs.length a4),(1,vI ↑u),(2,vI ↑v),(3,.func (.func 70) #[] #[]),(8,vI ↑i),(9,vI ↑j),(34,.bool ((cmp .gtr ↑j ↑u)&&(cmp .lss (EK (ys.getD j CP) (ys.getD ((↑j-1:Int).toNat) CP)) 0)))] I (a0++F) a w) ?_ ?_
  ·
   refine rd0 14 (ox 4 [(21,.bool (cmp .gtr ↑j ↑u))] ?_);refine IP 21 (fun h2=>?_) (fun h2=>?_)
   ·
    have a5:=h2;have a5:=IL a5;refine ox 3 [(24,vI ↑j),(23,vS a3 xs.length a4),(22,.func (.func 70) #[] #[])] ?_;obtain ⟨d2,b5⟩:=a1.row CP;refine AG (di 25 3 j (fun _=>b5.addr (by omega)) (n:=xs.length)) ?_;refine AG (dn 26 (FV (vals:=GR) (fun _=>rfl) b5 (fun x hx=>by simp [hx]) j (by omega))) (ox 2 [(28,vI ↑j),(27,vS a3 xs.length a4)] ?_);refine AG (dsb 29 ↑j 1) ?_;obtain ⟨d3,b6⟩:=a1.row CP;refine AG (diI 30 3 (↑j-1) (fun _=>b6.addr (by omega)) (n:=xs.length)) ?_;refine AG (dn 31 (FV (vals:=GR) (fun _=>rfl) b6 (fun x hx=>by simp [hx]) ((↑j-1:Int).toNat) (by omega))) ?_;refine BD (sd (dc 32 (fun I' hI=>(owed1_ct I' (ys.getD j CP) (ys.getD ((↑j-1:Int).toNat) CP) (by exact ⟨hsm _ (a7.subset (BC (by omega))),hsm _ (a7.subset (BC (by omega)))⟩) :))) (sp 2 [(34,.bool (cmp .lss (EK (ys.getD j CP) (ys.getD ((↑j-1:Int).toNat) CP)) 0))] (ee ?_)));refine AM (fun a w hS hD hW=>⟨hS.sub (sun 6 (.consE 34 rfl (congrArg Value.bool (by simp only [h2,kk])) (.nil _))),hD,hW⟩)
   have a5:=h2;have a5:=JS a5;refine ox 10 [(31,undef),(26,undef),(22,undef)] ?_;refine BD (sp 3 [(34,.bool false)] (ee ?_));refine AM (fun a w hS hD hW=>⟨hS.sub (sun 6 (.consE 34 rfl (congrArg Value.bool (by simp only [h2,kk])) (.nil _))),hD,hW⟩)
  rintro a w ⟨hS,hD,hW⟩
  refine AQ hS hD hW ?_;refine rc 34 rfl (fun h3=>?_) (fun h3=>?_)
  ·
   have c2:=h3;obtain ⟨b3,b0⟩:=and_t h3;have b3:=IL b3;have b0:=BZ b0;refine AN (NX (rq (rb 3 ?_)));refine rdX (M:=(a0++[])) (F0:=F) [] 16 [(0,true),(1,true),(2,true),(3,true),(4,true),(5,true),(6,true),(7,true),(8,true),(9,true),(10,true),(11,true),(12,true),(13,true),(14,true),(15,false)] (by simp only [AA,CA,NA,List.append_nil];exact PR _) FR ?_;refine AH (dpv 37 (vS a3 xs.length a4)) ?_;refine AH (dpv 38 (vI ↑j)) ?_;refine AY (dpv 39 (vS a3 xs.length a4)) ?_;refine AY (dpv 40 (vI ↑j)) ?_;refine AY (dsb 41 ↑j 1) ?_;refine AH (dpv 42 (vS a3 xs.length a4)) ?_;refine AH (dpv 43 (vI ↑j)) ?_;refine AH (dsb 44 ↑j 1) ?_;obtain ⟨d4,b7⟩:=a1.row CP;refine AH (diI 45 3 (↑j-1) (fun _=>b7.addr (by omega)) (n:=xs.length)) ?_;refine AH (dn 46 (FV (vals:=GR) (fun _=>rfl) b7 (fun x hx=>by simp [hx]) ((↑j-1:Int).toNat) (by omega))) ?_;refine AH (dpv 47 (vS a3 xs.length a4)) ?_;refine AH (dpv 48 (vI ↑j)) ?_;obtain ⟨d5,b8⟩:=a1.row CP;refine AH (di 49 3 j (fun _=>b8.addr (by omega)) (n:=xs.length)) ?_;refine AH (dn 50 (FV (vals:=GR) (fun _=>rfl) b8 (fun x hx=>by simp [hx]) j (by omega))) ?_;obtain ⟨d6,a9⟩:=a1.row CP;refine AH (di 51 3 j (fun _=>a9.addr (by omega)) (n:=xs.length)) ?_;refine CC (Mx:=fun FX=>(a0++FX)) rfl (fun FX=>by simp only [AA,CA,NA,List.append_nil];exact PR _) (fun FX=>?_);refine id (FZ (T:=117) (x:=(.tmp 51)) (y:=(.tmp 46)) (rc:=fun i f=>CO ((ys).getD i CP) f) CP j (ys.getD ((↑j-1:Int).toNat) CP) (ty:=0) (gd:=none) (by kernel_rfl) rfl a1 a9 (by omega) rfl rfl (by kernel_rfl) rfl (one1_debt _) (PR _) (fun b2 b4=>?_));refine DN (M1:=(b2++[])) (by simp only [AA,CA,NA,List.append_nil];exact (PR _)) (.wt (.wt (.wt (.wt (.wt (.wt (.wt (.wt (.wt (.wt (.none (.none (.none (.wt (.wt .nil))))))))))))))) ?_;refine EM (AR (M':=(b2++F)) (fun w h=>by simpa only [AA,CA,NA,List.append_nil] using h) (nm ?_));obtain ⟨c6,a6⟩:=b4.row CP;simp only [LS] at a6;refine sd (diI 52 3 (↑j-1) (fun _=>a6.addr (by omega)) (n:=xs.length)) (sS (FZ (T:=117) (x:=(.tmp 52)) (y:=(.tmp 50)) (rc:=fun i f=>CO ((ys.set j (ys.getD ((↑j-1:Int).toNat) CP)).getD i CP) f) CP ((↑j-1:Int).toNat) (ys.getD j CP) (ty:=0) (gd:=none) (by kernel_rfl) rfl b4 (by simpa only [LS] using a6) (by simp only [LS];omega) rfl rfl (by kernel_rfl) rfl (one1_debt _) (PR _) (fun c0 c3=>(nm (ee (NB (NX (rr ?_))))))));refine sp 1 [(35,vI ↑j)] (sd (dsb 36 ↑j 1) (sp 1 [(9,vI (↑j-1))] (ee ?_)));refine AL ((↑j-1:Int).toNat+1) (by omega) ?_;intro a w hS hD hW;exact ⟨(↑j-1:Int).toNat,(ys.set j (ys.getD ((↑j-1:Int).toNat) CP)).set ((↑j-1:Int).toNat) (ys.getD j CP),c0,b9.step (by omega) b0,(swapG (by omega) (by omega)).trans a7,c3,hS.sub (.consE 0 rfl rfl (.consE 9 rfl (congrArg (Value.int .i64) (by omega)) su)),hD,hW,rfl⟩
  have c2:=h3;refine BK 2 (EP (EP (EB (NB (NX (rr (sp 1 [(15,vI ↑i)] (sd (da 16 ↑i 1) (sp 1 [(8,vI (↑i+1))] (ee ?_))))))))));refine AL (xs.length-(i+1)) (by omega) ?_;intro a w hS hD hW;exact ⟨i+1,ys,a0,by omega,b9.done2 h0 h3,a7,a1,hS.sub su,hD,hW,rfl⟩
 have c1:=h1;have h1:=CG h1;refine BK 0 (EP (EP (EB ?_)));refine CJ a2 (by kernel_rfl) (TA (TR _) _) (IR _) ?_;exact ⟨_,rfl,rfl,((b1.done (by omega))▸a8)⟩
noncomputable def c_stableD:=cod Tryz.f125
theorem stableD_ct (I:Imm) (d:Value) (xs:List Debt) (d_Ms:Seg) (v:Nat) (d_h:Own 117 3 CO d xs d_Ms) (hb:v=xs.length) (hsm:∀ x∈xs,NR x) (hl:xs.length<20):Ct Tryz.prog 125 #[d,vI ↑v,.func (.func 70) #[] #[]] I d_Ms (fun v I' M'=>∃ d_Mt:Seg,v=.tuple #[]∧M'=d_Mt∧Own 117 3 CO d (AJ EK xs) d_Mt):=by
 obtain ⟨a1,a2,rfl,b2⟩:=d_h.shape;refine fr (args:=[_,_,_]) (N:=63) Tryz.func125 (fun F=>?_);show Run _ _ (c_stableD []) _ _ [(0,_),(1,_),(2,_)] _ _;refine rnm (rqr ?_);refine sp 1 [(6,vI 20)] (sn (sp 3 [(8,vI 20),(7,vI 0)] (se (rq (rb 0 ?_)))));refine rl (fun mz a w=>∃ k:Nat,(k=0)∧SD 63 [(7,vI 0),(8,vI 20),(0,vS a1 xs.length a2),(1,vI ↑v),(2,.func (.func 70) #[] #[]),(6,vI 20)] I (d_Ms++F) a w (mz=k+1)) ?_ ?_
 ·intro a w hS hD hW;exact ⟨_,0,rfl,hS.sub su,hD,hW,rfl⟩
 rintro mz a w ⟨k,b0,hS,hD,hW,rfl⟩
 refine AQ hS hD hW ?_;refine rq (rqr (sp 3 [(13,.bool (cmp .leq (↑(20:Nat)) ↑v))] (se (rc 13 rfl (fun h1=>?_) (fun h1=>?_)))))
 ·
  have a3:=h1;have h1:=leq_t h1;omega
 have a3:=h1;have h1:=leq_f h1;refine BK 0 (EP (EP (EB (NX (rqr (sp 4 [(26,.func (.func 70) #[] #[]),(25,vI ↑v),(24,vI (↑(0:Nat))),(23,vS a1 xs.length a2)] (sS (sc (some 27) (F:=(F)) (insSortD_ct _ _ _ _ 0 v d_h (by rfl) (by omega) (by exact hsm) (by omega) :) (.refl _) (fun b4 I1 b3 a5 b1=>?_)))))))));obtain ⟨a0,a8,a7,a6⟩:=b1;rw [a8,a7];clear a8 a7;refine nm (se (rb 2 ?_));refine rl (fun mz a w=>∃ k:Nat,(k=0)∧SD 63 [(6,vI 20),(0,vS a1 xs.length a2),(1,vI ↑v),(2,.func (.func 70) #[] #[])] I1 (a0++F) a w (mz=k+1)) ?_ ?_
 ·intro a w hS hD hW;exact ⟨_,0,rfl,hS.sub su,hD,hW,rfl⟩
 rintro mz a w ⟨k,b0,hS,hD,hW,rfl⟩
 refine AQ hS hD hW ?_;refine rq (rqr (sp 3 [(30,.bool (cmp .lss (↑(20:Nat)) ↑v))] (se (rc 30 rfl (fun h2=>?_) (fun h2=>?_)))))
 ·
  have a4:=h2;have h2:=BZ h2;omega
 have a4:=h2;have h2:=CG h2;refine BK 2 (EP (EP (EB ?_)));refine CJ a0 (by kernel_rfl) (TA (TR _) _) a5 ?_;exact ⟨_,rfl,rfl,a6⟩
noncomputable def c_SortStableD:=cod Tryz.f91
theorem SortStableD_ct (I:Imm) (d:Value) (xs:List Debt) (d_Ms:Seg) (d_h:Own 117 3 CO d xs d_Ms) (hsm:∀ x∈xs,NR x) (hl:xs.length<20):Ct Tryz.prog 91 #[d,.func (.func 70) #[] #[]] I d_Ms (fun v I' M'=>∃ d_Mt:Seg,v=.tuple #[]∧M'=d_Mt∧Own 117 3 CO d (AJ EK xs) d_Mt):=by
 obtain ⟨a3,a4,rfl,a9⟩:=d_h.shape;refine fr (args:=[_,_]) (N:=9) Tryz.func91 (fun F=>?_);show Run _ _ (c_SortStableD []) _ _ [(0,_),(1,_)] _ _;refine rnm (rr ?_);refine sp 4 [(7,.func (.func 70) #[] #[]),(6,vI (↑(xs.length))),(4,vS a3 xs.length a4)] (sS (sc (some 8) (F:=(F)) (stableD_ct _ _ _ _ xs.length d_h (by rfl) (by exact hsm) (by omega) :) (.refl _) (fun b1 I1 b0 a1 a8=>?_)));obtain ⟨a0,a6,a5,a2⟩:=a8;rw [a6,a5];clear a6 a5;refine nm (ee ?_);refine CJ a0 (by kernel_rfl) (TA (TR _) _) a1 ?_;exact ⟨_,rfl,rfl,a2⟩
noncomputable def c_CloneDebt:=cod Tryz.f90
theorem CloneDebt_ct (I:Imm) (z:Value) (xs:List Debt) (z_f:IsDebts I z xs) (hl:xs.length≤1000000):Ct Tryz.prog 90 #[z] I ([]) (fun v I' M'=>∃ u:Value,∃ Ms:Seg,v=u∧M'=Ms∧Own 117 3 CO u xs Ms):=by
 obtain ⟨a2,a3,b3,b6,rfl,b4,b5,b0⟩:=id z_f;refine fr (args:=[_]) (N:=8) Tryz.func90 (fun F=>?_);show Run _ _ (c_CloneDebt []) _ _ [(0,_)] _ _;refine rnm (rqr ?_);refine sp 1 [(2,vN)] (se (rq (rqr (sp 1 [(3,vS a2 xs.length a3)] (sd (IJ (e:=117) (x:=(.tmp 3)) (y:=(.const vN)) (T:=104) (T':=104) (d:=4) (ty:=4) (gd:=none) (by kernel_rfl) rfl (by kernel_rfl) rfl rfl) (se (rc 4 rfl (fun h1=>?_) (fun h1=>?_))))))))
 ·
  have a0:=h1;refine rqr (sp 1 [(2,vN)] (se (BE (RP ?_))));obtain rfl:=b0.nil h1;refine GX (t:=2) ([]) (by kernel_rfl) rfl (TR _) (IR _) ?_;exact ⟨_,_,rfl,rfl,Own.nil _ _ _⟩
 have a0:=h1;refine AN (NX (rqr (sS (sbs 5 117 0 #[] (fun b1=>(sp 1 [(6,vS a2 xs.length a3)] ?_))))));have a5:Own 117 3 CO (vS (some ⟨b1,0,none⟩) 0 0) ([]:List Debt) [(bX b1 #[] 117)]:=Own.lit rfl rfl;refine sS (sap (d:=7) 5 6 104 117 3 24 (.agg #[vI 0,vI 0,vI 0]) CO ([]:List Debt) xs [(bX b1 #[] 117)] rfl rfl a5 (PR _) (OB _) z_f.src (fun v4 a4 a1=>?_));rw [NA] at a1;refine nm ?_;obtain ⟨a6,a7,rfl,b2⟩:=a1.shape;refine sp 1 [(2,vS a6 xs.length a7)] (se (BE (DO 2 a4 rfl (TA (TR _) _) (IR _) ?_)));exact ⟨_,_,rfl,rfl,a1⟩
noncomputable def c_sortedD:=cod Tryz.f69
theorem sortedD_ct (I:Imm) (s:Value) (xs:List Debt) (s_f:IsDebts I s xs) (hsm:∀ x∈xs,NR x) (hl:xs.length<20):Ct Tryz.prog 69 #[s,.func (.func 70) #[] #[]] I ([]) (fun v I' M'=>∃ u:Value,∃ Ms:Seg,v=u∧M'=Ms∧Own 117 3 CO u (AJ EK xs) Ms):=by
 obtain ⟨b3,b4,c4,c7,rfl,c5,c6,c8⟩:=id s_f;refine fr (args:=[_,_]) (N:=12) Tryz.func69 (fun F=>?_);show Run _ _ (c_sortedD []) _ _ [(0,_),(1,_)] _ _;refine rnm (rqr ?_);refine sp 1 [(4,vN)] (sn (sp 1 [(6,vS b3 xs.length b4)] (sS (sc (some 7) (CloneDebt_ct _ _ _ s_f (by omega) :) (.refl _) (fun c3 I1 b6 a7 b5=>?_)))));obtain ⟨u6,c2,b1,b0,b2⟩:=b5;rw [b1,b0];clear b1 b0;obtain ⟨a1,a2,rfl,c0⟩:=b2.shape;refine nm ?_;refine sp 1 [(5,vS a1 xs.length a2)] (sn (sp 2 [(9,.func (.func 70) #[] #[]),(8,vS a1 xs.length a2)] (sS (sc (some 10) (F:=(F)) (SortStableD_ct _ _ _ _ b2 (by exact hsm) (by omega) :) (.refl _) (fun b8 c1 b7 a3 a8=>?_)))));obtain ⟨a0,a5,a4,a6⟩:=a8;rw [a5,a4];clear a5 a4;refine nm (sn ?_);refine sp 2 [(4,vS a1 xs.length a2)] (se (BE (DO 4 a0 rfl (TA (TR _) _) (IT a7 a3) ?_)));exact ⟨_,_,rfl,rfl,a6⟩
end Go.Proofs.YtmhdidbgjpeadaaGreat

/- A part of the proof of the laws of this seat. -/
import Derived.Test.YtcaocbhbofejnaaGreatDoorP1
import Derived.Below
import Derived.Laws.Strings
import Derived.Test.YtcaocbhbofejnaaGreatDoorP2
import Derived.Lib.Join
import Derived.Lib.ItoaNum
import Derived.Lib.ItoaLen
import Derived.Test.YtcaocbhbofejnaaGreatDoorP5
import Derived.Shelf.LaysM
import Derived.Shelf.Strings.OnBuilder
import Derived.Shelf.Strconv.Itoa3
import Derived.Test.YtcaocbhbofejnaaGreatDoorProg
import Derived.Lib.SplitLaws
import Derived.Lib.CutLaws
import Derived.Lib.AtoiAll
import Derived.Shelf.Strconv.AtoiAll
import Derived.Shelf.Strings.Split
import Derived.Shelf.Strings.Cut
set_option linter.unusedVariables false
set_option linter.unusedSimpArgs false
namespace Go.Sl
open Go
abbrev sB (l:List UInt8):ByteArray:=⟨l.toArray⟩
abbrev sV (l:List UInt8):Value:=.string ⟨l.toArray⟩
theorem sB_append (a b:List UInt8):sB a++sB b=sB (a++b):=by
  apply ByteArray.ext
  simp [sB]
theorem IW (a:List UInt8):(sB a).size=a.length:=by simp [sB,ByteArray.size]
section
variable {ρ:Option Nat} {P:Program} {N:Nat} {ops:Array Oper} {i:Nat} {l:Sl} {I:Imm} {R M:Seg} {d:Nat} {ty:TypeId} {gd:Option (Nat × Bool)}
theorem CT {x y : Operand} {T T' : TypeId} {a b : List UInt8} (hop : GL ops N i = some (some d, .binOp .add T x y T', ty, gd)) (hg : FR ops l gd = some true)
    (hx:CU l x=some (sV a)) (hy:CU l y=some (sV b)) (hl:a.length+b.length≤9223372036854775807):Det P N ops i l I R d (sV (a++b)):=
  EM hop hg (GW hx hy) fun I' M'=>by
    show wpL P ((do eqGuard .add T x y (rho l x) (rho l y);binOp .add T (rho l x) (rho l y)) >>= fun x=>pure (Next.value x)) _ I' M';rw [BN hx,BN hy];refine DM ?_;show wpL P (Op.stringOp .add (sB a) (sB b)) _ I' M';unfold Op.stringOp;simp only;rw [if_neg (by rw [IW,IW];show ¬ ((_:Int)>9223372036854775807);omega),sB_append];exact ⟨rfl,rfl⟩
theorem sB_eq (a b:List UInt8):((sB a).toList == (sB b).toList)=decide (a=b):=by
  rw [ByteArray.toList_eq,ByteArray.toList_eq];show (a == b)=_
  by_cases h:a=b <;> simp [h]
theorem EU {x y : Operand} {T T' : TypeId} {a b : List UInt8} (hop : GL ops N i = some (some d, .binOp .eql T x y T', ty, gd)) (hg : FR ops l gd = some true)
    (hx:CU l x=some (sV a)) (hy:CU l y=some (sV b)):Det P N ops i l I R d (.bool (decide (a=b))):=
  EM hop hg (GW hx hy) fun I' M'=>by
    show wpL P ((do eqGuard .eql T x y (rho l x) (rho l y);binOp .eql T (rho l x) (rho l y)) >>= fun x=>pure (Next.value x)) _ I' M';rw [BN hx,BN hy];refine DM ?_;show wpL P (Op.stringOp .eql (sB a) (sB b)) _ I' M';unfold Op.stringOp;simp only;rw [sB_eq];exact ⟨rfl,rfl⟩
theorem HM {x y : Operand} {T T' : TypeId} {a b : List UInt8} (hop : GL ops N i = some (some d, .binOp .neq T x y T', ty, gd)) (hg : FR ops l gd = some true)
    (hx:CU l x=some (sV a)) (hy:CU l y=some (sV b)):Det P N ops i l I R d (.bool (!decide (a=b))):=
  EM hop hg (GW hx hy) fun I' M'=>by
    show wpL P ((do eqGuard .neq T x y (rho l x) (rho l y);binOp .neq T (rho l x) (rho l y)) >>= fun x=>pure (Next.value x)) _ I' M';rw [BN hx,BN hy];refine DM ?_;show wpL P (Op.stringOp .neq (sB a) (sB b)) _ I' M';unfold Op.stringOp;simp only;rw [sB_eq];exact ⟨rfl,rfl⟩
end
def EX (x:List UInt8) (_:Nat):Value:=sV x
abbrev NG:=IsSl 1 EX ([]:List UInt8)
theorem DO {I:Imm} {a:Option Addr} {b o n:Nat} {xs:List (List UInt8)} (h:Row 1 I a b o n (fun i f=>EX (xs.getD i []) f)) {M:Seg} (i:Nat) (hi:i<n):Sees I M ⟨b,o+i*1,none⟩ (sV (xs.getD i [])):=(h.get i hi 0 (by decide)).sees
theorem FM (ys:List (List UInt8)):∀ c∈FH 1 EX ys,FC c=true:=one_enc (fun _ _ _=>rfl) ys
theorem ct_below {P:Program} {f:FuncId} {args:Array Value} {I:Imm} {v:Value} (h:∀ F w,St I F w→Calls P f args w fun e w'=>e=.returned v∧RowKit.Below w.heap.size w w'):CtV P f args I v:=fun F w st=>by
  refine (h F w st).mono fun e w' ⟨he,hb⟩=>⟨v,I,[],he,Imm.le.refl I,⟨rfl,rfl⟩,?_⟩
  have up:∀ b o,w.heap[b]?=some o→w'.heap[b]?=some o:=fun b o hq=>by
    rw [hb.block b (Array.getElem?_eq_some_iff.1 hq).1];exact hq
  exact ⟨hb.os.trans st.os,hb.tape.trans st.tape,hb.output.trans st.output,fun b o hq=>up b o (st.imm b o hq),fun b o hq=>up b o (st.mem b o hq),st.nodup,st.disj⟩
theorem sB_extract (l:List UInt8) (L H:Nat):(sB l).extract L H=sB ((l.drop L).take (H-L)):=by
  apply ByteArray.ext
  simp [sB,ByteArray.data_extract]
theorem sB_get (l:List UInt8) (i:Nat):(sB l)[i]?=l[i]?:=by
  by_cases h:i<l.length
  · rw [getElem?_pos (sB l) i (by rw [IW];exact h),List.getElem?_eq_getElem h]
    rfl
  · rw [getElem?_neg (sB l) i (by rw [IW];exact h),List.getElem?_eq_none (by omega)]
section
variable {ρ:Option Nat} {P:Program} {N:Nat} {ops:Array Oper} {i:Nat} {l:Sl} {I:Imm} {R M:Seg} {d:Nat} {ty:TypeId} {gd:Option (Nat × Bool)}
def BU (s:List UInt8) (j:Nat):Int:=((s.getD j 0).toNat:Int)
theorem HI {x y : Operand} {T : TypeId} {s : List UInt8} {k : IntKind} (j : Nat) (hop : GL ops N i = some (some d, .index T x y, ty, gd)) (hg : FR ops l gd = some true)
    (hT:P.underlying T=some .string) (hx:CU l x=some (sV s)) (hy:CU l y=some (.int k (j:Int))) (hj:j<s.length):Det P N ops i l I R d (.int .u8 (BU s j)):=
  EM hop hg (GW hx hy) fun I' M'=>by
    show wpL P (Instr.index T (rho l x) (rho l y) >>= fun x=>pure (Next.value x)) _ I' M';rw [BN hx,BN hy];refine DM ?_;unfold Instr.index;show wpL P (underlying T >>= _) _ I' M';rw [AC,AF hT];simp only [if_pos (Int.natCast_nonneg j),Int.toNat_natCast];have e:(({ data:=s.toArray }:ByteArray)[j]?)=some s[j]:=by rw [show ({ data:=s.toArray }:ByteArray)=sB s from rfl,sB_get,List.getElem?_eq_getElem hj]
    rw [e];have e2:BU s j=(s[j].toNat:Int):=by simp [BU,List.getD_eq_getElem?_getD,List.getElem?_eq_getElem hj]
    rw [e2];exact ⟨rfl,rfl⟩
theorem GN {x : Operand} {lo hi : Option Operand} {T : TypeId} {s : List UInt8} (L H : Nat) (hop : GL ops N i = some (some d, .slice T x lo hi none, ty, gd)) (hg : FR ops l gd = some true)
    (hT:P.underlying T=some .string) (hx:CU l x=some (sV s))
    (hlo:(lo=none∧L=0)∨∃ y k,lo=some y∧CU l y=some (.int k (L:Int)))
    (hhi:(hi=none∧H=s.length)∨∃ y k,hi=some y∧CU l y=some (.int k (H:Int)))
    (hL:L≤H) (hH:H≤s.length):Det P N ops i l I R d (sV ((s.drop L).take (H-L))):=
  EM hop hg (by
    intro z hz
    simp only [Op.operands] at hz
    simp only [Array.mem_append] at hz
    rcases hz with ((hz | hz) | hz) | hz
    · exact NO hx z hz
    · rcases hlo with ⟨rfl,_⟩ | ⟨y,k,rfl,hy⟩
      · simp at hz
      · simp at hz;subst hz;exact EV hy
    · rcases hhi with ⟨rfl,_⟩ | ⟨y,k,rfl,hy⟩
      · simp at hz
      · simp at hz;subst hz;exact EV hy
    · simp at hz) fun I' M'=>by
    show wpL P (Instr.sliceAt T (rho l x) (lo.map (rho l)) (hi.map (rho l)) none >>= fun x=>pure (Next.value x)) _ I' M';rw [BN hx];refine DM ?_;unfold Instr.sliceAt;rw [AC,AF hT];show wpL P (Instr.slice T _ _ _ _) _ I' M';unfold Instr.slice;rw [AC,AF hT];have hv:sV ((s.drop L).take (H-L))=.string ((sB s).extract L H):=by rw [sB_extract]
    rw [hv];simp only [Option.isSome_none,Bool.false_eq_true,if_false];show wpL P (Instr.sliceBounds false (sB s).size (sB s).size _ _ none >>= fun x=>pure (Value.string ((sB s).extract x.1 x.2.1))) _ I' M';rw [AC];unfold Instr.sliceBounds;have hs:(sB s).size=s.length:=IW s;have hcap:(H:Int)≤((sB s).size:Int):=by omega
    rcases hhi with ⟨rfl,rfl⟩ | ⟨y,k,rfl,hy⟩
    · rcases hlo with ⟨rfl,rfl⟩ | ⟨z,k',rfl,hz⟩
      · simp only [Option.map_none,AC,DC]
        rw [hs]
        first | exact ⟨rfl,rfl⟩ | exact ⟨trivial,trivial⟩ | exact ⟨rfl,trivial⟩ | exact ⟨trivial,rfl⟩
      · simp only [Option.map_none,Option.map_some,AC,DC]
        refine EO (BN hz) ⟨by omega,by omega⟩ ?_;simp only [Int.toNat_natCast];rw [hs]
        first | exact ⟨rfl,rfl⟩ | exact ⟨trivial,trivial⟩ | exact ⟨rfl,trivial⟩ | exact ⟨trivial,rfl⟩
    · rcases hlo with ⟨rfl,rfl⟩ | ⟨z,k',rfl,hz⟩
      · simp only [Option.map_none,Option.map_some,AC,DC]
        refine EO (BN hy) ⟨by omega,hcap⟩ ?_;simp only [Int.toNat_natCast]
        first | exact ⟨rfl,rfl⟩ | exact ⟨trivial,trivial⟩ | exact ⟨rfl,trivial⟩ | exact ⟨trivial,rfl⟩
      · simp only [Option.map_none,Option.map_some,AC,DC]
        refine EO (BN hy) ⟨by omega,hcap⟩ ?_;refine EO (BN hz) ⟨by omega,by omega⟩ ?_;simp only [Int.toNat_natCast]
        first | exact ⟨rfl,rfl⟩ | exact ⟨trivial,trivial⟩ | exact ⟨rfl,trivial⟩ | exact ⟨trivial,rfl⟩
end
section
variable {ρ:Option Nat} {P:Program} {N:Nat} {ops:Array Oper} {i:Nat} {l:Sl} {I:Imm} {R M:Seg} {d:Nat} {ty:TypeId} {gd:Option (Nat × Bool)}
end
section
variable {P:Program} {N:Nat} {fn:Func} {I I₀:Imm} {post:Value→Imm→Seg→Prop} {F M:Seg} {l:Sl}
theorem CN {t u r : Nat} {T : TypeId} {b off n : Nat} {vs : List Value} {v x y : Value} (M' : Seg) (hr : fn.results = #[.cell t T, .tmp u, .tmp r]) (ht : EJ t l = some (.pointer (some ⟨b, off, none⟩))) (hsz : DY P T = some n) (hn : vs.length = n)
    (hs:SeesN I M b off vs) (hv:(EI P T=some true∧v=.agg vs.toArray)∨(EI P T=some false∧vs=[v])) (hu:EJ u l=some x) (hy:EJ r l=some y)
    (hsub:(M'++F).Sublist M) (hle:I₀.le I) (hp:post (.tuple #[v,x,y]) I M') :
    Pst N (RetQ P fn I₀ post F) .ret [] l I M:=fun a w hS hD hW=>
  ⟨hD,.tuple #[v,x,y],by
    have h1:=run_var (P:=P) hW hs hn hsz hv
    simp [results,hr,hS.get t _ ht,hS.get u _ hu,hS.get r _ hy,asAddr,h1,Sem.run_bind,Result.andThen,pure,Sem.run],_,I,M',rfl,hle,hp,hW.sub hsub⟩
end
section
variable {ρ:Option Nat} {P:Program} {N:Nat} {ops:Array Oper} {i:Nat} {l:Sl} {I:Imm} {R M:Seg} {d:Nat} {ty:TypeId} {gd:Option (Nat × Bool)} {K:Sl→Imm→Seg→Prop}
theorem stp_bytes1 {x : Operand} {S T e : TypeId} {b c : Nat} {z : UInt8} (hop : GL ops N i = some (some d, .convert S T x, ty, gd)) (hg : FR ops l gd = some true) (hS : P.underlying S = some (.slice e)) (he : P.underlying e = some (.int .u8)) (hT : P.underlying T = some .string)
    (hx:CU l x=some (.slice (some ⟨b,0,none⟩) 1 c)) (hs:SeesN I M b 0 [.int .u8 (z.toNat:Int)]) (h:K ((d,sV [z])::l) I M):Stp P N ops i l I M K:=
  FG hop hg (NO hx) (by
    show wpL P (convert S T (rho l x) >>= fun x=>pure (Next.value x)) _ I M
    rw [BN hx]
    refine DM ?_
    unfold convert
    rw [AC,AF hS,AC,AF hT]
    show wpL P (underlying e >>= _) _ I M
    rw [AC,AF he]
    show wpL P (Conv.bytesToString _) _ I M
    unfold Conv.bytesToString
    simp only
    rw [AC]
    refine KO (vs:=[.int .u8 (z.toNat:Int)]) hs ?_
    simp only [List.forIn_toArray,List.forIn_cons,List.forIn_nil,AC,DC,Int.toNat_natCast,UInt8.ofNat_toNat]
    exact ⟨_,.inl rfl,h⟩)
end
end Go.Sl
namespace Go.Sh
open Go Go.Sl
abbrev num (n:Int):List UInt8:=Lib.itoa n
def BV (c:Car):List UInt8:=
  match c.pipe,c.heat with
  | true,true=>[112,104]
  | true,false=>[112]
  | false,true=>[104]
  | false,false=>[45]
def BP (c:Car):List UInt8:=Lib.join [[99,111,97,99,104],num c.len,num c.wt,num c.brk,num c.grp,BV c] [32]
def KA (r:Int) (t:List Int):List UInt8:=(([116,114,97,99,107,32]++num r)++[58])++Lib.join (t.map num) [44]
def AZ (Y:Yard):List (List UInt8):=List.zipWith KA Y.room Y.tracks
def FL (Y:Yard):List (List UInt8):=(Y.cars.map BP++AZ Y)++[[112,111,105,110,116,115]]
def writeY (Y:Yard):List UInt8:=Lib.join (FL Y) [10]++[10]
def ET (Y:Yard):List UInt8 × Int:=if checkErr Y=0 then (writeY Y,0) else ([],checkErr Y)
theorem writeE_bad {Y:Yard} (h:checkErr Y≠0):ET Y=([],checkErr Y):=if_neg h
theorem writeE_ok {Y:Yard} (h:checkErr Y=0):ET Y=(writeY Y,0):=if_pos h
theorem join_le {m:Nat} {s:UInt8}:∀ {xs:List (List UInt8)},(∀ x∈xs,x.length≤m)→(Lib.join xs [s]).length≤xs.length*(m+1):=by
  intro xs h;cases xs with
  | nil=>simp [Lib.join_nil]
  | cons x r=>
    rw [Lib.join_cons,List.length_append];have hr:∀ {r:List (List UInt8)},(∀ x∈r,x.length≤m)→(Lib.joinTail [s] r).length≤r.length*(m+1):=by
      intro r hr
      induction r with
      | nil=>simp [Lib.joinTail]
      | cons y r ih=>
        have h1:=hr y (List.mem_cons_self ..);have h2:=ih fun z hz=>hr z (List.mem_cons_of_mem _ hz)
        simp only [Lib.joinTail,List.map_cons,List.flatten_cons,List.length_append,List.length_cons,List.length_nil] at h2 ⊢;rw [Nat.add_mul];omega
    have h1:=h x (List.mem_cons_self ..);have h2:=hr (r:=r) fun z hz=>h z (List.mem_cons_of_mem _ hz)
    rw [List.length_cons,Nat.add_mul];omega
theorem num_le (n:Int) (h0:0≤n) (h1:n≤9223372036854775807):(num n).length≤21:=Lib.itoa_length_le n (by omega) h1
theorem marks_le (c:Car):(BV c).length≤2:=by
  unfold BV;split <;> simp
theorem coach_snoc {Y : Yard} {k : Nat} (hk : k < Y.cars.length) {m : List UInt8} (hm : m = BV (Y.cars.getD k AD)) :
    (Y.cars.take k).map BP++[Lib.join [[99,111,97,99,104],num (Y.cars.getD k AD).len,num (Y.cars.getD k AD).wt,num (Y.cars.getD k AD).brk,num (Y.cars.getD k AD).grp,m] [32]]=(Y.cars.take (k+1)).map BP:=by
  rw [CF (d:=AD) hk,List.map_append,hm];rfl
theorem track_snoc {Y : Yard} {i j : Nat} (A : List (List UInt8)) (hi : i < Y.tracks.length) (hr : i < Y.room.length) (hj : (Y.tracks.getD i []).length ≤ j) :
    (A++(AZ Y).take i)++[(([116,114,97,99,107,32]++num (Y.room.getD i 0))++[58])++Lib.join (((Y.tracks.getD i []).take j).map num) [44]]=A++(AZ Y).take (i+1):=by
  have hl:i<(AZ Y).length:=by unfold AZ;rw [List.length_zipWith];omega
  rw [CF (d:=[]) hl,List.append_assoc,List.take_of_length_le hj];have e:(AZ Y).getD i []=KA (Y.room.getD i 0) (Y.tracks.getD i []):=by
    simp only [AZ,List.getD_eq_getElem?_getD,List.getElem?_zipWith,List.getElem?_eq_getElem hi,List.getElem?_eq_getElem hr];rfl
  rw [e];rfl
theorem track_done {Y:Yard} {i:Nat} (hi:Y.tracks.length≤i):(AZ Y).take i=AZ Y:=List.take_of_length_le (by unfold AZ;rw [List.length_zipWith];omega)
section
variable {c:Car}
theorem marks_tt (h1:c.pipe=true) (h2:c.heat=true):[112,104]=BV c:=by unfold BV;rw [h1,h2]
theorem marks_tf (h1:c.pipe=true) (h2:c.heat=false):[112]=BV c:=by unfold BV;rw [h1,h2]
theorem marks_ft (h1:c.pipe=false) (h2:c.heat=true):[104]=BV c:=by unfold BV;rw [h1,h2]
theorem marks_ff (h1:c.pipe=false) (h2:c.heat=false):[45]=BV c:=by unfold BV;rw [h1,h2]
end
theorem JX {m n:Nat} {s:UInt8} {xs:List (List UInt8)} (h:∀ x∈xs,x.length≤m) (hn:xs.length*(m+1)≤n):(Lib.join xs [s]).length≤n:=Nat.le_trans (join_le h) hn
theorem coach_le {c : Car} (h1 : (num c.len).length ≤ 21) (h2 : (num c.wt).length ≤ 21) (h3 : (num c.brk).length ≤ 21) (h4 : (num c.grp).length ≤ 21) {m : List UInt8} (hm : m = BV c) :
    (Lib.join [[99,111,97,99,104],num c.len,num c.wt,num c.brk,num c.grp,m] [32]).length≤200:=by
  refine JX (m:=21) (fun x hx=>?_) (by simp);have:=marks_le c;simp only [List.mem_cons,List.not_mem_nil,or_false] at hx;rcases hx with rfl | rfl | rfl | rfl | rfl | rfl
  · simp
  · exact h1
  · exact h2
  · exact h3
  · exact h4
  · rw [hm];omega
structure LenY (Y:Yard):Prop where
  cars:∀ c∈Y.cars,(num c.len).length≤21∧(num c.wt).length≤21∧(num c.brk).length≤21∧(num c.grp).length≤21
  room:∀ r∈Y.room,(num r).length≤21
  tracks:∀ t∈Y.tracks,∀ x∈t,(num x).length≤21
theorem nums_le {xs:List Int} {j:Nat} (h:∀ x∈xs,(num x).length≤21) (hl:xs.length≤5):(Lib.join ((xs.take j).map num) [44]).length≤110:=by
  refine JX (m:=21) (fun x hx=>?_) ?_
  · obtain ⟨y,hy,rfl⟩:=List.mem_map.1 hx
    exact h y (List.mem_of_mem_take hy)
  · rw [List.length_map,List.length_take]
    have:min j xs.length≤5:=by omega
    omega
theorem LenY.line {Y:Yard} (h:LenY Y) (h5:∀ t∈Y.tracks,t.length≤5):∀ x∈FL Y,x.length≤200:=by
  intro x hx;simp only [FL,List.mem_append,List.mem_map,List.mem_singleton] at hx;rcases hx with (⟨c,hc,rfl⟩ | hx) | rfl
  · have:=h.cars c hc
    exact coach_le this.1 this.2.1 this.2.2.1 this.2.2.2 rfl
  · obtain ⟨i,hi,rfl⟩:=List.mem_iff_getElem.1 hx
    have hi2:i<Y.room.length∧i<Y.tracks.length:=by simp only [AZ,List.length_zipWith] at hi;omega
    simp only [AZ,List.getElem_zipWith,KA];have h1:=h.room _ (List.getElem_mem hi2.1);have h2:=nums_le (j:=(Y.tracks[i]'hi2.2).length) (h.tracks _ (List.getElem_mem hi2.2)) (h5 _ (List.getElem_mem hi2.2));rw [List.take_length] at h2;simp only [List.length_append,List.length_cons,List.length_nil];omega
  · simp
theorem LenY.text {Y:Yard} (h:LenY Y) (h5:∀ t∈Y.tracks,t.length≤5) (hc:Y.cars.length≤5) (ht:Y.tracks.length≤3):(Lib.join (FL Y) [10]).length≤2000:=by
  refine JX (h.line h5) ?_;have:(FL Y).length≤9:=by
    simp only [FL,AZ,List.length_append,List.length_map,List.length_zipWith,List.length_cons,List.length_nil];omega
  omega
theorem lines_start {Y:Yard} {k:Nat} (hk:Y.cars.length≤k):(Y.cars.take k).map BP=Y.cars.map BP++(AZ Y).take 0:=by rw [List.take_of_length_le hk,List.take_zero,List.append_nil]
theorem dec1 {n:Nat} (h:n<10):Lib.decDigits n=[UInt8.ofNat (48+n)]:=by rw [Lib.decDigits,dif_pos h]
theorem dec2 {n:Nat} (h:10≤n) (h2:n<100):Lib.decDigits n=[UInt8.ofNat (48+n/10),UInt8.ofNat (48+n%10)]:=by
  rw [Lib.decDigits,dif_neg (by omega),dec1 (by omega)];rfl
theorem num1 {n:Nat} (h:n<10):num n=[UInt8.ofNat (48+n)]:=by rw [num,Lib.itoa,if_neg (by omega)];exact dec1 h
theorem num2 {n:Nat} (h:10≤n) (h2:n<100):num n=[UInt8.ofNat (48+n/10),UInt8.ofNat (48+n%10)]:=by rw [num,Lib.itoa,if_neg (by omega)];exact dec2 h h2
def letP (c:Car):List UInt8:=if c.pipe=true then [112] else []
def letH (c:Car):List UInt8:=if c.heat=true then letP c++[104] else letP c
theorem letP_t {c:Car} (h:c.pipe=true):[112]=letP c:=(if_pos h).symm
theorem letP_f {c:Car} (h:c.pipe=false):[]=letP c:=(if_neg (by rw [h];decide)).symm
theorem letP_le (c:Car):(letP c).length≤1:=by unfold letP;split <;> simp
theorem letH_t {c:Car} (h:c.heat=true):letP c++[104]=letH c:=(if_pos h).symm
theorem letH_f {c:Car} (h:c.heat=false):letP c=letH c:=(if_neg (by rw [h];decide)).symm
theorem letM_t {c:Car} (h:letH c=[]):[45]=BV c:=by
  unfold letH letP at h;unfold BV;cases hp:c.pipe <;> cases hh:c.heat <;> simp [hp,hh] at h ⊢
theorem letM_f {c:Car} (h:¬ letH c=[]):letH c=BV c:=by
  unfold letH letP at h ⊢;unfold BV;cases hp:c.pipe <;> cases hh:c.heat <;> simp [hp,hh] at h ⊢
end Go.Sh
namespace Go.Proofs
open Go.Shelf
def Tryz.lays156_ren:Go.Shelf.Ren:=⟨fun | 156=>119 | 165=>146 | 166=>147 | 169=>148 | 240=>163 | 241=>164 | 276=>174 | 277=>175 | n=>n,fun | 31=>87 | 9=>9 | 3=>3 | 4=>4 | 0=>0 | 20=>20 | 72=>176 | 76=>178 | 70=>174 | 37=>150 | 75=>126 | 127=>203 | 164=>190 | 5=>5 | 80=>180 | n=>n,fun | n=>n⟩
theorem Tryz.lays156:Go.Proofs.Lays.n156 Tryz.prog Tryz.lays156_ren:={
  mixed:=by kernel_rfl
  f156:=Tryz.func119.trans (congrArg some (by kernel_rfl))
  f165:=Tryz.func146.trans (congrArg some (by kernel_rfl))
  f166:=Tryz.func147.trans (congrArg some (by kernel_rfl))
  f169:=Tryz.func148.trans (congrArg some (by kernel_rfl))
  f240:=Tryz.func163.trans (congrArg some (by kernel_rfl))
  f241:=Tryz.func164.trans (congrArg some (by kernel_rfl))
  f276:=Tryz.func174.trans (congrArg some (by kernel_rfl))
  f277:=Tryz.func175.trans (congrArg some (by kernel_rfl))
  t0:=Tryz.underlying0
  a0:=Tryz.isAgg0
  z0:=Tryz.sizeOf0
  v0:=Tryz.zeroValue0
  t3:=Tryz.underlying3
  a3:=Tryz.isAgg3
  z3:=Tryz.sizeOf3
  v3:=Tryz.zeroValue3
  t4:=Tryz.underlying4
  a4:=Tryz.isAgg4
  z4:=Tryz.sizeOf4
  v4:=Tryz.zeroValue4
  t9:=Tryz.underlying9
  a9:=Tryz.isAgg9
  z9:=Tryz.sizeOf9
  v9:=Tryz.zeroValue9
  t20:=Tryz.underlying20
  a20:=Tryz.isAgg20
  z20:=Tryz.sizeOf20
  v20:=Tryz.zeroValue20
  t31:=Tryz.underlying87
  a31:=Tryz.isAgg87
  z31:=Tryz.sizeOf87
  v31:=Tryz.zeroValue87
  t37:=Tryz.underlying150
  a37:=Tryz.isAgg150
  z37:=Tryz.sizeOf150
  v37:=Tryz.zeroValue150
  t70:=Tryz.underlying174
  a70:=Tryz.isAgg174
  z70:=Tryz.sizeOf174
  v70:=Tryz.zeroValue174
  t72:=Tryz.underlying176
  a72:=Tryz.isAgg176
  z72:=Tryz.sizeOf176
  v72:=Tryz.zeroValue176
  t75:=Tryz.underlying126
  a75:=Tryz.isAgg126
  z75:=Tryz.sizeOf126
  v75:=Tryz.zeroValue126
  t76:=Tryz.underlying178
  a76:=Tryz.isAgg178
  z76:=Tryz.sizeOf178
  v76:=Tryz.zeroValue178
  t127:=Tryz.underlying203
  a127:=Tryz.isAgg203
  z127:=Tryz.sizeOf203
  v127:=Tryz.zeroValue203
  t164:=Tryz.underlying190
  a164:=Tryz.isAgg190
  z164:=Tryz.sizeOf190
  v164:=Tryz.zeroValue190 }
theorem Tryz.Builder_Extra_156:Builder.Extra Tryz.prog Tryz.lays156_ren:={
  sizeBuilder:=by kernel_rfl
  liesBuilder:=by kernel_rfl
  t5:=Tryz.underlying5
  a5:=Tryz.isAgg5
  z5:=Tryz.sizeOf5
  v5:=Tryz.zeroValue5
  infoByte:=by kernel_rfl
  cellsByte:=by kernel_rfl
  sizeByte:=by kernel_rfl
  neB5:=by decide }
open Go.RowKit in
theorem Tryz.strings_Join_none (a : Option Addr) (c : Nat) (sep : ByteArray) (w : World) :
    Calls Tryz.prog 119 #[.slice a 0 c,.string sep] w fun e w'=>e=.returned (.string ⟨#[]⟩)∧w'=w:=Any.strings_Join_none Tryz.lays156 Tryz.Builder_Extra_156 a c sep w
open Go.RowKit in
theorem Tryz.strings_Join (bk o c : Nat) (xs : List ByteArray) (sep : ByteArray) (w : World) (hcells : ∀ (j : Nat) x, xs[j]? = some x → w.cell? ⟨bk, o + j, none⟩ = some (.string x)) (hbk : bk < w.heap.size) (hN : xs.length ≤ 140737488355328) (hcap : xs.length ≤ c) (hlen : (Lib.join (xs.map (·.data.toList)) sep.data.toList).length ≤ 140737488355328) :
    Calls Tryz.prog 119 #[.slice (some ⟨bk,o,none⟩) xs.length c,.string sep] w fun e w'=>e=.returned (.string ⟨(Lib.join (xs.map (·.data.toList)) sep.data.toList).toArray⟩)∧Below w.heap.size w w':=Any.strings_Join Tryz.lays156 Tryz.Builder_Extra_156 bk o c xs sep w hcells hbk hN hcap hlen
def Tryz.laysM171_ren:Go.Shelf.Ren:=⟨fun | 171=>120 | 243=>149 | 246=>165 | 283=>176 | 284=>177 | 285=>178 | 286=>179 | 129=>187 | 317=>186 | 318=>188 | 319=>189 | 320=>190 | 337=>201 | 338=>202 | n=>n,fun | 3=>3 | 9=>9 | 2=>2 | 4=>4 | 171=>223 | 0=>0 | 53=>93 | 37=>150 | 5=>5 | 173=>226 | 212=>234 | 51=>235 | 20=>20 | 213=>236 | 46=>96 | 232=>257 | 233=>258 | n=>n,fun | 17=>2 | 18=>7 | 19=>8 | n=>n⟩
theorem Tryz.laysM171:Go.Proofs.LaysM.n171 Tryz.prog Tryz.laysM171_ren:={
  mixed:=by kernel_rfl
  f129:=Tryz.func187.trans (congrArg some (by kernel_rfl))
  f171:=Tryz.func120.trans (congrArg some (by kernel_rfl))
  f243:=Tryz.func149.trans (congrArg some (by kernel_rfl))
  f246:=Tryz.func165.trans (congrArg some (by kernel_rfl))
  f283:=Tryz.func176.trans (congrArg some (by kernel_rfl))
  f284:=Tryz.func177.trans (congrArg some (by kernel_rfl))
  f285:=Tryz.func178.trans (congrArg some (by kernel_rfl))
  f286:=Tryz.func179.trans (congrArg some (by kernel_rfl))
  f317:=Tryz.func186.trans (congrArg some (by kernel_rfl))
  f318:=Tryz.func188.trans (congrArg some (by kernel_rfl))
  f319:=Tryz.func189.trans (congrArg some (by kernel_rfl))
  f320:=Tryz.func190.trans (congrArg some (by kernel_rfl))
  f337:=Tryz.func201.trans (congrArg some (by kernel_rfl))
  f338:=Tryz.func202.trans (congrArg some (by kernel_rfl))
  t0:=Tryz.underlying0
  a0:=Tryz.isAgg0
  z0:=Tryz.sizeOf0
  v0:=Tryz.zeroValue0
  t2:=Tryz.underlying2
  a2:=Tryz.isAgg2
  z2:=Tryz.sizeOf2
  v2:=Tryz.zeroValue2
  t3:=Tryz.underlying3
  a3:=Tryz.isAgg3
  z3:=Tryz.sizeOf3
  v3:=Tryz.zeroValue3
  t4:=Tryz.underlying4
  a4:=Tryz.isAgg4
  z4:=Tryz.sizeOf4
  v4:=Tryz.zeroValue4
  t5:=Tryz.underlying5
  a5:=Tryz.isAgg5
  z5:=Tryz.sizeOf5
  v5:=Tryz.zeroValue5
  t9:=Tryz.underlying9
  a9:=Tryz.isAgg9
  z9:=Tryz.sizeOf9
  v9:=Tryz.zeroValue9
  t20:=Tryz.underlying20
  a20:=Tryz.isAgg20
  z20:=Tryz.sizeOf20
  v20:=Tryz.zeroValue20
  t37:=Tryz.underlying150
  a37:=Tryz.isAgg150
  z37:=Tryz.sizeOf150
  v37:=Tryz.zeroValue150
  t46:=Tryz.underlying96
  a46:=Tryz.isAgg96
  z46:=Tryz.sizeOf96
  v46:=Tryz.zeroValue96
  t51:=Tryz.underlying235
  a51:=Tryz.isAgg235
  z51:=Tryz.sizeOf235
  v51:=Tryz.zeroValue235
  t53:=Tryz.underlying93
  a53:=Tryz.isAgg93
  z53:=Tryz.sizeOf93
  v53:=Tryz.zeroValue93
  t171:=Tryz.underlying223
  a171:=Tryz.isAgg223
  z171:=Tryz.sizeOf223
  v171:=Tryz.zeroValue223
  t173:=Tryz.underlying226
  a173:=Tryz.isAgg226
  z173:=Tryz.sizeOf226
  v173:=Tryz.zeroValue226
  t212:=Tryz.underlying234
  a212:=Tryz.isAgg234
  z212:=Tryz.sizeOf234
  v212:=Tryz.zeroValue234
  t213:=Tryz.underlying236
  a213:=Tryz.isAgg236
  z213:=Tryz.sizeOf236
  t232:=Tryz.underlying257
  a232:=Tryz.isAgg257
  z232:=Tryz.sizeOf257
  v232:=Tryz.zeroValue257
  t233:=Tryz.underlying258
  a233:=Tryz.isAgg258
  z233:=Tryz.sizeOf258
  v233:=Tryz.zeroValue258
  g17:=by kernel_rfl
  g18:=by kernel_rfl
  g19:=by kernel_rfl
  i0:=by kernel_rfl
  i2:=by kernel_rfl
  i3:=by kernel_rfl
  i4:=by kernel_rfl
  i5:=by kernel_rfl
  i9:=by kernel_rfl
  i20:=by kernel_rfl
  i37:=by kernel_rfl
  i46:=by kernel_rfl
  i51:=by kernel_rfl
  i53:=by kernel_rfl
  i171:=by kernel_rfl
  i173:=by kernel_rfl
  i212:=by kernel_rfl
  i232:=by kernel_rfl
  i233:=by kernel_rfl
  m17:=by kernel_rfl
  m18:=by kernel_rfl
  m19:=by kernel_rfl }
open Go.RowKit Go.Sort Go.Lib in
theorem Tryz.strconv_Itoa (n : Int) (h0 : -9223372036854775808 ≤ n) (h1 : n ≤ 9223372036854775807) (w : World) (htab : Lib.TabIs Tryz.prog w "internal/strconv.uint64pow10" .u64 Lib.pow10Tab) :
    Calls Tryz.prog 120 #[.int .i64 n] w fun e w'=>e=.returned (.string ⟨(Lib.itoa n).toArray⟩)∧∃ k os,w'=grow (w.drewN k) os:=Any.strconv_Itoa Tryz.laysM171 n h0 h1 w htab
def Tryz.lays171_ren:Go.Shelf.Ren:=⟨fun | 171=>120 | 243=>149 | 246=>165 | 283=>176 | 284=>177 | 285=>178 | 286=>179 | 129=>187 | 317=>186 | 318=>188 | 319=>189 | 320=>190 | 337=>201 | 338=>202 | n=>n,fun | 3=>3 | 9=>9 | 2=>2 | 4=>4 | 171=>223 | 0=>0 | 53=>93 | 37=>150 | 5=>5 | 173=>226 | 212=>234 | 51=>235 | 20=>20 | 213=>236 | 46=>96 | 232=>257 | 233=>258 | n=>n,fun | 17=>2 | 18=>7 | 19=>8 | n=>n⟩
theorem Tryz.lays171:Go.Proofs.Lays.n171 Tryz.prog Tryz.lays171_ren:={
  mixed:=by kernel_rfl
  f129:=Tryz.func187.trans (congrArg some (by kernel_rfl))
  f171:=Tryz.func120.trans (congrArg some (by kernel_rfl))
  f243:=Tryz.func149.trans (congrArg some (by kernel_rfl))
  f246:=Tryz.func165.trans (congrArg some (by kernel_rfl))
  f283:=Tryz.func176.trans (congrArg some (by kernel_rfl))
  f284:=Tryz.func177.trans (congrArg some (by kernel_rfl))
  f285:=Tryz.func178.trans (congrArg some (by kernel_rfl))
  f286:=Tryz.func179.trans (congrArg some (by kernel_rfl))
  f317:=Tryz.func186.trans (congrArg some (by kernel_rfl))
  f318:=Tryz.func188.trans (congrArg some (by kernel_rfl))
  f319:=Tryz.func189.trans (congrArg some (by kernel_rfl))
  f320:=Tryz.func190.trans (congrArg some (by kernel_rfl))
  f337:=Tryz.func201.trans (congrArg some (by kernel_rfl))
  f338:=Tryz.func202.trans (congrArg some (by kernel_rfl))
  t0:=Tryz.underlying0
  a0:=Tryz.isAgg0
  z0:=Tryz.sizeOf0
  v0:=Tryz.zeroValue0
  t2:=Tryz.underlying2
  a2:=Tryz.isAgg2
  z2:=Tryz.sizeOf2
  v2:=Tryz.zeroValue2
  t3:=Tryz.underlying3
  a3:=Tryz.isAgg3
  z3:=Tryz.sizeOf3
  v3:=Tryz.zeroValue3
  t4:=Tryz.underlying4
  a4:=Tryz.isAgg4
  z4:=Tryz.sizeOf4
  v4:=Tryz.zeroValue4
  t5:=Tryz.underlying5
  a5:=Tryz.isAgg5
  z5:=Tryz.sizeOf5
  v5:=Tryz.zeroValue5
  t9:=Tryz.underlying9
  a9:=Tryz.isAgg9
  z9:=Tryz.sizeOf9
  v9:=Tryz.zeroValue9
  t20:=Tryz.underlying20
  a20:=Tryz.isAgg20
  z20:=Tryz.sizeOf20
  v20:=Tryz.zeroValue20
  t37:=Tryz.underlying150
  a37:=Tryz.isAgg150
  z37:=Tryz.sizeOf150
  v37:=Tryz.zeroValue150
  t46:=Tryz.underlying96
  a46:=Tryz.isAgg96
  z46:=Tryz.sizeOf96
  v46:=Tryz.zeroValue96
  t51:=Tryz.underlying235
  a51:=Tryz.isAgg235
  z51:=Tryz.sizeOf235
  v51:=Tryz.zeroValue235
  t53:=Tryz.underlying93
  a53:=Tryz.isAgg93
  z53:=Tryz.sizeOf93
  v53:=Tryz.zeroValue93
  t171:=Tryz.underlying223
  a171:=Tryz.isAgg223
  z171:=Tryz.sizeOf223
  v171:=Tryz.zeroValue223
  t173:=Tryz.underlying226
  a173:=Tryz.isAgg226
  z173:=Tryz.sizeOf226
  v173:=Tryz.zeroValue226
  t212:=Tryz.underlying234
  a212:=Tryz.isAgg234
  z212:=Tryz.sizeOf234
  v212:=Tryz.zeroValue234
  t213:=Tryz.underlying236
  a213:=Tryz.isAgg236
  z213:=Tryz.sizeOf236
  t232:=Tryz.underlying257
  a232:=Tryz.isAgg257
  z232:=Tryz.sizeOf257
  v232:=Tryz.zeroValue257
  t233:=Tryz.underlying258
  a233:=Tryz.isAgg258
  z233:=Tryz.sizeOf258
  v233:=Tryz.zeroValue258
  g17:=by kernel_rfl
  g18:=by kernel_rfl
  g19:=by kernel_rfl }
open Go.RowKit Go.Sort Go.Lib in
theorem Tryz.strconv_Itoa_small (i : Nat) (hi : i < 100) (w : World) :
    Calls Tryz.prog 120 #[.int .i64 i] w fun e w'=>e=.returned (.string ⟨(Lib.decDigits i).toArray⟩)∧w'=w:=Any.strconv_Itoa_small Tryz.lays171 i hi w
end Go.Proofs
namespace Go.Sl
open Go Go.RowKit
def Tab10 (I:Imm):Prop:=∀ F w,St I F w→Lib.TabIs Go.Proofs.Tryz.prog w "internal/strconv.uint64pow10" .u64 Lib.pow10Tab
def Tell (I:Imm) (n:Int):Prop:=0≤n∧(n<100∨n≤9223372036854775807∧Tab10 I)
theorem GT (I:Imm) (n:Int) (h:Tell I n):CtV Go.Proofs.Tryz.prog 120 #[.int .i64 n] I (sV (Lib.itoa n)):=by
  refine ct_below fun F w st=>?_
  rcases h.2 with h2 | ⟨h2,ht⟩
  · obtain ⟨k,rfl⟩:∃ k:Nat,n=↑k:=⟨n.toNat,by have:=h.1;omega⟩
    refine (Go.Proofs.Tryz.strconv_Itoa_small k (by omega) w).mono ?_
    rintro e w' ⟨rfl,rfl⟩
    exact ⟨by rw [Lib.itoa,if_neg (by omega)];rfl,Below.refl _ _⟩
  · refine (Go.Proofs.Tryz.strconv_Itoa n (by have:=h.1;omega) h2 w (ht F w st)).mono ?_
    rintro e w' ⟨rfl,k,os,rfl⟩
    refine ⟨rfl,rfl,rfl,rfl,?_,fun j hj=>?_⟩
    · show w.heap.size≤(w.heap++os).size
      rw [Array.size_append];omega
    · show (w.heap++os)[j]?=w.heap[j]?
      exact Array.getElem?_append_left hj
theorem Join_ct (I:Imm) (v:Value) (xs:List (List UInt8)) (sep:List UInt8) (hv:NG I v xs) (hl:(Lib.join xs sep).length≤140737488355328):CtV Go.Proofs.Tryz.prog 119 #[v,sV sep] I (sV (Lib.join xs sep)):=by
  refine ct_below fun F w st=>?_
  obtain ⟨a,c,b,o,rfl,h1,h2,h3⟩:=hv
  by_cases h0:xs.length=0
  · obtain rfl:=List.length_eq_zero_iff.1 h0
    refine (Go.Proofs.Tryz.strings_Join_none a c (sB sep) w).mono ?_
    rintro e w' ⟨rfl,rfl⟩
    exact ⟨rfl,Below.refl _ _⟩
  · obtain rfl:=h3.addr (by omega)
    have hm:(xs.map sB).map (fun x=>x.data.toList)=xs:=by rw [List.map_map];exact List.map_id'' (fun x=>rfl) xs
    have hs:=Go.Proofs.Tryz.strings_Join b o c (xs.map sB) (sB sep) w (fun j x hj=>by
      rw [List.getElem?_map] at hj
      obtain ⟨z,hz,rfl⟩:=Option.map_eq_some_iff.1 hj
      obtain ⟨hlt,rfl⟩:=List.getElem?_eq_some_iff.1 hz
      have hc:=(DO h3 (M:=F) j hlt).cell st
      rw [Nat.mul_one] at hc
      rw [hc,List.getD_eq_getElem?_getD,List.getElem?_eq_getElem hlt]
      rfl) (by
      obtain ⟨_,cs,T,fz,hb,_⟩:=h3.get 0 (by omega) 0 (by decide)
      exact (Array.getElem?_eq_some_iff.1 (st.imm _ _ hb)).1) (by rw [List.length_map];exact h2) (by rw [List.length_map];exact h1) (by rw [hm];exact hl)
    rw [hm,List.length_map] at hs;exact hs
theorem Tab10.mono {I J:Imm} (h:Tab10 I) (le:I.le J):Tab10 J:=fun F w st=>h [] w ⟨st.os.trans le.os,st.tape.trans le.tape,st.output.trans le.output,fun b o hb=>st.imm b o (le.blk b o hb),fun b o hb=>(by cases hb),List.nodup_nil,fun b o hb=>(by cases hb)⟩
theorem Tell.mono {I J:Imm} {n:Int} (h:Tell I n) (le:I.le J):Tell J n:=⟨h.1,h.2.imp id fun h=>⟨h.1,h.2.mono le⟩⟩
theorem Tell.len {I:Imm} {n:Int} (h:Tell I n):(Lib.itoa n).length≤21:=Sh.num_le n h.1 (by have:=h.2;omega)
structure TellY (I:Imm) (Y:Sh.Yard):Prop where
  cars:∀ c∈Y.cars,Tell I c.len∧Tell I c.wt∧Tell I c.brk∧Tell I c.grp
  room:∀ r∈Y.room,Tell I r
  tracks:∀ t∈Y.tracks,∀ x∈t,Tell I x
theorem TellY.mono {I J:Imm} {Y:Sh.Yard} (h:TellY I Y) (le:I.le J):TellY J Y:=
  ⟨fun c hc=>have:=h.cars c hc;⟨this.1.mono le,this.2.1.mono le,this.2.2.1.mono le,this.2.2.2.mono le⟩,fun r hr=>(h.room r hr).mono le,fun t ht x hx=>(h.tracks t ht x hx).mono le⟩
theorem TellY.len {I:Imm} {Y:Sh.Yard} (h:TellY I Y):Sh.LenY Y:=
  ⟨fun c hc=>have:=h.cars c hc;⟨this.1.len,this.2.1.len,this.2.2.1.len,this.2.2.2.len⟩,fun r hr=>(h.room r hr).len,fun t ht x hx=>(h.tracks t ht x hx).len⟩
def TellV (I:Imm) (Y:Sh.Yard):Prop:=Sh.checkErr Y=0→TellY I Y
theorem TellV.mono {I J:Imm} {Y:Sh.Yard} (h:TellV I Y) (le:I.le J):TellV J Y:=fun hz=>(h hz).mono le
theorem Tell.small {I:Imm} {n:Int} (h:0≤n∧n<100):Tell I n:=⟨h.1,.inl h.2⟩
theorem TellV.small {I:Imm} {Y:Sh.Yard} (h:(∀ c∈Y.cars,(0≤c.len∧c.len<100)∧(0≤c.wt∧c.wt<100)∧(0≤c.brk∧c.brk<100)∧(0≤c.grp∧c.grp<100))∧(∀ r∈Y.room,0≤r∧r<100)∧∀ t∈Y.tracks,∀ x∈t,0≤x∧x<100):TellV I Y:=fun _=>
  ⟨fun c hc=>have:=h.1 c hc;⟨.small this.1,.small this.2.1,.small this.2.2.1,.small this.2.2.2⟩,fun r hr=>.small (h.2.1 r hr),fun t ht x hx=>.small (h.2.2 t ht x hx)⟩
end Go.Sl
namespace Go.Sh
open Go Go.Sl
def cutL (b:UInt8):List UInt8→List (List UInt8)
  | []=>[[]]
  | c::s=>if c=b then []::cutL b s else match cutL b s with
    | []=>[[c]]
    | x::r=>(c::x)::r
theorem OL (b:UInt8):∀ s,cutL b s≠[]
  | []=>by simp [cutL]
  | c::s=>by
    unfold cutL
    split
    · simp
    · split <;> simp
theorem IG {b:UInt8}:∀ {s:List UInt8},b∉s→cutL b s=[s]
  | [],_=>rfl
  | c::s,h=>by
    simp only [List.mem_cons,not_or] at h;rw [cutL,if_neg (Ne.symm h.1),IG h.2]
theorem QF {b:UInt8}:∀ {s:List UInt8} (t:List UInt8),b∉s→cutL b (s++b::t)=s::cutL b t
  | [],t,_=>by rw [List.nil_append,cutL,if_pos rfl]
  | c::s,t,h=>by
    simp only [List.mem_cons,not_or] at h;rw [List.cons_append,cutL,if_neg (Ne.symm h.1),QF t h.2]
theorem cutL_join {b:UInt8}:∀ {s:List UInt8},Lib.join (cutL b s) [b]=s
  | []=>rfl
  | c::s=>by
    have ih:=cutL_join (b:=b) (s:=s);unfold cutL
    split
    · rename_i hc
      subst hc;cases e:cutL c s with
      | nil=>exact absurd e (OL c s)
      | cons x r=>
        rw [e,Lib.join_cons] at ih;rw [Lib.join_cons,List.nil_append];show [c]++x++Lib.joinTail [c] r=c::s;rw [← ih];rfl
    · split
      · rename_i e;exact absurd e (OL b s)
      · rename_i x r e
        rw [e,Lib.join_cons] at ih;rw [Lib.join_cons,← ih];rfl
theorem QG {b:UInt8}:∀ {s:List UInt8},(cutL b s).length=s.count b+1
  | []=>rfl
  | c::s=>by
    have ih:=QG (b:=b) (s:=s);unfold cutL
    split
    · rename_i hc;subst hc
      rw [List.length_cons,ih,List.count_cons_self]
    · rename_i hc
      rw [List.count_cons_of_ne (by exact hc)]
      split
      · rename_i e;rw [e] at ih;simp at ih
      · rename_i x r e;rw [e] at ih;simpa using ih
theorem cutL_len_le {b:UInt8} {s:List UInt8}:(cutL b s).length≤s.length+1:=by
  rw [QG];have:=List.count_le_length (a:=b) (l:=s);omega
theorem IM {b:UInt8}:∀ {s:List UInt8},∀ x∈cutL b s,x.length≤s.length
  | [],x,hx=>by simp [cutL] at hx;subst hx;simp
  | c::s,x,hx=>by
    have ih:=IM (b:=b) (s:=s);unfold cutL at hx
    split at hx
    · rcases List.mem_cons.1 hx with rfl | hx
      · simp
      · have:=ih x hx;simp;omega
    · split at hx
      · simp at hx;subst hx;simp
      · rename_i y r e
        rw [e] at ih;rcases List.mem_cons.1 hx with rfl | hx
        · have:=ih y (List.mem_cons_self ..)
          simpa using this
        · have:=ih x (List.mem_cons_of_mem _ hx);simp;omega
def Cutting (b:UInt8) (s:List UInt8) (i frm:Nat) (out:List (List UInt8)):Prop:=
  (i≤s.length∧frm≤i∧cutL b s=out++cutL b (s.drop frm)∧∀ k,frm≤k→k<i→s.getD k 0≠b)∨(i=s.length+1∧frm=s.length+1∧out=cutL b s)
theorem Cutting.start {b:UInt8} {s:List UInt8}:Cutting b s 0 0 []:=.inl ⟨Nat.zero_le _,Nat.le_refl _,rfl,fun k _ h=>by omega⟩
theorem Cutting.frm_le {b:UInt8} {s:List UInt8} {i frm:Nat} {out:List (List UInt8)} (h:Cutting b s i frm out) (hi:i≤s.length):frm≤i:=by
  rcases h with h | h
  · exact h.2.1
  · omega
theorem Cutting.le {b:UInt8} {s:List UInt8} {i frm:Nat} {out:List (List UInt8)} (h:Cutting b s i frm out):i≤s.length+1:=by
  rcases h with h | h
  · have:=h.1;omega
  · omega
theorem Cutting.free {b:UInt8} {s:List UInt8} {i frm:Nat} (h1:frm≤i) (h:i≤s.length) (hf:∀ k,frm≤k→k<i→s.getD k 0≠b):b∉(s.drop frm).take (i-frm):=by
  intro hm;obtain ⟨k,hk,e⟩:=List.mem_iff_getElem.1 hm;simp only [List.length_take,List.length_drop] at hk;simp only [List.getElem_take,List.getElem_drop] at e;exact hf (frm+k) (by omega) (by omega) (by simp [List.getD_eq_getElem?_getD,List.getElem?_eq_getElem (show frm+k<s.length by omega),e])
theorem Cutting.miss {b:UInt8} {s:List UInt8} {i frm:Nat} {out:List (List UInt8)} (h:Cutting b s i frm out) (hi:i<s.length) (hn:s.getD i 0≠b):Cutting b s (i+1) frm out:=by
  rcases h with ⟨h1,h2,h3,h4⟩ | h
  · refine .inl ⟨hi,by omega,h3,fun k hk hk2=>?_⟩
    by_cases e:k=i
    · subst e;exact hn
    · exact h4 k hk (by omega)
  · omega
theorem Cutting.hit {b:UInt8} {s:List UInt8} {i frm:Nat} {out:List (List UInt8)} (h:Cutting b s i frm out) (hi:i<s.length) (hn:s.getD i 0=b):Cutting b s (i+1) (i+1) (out++[(s.drop frm).take (i-frm)]):=by
  rcases h with ⟨h1,h2,h3,h4⟩ | h
  · refine .inl ⟨hi,Nat.le_refl _,?_,fun k hk hk2=>by omega⟩
    have e:s.drop frm=(s.drop frm).take (i-frm)++b::s.drop (i+1):=by
      conv=>lhs;rw [← List.take_append_drop (i-frm) (s.drop frm)]
      rw [List.drop_drop,show frm+(i-frm)=i by omega,List.drop_eq_getElem_cons hi]
      congr 2
      simpa [List.getD_eq_getElem?_getD,List.getElem?_eq_getElem hi] using hn
    rw [h3,List.append_assoc]
    congr 1
    conv=>lhs;rw [e]
    rw [QF _ (Cutting.free h2 h1 h4)];rfl
  · omega
theorem Cutting.last {b:UInt8} {s:List UInt8} {i frm:Nat} {out:List (List UInt8)} (h:Cutting b s i frm out) (hi:i=s.length):Cutting b s (i+1) (i+1) (out++[(s.drop frm).take (i-frm)]):=by
  rcases h with ⟨h1,h2,h3,h4⟩ | h
  · subst hi
    refine .inr ⟨rfl,rfl,?_⟩;have hf:=Cutting.free h2 h1 h4;rw [List.take_of_length_le (by rw [List.length_drop];omega)] at hf ⊢;rw [h3,IG hf]
  · omega
theorem Cutting.done {b:UInt8} {s:List UInt8} {i frm:Nat} {out:List (List UInt8)} (h:Cutting b s i frm out) (hi:s.length<i):out=cutL b s:=by
  rcases h with h | h
  · omega
  · exact h.2.2
theorem Cutting.len {b:UInt8} {s:List UInt8} {i frm:Nat} {out:List (List UInt8)} (h:Cutting b s i frm out):out.length≤s.length+1:=by
  have hl:=cutL_len_le (b:=b) (s:=s);rcases h with ⟨_,_,h3,_⟩ | ⟨_,_,h3⟩
  · rw [h3,List.length_append] at hl;omega
  · rw [h3];exact hl
theorem byteAt_eq {s:List UInt8} {i:Nat} {b:UInt8}:BU s i=((b.toNat:Nat):Int)↔s.getD i 0=b:=by
  unfold BU
  constructor
  · intro h
    exact UInt8.toNat_inj.1 (by omega)
  · intro h;rw [h]
def JP (c:UInt8):Bool:=decide (48≤c.toNat)&&decide (c.toNat≤57)
def GB (s:List UInt8):Int:=s.foldl (fun n c=>10*n+((c.toNat:Int)-48)) 0
def DJ (s:List UInt8):Bool:=decide (1≤s.length)&&decide (s.length≤3)&&!(decide (s.getD 0 0=48)&&decide (1<s.length))&&s.all JP
def DK (l:List (List UInt8)):Bool:=l.all DJ
def AK (l:List (List UInt8)):List Int:=if DK l=true then l.map GB else []
theorem numV_snoc (s:List UInt8) (c:UInt8):GB (s++[c])=10*GB s+((c.toNat:Int)-48):=by simp [GB,List.foldl_append]
theorem fold_bound:∀ {s:List UInt8} {a:Int},0≤a→s.all JP=true→0≤s.foldl (fun n c=>10*n+((c.toNat:Int)-48)) a∧s.foldl (fun n c=>10*n+((c.toNat:Int)-48)) a<(a+1)*10 ^ s.length
  | [],a,h,_=>by simp;omega
  | c::s,a,h,hd=>by
    rw [List.all_cons,Bool.and_eq_true] at hd;have hc:=hd.1;simp only [JP,Bool.and_eq_true,decide_eq_true_eq] at hc;have ih:=fold_bound (s:=s) (a:=10*a+((c.toNat:Int)-48)) (by omega) hd.2;rw [List.foldl_cons];refine ⟨ih.1,Int.lt_of_lt_of_le ih.2 ?_⟩;rw [List.length_cons,Int.pow_succ,Int.mul_comm (10 ^ s.length) 10,← Int.mul_assoc];exact Int.mul_le_mul_of_nonneg_right (by omega) (Int.pow_nonneg (by decide))
theorem numV_bound {s:List UInt8} (h:s.all JP=true):0≤GB s∧GB s<10 ^ s.length:=by
  have:=fold_bound (a:=0) (by decide) h;unfold GB
  simpa using this
theorem OT {s:List UInt8} (h:s.all JP=true) (hl:s.length≤3):0≤GB s∧GB s<1000:=by
  have hb:=numV_bound h;refine ⟨hb.1,Int.lt_of_lt_of_le hb.2 ?_⟩;have:s.length=0∨s.length=1∨s.length=2∨s.length=3:=by omega
  rcases this with e | e | e | e <;> rw [e] <;> decide
def EW:List UInt8:=[99,111,97,99,104]
def EF:List UInt8:=[116,114,97,99,107]
def DD:List UInt8:=[112,111,105,110,116,115]
def GJ (m:List UInt8):Bool:=decide (m=[45])||decide (m=[112])||decide (m=[104])||decide (m=[112,104])
def carOf (l:List Int) (m:List UInt8):Car:=⟨l.getD 0 0,l.getD 1 0,l.getD 2 0,l.getD 3 0,decide (m.getD 0 0=112),decide (m.getD (m.length-1) 0=104)⟩
def CS (w:List (List UInt8)):Bool:=decide (w.length=6)&&decide (w.getD 0 []=EW)&&(DK ((w.drop 1).take 4)&&GJ (w.getD 5 []))
def AQ (w:List (List UInt8)):Car:=if CS w=true then carOf (AK ((w.drop 1).take 4)) (w.getD 5 []) else AD
def HB (r:List UInt8):Bool:=decide (r=[])||DK (cutL 44 r)
def GD (r:List UInt8):List Int:=if r=[] then [] else AK (cutL 44 r)
def DR (w:List (List UInt8)):Bool:=decide (w.length=2)&&decide (w.getD 0 []=EF)&&(decide ((cutL 58 (w.getD 1 [])).length=2)&&(DJ ((cutL 58 (w.getD 1 [])).getD 0 [])&&HB ((cutL 58 (w.getD 1 [])).getD 1 [])))
def roomV (w:List (List UInt8)):Int:=GB ((cutL 58 (w.getD 1 [])).getD 0 [])
def trackV (w:List (List UInt8)):List Int:=GD ((cutL 58 (w.getD 1 [])).getD 1 [])
def HT (Y:Yard) (e:Bool) (row:List UInt8):Option (Yard × Bool):=
  if e=true then none
  else if CS (cutL 32 row)=true∧Y.room=[] then some (⟨Y.cars++[AQ (cutL 32 row)],Y.room,Y.tracks⟩,false)
  else if DR (cutL 32 row)=true then some (⟨Y.cars,Y.room++[roomV (cutL 32 row)],Y.tracks++[trackV (cutL 32 row)]⟩,false)
  else if row=DD then some (Y,true)
  else none
def endM (Y:Yard) (e:Bool) (last:List UInt8) (i:Nat):Yard × Int × Int:=
  if e=true∧last=[] then (if checkErr Y=0 then (Y,0,0) else (AP,0,checkErr Y)) else (AP,↑i+1,2)
def JL (last:List UInt8):List (List UInt8)→Nat→Yard→Bool→Yard × Int × Int
  | [],i,Y,e=>endM Y e last i
  | row::rows,i,Y,e=>match HT Y e row with
    | none=>(AP,↑i+1,2)
    | some p=>JL last rows (i+1) p.1 p.2
theorem from_some {last row:List UInt8} {rows:List (List UInt8)} {i:Nat} {Y Z:Yard} {e f:Bool} (h:HT Y e row=some (Z,f)):JL last (row::rows) i Y e=JL last rows (i+1) Z f:=by
  rw [JL,h]
theorem from_none {last row:List UInt8} {rows:List (List UInt8)} {i:Nat} {Y:Yard} {e:Bool} (h:HT Y e row=none):JL last (row::rows) i Y e=(AP,(i:Int)+1,2):=by
  rw [JL,h]
def readL (l:List (List UInt8)):Yard × Int × Int:=JL (l.getD (l.length-1) []) (l.take (l.length-1)) 0 AP false
def BQ (t:List UInt8):Yard × Int × Int:=if 300<t.length then (AP,0,10) else readL (cutL 10 t)
theorem dig_of {c:UInt8} (h:JP c=true):∃ d:Nat,d≤9∧c=UInt8.ofNat (48+d)∧c.toNat=48+d:=by
  simp only [JP,Bool.and_eq_true,decide_eq_true_eq] at h;exact ⟨c.toNat-48,by omega,by rw [show 48+(c.toNat-48)=c.toNat by omega,UInt8.ofNat_toNat],by omega⟩
theorem HR {d:Nat} (h:d≤9):(UInt8.ofNat (48+d)).toNat=48+d:=by
  rw [UInt8.toNat_ofNat'];omega
theorem JW {d:Nat} (h:d≤9):JP (UInt8.ofNat (48+d))=true:=by
  unfold JP;rw [HR h];simp;omega
theorem ofd_48 {d:Nat} (h:d≤9):UInt8.ofNat (48+d)=48↔d=0:=by
  rw [← UInt8.toNat_inj,HR h];show 48+d=48↔_;omega
theorem dec3 {n:Nat} (h:100≤n) (h2:n<1000):Lib.decDigits n=[UInt8.ofNat (48+n/100),UInt8.ofNat (48+n/10%10),UInt8.ofNat (48+n%10)]:=by
  rw [Lib.decDigits,dif_neg (by omega),dec2 (n:=n/10) (by omega) (by omega)];rw [show n/10/10=n/100 by omega];rfl
theorem dec_pos (n:Nat):1≤(Lib.decDigits n).length:=by
  rw [Lib.decDigits];split <;> simp
theorem dec_more {n:Nat} (h:10≤n):(Lib.decDigits n).length=(Lib.decDigits (n/10)).length+1:=by
  conv=>lhs;rw [Lib.decDigits,dif_neg (by omega)]
  simp
theorem dec_long {n:Nat} (h:(Lib.decDigits n).length≤3):n<1000:=by
  apply Classical.byContradiction;intro hn
  have h1:=dec_more (n:=n) (by omega);have h2:=dec_more (n:=n/10) (by omega);have h3:=dec_more (n:=n/10/10) (by omega);have:=dec_pos (n/10/10/10);omega
theorem num_nat (n:Nat):num (n:Int)=Lib.decDigits n:=by rw [num,Lib.itoa,if_neg (by omega)];rfl
theorem numV_1 {a:Nat} (ha:a≤9):GB [UInt8.ofNat (48+a)]=(a:Int):=by
  simp only [GB,List.foldl_cons,List.foldl_nil,HR ha];omega
theorem numV_2 {a b:Nat} (ha:a≤9) (hb:b≤9):GB [UInt8.ofNat (48+a),UInt8.ofNat (48+b)]=((10*a+b:Nat):Int):=by
  simp only [GB,List.foldl_cons,List.foldl_nil,HR ha,HR hb];omega
theorem numV_3 {a b c:Nat} (ha:a≤9) (hb:b≤9) (hc:c≤9):GB [UInt8.ofNat (48+a),UInt8.ofNat (48+b),UInt8.ofNat (48+c)]=((100*a+10*b+c:Nat):Int):=by
  simp only [GB,List.foldl_cons,List.foldl_nil,HR ha,HR hb,HR hc];omega
theorem numIs_1 {a:Nat} (ha:a≤9):DJ [UInt8.ofNat (48+a)]=true:=by
  simp only [DJ,List.length_cons,List.length_nil,List.all_cons,List.all_nil,JW ha];simp
theorem numIs_2 {a b:Nat} (h0:1≤a) (ha:a≤9) (hb:b≤9):DJ [UInt8.ofNat (48+a),UInt8.ofNat (48+b)]=true:=by
  have:=mt (ofd_48 ha).1 (by omega);simp only [DJ,List.length_cons,List.length_nil,List.getD_cons_zero,List.all_cons,List.all_nil,JW ha,JW hb,decide_eq_false this];simp
theorem numIs_3 {a b c:Nat} (h0:1≤a) (ha:a≤9) (hb:b≤9) (hc:c≤9):DJ [UInt8.ofNat (48+a),UInt8.ofNat (48+b),UInt8.ofNat (48+c)]=true:=by
  have:=mt (ofd_48 ha).1 (by omega);simp only [DJ,List.length_cons,List.length_nil,List.getD_cons_zero,List.all_cons,List.all_nil,JW ha,JW hb,JW hc,decide_eq_false this];simp
theorem num_form {n : Nat} (h : n < 1000) :
    (∃ a,a≤9∧n=a∧Lib.decDigits n=[UInt8.ofNat (48+a)])∨(∃ a b,1≤a∧a≤9∧b≤9∧n=10*a+b∧Lib.decDigits n=[UInt8.ofNat (48+a),UInt8.ofNat (48+b)])
     ∨∃ a b c,1≤a∧a≤9∧b≤9∧c≤9∧n=100*a+10*b+c∧Lib.decDigits n=[UInt8.ofNat (48+a),UInt8.ofNat (48+b),UInt8.ofNat (48+c)]:=by
  by_cases h1:n<10
  · exact .inl ⟨n,by omega,rfl,dec1 h1⟩
  · by_cases h2:n<100
    · exact .inr (.inl ⟨n/10,n%10,by omega,by omega,by omega,by omega,dec2 (by omega) h2⟩)
    · exact .inr (.inr ⟨n/100,n/10%10,n%10,by omega,by omega,by omega,by omega,by omega,dec3 (by omega) h⟩)
theorem num_law {n:Nat} (h:n<1000):DJ (num (n:Int))=true∧GB (num (n:Int))=n:=by
  rw [num_nat];rcases num_form h with ⟨a,ha,e,e2⟩ | ⟨a,b,h0,ha,hb,e,e2⟩ | ⟨a,b,c,h0,ha,hb,hc,e,e2⟩ <;> rw [e2]
  · exact ⟨numIs_1 ha,by rw [numV_1 ha,e]⟩
  · exact ⟨numIs_2 h0 ha hb,by rw [numV_2 ha hb,e]⟩
  · exact ⟨numIs_3 h0 ha hb hc,by rw [numV_3 ha hb hc,e]⟩
theorem read_num {s:List UInt8} (h:DJ s=true):num (GB s)=s:=by
  simp only [DJ,Bool.and_eq_true,decide_eq_true_eq,Bool.not_eq_true',Bool.and_eq_false_iff,decide_eq_false_iff_not] at h;obtain ⟨⟨⟨h1,h2⟩,h3⟩,h4⟩:=h
  match s,h1,h2,h3,h4 with
  | [x],_,_,_,h4=>
    simp only [List.all_cons,List.all_nil,Bool.and_true] at h4;obtain ⟨a,ha,rfl,_⟩:=dig_of h4;rw [numV_1 ha,num_nat,dec1 (by omega)]
  | [x,y],_,_,h3,h4=>
    simp only [List.all_cons,List.all_nil,Bool.and_true,Bool.and_eq_true] at h4;obtain ⟨a,ha,rfl,_⟩:=dig_of h4.1;obtain ⟨b,hb,rfl,_⟩:=dig_of h4.2;have h0:a≠0:=fun e=>by
      rcases h3 with h3 | h3
      · exact h3 (by simp [(ofd_48 ha).2 e])
      · simp at h3
    rw [numV_2 ha hb,num_nat,dec2 (by omega) (by omega),show (10*a+b)/10=a by omega,show (10*a+b)%10=b by omega]
  | [x,y,z],_,_,h3,h4=>
    simp only [List.all_cons,List.all_nil,Bool.and_true,Bool.and_eq_true] at h4;obtain ⟨a,ha,rfl,_⟩:=dig_of h4.1;obtain ⟨b,hb,rfl,_⟩:=dig_of h4.2.1;obtain ⟨c,hc,rfl,_⟩:=dig_of h4.2.2;have h0:a≠0:=fun e=>by
      rcases h3 with h3 | h3
      · exact h3 (by simp [(ofd_48 ha).2 e])
      · simp at h3
    rw [numV_3 ha hb hc,num_nat,dec3 (by omega) (by omega),show (100*a+10*b+c)/100=a by omega,show (100*a+10*b+c)/10%10=b by omega,show (100*a+10*b+c)%10=c by omega]
  | _::_::_::_::_,_,h2,_,_=>simp at h2
def atoiV (s:List UInt8):Int:=match Lib.atoiAll s with
  | .ok v=>v
  | .range=>Lib.atoiSat s
  | _=>0
def atoiOk (s:List UInt8):Bool:=match Lib.atoiAll s with
  | .ok _=>true
  | _=>false
theorem parse_go:∀ {s:List UInt8} {a:Nat},s.all JP=true→a*10 ^ s.length+10 ^ s.length≤10000→Lib.parseUint10 a s=.ok (s.foldl (fun n c=>10*n+((c.toNat:Int)-48)) (a:Int)).toNat
  | [],a,_,_=>by simp [Lib.parseUint10]
  | c::s,a,hd,hb=>by
    rw [List.all_cons,Bool.and_eq_true] at hd;have hc:=hd.1;simp only [JP,Bool.and_eq_true,decide_eq_true_eq] at hc;have hp:1≤10 ^ s.length:=Nat.pos_of_ne_zero (by simp);rw [List.length_cons,Nat.pow_succ] at hb;have ha:a*10≤10000:=by
      have:a*10≤a*(10 ^ s.length*10):=Nat.mul_le_mul_left _ (by omega);omega
    rw [Lib.parseUint10,if_pos hc,if_neg (by omega),if_neg (by omega),List.foldl_cons]
    rw [parse_go hd.2 (by
      have h1:(a*10+(c.toNat-48))*10 ^ s.length≤(a*10+9)*10 ^ s.length:=Nat.mul_le_mul_right _ (by omega)
      have h2:(a*10+9)*10 ^ s.length+10 ^ s.length=a*(10 ^ s.length*10)+10 ^ s.length*10:=by
        rw [Nat.add_mul,Nat.mul_assoc,Nat.mul_comm 10 (10 ^ s.length)];omega
      omega)]
    rw [show ((a*10+(c.toNat-48):Nat):Int)=10*(a:Int)+((c.toNat:Int)-48) by omega]
theorem atoi_of {s:List UInt8} (h:DJ s=true):Lib.atoiAll s=.ok (GB s):=by
  simp only [DJ,Bool.and_eq_true,decide_eq_true_eq] at h;obtain ⟨⟨⟨h1,h2⟩,_⟩,h4⟩:=h;have hv:=OT h4 h2;cases s with
  | nil=>simp at h1
  | cons c r=>
    have hc:JP c=true:=by rw [List.all_cons,Bool.and_eq_true] at h4;exact h4.1
    simp only [JP,Bool.and_eq_true,decide_eq_true_eq] at hc;have hp:Lib.parseMag (c::r)=.ok (GB (c::r)).toNat:=by
      rw [Lib.parseMag,if_neg (by simp),parse_go h4 (by
        have:(c::r).length=1∨(c::r).length=2∨(c::r).length=3:=by omega
        rcases this with e | e | e <;> rw [e] <;> decide)]
      rfl
    unfold Lib.atoiAll;simp only [if_neg (show ¬ (c.toNat=43∨c.toNat=45) by omega),hp,if_neg (show ¬ (¬ c.toNat=45∧9223372036854775808≤(GB (c::r)).toNat) by omega),if_neg (show ¬ (c.toNat=45∧9223372036854775808<(GB (c::r)).toNat) by omega),if_neg (show ¬ c.toNat=45 by omega)]
    congr 1;omega
theorem atoi_num {s:List UInt8} (h:DJ s=true):atoiOk s=true∧atoiV s=GB s:=by
  unfold atoiOk atoiV;rw [atoi_of h];exact ⟨rfl,rfl⟩
theorem num_is {s:List UInt8} (h1:atoiOk s=true) (h2:0≤atoiV s) (h3:s.length≤3) (h4:num (atoiV s)=s):DJ s=true:=by
  obtain ⟨n,hn⟩:∃ n:Nat,atoiV s=n:=⟨(atoiV s).toNat,by omega⟩;rw [hn] at h4;have hl:n<1000:=dec_long (by rw [← num_nat,h4];exact h3);rw [← h4];exact (num_law hl).1
theorem num_not {s:List UInt8} (h:¬ (atoiOk s=true∧0≤atoiV s∧s.length≤3∧num (atoiV s)=s)):DJ s=false:=by
  cases hn:DJ s with
  | false=>rfl
  | true=>
    have ha:=atoi_num hn;have h4:=hn;simp only [DJ,Bool.and_eq_true,decide_eq_true_eq] at h4;have hv:=OT h4.2 h4.1.1.2;exact absurd ⟨ha.1,by rw [ha.2];exact hv.1,h4.1.1.2,by rw [ha.2];exact read_num hn⟩ h
theorem num_dec {s:List UInt8} (h1:atoiOk s=true) (h2:0≤atoiV s) (h3:s.length≤3):decide (num (atoiV s)=s)=DJ s:=by
  by_cases h:num (atoiV s)=s
  · rw [decide_eq_true h,num_is h1 h2 h3 h]
  · rw [decide_eq_false h,num_not fun hh=>h hh.2.2.2]
theorem idx1 (b:UInt8):∀ s:List UInt8,(Lib.index s [b]=-1∧b∉s)∨∃ p t,s=p++b::t∧b∉p∧Lib.index s [b]=(p.length:Int)
  | []=>.inl ⟨by simp [Lib.index],by simp⟩
  | c::s=>by
    by_cases h:c=b
    · subst h
      exact .inr ⟨[],s,rfl,by simp,by rw [Lib.index];simp [List.isPrefixOf]⟩
    · have hp:([b]:List UInt8).isPrefixOf (c::s)=false:=by simp [List.isPrefixOf,Ne.symm h]
      rcases idx1 b s with ⟨h1,h2⟩ | ⟨p,t,h1,h2,h3⟩
      · refine .inl ⟨by rw [Lib.index,hp,h1];simp,?_⟩
        simp only [List.mem_cons,not_or];exact ⟨Ne.symm h,h2⟩
      · refine .inr ⟨c::p,t,by rw [h1];rfl,?_,?_⟩
        · simp only [List.mem_cons,not_or];exact ⟨Ne.symm h,h2⟩
        · rw [Lib.index,hp,h3]
          have:((p.length:Int) == -1)=false:=by rw [beq_eq_false_iff_ne];omega
          rw [this];simp
theorem splitK_cut (b:UInt8):∀ (n:Nat) (s:List UInt8) (k:Nat),s.length≤n→s.count b≤k→Lib.splitK [b] 0 k s=cutL b s
  | n,s,0,_,hk=>by
    have:b∉s:=by rw [← List.count_eq_zero];omega
    rw [IG this];rfl
  | 0,s,k+1,hn,_=>by
    obtain rfl:=List.length_eq_zero_iff.1 (show s.length=0 by omega);unfold Lib.splitK;rw [if_pos (by simp [Lib.index])];rfl
  | n+1,s,k+1,hn,hk=>by
    unfold Lib.splitK;rcases idx1 b s with ⟨h1,h2⟩ | ⟨p,t,h1,h2,h3⟩
    · rw [if_pos (by rw [h1];rfl),IG h2]
    · rw [if_neg (by rw [h3];simp),h3]
      subst h1;rw [QF _ h2,List.count_append,List.count_cons_self] at *;rw [List.length_append,List.length_cons] at hn;rw [show ((p.length:Int).toNat+0)=p.length by omega,show ((p.length:Int).toNat+[b].length)=p.length+1 by simp];rw [List.take_left,← splitK_cut b n t k (by omega) (by omega)]
      congr 2
      rw [List.drop_append,List.drop_of_length_le (by omega)];simp
theorem split_cut (b:UInt8) (s:List UInt8):(Lib.splitB (sB [b]) 0 (Lib.countB (sB s) (sB [b])) (sB s))=(cutL b s).map sB:=by
  have h:=Lib.splitB_data (sB [b]) 0 (Lib.countB (sB s) (sB [b])) (sB s);have hc:Lib.countB (sB s) (sB [b])=s.count b:=Lib.count_one b s;rw [show Lib.splitK (sB [b]).data.toList 0 (Lib.countB (sB s) (sB [b])) (sB s).data.toList=cutL b s from splitK_cut b s.length s _ (Nat.le_refl _) (by rw [hc];exact Nat.le_refl _)] at h;rw [← h,List.map_map]
  conv=>lhs;rw [← List.map_id (Lib.splitB _ _ _ _)]
  exact List.map_congr_left fun x _=>rfl
theorem split_len (b:UInt8) (s:List UInt8):Lib.countB (sB s) (sB [b])+1=(cutL b s).length:=by
  rw [QG];exact congrArg (·+1) (Lib.count_one b s)
theorem cut_miss {b:UInt8} {s:List UInt8} (h:b∉s):Lib.cut s [b]=(s,[],false):=by
  rcases idx1 b s with ⟨h1,_⟩ | ⟨p,t,h1,h2,h3⟩
  · rw [Lib.cut,if_neg (by rw [h1];decide)]
  · subst h1;simp at h
theorem cut_hit {b:UInt8} {p t:List UInt8} (h:b∉p):Lib.cut (p++b::t) [b]=(p,t,true):=by
  rcases idx1 b (p++b::t) with ⟨h1,h2⟩ | ⟨p',t',h1,h2,h3⟩
  · simp at h2
  · have : ∀ {p p' t t' : List UInt8}, b ∉ p → b ∉ p' → p ++ b :: t = p' ++ b :: t' → p = p' ∧ t = t' := by
      intro p
      induction p with
      | nil=>
        intro p' t t' _ h2 e;cases p' with
        | nil=>simpa using e
        | cons x r=>simp at e h2;exact absurd e.1 h2.1
      | cons y p ih=>
        intro p' t t' h1 h2 e;cases p' with
        | nil=>simp at e h1;exact absurd e.1.symm h1.1
        | cons x r=>
          simp only [List.cons_append,List.cons.injEq,List.mem_cons,not_or] at e h1 h2;have:=ih h1.2 h2.2 e.2;exact ⟨by rw [e.1,this.1],this.2⟩
    obtain ⟨rfl,rfl⟩:=this h h2 h1;rw [Lib.cut,h3,if_pos (by omega)];simp
theorem isDig_mem {b:UInt8} (hb:JP b=false) {s:List UInt8} (h:DJ s=true):b∉s:=by
  intro hm;simp only [DJ,Bool.and_eq_true] at h;have:=List.all_eq_true.1 h.2 b hm;rw [hb] at this;cases this
theorem mem_of_cut {b c:UInt8} (hbc:c≠b) {s:List UInt8} (h:c∈s):∃ x∈cutL b s,c∈x:=by
  have hj:=cutL_join (b:=b) (s:=s);rw [← hj] at h;cases e:cutL b s with
  | nil=>exact absurd e (OL b s)
  | cons x r=>
    rw [e,Lib.join_cons,List.mem_append] at h;rcases h with h | h
    · exact ⟨x,List.mem_cons_self ..,h⟩
    · simp only [Lib.joinTail,List.mem_flatten,List.mem_map] at h
      obtain ⟨_,⟨y,hy,rfl⟩,h⟩:=h;rcases List.mem_cons.1 h with h | h
      · exact absurd h hbc
      · exact ⟨y,List.mem_cons_of_mem _ hy,h⟩
theorem rest_colon {t:List UInt8} (h:HB t=true):(58:UInt8)∉t:=by
  intro hm;simp only [HB,Bool.or_eq_true,decide_eq_true_eq] at h;rcases h with rfl | h
  · simp at hm
  · obtain ⟨x,hx,hc⟩:=mem_of_cut (b:=44) (by decide) hm
    exact isDig_mem (b:=58) (by decide) (List.all_eq_true.1 h x hx) hc
def OI (s:List UInt8):Bool:=(Lib.cut s [58]).2.2&&(DJ (Lib.cut s [58]).1&&HB (Lib.cut s [58]).2.1)
theorem colon_law (s : List UInt8) : (decide ((cutL 58 s).length = 2) && (DJ ((cutL 58 s).getD 0 []) && HB ((cutL 58 s).getD 1 []))) = OI s
   ∧(OI s=true→GB ((cutL 58 s).getD 0 [])=GB (Lib.cut s [58]).1∧GD ((cutL 58 s).getD 1 [])=GD (Lib.cut s [58]).2.1):=by
  rcases idx1 58 s with ⟨_,h2⟩ | ⟨p,t,rfl,h2,_⟩
  · rw [IG h2,OI,cut_miss h2];exact ⟨rfl,fun h=>by cases h⟩
  · rw [QF _ h2,OI,cut_hit h2]
    by_cases ht:HB t=true
    · rw [IG (rest_colon ht)]
      exact ⟨rfl,fun _=>⟨rfl,rfl⟩⟩
    · have hf:HB t=false:=by simpa using ht
      rw [hf];refine ⟨?_,fun h=>by simp at h⟩
      by_cases h58:(58:UInt8)∈t
      · have hl : 2 ≤ (cutL 58 t).length := by
          rw [QG];have:=List.count_pos_iff.2 h58;omega
        simp only [List.length_cons];rw [decide_eq_false (by omega)];simp
      · rw [IG h58];simp [hf]
def KR (w:List (List UInt8)):Bool:=decide (w.length=6)&&(DK ((w.drop 1).take 4)&&GJ (w.getD 5 []))
def tcV (w:List (List UInt8)):Car:=carOf (AK ((w.drop 1).take 4)) (w.getD 5 [])
def ttIs (w:List (List UInt8)):Bool:=decide (w.length=2)&&OI (w.getD 1 [])
def ttR (w:List (List UInt8)):Int:=GB (Lib.cut (w.getD 1 []) [58]).1
def ttV (w:List (List UInt8)):List Int:=GD (Lib.cut (w.getD 1 []) [58]).2.1
theorem coachIs_eq {w:List (List UInt8)} (h:w.getD 0 []=EW):CS w=KR w:=by
  unfold CS KR;rw [decide_eq_true h,Bool.and_true]
theorem OH {w:List (List UInt8)} (h:w.getD 0 []≠EW):CS w=false:=by
  unfold CS;rw [decide_eq_false h];simp
theorem trackIs_eq {w:List (List UInt8)} (h:w.getD 0 []=EF):DR w=ttIs w:=by
  unfold DR ttIs;rw [decide_eq_true h,Bool.and_true,(colon_law _).1]
theorem trackIs_ne {w:List (List UInt8)} (h:w.getD 0 []≠EF):DR w=false:=by
  unfold DR;rw [decide_eq_false h];simp
section
variable {Y:Yard} {row:List UInt8}
theorem points_word:(cutL 32 DD).getD 0 []=DD:=by decide +kernel
theorem step_coach (h:(cutL 32 row).getD 0 []=EW):HT Y false row=if Y.room=[]∧KR (cutL 32 row)=true then some (⟨Y.cars++[tcV (cutL 32 row)],Y.room,Y.tracks⟩,false) else none:=by
  unfold HT;rw [if_neg (by decide),coachIs_eq h,trackIs_ne (by rw [h];decide)]
  by_cases hc:KR (cutL 32 row)=true∧Y.room=[]
  · rw [if_pos hc,if_pos ⟨hc.2,hc.1⟩]
    unfold AQ;rw [coachIs_eq h,if_pos hc.1];rfl
  · rw [if_neg hc,if_neg (by decide),if_neg (fun e=>by rw [e,points_word] at h;exact absurd h (by decide)),if_neg (fun hh=>hc ⟨hh.2,hh.1⟩)]
theorem step_track (h:(cutL 32 row).getD 0 []=EF):HT Y false row=if ttIs (cutL 32 row)=true then some (⟨Y.cars,Y.room++[ttR (cutL 32 row)],Y.tracks++[ttV (cutL 32 row)]⟩,false) else none:=by
  unfold HT;rw [if_neg (by decide),OH (by rw [h];decide),if_neg (fun hh=>by cases hh.1),trackIs_eq h]
  by_cases hc:ttIs (cutL 32 row)=true
  · rw [if_pos hc,if_pos hc]
    have hl:=(colon_law ((cutL 32 row).getD 1 [])).2 (by
      simp only [ttIs,Bool.and_eq_true] at hc;exact hc.2)
    unfold roomV trackV ttR ttV;rw [hl.1,hl.2]
  · rw [if_neg hc,if_neg (fun e=>by rw [e,points_word] at h;exact absurd h (by decide)),if_neg hc]
theorem step_other (h1:(cutL 32 row).getD 0 []≠EW) (h2:(cutL 32 row).getD 0 []≠EF):HT Y false row=if row=DD then some (Y,true) else none:=by
  unfold HT;rw [if_neg (by decide),OH h1,if_neg (fun hh=>by cases hh.1),trackIs_ne h2,if_neg (by decide)]
end
theorem tcIs_t {w:List (List UInt8)} (h1:w.length=6) (h2:DK ((w.drop 1).take 4)=true) (h3:GJ (w.getD 5 [])=true):KR w=true:=by
  unfold KR;rw [decide_eq_true h1,h2,h3];rfl
theorem nums_len {l:List (List UInt8)} (h:DK l=true):(AK l).length=l.length:=by
  unfold AK;rw [if_pos h,List.length_map]
theorem Fine.carB {Y:Yard} (h:Fine Y):∀ c∈Y.cars,(1≤c.len∧c.len≤4)∧(1≤c.wt∧c.wt≤60)∧(0≤c.brk∧c.brk≤60)∧(0≤c.grp∧c.grp≤3):=by
  intro c hc;have:=h.carOk c hc;unfold CW at this
  split at this
  · rename_i hh
    simp only [Bool.and_eq_true] at hh;have h1:=inB_t hh.1.1.1;have h2:=inB_t hh.1.1.2;have h3:=inB_t hh.1.2;have h4:=inB_t hh.2;omega
  · cases this
theorem Fine.seat {Y:Yard} (h:Fine Y):∀ t∈Y.tracks,∀ x∈t,0≤x∧x<5:=by
  intro t ht x hx;have:=h.ok t ht x hx;have:=h.cars;omega
theorem lines_ne (Y:Yard):FL Y≠[]:=by simp [FL]
theorem HV {x:Int} (h:0≤x∧x<100):(num x).length≤2:=by
  obtain ⟨n,rfl⟩:∃ n:Nat,x=n:=⟨x.toNat,by omega⟩
  by_cases h1:n<10
  · rw [num1 h1];simp
  · rw [num2 (by omega) (by omega)];simp
theorem num_one {x:Int} (h:0≤x∧x<10):(num x).length≤1:=by
  obtain ⟨n,rfl⟩:∃ n:Nat,x=n:=⟨x.toNat,by omega⟩;rw [num1 (by omega)];simp
theorem Fine.line {Y:Yard} (h:Fine Y):∀ x∈FL Y,x.length≤24:=by
  intro x hx;simp only [FL,List.mem_append,List.mem_map,List.mem_singleton] at hx;rcases hx with (⟨c,hc,rfl⟩ | hx) | rfl
  · have hb:=h.carB c hc
    have h1:=HV (x:=c.len) (by omega);have h2:=HV (x:=c.wt) (by omega);have h3:=HV (x:=c.brk) (by omega);have h4:=HV (x:=c.grp) (by omega);have h5:=marks_le c;unfold BP;rw [Lib.join_cons];simp only [Lib.joinTail,List.map_cons,List.map_nil,List.flatten_cons,List.flatten_nil,List.length_append,List.length_cons,List.length_nil];omega
  · obtain ⟨i,hi,rfl⟩:=List.mem_iff_getElem.1 hx
    have hi2:i<Y.room.length∧i<Y.tracks.length:=by simp only [AZ,List.length_zipWith] at hi;omega
    simp only [AZ,List.getElem_zipWith,KA];have h1:=HV (x:=Y.room[i]) (by have:=inB_t (h.roomOk _ (List.getElem_mem hi2.1));omega);have h2:(Lib.join ((Y.tracks[i]'hi2.2).map num) [44]).length≤10:=by
      refine JX (m:=1) (fun s hs=>?_) ?_
      · obtain ⟨y,hy,rfl⟩:=List.mem_map.1 hs
        have:=h.seat _ (List.getElem_mem hi2.2) y hy;exact num_one (by omega)
      · rw [List.length_map]
        have h1:=DW (List.getElem_mem hi2.2);have h2:=h.sum;omega
    simp only [List.length_append,List.length_cons,List.length_nil];omega
  · simp
theorem Fine.text {Y:Yard} (h:Fine Y):(writeY Y).length≤300:=by
  have h1:(Lib.join (FL Y) [10]).length≤225:=by
    refine JX h.line ?_;have:=h.cars;have:=h.room3;have:=h.len;have:(FL Y).length≤9:=by
      simp only [FL,AZ,List.length_append,List.length_map,List.length_zipWith,List.length_cons,List.length_nil];omega
    omega
  unfold writeY;rw [List.length_append,List.length_singleton];omega
end Go.Sh
namespace Go.Proofs
open Go.Shelf
def Tryz.laysC172_ren:Go.Shelf.Ren:=⟨fun | 172=>170 | 244=>184 | 245=>185 | 247=>196 | 279=>197 | 280=>198 | 281=>199 | 282=>200 | 287=>205 | 316=>206 | 171=>120 | 205=>207 | 321=>208 | 322=>209 | 243=>149 | 246=>165 | 283=>176 | 284=>177 | 285=>178 | 286=>179 | 129=>187 | 317=>186 | 318=>188 | 319=>189 | 320=>190 | 337=>201 | 338=>202 | n=>n,fun | 9=>9 | 3=>3 | 75=>126 | 76=>178 | 4=>4 | 5=>5 | 167=>238 | 37=>150 | 0=>0 | 85=>239 | 2=>2 | 168=>241 | 53=>93 | 175=>251 | 46=>96 | 210=>255 | 127=>203 | 145=>263 | 143=>261 | 21=>21 | 171=>223 | 173=>226 | 212=>234 | 51=>235 | 20=>20 | 213=>236 | 232=>257 | 233=>258 | 80=>180 | n=>n,fun | 15=>5 | 16=>6 | 17=>2 | 18=>7 | 19=>8 | n=>n⟩
theorem Tryz.laysC172:Go.Proofs.LaysC.n172 Tryz.prog Tryz.laysC172_ren:={
  mixed:=by kernel_rfl
  f129:=Tryz.func187.trans (congrArg some (by kernel_rfl))
  f171:=Tryz.func120.trans (congrArg some (by kernel_rfl))
  f172:=Tryz.func170.trans (congrArg some (by kernel_rfl))
  f205:=Tryz.func207.trans (congrArg some (by kernel_rfl))
  f243:=Tryz.func149.trans (congrArg some (by kernel_rfl))
  f244:=Tryz.func184.trans (congrArg some (by kernel_rfl))
  f245:=Tryz.func185.trans (congrArg some (by kernel_rfl))
  f246:=Tryz.func165.trans (congrArg some (by kernel_rfl))
  f247:=Tryz.func196.trans (congrArg some (by kernel_rfl))
  f279:=Tryz.func197.trans (congrArg some (by kernel_rfl))
  f280:=Tryz.func198.trans (congrArg some (by kernel_rfl))
  f281:=Tryz.func199.trans (congrArg some (by kernel_rfl))
  f282:=Tryz.func200.trans (congrArg some (by kernel_rfl))
  f283:=Tryz.func176.trans (congrArg some (by kernel_rfl))
  f284:=Tryz.func177.trans (congrArg some (by kernel_rfl))
  f285:=Tryz.func178.trans (congrArg some (by kernel_rfl))
  f286:=Tryz.func179.trans (congrArg some (by kernel_rfl))
  f287:=Tryz.func205.trans (congrArg some (by kernel_rfl))
  f316:=Tryz.func206.trans (congrArg some (by kernel_rfl))
  f317:=Tryz.func186.trans (congrArg some (by kernel_rfl))
  f318:=Tryz.func188.trans (congrArg some (by kernel_rfl))
  f319:=Tryz.func189.trans (congrArg some (by kernel_rfl))
  f320:=Tryz.func190.trans (congrArg some (by kernel_rfl))
  f321:=Tryz.func208.trans (congrArg some (by kernel_rfl))
  f322:=Tryz.func209.trans (congrArg some (by kernel_rfl))
  f337:=Tryz.func201.trans (congrArg some (by kernel_rfl))
  f338:=Tryz.func202.trans (congrArg some (by kernel_rfl))
  t0:=Tryz.underlying0
  a0:=Tryz.isAgg0
  z0:=Tryz.sizeOf0
  v0:=Tryz.zeroValue0
  t2:=Tryz.underlying2
  a2:=Tryz.isAgg2
  z2:=Tryz.sizeOf2
  v2:=Tryz.zeroValue2
  t3:=Tryz.underlying3
  a3:=Tryz.isAgg3
  z3:=Tryz.sizeOf3
  v3:=Tryz.zeroValue3
  t4:=Tryz.underlying4
  a4:=Tryz.isAgg4
  z4:=Tryz.sizeOf4
  v4:=Tryz.zeroValue4
  t5:=Tryz.underlying5
  a5:=Tryz.isAgg5
  z5:=Tryz.sizeOf5
  v5:=Tryz.zeroValue5
  t9:=Tryz.underlying9
  a9:=Tryz.isAgg9
  z9:=Tryz.sizeOf9
  v9:=Tryz.zeroValue9
  t20:=Tryz.underlying20
  a20:=Tryz.isAgg20
  z20:=Tryz.sizeOf20
  v20:=Tryz.zeroValue20
  t21:=Tryz.underlying21
  a21:=Tryz.isAgg21
  z21:=Tryz.sizeOf21
  v21:=Tryz.zeroValue21
  t37:=Tryz.underlying150
  a37:=Tryz.isAgg150
  z37:=Tryz.sizeOf150
  v37:=Tryz.zeroValue150
  t46:=Tryz.underlying96
  a46:=Tryz.isAgg96
  z46:=Tryz.sizeOf96
  v46:=Tryz.zeroValue96
  t51:=Tryz.underlying235
  a51:=Tryz.isAgg235
  z51:=Tryz.sizeOf235
  v51:=Tryz.zeroValue235
  t53:=Tryz.underlying93
  a53:=Tryz.isAgg93
  z53:=Tryz.sizeOf93
  v53:=Tryz.zeroValue93
  t75:=Tryz.underlying126
  a75:=Tryz.isAgg126
  z75:=Tryz.sizeOf126
  v75:=Tryz.zeroValue126
  t76:=Tryz.underlying178
  a76:=Tryz.isAgg178
  z76:=Tryz.sizeOf178
  v76:=Tryz.zeroValue178
  t85:=Tryz.underlying239
  a85:=Tryz.isAgg239
  z85:=Tryz.sizeOf239
  v85:=Tryz.zeroValue239
  t127:=Tryz.underlying203
  a127:=Tryz.isAgg203
  z127:=Tryz.sizeOf203
  v127:=Tryz.zeroValue203
  t143:=Tryz.underlying261
  a143:=Tryz.isAgg261
  z143:=Tryz.sizeOf261
  v143:=Tryz.zeroValue261
  t145:=Tryz.underlying263
  a145:=Tryz.isAgg263
  z145:=Tryz.sizeOf263
  v145:=Tryz.zeroValue263
  t167:=Tryz.underlying238
  a167:=Tryz.isAgg238
  z167:=Tryz.sizeOf238
  v167:=Tryz.zeroValue238
  t168:=Tryz.underlying241
  a168:=Tryz.isAgg241
  z168:=Tryz.sizeOf241
  v168:=Tryz.zeroValue241
  t171:=Tryz.underlying223
  a171:=Tryz.isAgg223
  z171:=Tryz.sizeOf223
  v171:=Tryz.zeroValue223
  t173:=Tryz.underlying226
  a173:=Tryz.isAgg226
  z173:=Tryz.sizeOf226
  v173:=Tryz.zeroValue226
  t175:=Tryz.underlying251
  a175:=Tryz.isAgg251
  z175:=Tryz.sizeOf251
  v175:=Tryz.zeroValue251
  t210:=Tryz.underlying255
  a210:=Tryz.isAgg255
  z210:=Tryz.sizeOf255
  v210:=Tryz.zeroValue255
  t212:=Tryz.underlying234
  a212:=Tryz.isAgg234
  z212:=Tryz.sizeOf234
  v212:=Tryz.zeroValue234
  t213:=Tryz.underlying236
  a213:=Tryz.isAgg236
  z213:=Tryz.sizeOf236
  t232:=Tryz.underlying257
  a232:=Tryz.isAgg257
  z232:=Tryz.sizeOf257
  v232:=Tryz.zeroValue257
  t233:=Tryz.underlying258
  a233:=Tryz.isAgg258
  z233:=Tryz.sizeOf258
  v233:=Tryz.zeroValue258
  g15:=by kernel_rfl
  g16:=by kernel_rfl
  g17:=by kernel_rfl
  g18:=by kernel_rfl
  g19:=by kernel_rfl
  t80:=Tryz.underlying180
  a80:=Tryz.isAgg180
  z80:=Tryz.sizeOf180
  v80:=Tryz.zeroValue180
  i0:=by kernel_rfl
  i2:=by kernel_rfl
  i3:=by kernel_rfl
  i4:=by kernel_rfl
  i5:=by kernel_rfl
  i9:=by kernel_rfl
  i20:=by kernel_rfl
  i21:=by kernel_rfl
  i37:=by kernel_rfl
  i46:=by kernel_rfl
  i51:=by kernel_rfl
  i53:=by kernel_rfl
  i75:=by kernel_rfl
  i76:=by kernel_rfl
  i80:=by kernel_rfl
  i85:=by kernel_rfl
  i127:=by kernel_rfl
  i143:=by kernel_rfl
  i145:=by kernel_rfl
  i167:=by kernel_rfl
  i168:=by kernel_rfl
  i171:=by kernel_rfl
  i173:=by kernel_rfl
  i175:=by kernel_rfl
  i210:=by kernel_rfl
  i212:=by kernel_rfl
  i232:=by kernel_rfl
  i233:=by kernel_rfl
  m15:=by kernel_rfl
  m16:=by kernel_rfl
  m17:=by kernel_rfl
  m18:=by kernel_rfl
  m19:=by kernel_rfl
  c0:=by kernel_rfl
  c2:=by kernel_rfl
  c3:=by kernel_rfl
  c4:=by kernel_rfl
  c5:=by kernel_rfl
  c9:=by kernel_rfl
  c20:=by kernel_rfl
  c21:=by kernel_rfl
  c37:=by kernel_rfl
  c46:=by kernel_rfl
  c51:=by kernel_rfl
  c53:=by kernel_rfl
  c75:=by kernel_rfl
  c76:=by kernel_rfl
  c80:=by kernel_rfl
  c85:=by kernel_rfl
  c127:=by kernel_rfl
  c143:=by kernel_rfl
  c145:=by kernel_rfl
  c167:=by kernel_rfl
  c168:=by kernel_rfl
  c171:=by kernel_rfl
  c173:=by kernel_rfl
  c175:=by kernel_rfl
  c210:=by kernel_rfl
  c212:=by kernel_rfl
  c213:=by kernel_rfl
  c232:=by kernel_rfl
  c233:=by kernel_rfl }
open Go.RowKit in
theorem Tryz.strconv_Atoi_ok (s : ByteArray) (hmax : s.size ≤ 9223372036854775806) (v : Int) (h : Lib.atoiAll s.data.toList = .ok v) (w : World) :
    Calls Tryz.prog 170 #[.string s] w fun e w'=>e=.returned (.tuple #[.int .i64 v,.nilIface])∧(w'=w∨∃ t,w'=Lib.bytesWorld w 5 t):=Any.strconv_Atoi_ok Tryz.laysC172 s hmax v h w
open Go.RowKit in
theorem Tryz.strconv_Atoi_syntax (s : ByteArray) (hlim : s.size ≤ 281474976710656) (h : Lib.atoiAll s.data.toList = Lib.atoiAll []) (ev : Value) (w : World) (hv : w.cell? ⟨5, 0, none⟩ = some ev) (hev : ev = .nilIface ∨ ∃ te pe, ev = .iface te pe) :
    Calls Tryz.prog 170 #[.string s] w fun e w'=>∃ N,e=.returned (.tuple #[.int .i64 (0),.iface 241 (.pointer (some ⟨N,0,none⟩))])∧w.heap.size≤N∧w'.heap[N]?=some (.cells #[.string ⟨#[65,116,111,105]⟩,.string s,ev] 255 (0,0))∧Below w.heap.size w w':=Any.strconv_Atoi_syntax Tryz.laysC172 s hlim h ev w hv hev
open Go.RowKit in
theorem Tryz.strconv_Atoi_range (s : ByteArray) (hlim : s.size ≤ 281474976710656) (h : Lib.atoiAll s.data.toList = .range) (ev : Value) (w : World) (hv : w.cell? ⟨6, 0, none⟩ = some ev) (hev : ev = .nilIface ∨ ∃ te pe, ev = .iface te pe) :
    Calls Tryz.prog 170 #[.string s] w fun e w'=>∃ N,e=.returned (.tuple #[.int .i64 (Lib.atoiSat s.data.toList),.iface 241 (.pointer (some ⟨N,0,none⟩))])∧w.heap.size≤N∧w'.heap[N]?=some (.cells #[.string ⟨#[65,116,111,105]⟩,.string s,ev] 255 (0,0))∧Below w.heap.size w w':=Any.strconv_Atoi_range Tryz.laysC172 s hlim h ev w hv hev
def Tryz.lays145_ren:Go.Shelf.Ren:=⟨fun | 145=>152 | 220=>169 | 219=>183 | 217=>192 | 225=>193 | 224=>194 | 267=>195 | 266=>203 | 314=>204 | n=>n,fun | 9=>9 | 4=>4 | 59=>184 | 3=>3 | 5=>5 | 46=>96 | 146=>249 | 51=>235 | n=>n,fun | 1=>1 | n=>n⟩
theorem Tryz.lays145:Go.Proofs.Lays.n145 Tryz.prog Tryz.lays145_ren:={
  mixed:=by kernel_rfl
  f145:=Tryz.func152.trans (congrArg some (by kernel_rfl))
  f217:=Tryz.func192.trans (congrArg some (by kernel_rfl))
  f219:=Tryz.func183.trans (congrArg some (by kernel_rfl))
  f220:=Tryz.func169.trans (congrArg some (by kernel_rfl))
  f224:=Tryz.func194.trans (congrArg some (by kernel_rfl))
  f225:=Tryz.func193.trans (congrArg some (by kernel_rfl))
  f266:=Tryz.func203.trans (congrArg some (by kernel_rfl))
  f267:=Tryz.func195.trans (congrArg some (by kernel_rfl))
  f314:=Tryz.func204.trans (congrArg some (by kernel_rfl))
  t3:=Tryz.underlying3
  a3:=Tryz.isAgg3
  z3:=Tryz.sizeOf3
  v3:=Tryz.zeroValue3
  t4:=Tryz.underlying4
  a4:=Tryz.isAgg4
  z4:=Tryz.sizeOf4
  v4:=Tryz.zeroValue4
  t5:=Tryz.underlying5
  a5:=Tryz.isAgg5
  z5:=Tryz.sizeOf5
  v5:=Tryz.zeroValue5
  t9:=Tryz.underlying9
  a9:=Tryz.isAgg9
  z9:=Tryz.sizeOf9
  v9:=Tryz.zeroValue9
  t46:=Tryz.underlying96
  a46:=Tryz.isAgg96
  z46:=Tryz.sizeOf96
  v46:=Tryz.zeroValue96
  t51:=Tryz.underlying235
  a51:=Tryz.isAgg235
  z51:=Tryz.sizeOf235
  v51:=Tryz.zeroValue235
  t59:=Tryz.underlying184
  a59:=Tryz.isAgg184
  z59:=Tryz.sizeOf184
  v59:=Tryz.zeroValue184
  t146:=Tryz.underlying249
  a146:=Tryz.isAgg249
  z146:=Tryz.sizeOf249
  v146:=Tryz.zeroValue249
  g1:=by kernel_rfl }
open Go.RowKit Go.Lib in
theorem Tryz.strings_Cut (s sep : ByteArray) (m : Int) (w : World) (hs : s.size < 4294967281) (hm : w.cell? ⟨1, 0, none⟩ = some (.int .i64 m)) :
    Calls Tryz.prog 152 #[.string s,.string sep] w fun e w'=>e=.returned (.tuple #[.string ⟨(Lib.cut s.data.toList sep.data.toList).1.toArray⟩,.string ⟨(Lib.cut s.data.toList sep.data.toList).2.1.toArray⟩,.bool (Lib.cut s.data.toList sep.data.toList).2.2])∧∃ n,w'=w.drewN n:=Any.strings_Cut Tryz.lays145 s sep m w hs hm
def Tryz.lays146_ren:Go.Shelf.Ren:=⟨fun | 146=>122 | 221=>150 | 268=>166 | 138=>167 | 143=>168 | 195=>180 | 197=>181 | 218=>182 | 219=>183 | 260=>191 | 217=>192 | 225=>193 | 224=>194 | 267=>195 | 266=>203 | 314=>204 | n=>n,fun | 9=>9 | 31=>87 | 3=>3 | 4=>4 | 0=>0 | 105=>229 | 21=>21 | 5=>5 | 46=>96 | 119=>245 | 139=>248 | 138=>247 | 146=>249 | 51=>235 | n=>n,fun | 1=>1 | 3=>3 | 4=>4 | n=>n⟩
theorem Tryz.lays146:Go.Proofs.Lays.n146 Tryz.prog Tryz.lays146_ren:={
  mixed:=by kernel_rfl
  f138:=Tryz.func167.trans (congrArg some (by kernel_rfl))
  f143:=Tryz.func168.trans (congrArg some (by kernel_rfl))
  f146:=Tryz.func122.trans (congrArg some (by kernel_rfl))
  f195:=Tryz.func180.trans (congrArg some (by kernel_rfl))
  f197:=Tryz.func181.trans (congrArg some (by kernel_rfl))
  f217:=Tryz.func192.trans (congrArg some (by kernel_rfl))
  f218:=Tryz.func182.trans (congrArg some (by kernel_rfl))
  f219:=Tryz.func183.trans (congrArg some (by kernel_rfl))
  f221:=Tryz.func150.trans (congrArg some (by kernel_rfl))
  f224:=Tryz.func194.trans (congrArg some (by kernel_rfl))
  f225:=Tryz.func193.trans (congrArg some (by kernel_rfl))
  f260:=Tryz.func191.trans (congrArg some (by kernel_rfl))
  f266:=Tryz.func203.trans (congrArg some (by kernel_rfl))
  f267:=Tryz.func195.trans (congrArg some (by kernel_rfl))
  f268:=Tryz.func166.trans (congrArg some (by kernel_rfl))
  f314:=Tryz.func204.trans (congrArg some (by kernel_rfl))
  t0:=Tryz.underlying0
  a0:=Tryz.isAgg0
  z0:=Tryz.sizeOf0
  v0:=Tryz.zeroValue0
  t3:=Tryz.underlying3
  a3:=Tryz.isAgg3
  z3:=Tryz.sizeOf3
  v3:=Tryz.zeroValue3
  t4:=Tryz.underlying4
  a4:=Tryz.isAgg4
  z4:=Tryz.sizeOf4
  v4:=Tryz.zeroValue4
  t5:=Tryz.underlying5
  a5:=Tryz.isAgg5
  z5:=Tryz.sizeOf5
  v5:=Tryz.zeroValue5
  t9:=Tryz.underlying9
  a9:=Tryz.isAgg9
  z9:=Tryz.sizeOf9
  v9:=Tryz.zeroValue9
  t21:=Tryz.underlying21
  a21:=Tryz.isAgg21
  z21:=Tryz.sizeOf21
  v21:=Tryz.zeroValue21
  t31:=Tryz.underlying87
  a31:=Tryz.isAgg87
  z31:=Tryz.sizeOf87
  v31:=Tryz.zeroValue87
  t46:=Tryz.underlying96
  a46:=Tryz.isAgg96
  z46:=Tryz.sizeOf96
  v46:=Tryz.zeroValue96
  t51:=Tryz.underlying235
  a51:=Tryz.isAgg235
  z51:=Tryz.sizeOf235
  v51:=Tryz.zeroValue235
  t105:=Tryz.underlying229
  a105:=Tryz.isAgg229
  z105:=Tryz.sizeOf229
  v105:=Tryz.zeroValue229
  t119:=Tryz.underlying245
  a119:=Tryz.isAgg245
  z119:=Tryz.sizeOf245
  t138:=Tryz.underlying247
  a138:=Tryz.isAgg247
  z138:=Tryz.sizeOf247
  v138:=Tryz.zeroValue247
  t139:=Tryz.underlying248
  a139:=Tryz.isAgg248
  z139:=Tryz.sizeOf248
  v139:=Tryz.zeroValue248
  t146:=Tryz.underlying249
  a146:=Tryz.isAgg249
  z146:=Tryz.sizeOf249
  v146:=Tryz.zeroValue249
  g1:=by kernel_rfl
  g3:=by kernel_rfl
  g4:=by kernel_rfl }
open Go.RowKit Go.Lib in
theorem Tryz.strings_Split (s sep : ByteArray) (m : Int) (w : World) (hs : s.size < 4294967281) (hm : w.cell? ⟨1, 0, none⟩ = some (.int .i64 m)) (h1 : 1 ≤ sep.size) :
    Calls Tryz.prog 122 #[.string s,.string sep] w fun e w'=>
      e=.returned (.slice (some ⟨w.heap.size,0,none⟩) (Lib.countB s sep+1) (Lib.countB s sep+1))∧w'=w.alloc (.cells ((Lib.splitB sep 0 (Lib.countB s sep) s).map Value.string).toArray 9):=Any.strings_Split Tryz.lays146 (by kernel_rfl) s sep m w hs hm h1
end Go.Proofs
namespace Go.Sl
open Go Go.RowKit
def HasInt (I:Imm) (g:Nat):Prop:=∃ m,ICell I ⟨g,0,none⟩ (.int .i64 m)
def HasErr (I:Imm) (g:Nat):Prop:=∃ t p,ICell I ⟨g,0,none⟩ (.iface t p)
structure TextG (I:Imm):Prop where
  tab:Tab10 I
  len:HasInt I 1
  syn:HasErr I 5
  rng:HasErr I 6
theorem HasInt.mono {I J:Imm} {g:Nat} (h:HasInt I g) (le:I.le J):HasInt J g:=h.imp fun _ h=>h.mono le
theorem HasErr.mono {I J:Imm} {g:Nat} (h:HasErr I g) (le:I.le J):HasErr J g:=h.imp fun _ h=>h.imp fun _ h=>h.mono le
theorem TextG.mono {I J:Imm} (h:TextG I) (le:I.le J):TextG J:=⟨h.tab.mono le,h.len.mono le,h.syn.mono le,h.rng.mono le⟩
theorem TellV.any (I:Imm) (Y:Sh.Yard):TellV I Y:=fun hz=>by
  have hf:=Sh.Valid.fine (Y:=Y) hz;exact ⟨fun c hc=>by have:=hf.carB c hc;exact ⟨.small (by omega),.small (by omega),.small (by omega),.small (by omega)⟩,fun r hr=>by have:=Sh.inB_t (hf.roomOk r hr);exact .small (by omega),fun t ht x hx=>by have:=hf.seat t ht x hx;exact .small (by omega)⟩
theorem Split_ct (I:Imm) (s:List UInt8) (b:UInt8) (hG:TextG I) (hs:s.length≤1000000):Ct Go.Proofs.Tryz.prog 122 #[sV s,sV [b]] I [] (fun v I' M'=>∃ u:Value,v=u∧M'=[]∧NG I' u (Sh.cutL b s)):=fun F w st=>by
  obtain ⟨m,hm⟩:=hG.len;refine (Go.Proofs.Tryz.strings_Split (sB s) (sB [b]) m w (by rw [IW];omega) ((hm.sees (M:=F)).cell st) (by rw [IW];exact Nat.le_refl _)).mono ?_
  rintro e w' ⟨rfl,rfl⟩
  rw [Sh.split_cut,Sh.split_len];have hst:=st.new (.cells ((List.map sB (Sh.cutL b s)).map Value.string).toArray 9)
  have hown:Own 9 1 EX (.slice (some ⟨w.heap.size,0,none⟩) (Sh.cutL b s).length (Sh.cutL b s).length) (Sh.cutL b s) [(w.heap.size,Obj.cells ((List.map sB (Sh.cutL b s)).map Value.string).toArray 9 (0,0))]:=
    Own.lit (by
      congr 1
      rw [List.map_map]
      simp only [FH]
      rw [← List.flatMap_singleton' ((Sh.cutL b s).map _)]
      simp [List.flatMap_map,EX]
      ) rfl
  obtain ⟨J,hle,his,hJ⟩:=Own.freeze ([]:List UInt8) hown (by have:=Sh.cutL_len_le (b:=b) (s:=s);omega) hst;exact ⟨_,J,[],rfl,hle,⟨_,rfl,rfl,his⟩,hJ⟩
theorem Cut_ct (I:Imm) (s:List UInt8) (b:UInt8) (hG:TextG I) (hs:s.length≤1000000):Ct Go.Proofs.Tryz.prog 152 #[sV s,sV [b]] I [] (fun v I' M'=>v=.tuple #[sV (Lib.cut s [b]).1,sV (Lib.cut s [b]).2.1,.bool (Lib.cut s [b]).2.2]∧M'=[]):=fun F w st=>by
  obtain ⟨m,hm⟩:=hG.len;refine (Go.Proofs.Tryz.strings_Cut (sB s) (sB [b]) m w (by rw [IW];omega) ((hm.sees (M:=F)).cell st)).mono ?_
  rintro e w' ⟨rfl,n,rfl⟩
  exact ⟨_,I,[],rfl,Imm.le.refl I,⟨rfl,rfl⟩,⟨st.os,st.tape,st.output,st.imm,st.mem,st.nodup,st.disj⟩⟩
theorem atoiV_le (s:List UInt8):Sh.atoiV s≤9223372036854775807:=by
  unfold Sh.atoiV
  split
  · rename_i v h;exact (Lib.atoiAll_bounds h).2
  · exact (Lib.atoiSat_bounds s).2
  · decide
def errQ (ok:Bool) (n:Nat):Value:=if ok=true then .nilIface else .iface 241 (.pointer (some ⟨n,0,none⟩))
theorem isNI_errQ (ok:Bool) (n:Nat):isNI (errQ ok n)=some ok:=by cases ok <;> rfl
theorem st_below {I:Imm} {F:Seg} {w w':World} (st:St I F w) (hb:Below w.heap.size w w'):St I F w':=by
  have up:∀ b o,w.heap[b]?=some o→w'.heap[b]?=some o:=fun b o hq=>by
    rw [hb.block b (Array.getElem?_eq_some_iff.1 hq).1];exact hq
  exact ⟨hb.os.trans st.os,hb.tape.trans st.tape,hb.output.trans st.output,fun b o hq=>up b o (st.imm b o hq),fun b o hq=>up b o (st.mem b o hq),st.nodup,st.disj⟩
theorem Atoi_ct (I:Imm) (s:List UInt8) (hG:TextG I) (hs:s.length≤1000000):Ct Go.Proofs.Tryz.prog 170 #[sV s] I [] (fun v I' M'=>∃ N:Nat,v=.tuple #[.int .i64 (Sh.atoiV s),errQ (Sh.atoiOk s) N]∧M'=[]):=fun F w st=>by
  obtain ⟨t1,p1,h1⟩:=hG.syn;obtain ⟨t2,p2,h2⟩:=hG.rng;cases ha:Lib.atoiAll s with
  | ok v=>
    refine (Go.Proofs.Tryz.strconv_Atoi_ok (sB s) (by rw [IW];omega) v ha w).mono ?_
    rintro e w' ⟨rfl,hw⟩
    have hb:Below w.heap.size w w':=by
      rcases hw with rfl | ⟨t,rfl⟩
      · exact Below.refl _ _
      · exact Lib.bytesWorld_below _ _ _
    exact ⟨_,I,[],rfl,Imm.le.refl I,⟨0,by unfold Sh.atoiV Sh.atoiOk;rw [ha];rfl,rfl⟩,st_below st hb⟩
  | range=>
    refine (Go.Proofs.Tryz.strconv_Atoi_range (sB s) (by rw [IW];omega) ha _ w ((h2.sees (M:=F)).cell st) (.inr ⟨_,_,rfl⟩)).mono ?_
    rintro e w' ⟨N,rfl,_,_,hb⟩
    exact ⟨_,I,[],rfl,Imm.le.refl I,⟨N,by unfold Sh.atoiV Sh.atoiOk;rw [ha];rfl,rfl⟩,st_below st hb⟩
  | _=>
    refine (Go.Proofs.Tryz.strconv_Atoi_syntax (sB s) (by rw [IW];omega) ha _ w ((h1.sees (M:=F)).cell st) (.inr ⟨_,_,rfl⟩)).mono ?_
    rintro e w' ⟨N,rfl,_,_,hb⟩
    exact ⟨_,I,[],rfl,Imm.le.refl I,⟨N,by unfold Sh.atoiV Sh.atoiOk;rw [ha];rfl,rfl⟩,st_below st hb⟩
end Go.Sl
namespace Go.Sh
open Go Go.Sl
def KP (l:List (List UInt8)):List UInt8:=l.flatMap (·++[10])
theorem MU (l:List (List UInt8)) (x:List UInt8):KP (l++[x])=KP l++(x++[10]):=by simp [KP]
theorem linesT_join:∀ {l:List (List UInt8)},l≠[]→Lib.join l [10]++[10]=KP l
  | [],h=>absurd rfl h
  | x::r,_=>by
    rw [Lib.join_cons];have:∀ (r:List (List UInt8)) (x:List UInt8),(x++Lib.joinTail [10] r)++[10]=KP (x::r):=by
      intro r
      induction r with
      | nil=>intro x;simp [Lib.joinTail,KP]
      | cons y r ih=>
        intro x;have:=ih y;simp only [Lib.joinTail,KP,List.map_cons,List.flatten_cons,List.flatMap_cons,List.append_assoc,List.cons_append,List.nil_append] at this ⊢;rw [this]
    exact this r x
theorem linesT_le {m:Nat}:∀ {l:List (List UInt8)},(∀ x∈l,x.length≤m)→(KP l).length≤l.length*(m+1)
  | [],_=>by simp [KP]
  | x::r,h=>by
    have h1:=h x (List.mem_cons_self ..);have h2:=linesT_le (l:=r) fun y hy=>h y (List.mem_cons_of_mem _ hy)
    simp only [KP,List.flatMap_cons,List.length_append,List.length_cons,List.length_nil] at h2 ⊢;rw [Nat.add_mul];omega
def carsT (Y:Yard) (k:Nat):List UInt8:=KP ((Y.cars.take k).map BP)
def LP (Y:Yard) (i:Nat):List UInt8:=KP (Y.cars.map BP++(AZ Y).take i)
def trkT (Y:Yard) (i j:Nat):List UInt8:=((LP Y i++[116,114,97,99,107,32])++num (Y.room.getD i 0))++[58]++Lib.join (((Y.tracks.getD i []).take j).map num) [44]
theorem carsT_next {Y : Yard} {k : Nat} (hk : k < Y.cars.length) :
    ((((((((((carsT Y k++[99,111,97,99,104,32])++num (Y.cars.getD k AD).len)++[32])++num (Y.cars.getD k AD).wt)++[32])++num (Y.cars.getD k AD).brk)++[32])++num (Y.cars.getD k AD).grp)++[32])++BV (Y.cars.getD k AD))++[10]=carsT Y (k+1):=by
  unfold carsT;rw [CF (d:=AD) hk,List.map_append,List.map_cons,List.map_nil,MU];unfold BP;rw [Lib.join_cons];simp [Lib.joinTail]
theorem carsT_done {Y:Yard} {k:Nat} (hk:Y.cars.length≤k):carsT Y k=LP Y 0:=by
  unfold carsT LP;rw [List.take_of_length_le hk,List.take_zero,List.append_nil]
theorem trkT_zero (Y:Yard) (i:Nat):((LP Y i++[116,114,97,99,107,32])++num (Y.room.getD i 0))++[58]=trkT Y i 0:=by
  unfold trkT;rw [List.take_zero,List.map_nil,Lib.join_nil,List.append_nil]
theorem trkT_next {Y:Yard} {i j:Nat} (hj:j<(Y.tracks.getD i []).length) (h0:0<j):(trkT Y i j++[44])++num ((Y.tracks.getD i []).getD j 0)=trkT Y i (j+1):=by
  unfold trkT;rw [CF (d:=0) hj,List.map_append,List.map_cons,List.map_nil,List.append_assoc,List.append_assoc]
  congr 1
  cases hm:((Y.tracks.getD i []).take j).map num with
  | nil=>
    have:=congrArg List.length hm;simp only [List.length_map,List.length_take,List.length_nil] at this;omega
  | cons x r=>
    rw [Lib.join_cons,show x::r++[num ((Y.tracks.getD i []).getD j 0)]=x::(r++[num ((Y.tracks.getD i []).getD j 0)]) from rfl,Lib.join_cons];simp [Lib.joinTail]
theorem trkT_first {Y:Yard} {i j:Nat} (hj:j<(Y.tracks.getD i []).length) (h0:j=0):trkT Y i j++num ((Y.tracks.getD i []).getD j 0)=trkT Y i (j+1):=by
  subst h0;unfold trkT;rw [CF (d:=0) hj,List.take_zero,List.map_nil,Lib.join_nil,List.append_nil,List.nil_append,List.map_cons,List.map_nil,Lib.join_cons];simp [Lib.joinTail]
theorem trkT_end {Y:Yard} {i j:Nat} (hi:i<Y.tracks.length) (hr:i<Y.room.length) (hj:(Y.tracks.getD i []).length≤j):trkT Y i j++[10]=LP Y (i+1):=by
  have hl:i<(AZ Y).length:=by unfold AZ;rw [List.length_zipWith];omega
  unfold trkT LP;rw [CF (d:=[]) hl,← List.append_assoc,MU,List.take_of_length_le hj];have e:(AZ Y).getD i []=KA (Y.room.getD i 0) (Y.tracks.getD i []):=by
    simp only [AZ,List.getD_eq_getElem?_getD,List.getElem?_zipWith,List.getElem?_eq_getElem hi,List.getElem?_eq_getElem hr];rfl
  rw [e];unfold KA;simp
theorem trksT_done {Y:Yard} {i:Nat} (hi:Y.tracks.length≤i):LP Y i++[112,111,105,110,116,115,10]=writeY Y:=by
  unfold writeY;rw [linesT_join (lines_ne Y)];unfold LP FL;rw [track_done hi,MU];rfl
theorem Fine.lenY {Y:Yard} (h:Fine Y):LenY Y:=
  ⟨fun c hc=>by
    have hb:=h.carB c hc
    exact ⟨by have:=HV (x:=c.len) (by omega);omega,by have:=HV (x:=c.wt) (by omega);omega,by have:=HV (x:=c.brk) (by omega);omega,by have:=HV (x:=c.grp) (by omega);omega⟩,
   fun r hr=>by have:=inB_t (h.roomOk r hr);have:=HV (x:=r) (by omega);omega,fun t ht x hx=>by have:=h.seat t ht x hx;have:=HV (x:=x) (by omega);omega⟩
theorem carsT_le {Y:Yard} (h:Fine Y) (k:Nat):(carsT Y k).length≤125:=by
  refine Nat.le_trans (linesT_le (m:=24) fun x hx=>?_) ?_
  · obtain ⟨c,hc,rfl⟩:=List.mem_map.1 hx
    exact h.line _ (by simp only [FL,List.mem_append,List.mem_map];exact .inl (.inl ⟨c,List.mem_of_mem_take hc,rfl⟩))
  · rw [List.length_map,List.length_take]
    have:=h.cars;have:min k Y.cars.length≤5:=by omega
    omega
theorem trksT_le {Y:Yard} (h:Fine Y) (i:Nat):(LP Y i).length≤200:=by
  refine Nat.le_trans (linesT_le (m:=24) fun x hx=>?_) ?_
  · refine h.line _ ?_
    simp only [FL,List.mem_append] at hx ⊢;rcases hx with hx | hx
    · exact .inl (.inl hx)
    · exact .inl (.inr (List.mem_of_mem_take hx))
  · have:=h.cars;have:=h.room3;have:=h.len
    have:(Y.cars.map BP++(AZ Y).take i).length≤8:=by
      simp only [AZ,List.length_append,List.length_map,List.length_take,List.length_zipWith];omega
    omega
theorem trkT_le {Y:Yard} (h:Fine Y) {i:Nat} (hi:i<Y.tracks.length) (j:Nat):(trkT Y i j).length≤400:=by
  have h1:=trksT_le h i;have h2:=HV (x:=Y.room.getD i 0) (by have:=inB_t (h.roomOk _ (AJ (d:=0) (xs:=Y.room) (k:=i) (by have:=h.len;omega)));omega);have h3:(Lib.join (((Y.tracks.getD i []).take j).map num) [44]).length≤110:=by
    refine nums_le (h.lenY.tracks _ (AJ hi)) ?_;have:=DW (AJ (d:=[]) hi);have:=h.sum;omega
  unfold trkT;simp only [List.length_append,List.length_cons,List.length_nil];omega
theorem nums_bad {L:List (List UInt8)} {i:Nat} (hi:i<L.length) (h:DJ (L.getD i [])=false):DK L=false∧AK L=[]:=by
  have h1:DK L=false:=by
    cases hn:DK L with
    | false=>rfl
    | true=>
      have:=List.all_eq_true.1 hn _ (AJ (d:=[]) hi);rw [h] at this;cases this
  exact ⟨h1,by unfold AK;rw [h1];rfl⟩
theorem NS {L:List (List UInt8)} {i:Nat} (hi:L.length≤i) (h:(L.take i).all DJ=true):DK L=true∧AK L=(L.take i).map GB:=by
  rw [List.take_of_length_le hi] at h ⊢;exact ⟨h,if_pos h⟩
theorem nall_step {L:List (List UInt8)} {i:Nat} (hi:i<L.length) (h:(L.take i).all DJ=true) (hn:DJ (L.getD i [])=true):(L.take (i+1)).all DJ=true:=by
  rw [CF (d:=[]) hi,List.all_append,h,List.all_cons,hn];rfl
theorem nmap_step {L:List (List UInt8)} {i:Nat} (hi:i<L.length) {n:Int} (hn:n=GB (L.getD i [])):(L.take i).map GB++[n]=(L.take (i+1)).map GB:=by
  rw [CF (d:=[]) hi,List.map_append,hn];rfl
theorem dig_step {s:List UInt8} {k:Nat} (hk:k<s.length) (h:(s.take k).all JP=true) (h1:48≤BU s k) (h2:BU s k≤57):(s.take (k+1)).all JP=true:=by
  rw [CF (d:=0) hk,List.all_append,h,List.all_cons];have:JP (s.getD k 0)=true:=by
    unfold BU at h1 h2;simp only [JP,Bool.and_eq_true,decide_eq_true_eq];omega
  rw [this];rfl
theorem numV_step {s:List UInt8} {k:Nat} (hk:k<s.length):10*GB (s.take k)+(BU s k-48)=GB (s.take (k+1)):=by
  rw [CF (d:=0) hk,numV_snoc];rfl
theorem not_dig {s:List UInt8} {k:Nat} (hk:k<s.length) (h:BU s k<48∨57<BU s k):DJ s=false:=by
  cases hn:DJ s with
  | false=>rfl
  | true=>
    simp only [DJ,Bool.and_eq_true] at hn;have:=List.all_eq_true.1 hn.2 _ (AJ (d:=0) hk);unfold BU at h;simp only [JP,Bool.and_eq_true,decide_eq_true_eq] at this;omega
theorem num_head_bad {s:List UInt8} (h:s.length<1∨3<s.length∨(BU s 0=48∧1<s.length)):DJ s=false:=by
  cases hn:DJ s with
  | false=>rfl
  | true=>
    simp only [DJ,Bool.and_eq_true,decide_eq_true_eq,Bool.not_eq_true',Bool.and_eq_false_iff,decide_eq_false_iff_not] at hn;obtain ⟨⟨⟨h1,h2⟩,h3⟩,_⟩:=hn;rcases h with h | h | ⟨h,h4⟩
    · omega
    · omega
    · rcases h3 with h3 | h3
      · exact absurd (UInt8.toNat_inj.1 (show (s.getD 0 0).toNat=(48:UInt8).toNat by unfold BU at h;have:(48:UInt8).toNat=48:=rfl;omega)) h3
      · omega
theorem num_good {s:List UInt8} {k:Nat} (h1:1≤s.length) (h2:s.length≤3) (h3:¬ (BU s 0=48∧1<s.length)) (hk:s.length≤k) (h:(s.take k).all JP=true):DJ s=true∧GB (s.take k)=GB s:=by
  rw [List.take_of_length_le hk] at h ⊢;refine ⟨?_,rfl⟩;simp only [DJ,Bool.and_eq_true,decide_eq_true_eq,Bool.not_eq_true',Bool.and_eq_false_iff,decide_eq_false_iff_not];refine ⟨⟨⟨h1,h2⟩,?_⟩,h⟩
  by_cases h4:1<s.length
  · refine .inl fun e=>h3 ⟨?_,h4⟩
    unfold BU;rw [e];rfl
  · exact .inr h4
theorem dig_sub {s:List UInt8} {k:Nat} (h1:48≤BU s k) (h2:BU s k≤57):IntKind.i64.wrap (IntKind.u8.wrap (CG .sub (BU s k) 48))=BU s k-48:=by
  have e:IntKind.u8.wrap (CG .sub (BU s k) 48)=BU s k-48:=by
    show IntKind.u8.wrap (BU s k-48)=_;have h3:IntKind.u8.signed=false:=rfl;have h4:(2:Int) ^ IntKind.u8.bits=256:=rfl;simp only [IntKind.wrap,h3,h4,Bool.false_and,Bool.false_eq_true,if_false];omega
  rw [e,IntWalk.i64_in _ (by omega)]
theorem byte_dec (m:List UInt8) (j:Nat) (b:UInt8):cmp .eql (BU m j) ((b.toNat:Nat):Int)=decide (m.getD j 0=b):=by
  have:cmp .eql (BU m j) ((b.toNat:Nat):Int)=decide (BU m j=((b.toNat:Nat):Int)):=by
    simp [cmp]
  rw [this];exact decide_eq_decide.2 byteAt_eq
theorem carOf_bytes (l:List Int) (m:List UInt8):(⟨l.getD 0 0,l.getD 1 0,l.getD 2 0,l.getD 3 0,cmp .eql (BU m 0) 112,cmp .eql (BU m (m.length-1)) 104⟩:Car)=carOf l m:=by
  unfold carOf;rw [← byte_dec m 0 112,← byte_dec m (m.length-1) 104];rfl
theorem marks_test (a:Bool) (m:List UInt8):(!a||!decide (m=[45])&&(!decide (m=[112])&&(!decide (m=[104])&&!decide (m=[112,104]))))=!(a&&GJ m):=by
  unfold GJ;cases a <;> cases decide (m=[45]) <;> cases decide (m=[112]) <;> cases decide (m=[104]) <;> cases decide (m=[112,104]) <;> rfl
theorem marks_no {a:Bool} {m:List UInt8} (h:(!a||!decide (m=[45])&&(!decide (m=[112])&&(!decide (m=[104])&&!decide (m=[112,104]))))=true):a=false∨GJ m=false:=by
  rw [marks_test] at h;cases a <;> cases hm:GJ m <;> simp_all
theorem marks_yes {a:Bool} {m:List UInt8} (h:(!a||!decide (m=[45])&&(!decide (m=[112])&&(!decide (m=[104])&&!decide (m=[112,104]))))=false):a=true∧GJ m=true:=by
  rw [marks_test] at h;cases a <;> cases hm:GJ m <;> simp_all
theorem coach_no {W:List (List UInt8)} (h:CS W=false):AQ W=AD:=by unfold AQ;rw [h];rfl
theorem coach_yes {W:List (List UInt8)} (h1:W.length=6) (h2:W.getD 0 []=EW) (h3:DK ((W.drop 1).take 4)=true) (h4:GJ (W.getD 5 [])=true):CS W=true∧AQ W=carOf (AK ((W.drop 1).take 4)) (W.getD 5 []):=by
  have h:CS W=true:=by unfold CS;rw [decide_eq_true h1,decide_eq_true h2,h3,h4];rfl
  exact ⟨h,if_pos h⟩
theorem coach_len {W:List (List UInt8)} (h:¬ W.length=6):CS W=false:=by unfold CS;rw [decide_eq_false h];rfl
theorem coach_rest {W:List (List UInt8)} (h:DK ((W.drop 1).take 4)=false∨GJ (W.getD 5 [])=false):CS W=false:=by
  unfold CS;rcases h with h | h <;> rw [h] <;> simp
theorem marks_pos {m:List UInt8} (h:GJ m=true):1≤m.length∧m.length≤2:=by
  simp only [GJ,Bool.or_eq_true,decide_eq_true_eq] at h;rcases h with ((rfl | rfl) | rfl) | rfl <;> decide
def EE (W:List (List UInt8)):Bool:=decide (W.length=2)&&decide (W.getD 0 []=EF)&&(decide ((cutL 58 (W.getD 1 [])).length=2)&&DJ ((cutL 58 (W.getD 1 [])).getD 0 []))
def HD (W:List (List UInt8)):Int:=if EE W=true then roomV W else 0
def FQ (W:List (List UInt8)):List Int:=if EE W=true then trackV W else []
theorem LO (W:List (List UInt8)):DR W=(EE W&&HB ((cutL 58 (W.getD 1 [])).getD 1 [])):=by
  unfold DR EE;simp only [Bool.and_assoc]
theorem QM {W:List (List UInt8)} (h:EE W=false):HD W=0∧FQ W=[]∧DR W=false:=by
  refine ⟨by unfold HD;rw [h];rfl,by unfold FQ;rw [h];rfl,by rw [LO,h];rfl⟩
theorem track_yes {W : List (List UInt8)} (h1 : W.length = 2) (h2 : W.getD 0 [] = EF) (h3 : (cutL 58 (W.getD 1 [])).length = 2) (h4 : DJ ((cutL 58 (W.getD 1 [])).getD 0 []) = true) :
    HD W=GB ((cutL 58 (W.getD 1 [])).getD 0 [])∧FQ W=GD ((cutL 58 (W.getD 1 [])).getD 1 [])∧DR W=HB ((cutL 58 (W.getD 1 [])).getD 1 []):=by
  have h:EE W=true:=by unfold EE;rw [decide_eq_true h1,decide_eq_true h2,decide_eq_true h3,h4];rfl
  exact ⟨if_pos h,if_pos h,by rw [LO,h];rfl⟩
theorem take_one_nums {p:List (List UInt8)} (h:1≤p.length):DK (p.take 1)=DJ (p.getD 0 [])∧(DJ (p.getD 0 [])=true→AK (p.take 1)=[GB (p.getD 0 [])]):=by
  cases p with
  | nil=>simp at h
  | cons x r=>
    have e:DK ((x::r).take 1)=DJ x:=by simp [DK]
    refine ⟨e,fun hx=>?_⟩;have hx:DJ x=true:=hx;unfold AK;rw [e,hx];rfl
theorem track_is {W:List (List UInt8)} (h:DR W=true):HD W=roomV W∧FQ W=trackV W:=by
  rw [LO,Bool.and_eq_true] at h;exact ⟨if_pos h.1,if_pos h.1⟩
def rowsT (t:List UInt8):List (List UInt8):=(cutL 10 t).take ((cutL 10 t).length-1)
def lastT (t:List UInt8):List UInt8:=(cutL 10 t).getD ((cutL 10 t).length-1) []
def JB (t:List UInt8) (i:Nat) (Y:Yard) (e:Bool):Prop:=JL (lastT t) ((rowsT t).drop i) i Y e=BQ t
theorem read_long {t:List UInt8} (h:300<t.length):BQ t=(AP,0,10):=if_pos h
theorem read_start {t:List UInt8} (h:t.length≤300):JB t 0 AP false:=by
  unfold JB BQ;rw [if_neg (by omega)];rfl
theorem rows_at {t:List UInt8} {i:Nat} (hi:i<(cutL 10 t).length-1):(rowsT t).drop i=(cutL 10 t).getD i []::(rowsT t).drop (i+1):=by
  have hl:i<(rowsT t).length:=by unfold rowsT;rw [List.length_take];omega
  rw [BR (d:=[]) hl]
  congr 1
  unfold rowsT;rw [List.getD_eq_getElem?_getD,List.getElem?_take,if_pos hi,← List.getD_eq_getElem?_getD]
theorem OW {t:List UInt8} {i:Nat} {Y Z:Yard} {e f:Bool} (hi:i<(cutL 10 t).length-1) (hs:HT Y e ((cutL 10 t).getD i [])=some (Z,f)) (h:JB t i Y e):JB t (i+1) Z f:=by
  unfold JB at h ⊢;rw [← h,rows_at hi,from_some hs]
theorem IV {t:List UInt8} {i:Nat} {Y:Yard} {e:Bool} (hi:i<(cutL 10 t).length-1) (hs:HT Y e ((cutL 10 t).getD i [])=none) (h:JB t i Y e):BQ t=(AP,(i:Int)+1,2):=by
  unfold JB at h;rw [← h,rows_at hi,from_none hs]
theorem read_end {t:List UInt8} {i:Nat} {Y:Yard} {e:Bool} (hi:(cutL 10 t).length-1≤i) (h:JB t i Y e):BQ t=endM Y e (lastT t) i:=by
  unfold JB at h;rw [← h,List.drop_of_length_le (by unfold rowsT;rw [List.length_take];omega)];rfl
theorem QK {t:List UInt8} {i:Nat} {Y:Yard} {e:Bool} (hi:(cutL 10 t).length-1≤i) (h:JB t i Y e) (hb:e=false∨¬ lastT t=[]):BQ t=(AP,(i:Int)+1,2):=by
  rw [read_end hi h];unfold endM;rw [if_neg]
  rintro ⟨h1,h2⟩
  rcases hb with hb | hb
  · rw [hb] at h1;cases h1
  · exact hb h2
theorem read_err {t:List UInt8} {i:Nat} {Y:Yard} {e:Bool} (hi:(cutL 10 t).length-1≤i) (h:JB t i Y e) (he:e=true) (hl:lastT t=[]) (hc:¬ checkErr Y=0):BQ t=(AP,0,checkErr Y):=by
  rw [read_end hi h];unfold endM;rw [if_pos ⟨he,hl⟩,if_neg hc]
theorem read_fine {t:List UInt8} {i:Nat} {Y:Yard} {e:Bool} (hi:(cutL 10 t).length-1≤i) (h:JB t i Y e) (he:e=true) (hl:lastT t=[]) (hc:checkErr Y=0):BQ t=(Y,0,0):=by
  rw [read_end hi h];unfold endM;rw [if_pos ⟨he,hl⟩,if_pos hc]
section
variable {Y:Yard} {e:Bool} {row:List UInt8}
theorem step_e (h:e=true):HT Y e row=none:=by rw [h];rfl
theorem step_r1 (he:e=false) (h:CS (cutL 32 row)=true) (hr:Y.room=[]):HT Y e row=some (⟨Y.cars++[AQ (cutL 32 row)],Y.room,Y.tracks⟩,false):=by
  unfold HT;rw [he,if_neg (by decide),if_pos ⟨h,hr⟩]
theorem step_r2 (he:e=false) (h:¬ (CS (cutL 32 row)=true∧Y.room=[])) (ht:DR (cutL 32 row)=true):HT Y e row=some (⟨Y.cars,Y.room++[HD (cutL 32 row)],Y.tracks++[FQ (cutL 32 row)]⟩,false):=by
  unfold HT;rw [he,if_neg (by decide),if_neg h,if_pos ht,(track_is ht).1,(track_is ht).2]
theorem step_r3 (he:e=false) (h:¬ (CS (cutL 32 row)=true∧Y.room=[])) (ht:DR (cutL 32 row)=false) (hp:row=DD):HT Y e row=some (Y,true):=by
  unfold HT;rw [he,if_neg (by decide),if_neg h,if_neg (by rw [ht];decide),if_pos hp]
theorem step_r4 (he:e=false) (h:¬ (CS (cutL 32 row)=true∧Y.room=[])) (ht:DR (cutL 32 row)=false) (hp:¬ row=DD):HT Y e row=none:=by
  unfold HT;rw [he,if_neg (by decide),if_neg h,if_neg (by rw [ht];decide),if_neg hp]
end
theorem line_le {t:List UInt8} (h:t.length≤300) {i:Nat} (hi:i<(cutL 10 t).length):((cutL 10 t).getD i []).length≤300:=by
  have:=IM (b:=10) (s:=t) _ (AJ (d:=[]) hi);omega
theorem words_le {t:List UInt8} (h:t.length≤300):(cutL 32 t).length≤301∧∀ x∈cutL 32 t,x.length≤1000:=by
  refine ⟨by have:=cutL_len_le (b:=32) (s:=t);omega,fun x hx=>?_⟩;have:=IM (b:=32) (s:=t) x hx;omega
def tcY (Y:Yard) (W:List (List UInt8)):Yard:=if KR W=true then ⟨Y.cars++[tcV W],Y.room,Y.tracks⟩ else Y
def ttY (Y:Yard) (W:List (List UInt8)):Yard:=if W.length=2 then ⟨Y.cars,Y.room++[atoiV (Lib.cut (W.getD 1 []) [58]).1],Y.tracks++[GD (Lib.cut (W.getD 1 []) [58]).2.1]⟩ else Y
theorem tcY_no {Y:Yard} {W:List (List UInt8)} (h:KR W=false):tcY Y W=Y:=by unfold tcY;rw [h];rfl
theorem tcY_yes {Y:Yard} {W:List (List UInt8)} (h:KR W=true):tcY Y W=⟨Y.cars++[tcV W],Y.room,Y.tracks⟩:=if_pos h
theorem ttY_no {Y:Yard} {W:List (List UInt8)} (h:¬ W.length=2):ttY Y W=Y:=if_neg h
theorem ttY_yes {Y:Yard} {W:List (List UInt8)} (h:W.length=2):ttY Y W=⟨Y.cars,Y.room++[atoiV (Lib.cut (W.getD 1 []) [58]).1],Y.tracks++[GD (Lib.cut (W.getD 1 []) [58]).2.1]⟩:=if_pos h
theorem tc_len {W:List (List UInt8)} (h:¬ W.length=6):KR W=false:=by unfold KR;rw [decide_eq_false h];rfl
theorem tc_nums {W:List (List UInt8)} (h:DK ((W.drop 1).take 4)=false):KR W=false:=by unfold KR;rw [h];simp
theorem tc_marks {W:List (List UInt8)} (h1:¬ W.getD 5 []=[112,104]) (h2:¬ W.getD 5 []=[104]) (h3:¬ W.getD 5 []=[112]) (h4:¬ W.getD 5 []=[45]):KR W=false:=by
  unfold KR GJ;rw [decide_eq_false h1,decide_eq_false h2,decide_eq_false h3,decide_eq_false h4];simp
section
variable {W:List (List UInt8)} (h6:W.length=6) (hn:DK ((W.drop 1).take 4)=true)
include h6 hn
theorem tc_ph (h:W.getD 5 []=[112,104]):KR W=true∧tcV W=⟨(AK ((W.drop 1).take 4)).getD 0 0,(AK ((W.drop 1).take 4)).getD 1 0,(AK ((W.drop 1).take 4)).getD 2 0,(AK ((W.drop 1).take 4)).getD 3 0,true,true⟩:=⟨tcIs_t h6 hn (by rw [h];rfl),by unfold tcV;rw [h];rfl⟩
theorem tc_h (h:W.getD 5 []=[104]):KR W=true∧tcV W=⟨(AK ((W.drop 1).take 4)).getD 0 0,(AK ((W.drop 1).take 4)).getD 1 0,(AK ((W.drop 1).take 4)).getD 2 0,(AK ((W.drop 1).take 4)).getD 3 0,false,true⟩:=⟨tcIs_t h6 hn (by rw [h];rfl),by unfold tcV;rw [h];rfl⟩
theorem tc_p (h:W.getD 5 []=[112]):KR W=true∧tcV W=⟨(AK ((W.drop 1).take 4)).getD 0 0,(AK ((W.drop 1).take 4)).getD 1 0,(AK ((W.drop 1).take 4)).getD 2 0,(AK ((W.drop 1).take 4)).getD 3 0,true,false⟩:=⟨tcIs_t h6 hn (by rw [h];rfl),by unfold tcV;rw [h];rfl⟩
theorem tc_d (h:W.getD 5 []=[45]):KR W=true∧tcV W=⟨(AK ((W.drop 1).take 4)).getD 0 0,(AK ((W.drop 1).take 4)).getD 1 0,(AK ((W.drop 1).take 4)).getD 2 0,(AK ((W.drop 1).take 4)).getD 3 0,false,false⟩:=⟨tcIs_t h6 hn (by rw [h];rfl),by unfold tcV;rw [h];rfl⟩
end
def TcAt (W:List (List UInt8)) (p h:Bool):Prop:=KR W=true∧tcV W=⟨(AK ((W.drop 1).take 4)).getD 0 0,(AK ((W.drop 1).take 4)).getD 1 0,(AK ((W.drop 1).take 4)).getD 2 0,(AK ((W.drop 1).take 4)).getD 3 0,p,h⟩
theorem cut_le (s:List UInt8) (b:UInt8):(Lib.cut s [b]).1.length≤s.length∧(Lib.cut s [b]).2.1.length≤s.length:=by
  rcases idx1 b s with ⟨_,h2⟩ | ⟨p,t,rfl,h2,_⟩
  · rw [cut_miss h2];simp
  · rw [cut_hit h2];simp;omega
theorem tt_no {W:List (List UInt8)} (h:¬ W.length=2):ttIs W=false:=by unfold ttIs;rw [decide_eq_false h];rfl
theorem tt_yes {W:List (List UInt8)} (h:W.length=2):ttIs W=((Lib.cut (W.getD 1 []) [58]).2.2&&(DJ (Lib.cut (W.getD 1 []) [58]).1&&HB (Lib.cut (W.getD 1 []) [58]).2.1)):=by
  unfold ttIs OI;rw [decide_eq_true h];rfl
theorem rest_nil {r:List UInt8} (h:r=[]):HB r=true∧GD r=[]:=by rw [h];exact ⟨rfl,rfl⟩
theorem rest_more {r:List UInt8} (h:¬ r=[]):HB r=DK (cutL 44 r)∧GD r=AK (cutL 44 r):=⟨by unfold HB;rw [decide_eq_false h];rfl,by unfold GD;rw [if_neg h]⟩
theorem tt_room {W:List (List UInt8)} (h:ttIs W=true):W.length=2∧atoiV (Lib.cut (W.getD 1 []) [58]).1=ttR W:=by
  have h2:W.length=2:=Classical.byContradiction fun hn=>by rw [tt_no hn] at h;cases h
  rw [tt_yes h2] at h;simp only [Bool.and_eq_true] at h;exact ⟨h2,(atoi_num h.2.1).2⟩
def YL (Y:Yard) (i:Nat):Prop:=Y.cars.length≤i∧Y.room.length≤i∧Y.tracks.length≤i∧Y.tracks.length=Y.room.length
theorem YL.c {Y:Yard} {i:Nat} (h:YL Y i) (W:List (List UInt8)):YL (tcY Y W) (i+1):=by
  unfold YL at h ⊢;unfold tcY
  split
  · simp only [List.length_append,List.length_cons,List.length_nil];omega
  · omega
theorem YL.t {Y:Yard} {i:Nat} (h:YL Y i) (W:List (List UInt8)):YL (ttY Y W) (i+1):=by
  unfold YL at h ⊢;unfold ttY
  split
  · simp only [List.length_append,List.length_cons,List.length_nil];omega
  · omega
theorem YL.up {Y:Yard} {i:Nat} (h:YL Y i):YL Y (i+1):=by unfold YL at h ⊢;omega
theorem take_get {α:Type} {l:List α} {n i:Nat} {d:α} (h:i<n):(l.take n).getD i d=l.getD i d:=by
  rw [List.getD_eq_getElem?_getD,List.getElem?_take,if_pos h,← List.getD_eq_getElem?_getD]
section
variable {Y:Yard} {e:Bool} {row:List UInt8}
theorem sstep_c (he:e=false) (hw:(cutL 32 row).getD 0 []=EW) (hr:Y.room=[]) (ht:KR (cutL 32 row)=true):HT Y e row=some (tcY Y (cutL 32 row),false):=by
  rw [he,step_coach hw,if_pos ⟨hr,ht⟩,tcY_yes ht]
theorem sstep_cn (he:e=false) (hw:(cutL 32 row).getD 0 []=EW) (h:¬ Y.room=[]∨KR (cutL 32 row)=false):HT Y e row=none:=by
  rw [he,step_coach hw,if_neg]
  rintro ⟨h1,h2⟩
  rcases h with h | h
  · exact h h1
  · rw [h2] at h;cases h
theorem sstep_t (he:e=false) (hw:(cutL 32 row).getD 0 []=EF) (ht:ttIs (cutL 32 row)=true):HT Y e row=some (ttY Y (cutL 32 row),false):=by
  rw [he,step_track hw,if_pos ht,ttY_yes (tt_room ht).1,(tt_room ht).2];rfl
theorem sstep_tn (he:e=false) (hw:(cutL 32 row).getD 0 []=EF) (ht:ttIs (cutL 32 row)=false):HT Y e row=none:=by
  rw [he,step_track hw,if_neg (by rw [ht];decide)]
theorem sstep_p (he:e=false) (h1:¬ (cutL 32 row).getD 0 []=EW) (h2:¬ (cutL 32 row).getD 0 []=EF) (hp:row=DD):HT Y e row=some (Y,true):=by
  rw [he,step_other h1 h2,if_pos hp]
theorem sstep_n (he:e=false) (h1:¬ (cutL 32 row).getD 0 []=EW) (h2:¬ (cutL 32 row).getD 0 []=EF) (hp:¬ row=DD):HT Y e row=none:=by
  rw [he,step_other h1 h2,if_neg hp]
end
def AV (tx:List UInt8) (Ys:List Yard) (k:Nat):List (List UInt8):=tx::(Ys.take k).map fun Z=>(ET Z).1
theorem texts_snoc {tx:List UInt8} {Ys:List Yard} {k:Nat} (hk:k<Ys.length):AV tx Ys k++[(ET (Ys.getD k AP)).1]=AV tx Ys (k+1):=by
  unfold AV;rw [CF (d:=AP) hk,List.map_append,List.cons_append];rfl
theorem texts_len {tx:List UInt8} {Ys:List Yard} {k:Nat} (hk:k≤Ys.length):(AV tx Ys k).length=k+1:=by
  unfold AV;simp;omega
theorem texts_two {tx:List UInt8} {Y Z:Yard} (hv:Valid Z):((AV tx [Y,Z] 2).getD 2 []).length≤300:=by
  show ((ET Z).1).length≤300;rw [writeE_ok hv];exact hv.fine.text
end Go.Sh
namespace Go.Proofs.YtcaocbhbofejnaaGreatDoor
open Go Go.Sl Go.Sh
set_option maxRecDepth 100000
noncomputable def c_number (p:List Nat):Code:=sub (AU Tryz.f153) p
set_option maxHeartbeats 1000000 in
theorem number_ct (I:Imm) (s:List UInt8) (hG:TextG I) (hs:s.length≤1000000):Ct Tryz.prog 153 #[sV s] I ([]) (fun v I' M'=>v=.tuple #[vI (atoiV s),.bool (DJ s)]∧M'=[]):=by
 refine fr (args:=[_]) (N:=29) Tryz.func153 (fun F=>?_);show Run _ _ (c_number []) _ _ [(0,sV (s))] _ _;refine rnm (rqr ?_);refine sp 2 [(3,.bool (false)),(2,vI (0))] (sn (sp 1 [(7,sV (s))] ?_));have a4:=Atoi_ct I (s) (by first | assumption | exact TextG.mono (by assumption) hI) (by omega);refine sS (sc (some 8) (a4 :) (.refl _) (fun a9 I1 a8 a2 a7=>?_));obtain ⟨N6,a6,a5⟩:=a7;rw [a6,a5];clear a6 a5;replace hG:=hG.mono a2;refine nm ?_;refine sp 5 [(5,errQ (atoiOk s) N6),(4,vI ((atoiV s)))] (sn (sp 2 [(12,errQ (atoiOk s) N6),(11,vI ((atoiV s)))] (sd (MN (x:=(.tmp 12)) (T:=126) (T':=126) (d:=13) (ty:=4) (gd:=none) (by kernel_rfl) rfl (by kernel_rfl) rfl (isNI_errQ _ _)) (sp 1 [(14,.bool (atoiOk s))] ?_))));refine AY 14 rfl (fun h1=>?_) (fun h1=>?_)
 ·
  have a3:=h1;refine sp 4 [(18,.bool (cmp .geq ((atoiV s)) (0)))] ?_;refine AY 18 rfl (fun h2=>?_) (fun h2=>?_)
  ·
   have a0:=h2;have a0:=geq_t a0;refine sp 5 [(23,.bool (cmp .leq (↑(s).length) (3)))] ?_;refine AY 23 rfl (fun h3=>?_) (fun h3=>?_)
   ·
    have a1:=h3;have a1:=leq_t a1;refine sp 1 [(24,vI ((atoiV s)))] (sd (dc 25 (fun I' hI=>(GT I' ((atoiV s)) (by exact ⟨by omega,.inr ⟨atoiV_le s,hG.tab.mono hI⟩⟩) :))) (sp 1 [(26,sV (s))] (sd (EU (x:=(.tmp 25)) (y:=(.tmp 26)) (T:=9) (T':=9) (d:=27) (ty:=4) (gd:=(some (12,true))) (by kernel_rfl) (by kernel_rfl) rfl rfl) (sp 3 [(3,.bool (decide ((num ((atoiV s)))=s))),(2,vI ((atoiV s)))] (se (BO (CY (t:=2) (u:=3) [] (by kernel_rfl) rfl rfl (TR _) a2 ?_)))))));exact ⟨(congrArg (fun b=>Value.tuple #[vI (atoiV s),.bool b]) (num_dec h1 (by omega) (by omega))),rfl⟩
   have a1:=h3;have a1:=leq_f a1;refine sp 7 [(3,.bool (false)),(2,vI ((atoiV s)))] (se (BO (CY (t:=2) (u:=3) [] (by kernel_rfl) rfl rfl (TR _) a2 ?_)));exact ⟨(congrArg (fun b=>Value.tuple #[vI (atoiV s),.bool b]) (num_not (fun hh=>by (obtain ⟨ha,hb,hc,hd⟩:=hh;first | omega | (rw [ha] at h1;cases h1)))).symm),rfl⟩
  have a0:=h2;have a0:=geq_f a0;refine sp 12 [(3,.bool (false)),(2,vI ((atoiV s)))] (se (BO (CY (t:=2) (u:=3) [] (by kernel_rfl) rfl rfl (TR _) a2 ?_)));exact ⟨(congrArg (fun b=>Value.tuple #[vI (atoiV s),.bool b]) (num_not (fun hh=>by (obtain ⟨ha,hb,hc,hd⟩:=hh;first | omega | (rw [ha] at h1;cases h1)))).symm),rfl⟩
 have a3:=h1;refine sp 16 [(3,.bool (false)),(2,vI ((atoiV s)))] (se (BO (CY (t:=2) (u:=3) [] (by kernel_rfl) rfl rfl (TR _) a2 ?_)));exact ⟨(congrArg (fun b=>Value.tuple #[vI (atoiV s),.bool b]) (num_not (fun hh=>by (obtain ⟨ha,hb,hc,hd⟩:=hh;first | omega | (rw [ha] at h1;cases h1)))).symm),rfl⟩
noncomputable def c_numbers (p:List Nat):Code:=sub (AU Tryz.f151) p
set_option maxHeartbeats 1000000 in
theorem numbers_ct (I:Imm) (l:Value) (L:List (List UInt8)) (l_f:NG I l L) (hG:TextG I) (hL:L.length≤1000000) (hLs:∀ x∈L,x.length≤1000):Ct Tryz.prog 151 #[l] I ([]) (fun v I' M'=>∃ u0:Value,v=.tuple #[u0,.bool (DK L)]∧M'=[]∧BK I' u0 (AK L)):=by
 obtain ⟨c9,d0,e3,e6,d8,e4,e5,b7⟩:=id l_f;subst d8;refine fr (args:=[_]) (N:=28) Tryz.func151 (fun F=>?_);show Run _ _ (c_numbers []) _ _ [(0,vS c9 L.length d0)] _ _;refine rnm (rqr ?_);refine sp 2 [(3,.bool (false)),(2,vN)] (sn (sp 1 [(4,vN)] (se (rq (rqr (sp 3 [(11,vI (0)),(10,vI (↑(L.length))),(9,vS c9 L.length d0)] (se (rb 0 ?_))))))));refine rl (fun mz a w=>∃ J0:Imm,∃ k:Nat,∃ a5:Value,∃ a0:Seg,(I.le J0)∧(k≤L.length)∧((L.take k).all DJ=true)∧(Own 3 1 BA a5 ((L.take k).map GB) a0)∧Slots 28 [(4,a5),(11,vI ↑k),(9,vS c9 L.length d0),(10,vI (↑(L.length)))] a∧a.defers=[]∧St J0 ((a0++F)) w∧mz=L.length-k) ?_ ?_
 ·intro a w hS hD hW;exact ⟨_,I,0,(vN),[],IR _,Nat.zero_le _,rfl,(Own.nil _ _ _),hS.sub (.cons 4 rfl (.cons 11 rfl (.cons 9 rfl (.cons 10 rfl (.nil _))))),hD,hW,rfl⟩
 rintro mz a w ⟨J0,k,a5,a0,hJ0,hk,b0,a4,hS,hD,hW,rfl⟩
 refine AX hS hD hW ?_;clear hS hD hW a w;replace b7:=b7.mono hJ0;replace hG:=hG.mono hJ0;obtain ⟨a1,a2,a6,b8⟩:=a4.shape;subst a6;refine rqr (sp 1 [(12,.bool (cmp .lss (↑k) (↑(L.length))))] (se (rq (rc 12 rfl (fun h1=>?_) (fun h1=>?_)))))
 ·
  have c7:=h1;have h1:=BZ h1;refine AH (NX (rq (rb 1 (rqr (sd (di 13 1 (k) b7.addr) (sd (dl 14 (DO b7 (k) (by omega))) (sp 1 [(6,sV (L.getD (k) []))] (se (rq ?_)))))))));have e2:=hLs _ (AJ (d:=[]) (xs:=L) (k:=k) (by omega));refine rr (sp 1 [(16,sV (L.getD (k) []))] ?_);have c8:=number_ct J0 (L.getD (k) []) (by first | assumption | exact TextG.mono (by assumption) hI) (by omega);refine sS (sc (some 17) (F:=((a0++F))) (c8 :) (.refl _) (fun e8 I1 e7 b3 d7=>?_));obtain ⟨d5,d3⟩:=d7;rw [d5,d3];clear d5 d3;refine nm ?_;refine sp 5 [(8,.bool (DJ (L.getD (k) []))),(7,vI ((atoiV (L.getD (k) []))))] (se (rq (rqr (sp 2 [(21,.bool (!(DJ (L.getD (k) []))))] (se (rc 21 rfl (fun h2=>?_) (fun h2=>?_)))))))
  ·
   have a8:=h2;have h2:=CL h2;have d6:DJ (L.getD (k) [])=false:=by simpa using a8
   refine rqr (sp 2 [(3,.bool (false)),(2,vN)] (se (BO ((RP (RB (RP (RP (RB (RP ?_))))))))));have b1:=nums_bad (L:=L) (i:=k) (by omega) d6;refine CY (t:=2) (u:=3) [] (by kernel_rfl) rfl rfl (TT (TR _) (TB _ _)) (IT hJ0 b3) ?_;exact ⟨_,(congrArg (fun b=>Value.tuple #[_,.bool b]) b1.1.symm),rfl,(b1.2.symm▸(IsSl.nil _))⟩
  have a8:=h2;have h2:=BW h2;have d4:DJ (L.getD (k) [])=true:=by simpa using a8
  refine AH (NX (rr (sp 2 [(23,vI ((atoiV (L.getD (k) [])))),(22,vS a1 ((L.take k).map GB).length a2)] (sS (sbs 24 3 1 #[vI ((atoiV (L.getD (k) [])))] (fun b9=>(sS (AN (d:=25) (x:=(.tmp 22)) (y:=(.tmp 24)) (T:=23) (T':=23) (E:=3) (E':=3) (sz:=1) (bs:=8) (z:=vI (0)) (cell:=BA) (xs:=(L.take k).map GB) (ys:=[((atoiV (L.getD (k) [])):Int)]) (Ms:=a0) (ty:=23) (gd:=none) (by kernel_rfl) rfl (by kernel_rfl) (by kernel_rfl) (by kernel_rfl) (by kernel_rfl) (by kernel_rfl) (by decide) (by kernel_rfl) rfl rfl (a4) (PM.symm) (CH _) (CI 0 rfl rfl) (by first | omega | (simp only [List.length_map,LK,LC,LN,LA];omega)) (fun e9 a9 b4=>(AR (M':=((a9++F))) (fun w h=>(h.perm PM).sub (TC _ (TR _))) ?_))))))))));obtain ⟨b5,b6,d1,d9⟩:=b4.shape;subst d1;refine sp 1 [(4,vS b5 (((L.take k).map GB)++([((atoiV (L.getD (k) [])):Int)])).length b6)] (ee (NB (NX (rr (sd (da 26 (↑k) (1)) (sp 1 [(11,vI (↑k+1))] (ee ?_)))))));refine AG (L.length-(k+1)) (by omega) ?_;intro a w hS hD hW;exact ⟨I1,k+1,vS b5 (((L.take k).map GB)++([((atoiV (L.getD (k) [])):Int)])).length b6,a9,(IT hJ0 b3),by omega,nall_step (by omega) b0 d4,((nmap_step (by omega) (atoi_num d4).2)▸b4),hS.sub (.consE 4 rfl rfl (.consE 11 rfl rfl (.cons 9 rfl (.cons 10 rfl (.nil _))))),hD,hW,rfl⟩
 have c7:=h1;have h1:=BX h1;refine CC 0 ((EP (EP (EB (NX (rq ?_))))));have e1:((L.take k).map GB).length≤1000000:=by (rw [List.length_map,LK];omega)
 refine HC (B:=(F)) 0 a4 (by first | omega | (simp only [LS,LC,LN,LA,LK,LD] <;> omega) | decide) (PR _) (PR _) (fun e0 b2 a3=>?_);obtain ⟨c0,c2,c1,c5,a7,c3,c4,c6⟩:=id a3;cases a7;refine rr (sp 3 [(3,.bool (true)),(2,vS a1 ((L.take k).map GB).length a2)] (se (BO ?_)));have d2:=NS (by omega) b0;refine CY (t:=2) (u:=3) [] (by kernel_rfl) rfl rfl (TR _) (IT hJ0 b2) ?_;exact ⟨_,(congrArg (fun b=>Value.tuple #[_,.bool b]) d2.1.symm),rfl,(d2.2.symm▸a3)⟩
noncomputable def c_takeCoach (p:List Nat):Code:=sub (AU Tryz.f123) p
set_option maxHeartbeats 1000000 in
theorem takeCoach_ct (I:Imm) (y:Nat) (y_1 y_2 y_3:Value) (y_ws:List Value) (y_M1 y_M2 y_M3:Seg) (Y:Yard) (w:Value) (W:List (List UInt8)) (y_1h:Own 56 6 CV y_1 Y.cars y_M1) (y_2h:Own 3 1 BA y_2 Y.room y_M2) (y_3h:Own 23 1 AO y_3 y_ws y_M3) (y_3r:RowsV I y_ws Y.tracks) (w_f:NG I w W) (hG:TextG I) (hW:W.length≤1000) (hWs:∀ x∈W,x.length≤1000) (hY:Y.cars.length≤1000):Ct Tryz.prog 123 #[vP y 0,w] I ([(bX y #[y_1,y_2,y_3] 26)]++(y_M1++(y_M2++(y_M3)))) (fun v I' M'=>∃ y_1t:Value,∃ y_2t:Value,∃ y_3t:Value,∃ y_wt:List Value,∃ y_M1t:Seg,∃ y_M2t:Seg,∃ y_M3t:Seg,v=.bool (KR W)∧M'=[(bX y #[y_1t,y_2t,y_3t] 26)]++(y_M1t++(y_M2t++(y_M3t)))∧Own 56 6 CV y_1t (tcY Y W).cars y_M1t∧Own 3 1 BA y_2t (tcY Y W).room y_M2t∧Own 23 1 AO y_3t y_wt y_M3t∧RowsV I' y_wt (tcY Y W).tracks):=by
 obtain ⟨a4,a5,c6,e5⟩:=y_1h.shape;subst c6;obtain ⟨a0,a1,c7,e6⟩:=y_2h.shape;subst c7;obtain ⟨a2,a3,c8,e7⟩:=y_3h.shape;subst c8;have b5:=y_3r.1
 try simp only [LS,LA,LC,LN,LK] at b5
 obtain ⟨d6,d7,g5,g8,g1,g6,g7,c9⟩:=id w_f;subst g1;refine fr (args:=[_,_]) (N:=56) Tryz.func123 (fun F=>?_);show Run _ _ (c_takeCoach []) _ _ [(0,vP y 0),(1,vS d6 W.length d7)] _ _;refine HY (M':=((bX y #[vS a4 Y.cars.length a5,vS a0 Y.room.length a1,vS a2 y_ws.length a3] 26)::(y_M1++(y_M2++(y_M3++F))))) (fun w h=>by simpa only [AA,CA,NA] using h) (rnm (rqr ?_));refine sp 1 [(4,.bool (false))] (se (rq (rqr (sp 3 [(10,.bool (!(cmp .eql (↑(W.length)) (6))))] (se (rc 10 rfl (fun h1=>?_) (fun h1=>?_)))))))
 ·
  have d0:=h1;have h1:=DE (CL h1);refine rqr (sp 1 [(4,.bool (false))] (se (BO ((RP ?_)))));have b2:KR W=false:=tc_len (by omega);have b0:tcY Y W=Y:=tcY_no b2;refine AE (t:=4) ([(bX y #[vS a4 Y.cars.length a5,vS a0 Y.room.length a1,vS a2 y_ws.length a3] 26)]++(y_M1++(y_M2++(y_M3)))) (by kernel_rfl) rfl (by simp only [AA,NA,CA];exact (TK _ (TA (TA (TA (TR _) _) _) _))) (IR _) ?_;exact ⟨_,_,_,_,_,_,_,(congrArg Value.bool (show false=KR W from b2.symm)),rfl,((congrArg Yard.cars b0).symm▸y_1h),((congrArg Yard.room b0).symm▸y_2h),y_3h,((congrArg Yard.tracks b0).symm▸y_3r)⟩
 have d0:=h1;have h1:=DF (BW h1);refine AH (NX (rqr (sp 1 [(12,vS d6 W.length d7)] ?_)));have b8:=w_f.cut (1) (5) (by omega) (by omega);obtain ⟨f4,f6,f5,f9,c3,f7,f8,g0⟩:=id b8;rw [c3] at b8;refine sd (BL (EA (x:=(.tmp 12)) (lo:=(some (.const (vI 1)))) (hi:=(some (.const (vI 5)))) (T:=87) (e:=9) (sz:=1) (1) (5) (d:=13) (ty:=87) (gd:=none) (by kernel_rfl) rfl (by kernel_rfl) (by kernel_rfl) rfl (.inr ⟨_,.i64,rfl,rfl⟩) (.inr ⟨_,.i64,rfl,rfl⟩) (by omega) (by omega)) c3) ?_;have c0:=numbers_ct I _ _ b8 (by first | assumption | exact TextG.mono (by assumption) hI) (by simp only [LK,LD];omega) (by exact fun x hx=>hWs x (List.mem_of_mem_drop (List.mem_of_mem_take hx)));refine sS (sc (some 14) (c0 :) (.refl _) (fun g2 I2 f3 b1 f0=>?_));obtain ⟨g3,e0,d8,f2⟩:=f0;rw [e0,d8];clear e0 d8;replace y_3r:=y_3r.mono b1;replace c9:=c9.mono b1;have c5:=f2;obtain ⟨a8,a9,e1,e4,c4,e2,e3,a6⟩:=id c5;subst c4;refine nm ?_;refine sp 5 [(6,.bool (DK ((W.drop (1)).take (5-1)))),(5,vS a8 (AK ((W.drop (1)).take (5-1))).length a9)] (se (rq (rqr (sp 2 [(18,.bool (!(DK ((W.drop (1)).take (5-1)))))] (se (rc 18 rfl (fun h2=>?_) (fun h2=>?_)))))))
 ·
  have b7:=h2;have h2:=CL h2;have e8:DK ((W.drop (1)).take (5-1))=false:=by simpa using b7
  refine rqr (sp 1 [(4,.bool (false))] (se (BO ((RP ?_)))));have b2:KR W=false:=tc_nums e8;have b0:tcY Y W=Y:=tcY_no b2;refine AE (t:=4) ([(bX y #[vS a4 Y.cars.length a5,vS a0 Y.room.length a1,vS a2 y_ws.length a3] 26)]++(y_M1++(y_M2++(y_M3)))) (by kernel_rfl) rfl (by simp only [AA,NA,CA];exact (TK _ (TA (TA (TA (TR _) _) _) _))) b1 ?_;exact ⟨_,_,_,_,_,_,_,(congrArg Value.bool (show false=KR W from b2.symm)),rfl,((congrArg Yard.cars b0).symm▸y_1h),((congrArg Yard.room b0).symm▸y_2h),y_3h,((congrArg Yard.tracks b0).symm▸y_3r)⟩
 have b7:=h2;have h2:=BW h2;have c1:DK ((W.drop (1)).take (5-1))=true:=by simpa using b7
 have e9:=nums_len c1;simp only [LK,LD] at e9;refine AH (NX (rq ?_));refine rd 14 [(0,true),(1,true),(2,true),(3,true),(4,true),(5,true),(6,true),(7,true),(8,true),(9,true),(10,true),(11,true),(12,true),(13,false)] ((bX y #[vS a4 Y.cars.length a5,vS a0 Y.room.length a1,vS a2 y_ws.length a3] 26)::[]) ((y_M1++(y_M2++(y_M3++F)))) (ox 1 [(19,vS a8 (AK ((W.drop (1)).take (5-1))).length a9)] ?_);refine AB (di 20 1 (0) a6.addr) ?_;refine AB (dl 21 (BH a6 (0) (by omega))) (ox 1 [(22,vS a8 (AK ((W.drop (1)).take (5-1))).length a9)] ?_);refine AB (di 23 1 (1) a6.addr) ?_;refine AB (dl 24 (BH a6 (1) (by omega))) (ox 1 [(25,vS a8 (AK ((W.drop (1)).take (5-1))).length a9)] ?_);refine AB (di 26 1 (2) a6.addr) ?_;refine AB (dl 27 (BH a6 (2) (by omega))) (ox 1 [(28,vS a8 (AK ((W.drop (1)).take (5-1))).length a9)] ?_);refine AB (di 29 1 (3) a6.addr) ?_;refine AB (dl 30 (BH a6 (3) (by omega))) (ox 1 [(31,.agg #[vI ((AK ((W.drop (1)).take (5-1))).getD (0) 0),vI ((AK ((W.drop (1)).take (5-1))).getD (1) 0),vI ((AK ((W.drop (1)).take (5-1))).getD (2) 0),vI ((AK ((W.drop (1)).take (5-1))).getD (3) 0),.bool (false),.bool (false)])] ?_);refine CK (sal 7 56 #[vI (0),vI (0),vI (0),vI (0),.bool (false),.bool (false)] (fun a7=>?_));refine AW (S':=((bX a7 #[vI (0),vI (0),vI (0),vI (0),.bool (false),.bool (false)] 56)::(y_M1++(y_M2++(y_M3++F))))) (PS _ _ _) ?_;refine FB (nm (nm ?_));refine sS (ss 1 0 a7 [vI ((AK ((W.drop (1)).take (5-1))).getD (0) 0),vI ((AK ((W.drop (1)).take (5-1))).getD (1) 0),vI ((AK ((W.drop (1)).take (5-1))).getD (2) 0),vI ((AK ((W.drop (1)).take (5-1))).getD (3) 0),.bool (false),.bool (false)] [vI ((AK ((W.drop (1)).take (5-1))).getD (0) 0),vI ((AK ((W.drop (1)).take (5-1))).getD (1) 0),vI ((AK ((W.drop (1)).take (5-1))).getD (2) 0),vI ((AK ((W.drop (1)).take (5-1))).getD (3) 0),.bool (false),.bool (false)] (_::_::_) (cs:=[_,_,_,_,_,_]) rfl rfl (se (rq ?_)));refine DQ (fun a w=>∃ pp:Bool,∃ hh:Bool,(TcAt W pp hh)∧Slots 56 [(0,vP y 0),(7,vP a7 0)] a∧a.defers=[]∧St I2 ((bX y #[vS a4 Y.cars.length a5,vS a0 Y.room.length a1,vS a2 y_ws.length a3] 26)::(bX a7 #[vI ((AK ((W.drop (1)).take (5-1))).getD (0) 0),vI ((AK ((W.drop (1)).take (5-1))).getD (1) 0),vI ((AK ((W.drop (1)).take (5-1))).getD (2) 0),vI ((AK ((W.drop (1)).take (5-1))).getD (3) 0),.bool (pp),.bool (hh)] 56)::(y_M1++(y_M2++(y_M3++F)))) w) ?_ ?_
 ·
  refine rqr (sp 1 [(32,vS d6 W.length d7)] (sd (di 33 1 (5) c9.addr) (sd (dl 34 (DO c9 (5) (by omega))) (se (rb 0 (rq (rb 5 (rq (rb 4 (rq (rb 3 (rq (rb 2 (rq (rb 1 (rq (rq (rqr (sd (EU (x:=(.tmp 34)) (y:=(.const (.string { data:=#[112,104] }))) (T:=9) (T':=9) (d:=36) (ty:=4) (gd:=none) (by kernel_rfl) rfl rfl rfl) (sp 1 [(35,.bool (decide (W.getD (5) []=([112,104]:List UInt8))))] (se (rc 35 rfl (fun h3=>?_) (fun h3=>?_)))))))))))))))))))))))
  ·
   have d1:=h3;have h3:=FT h3;refine CC 1 ((EP (EP (EB (NX (rr (sp 1 [(43,vP a7 4)] (sS (ss 1 4 a7 [.bool (true)] [vI ((AK ((W.drop (1)).take (5-1))).getD (0) 0),vI ((AK ((W.drop (1)).take (5-1))).getD (1) 0),vI ((AK ((W.drop (1)).take (5-1))).getD (2) 0),vI ((AK ((W.drop (1)).take (5-1))).getD (3) 0),.bool (true),.bool (false)] (_::_::_) (cs:=[_,_,_,_,_,_]) rfl rfl (ee (NB (NX (rqr (sp 1 [(44,vP a7 5)] (sS (ss 1 5 a7 [.bool (true)] [vI ((AK ((W.drop (1)).take (5-1))).getD (0) 0),vI ((AK ((W.drop (1)).take (5-1))).getD (1) 0),vI ((AK ((W.drop (1)).take (5-1))).getD (2) 0),vI ((AK ((W.drop (1)).take (5-1))).getD (3) 0),.bool (true),.bool (true)] (_::_::_) (cs:=[_,_,_,_,_,_]) rfl rfl (se (CC 0 ((BI (by decide) (EP (BI (by decide) (EP (BI (by decide) (EP (EB ?_))))))))))))))))))))))))));exact AL (fun a w hS hD hW=>⟨true,true,tc_ph (by omega) c1 h3,hS.sub (.cons 0 rfl (.cons 7 rfl (.nil _))),hD,hW⟩)
  have d1:=h3;have h3:=GH h3;refine AH (NX (rq (rqr (sd (EU (x:=(.tmp 34)) (y:=(.const (.string { data:=#[104] }))) (T:=9) (T':=9) (d:=38) (ty:=4) (gd:=none) (by kernel_rfl) rfl rfl rfl) (sp 1 [(37,.bool (decide (W.getD (5) []=([104]:List UInt8))))] (se (rc 37 rfl (fun h4=>?_) (fun h4=>?_))))))))
  ·
   have d2:=h4;have h4:=FT h4;refine CC 2 ((EP (EP (BI (by decide) (EP (EB (NX (rqr (sp 1 [(44,vP a7 5)] (sS (ss 1 5 a7 [.bool (true)] [vI ((AK ((W.drop (1)).take (5-1))).getD (0) 0),vI ((AK ((W.drop (1)).take (5-1))).getD (1) 0),vI ((AK ((W.drop (1)).take (5-1))).getD (2) 0),vI ((AK ((W.drop (1)).take (5-1))).getD (3) 0),.bool (false),.bool (true)] (_::_::_) (cs:=[_,_,_,_,_,_]) rfl rfl (se (CC 0 ((BI (by decide) (EP (BI (by decide) (EP (BI (by decide) (EP (EB ?_)))))))))))))))))))));exact AL (fun a w hS hD hW=>⟨false,true,tc_h (by omega) c1 h4,hS.sub (.cons 0 rfl (.cons 7 rfl (.nil _))),hD,hW⟩)
  have d2:=h4;have h4:=GH h4;refine AH (NX (rq (rqr (sd (EU (x:=(.tmp 34)) (y:=(.const (.string { data:=#[112] }))) (T:=9) (T':=9) (d:=40) (ty:=4) (gd:=none) (by kernel_rfl) rfl rfl rfl) (sp 1 [(39,.bool (decide (W.getD (5) []=([112]:List UInt8))))] (se (rc 39 rfl (fun h5=>?_) (fun h5=>?_))))))))
  ·
   have d3:=h5;have h5:=FT h5;refine CC 3 ((EP (EP (BI (by decide) (EP (BI (by decide) (EP (EB (NX (rqr (sp 1 [(45,vP a7 4)] (sS (ss 1 4 a7 [.bool (true)] [vI ((AK ((W.drop (1)).take (5-1))).getD (0) 0),vI ((AK ((W.drop (1)).take (5-1))).getD (1) 0),vI ((AK ((W.drop (1)).take (5-1))).getD (2) 0),vI ((AK ((W.drop (1)).take (5-1))).getD (3) 0),.bool (true),.bool (false)] (_::_::_) (cs:=[_,_,_,_,_,_]) rfl rfl (se (CC 0 ((BI (by decide) (EP (BI (by decide) (EP (EB ?_)))))))))))))))))))));exact AL (fun a w hS hD hW=>⟨true,false,tc_p (by omega) c1 h5,hS.sub (.cons 0 rfl (.cons 7 rfl (.nil _))),hD,hW⟩)
  have d3:=h5;have h5:=GH h5;refine AH (NX (rqr (sd (EU (x:=(.tmp 34)) (y:=(.const (.string { data:=#[45] }))) (T:=9) (T':=9) (d:=42) (ty:=4) (gd:=none) (by kernel_rfl) rfl rfl rfl) (sp 1 [(41,.bool (decide (W.getD (5) []=([45]:List UInt8))))] (se (rc 41 rfl (fun h6=>?_) (fun h6=>?_)))))))
  ·
   have d4:=h6;have h6:=FT h6;refine CC 4 ((EP (BI (by decide) (EP (BI (by decide) (EP (BI (by decide) (EP (EB (NX (CC 0 ((BI (by decide) (EP (EB ?_)))))))))))))));exact AL (fun a w hS hD hW=>⟨false,false,tc_d (by omega) c1 h6,hS.sub (.cons 0 rfl (.cons 7 rfl (.nil _))),hD,hW⟩)
  have d4:=h6;have h6:=GH h6;refine AH (NX (CC 5 ((BI (by decide) (EP (BI (by decide) (EP (BI (by decide) (EP (BI (by decide) (EP (EB (NX (rq (rqr (sp 1 [(4,.bool (false))] (se (BO ((RP (RB (RP ?_))))))))))))))))))))));have b2:KR W=false:=tc_marks h3 h4 h5 h6;have b0:tcY Y W=Y:=tcY_no b2;refine ppm (M':=((bX y #[vS a4 Y.cars.length a5,vS a0 Y.room.length a1,vS a2 y_ws.length a3] 26)::(y_M1++(y_M2++(y_M3++(bX a7 #[vI ((AK ((W.drop (1)).take (5-1))).getD (0) 0),vI ((AK ((W.drop (1)).take (5-1))).getD (1) 0),vI ((AK ((W.drop (1)).take (5-1))).getD (2) 0),vI ((AK ((W.drop (1)).take (5-1))).getD (3) 0),.bool (false),.bool (false)] 56)::F))))) (PC _ ((PM.symm).trans (PA _ ((PM.symm).trans (PA _ (PM.symm)))))) (AE (t:=4) ([(bX y #[vS a4 Y.cars.length a5,vS a0 Y.room.length a1,vS a2 y_ws.length a3] 26)]++(y_M1++(y_M2++(y_M3)))) (by kernel_rfl) rfl (by simp only [AA,NA,CA];exact (TK _ (TA (TA (TA (TC _ (TR _)) _) _) _))) b1 ?_);exact ⟨_,_,_,_,_,_,_,(congrArg Value.bool (show false=KR W from b2.symm)),rfl,((congrArg Yard.cars b0).symm▸y_1h),((congrArg Yard.room b0).symm▸y_2h),y_3h,((congrArg Yard.tracks b0).symm▸y_3r)⟩
 rintro a w ⟨pp,hh,d9,hS,hD,hW⟩
 refine AX hS hD hW ?_;clear hS hD hW a w;refine rq ?_;refine rd 8 [(0,true),(1,true),(2,true),(3,true),(4,true),(5,true),(6,false),(7,false)] ((bX y #[vS a4 Y.cars.length a5,vS a0 Y.room.length a1,vS a2 y_ws.length a3] 26)::(bX a7 #[vI ((AK ((W.drop (1)).take (5-1))).getD (0) 0),vI ((AK ((W.drop (1)).take (5-1))).getD (1) 0),vI ((AK ((W.drop (1)).take (5-1))).getD (2) 0),vI ((AK ((W.drop (1)).take (5-1))).getD (3) 0),.bool (pp),.bool (hh)] 56)::[]) ((y_M1++(y_M2++(y_M3++F)))) (ox 4 [(49,vP y 0),(46,vP y 0)] ?_);refine AB (dlb 50 0 0 y (vS a4 Y.cars.length a5)) ?_;refine AB (dnb 51 1 0 a7 [vI ((AK ((W.drop (1)).take (5-1))).getD (0) 0),vI ((AK ((W.drop (1)).take (5-1))).getD (1) 0),vI ((AK ((W.drop (1)).take (5-1))).getD (2) 0),vI ((AK ((W.drop (1)).take (5-1))).getD (3) 0),.bool (pp),.bool (hh)]) ?_;refine CK (sbs 52 56 1 #[vI ((AK ((W.drop (1)).take (5-1))).getD (0) 0),vI ((AK ((W.drop (1)).take (5-1))).getD (1) 0),vI ((AK ((W.drop (1)).take (5-1))).getD (2) 0),vI ((AK ((W.drop (1)).take (5-1))).getD (3) 0),.bool (pp),.bool (hh)] (fun b9=>?_));refine AW (S':=((bX b9 #[vI ((AK ((W.drop (1)).take (5-1))).getD (0) 0),vI ((AK ((W.drop (1)).take (5-1))).getD (1) 0),vI ((AK ((W.drop (1)).take (5-1))).getD (2) 0),vI ((AK ((W.drop (1)).take (5-1))).getD (3) 0),.bool (pp),.bool (hh)] 56)::(y_M1++(y_M2++(y_M3++F))))) ((PS _ _ _).trans (PC _ (PS _ _ _))) ?_;refine CK (AN (d:=53) (x:=(.tmp 50)) (y:=(.tmp 52)) (T:=22) (T':=22) (E:=56) (E':=56) (sz:=6) (bs:=40) (z:=.agg #[vI (0),vI (0),vI (0),vI (0),.bool (false),.bool (false)]) (cell:=CV) (xs:=Y.cars) (ys:=[(⟨(AK ((W.drop (1)).take (5-1))).getD (0) 0,(AK ((W.drop (1)).take (5-1))).getD (1) 0,(AK ((W.drop (1)).take (5-1))).getD (2) 0,(AK ((W.drop (1)).take (5-1))).getD (3) 0,pp,hh⟩:Car)]) (Ms:=y_M1) (ty:=22) (gd:=none) (by kernel_rfl) rfl (by kernel_rfl) (by kernel_rfl) (by kernel_rfl) (by kernel_rfl) (by kernel_rfl) (by decide) (by kernel_rfl) rfl rfl (y_1h) (show List.Perm ((bX y #[vS a4 Y.cars.length a5,vS a0 Y.room.length a1,vS a2 y_ws.length a3] 26)::(bX a7 #[vI ((AK ((W.drop (1)).take (5-1))).getD (0) 0),vI ((AK ((W.drop (1)).take (5-1))).getD (1) 0),vI ((AK ((W.drop (1)).take (5-1))).getD (2) 0),vI ((AK ((W.drop (1)).take (5-1))).getD (3) 0),.bool (pp),.bool (hh)] 56)::(bX b9 #[vI ((AK ((W.drop (1)).take (5-1))).getD (0) 0),vI ((AK ((W.drop (1)).take (5-1))).getD (1) 0),vI ((AK ((W.drop (1)).take (5-1))).getD (2) 0),vI ((AK ((W.drop (1)).take (5-1))).getD (3) 0),.bool (pp),.bool (hh)] 56)::(y_M1++(y_M2++(y_M3++F)))) ((y_M1++(bX y #[vS a4 Y.cars.length a5,vS a0 Y.room.length a1,vS a2 y_ws.length a3] 26)::(bX a7 #[vI ((AK ((W.drop (1)).take (5-1))).getD (0) 0),vI ((AK ((W.drop (1)).take (5-1))).getD (1) 0),vI ((AK ((W.drop (1)).take (5-1))).getD (2) 0),vI ((AK ((W.drop (1)).take (5-1))).getD (3) 0),.bool (pp),.bool (hh)] 56)::(bX b9 #[vI ((AK ((W.drop (1)).take (5-1))).getD (0) 0),vI ((AK ((W.drop (1)).take (5-1))).getD (1) 0),vI ((AK ((W.drop (1)).take (5-1))).getD (2) 0),vI ((AK ((W.drop (1)).take (5-1))).getD (3) 0),.bool (pp),.bool (hh)] 56)::(y_M2++(y_M3++F)))) from (PU (PU (PM.symm)))) (ED _) (CI 2 rfl rfl) (by first | omega | (simp only [LC,LN,LA,LK,LD];omega)) (fun g4 b6 c2=>?_));refine AW (S':=((bX b9 #[vI ((AK ((W.drop (1)).take (5-1))).getD (0) 0),vI ((AK ((W.drop (1)).take (5-1))).getD (1) 0),vI ((AK ((W.drop (1)).take (5-1))).getD (2) 0),vI ((AK ((W.drop (1)).take (5-1))).getD (3) 0),.bool (pp),.bool (hh)] 56)::(b6++(y_M2++(y_M3++F))))) (PW (PW PM)) ?_;obtain ⟨b3,b4,d5,f1⟩:=c2.shape;subst d5;show OFP _ _ _ _ _ _ ((53,vS b3 (Y.cars++([(⟨(AK ((W.drop (1)).take (5-1))).getD (0) 0,(AK ((W.drop (1)).take (5-1))).getD (1) 0,(AK ((W.drop (1)).take (5-1))).getD (2) 0,(AK ((W.drop (1)).take (5-1))).getD (3) 0,pp,hh⟩:Car)])).length b4)::_) _ _;refine FB (nm (nm ?_));refine sp 2 [(55,vP y 0)] (sS (ss 0 0 y [vS b3 (Y.cars++([(⟨(AK ((W.drop (1)).take (5-1))).getD (0) 0,(AK ((W.drop (1)).take (5-1))).getD (1) 0,(AK ((W.drop (1)).take (5-1))).getD (2) 0,(AK ((W.drop (1)).take (5-1))).getD (3) 0,pp,hh⟩:Car)])).length b4] [vS b3 (Y.cars++([(⟨(AK ((W.drop (1)).take (5-1))).getD (0) 0,(AK ((W.drop (1)).take (5-1))).getD (1) 0,(AK ((W.drop (1)).take (5-1))).getD (2) 0,(AK ((W.drop (1)).take (5-1))).getD (3) 0,pp,hh⟩:Car)])).length b4,vS a0 Y.room.length a1,vS a2 y_ws.length a3] (_::_::_::_) (cs:=[_,_,_]) rfl rfl (sn (sp 1 [(4,.bool (true))] (se (BO ?_))))));have b2:=d9.1;have b0:tcY Y W=⟨Y.cars++[tcV W],Y.room,Y.tracks⟩:=tcY_yes b2;refine ppm (M':=((bX y #[vS b3 (Y.cars++([(⟨(AK ((W.drop (1)).take (5-1))).getD (0) 0,(AK ((W.drop (1)).take (5-1))).getD (1) 0,(AK ((W.drop (1)).take (5-1))).getD (2) 0,(AK ((W.drop (1)).take (5-1))).getD (3) 0,pp,hh⟩:Car)])).length b4,vS a0 Y.room.length a1,vS a2 y_ws.length a3] 26)::(b6++(y_M2++(y_M3++(bX a7 #[vI ((AK ((W.drop (1)).take (5-1))).getD (0) 0),vI ((AK ((W.drop (1)).take (5-1))).getD (1) 0),vI ((AK ((W.drop (1)).take (5-1))).getD (2) 0),vI ((AK ((W.drop (1)).take (5-1))).getD (3) 0),.bool (pp),.bool (hh)] 56)::(bX b9 #[vI ((AK ((W.drop (1)).take (5-1))).getD (0) 0),vI ((AK ((W.drop (1)).take (5-1))).getD (1) 0),vI ((AK ((W.drop (1)).take (5-1))).getD (2) 0),vI ((AK ((W.drop (1)).take (5-1))).getD (3) 0),.bool (pp),.bool (hh)] 56)::F))))) (PC _ ((PU (PM.symm)).trans (PA _ ((PU (PM.symm)).trans (PA _ (PU (PM.symm))))))) (AE (t:=4) ([(bX y #[vS b3 (Y.cars++([(⟨(AK ((W.drop (1)).take (5-1))).getD (0) 0,(AK ((W.drop (1)).take (5-1))).getD (1) 0,(AK ((W.drop (1)).take (5-1))).getD (2) 0,(AK ((W.drop (1)).take (5-1))).getD (3) 0,pp,hh⟩:Car)])).length b4,vS a0 Y.room.length a1,vS a2 y_ws.length a3] 26)]++(b6++(y_M2++(y_M3)))) (by kernel_rfl) rfl (by simp only [AA,NA,CA];exact (TK _ (TA (TA (TA (TC _ (TC _ (TR _))) _) _) _))) b1 ?_);exact ⟨_,_,_,_,_,_,_,(congrArg Value.bool (show true=KR W from b2.symm)),rfl,((show Y.cars++([(⟨(AK ((W.drop (1)).take (5-1))).getD (0) 0,(AK ((W.drop (1)).take (5-1))).getD (1) 0,(AK ((W.drop (1)).take (5-1))).getD (2) 0,(AK ((W.drop (1)).take (5-1))).getD (3) 0,pp,hh⟩:Car)])=(tcY Y W).cars from by rw [b0,d9.2])▸c2),((congrArg Yard.room b0).symm▸y_2h),y_3h,((congrArg Yard.tracks b0).symm▸y_3r)⟩
noncomputable def MM (p:List Nat):Code:=sub (AU Tryz.f124) p
set_option maxHeartbeats 1000000 in
theorem takeTrack_ct (I:Imm) (y:Nat) (y_1 y_2 y_3:Value) (y_ws:List Value) (y_M1 y_M2 y_M3:Seg) (Y:Yard) (w:Value) (W:List (List UInt8)) (y_1h:Own 56 6 CV y_1 Y.cars y_M1) (y_2h:Own 3 1 BA y_2 Y.room y_M2) (y_3h:Own 23 1 AO y_3 y_ws y_M3) (y_3r:RowsV I y_ws Y.tracks) (w_f:NG I w W) (hG:TextG I) (hW:W.length≤1000) (hWs:∀ x∈W,x.length≤1000) (hY:Y.room.length≤1000∧Y.tracks.length≤1000):Ct Tryz.prog 124 #[vP y 0,w] I ([(bX y #[y_1,y_2,y_3] 26)]++(y_M1++(y_M2++(y_M3)))) (fun v I' M'=>∃ y_1t:Value,∃ y_2t:Value,∃ y_3t:Value,∃ y_wt:List Value,∃ y_M1t:Seg,∃ y_M2t:Seg,∃ y_M3t:Seg,v=.bool (ttIs W)∧M'=[(bX y #[y_1t,y_2t,y_3t] 26)]++(y_M1t++(y_M2t++(y_M3t)))∧Own 56 6 CV y_1t (ttY Y W).cars y_M1t∧Own 3 1 BA y_2t (ttY Y W).room y_M2t∧Own 23 1 AO y_3t y_wt y_M3t∧RowsV I' y_wt (ttY Y W).tracks):=by
 obtain ⟨a0,a1,e4,i2⟩:=y_1h.shape;subst e4;obtain ⟨a6,a7,e5,i3⟩:=y_2h.shape;subst e5;obtain ⟨a2,a3,e6,i4⟩:=y_3h.shape;subst e6;have c1:=y_3r.1
 try simp only [LS,LA,LC,LN,LK] at c1
 obtain ⟨h9,i0,l1,l4,k2,l2,l3,i1⟩:=id w_f;subst k2;refine fr (args:=[_,_]) (N:=63) Tryz.func124 (fun F=>?_);show Run _ _ (MM []) _ _ [(0,vP y 0),(1,vS h9 W.length i0)] _ _;refine HY (M':=((bX y #[vS a0 Y.cars.length a1,vS a6 Y.room.length a7,vS a2 y_ws.length a3] 26)::(y_M1++(y_M2++(y_M3++F))))) (fun w h=>by simpa only [AA,CA,NA] using h) (rnm (rqr ?_));refine sp 1 [(4,.bool (false))] (se (rq (rqr (sp 3 [(14,.bool (!(cmp .eql (↑(W.length)) (2))))] (se (rc 14 rfl (fun h1=>?_) (fun h1=>?_)))))))
 ·
  have e7:=h1;have h1:=DE (CL h1);refine rqr (sp 1 [(4,.bool (false))] (se (BO ((RP ?_)))));have c7:ttY Y W=Y:=ttY_no (by omega);refine AE (t:=4) ([(bX y #[vS a0 Y.cars.length a1,vS a6 Y.room.length a7,vS a2 y_ws.length a3] 26)]++(y_M1++(y_M2++(y_M3)))) (by kernel_rfl) rfl (by simp only [AA,NA,CA];exact (TK _ (TA (TA (TA (TR _) _) _) _))) (IR _) ?_;exact ⟨_,_,_,_,_,_,_,(congrArg Value.bool (show false=ttIs W from (tt_no (by omega)).symm)),rfl,((congrArg Yard.cars c7).symm▸y_1h),((congrArg Yard.room c7).symm▸y_2h),y_3h,((congrArg Yard.tracks c7).symm▸y_3r)⟩
 have e7:=h1;have h1:=DF (BW h1);refine AH (NX (rq ?_));have k5:=hWs _ (AJ (d:=[]) (xs:=W) (k:=1) (by omega));have k3:=cut_le (W.getD (1) []) 58;refine rr (sp 1 [(16,vS h9 W.length i0)] (sd (di 17 1 (1) i1.addr) (sd (dl 18 (DO i1 (1) (by omega))) ?_)));have f1:=Cut_ct I (W.getD (1) []) ((58:UInt8)) (by first | assumption | exact TextG.mono (by assumption) hI) (by omega);refine sS (sc (some 19) (f1 :) (.refl _) (fun k7 I1 k6 c6 i7=>?_));obtain ⟨g6,g5⟩:=i7;rw [g6,g5];clear g6 g5;replace y_3r:=y_3r.mono c6;replace hG:=hG.mono c6;refine nm ?_;refine sp 7 [(7,.bool ((Lib.cut (W.getD (1) []) [((58:UInt8))]).2.2)),(6,sV (((Lib.cut (W.getD (1) []) [((58:UInt8))]).2.1))),(5,sV (((Lib.cut (W.getD (1) []) [((58:UInt8))]).1)))] (sn (sp 1 [(24,sV (((Lib.cut (W.getD (1) []) [((58:UInt8))]).1)))] ?_));have c9:=number_ct I1 (((Lib.cut (W.getD (1) []) [((58:UInt8))]).1)) (by first | assumption | exact TextG.mono (by assumption) hI) (by omega);refine sS (sc (some 25) (c9 :) (.refl _) (fun j8 I9 j5 b6 f2=>?_));obtain ⟨d8,d2⟩:=f2;rw [d8,d2];clear d8 d2;replace y_3r:=y_3r.mono b6;replace hG:=hG.mono b6;refine nm ?_;refine sp 5 [(9,.bool (DJ (((Lib.cut (W.getD (1) []) [((58:UInt8))]).1)))),(8,vI ((atoiV (((Lib.cut (W.getD (1) []) [((58:UInt8))]).1)))))] (sn (sp 1 [(10,vN)] (sn (sp 1 [(11,.bool (true))] (se (rq ?_))))));refine DQ (fun a w=>∃ b1:Imm,∃ lv:Value,(I9.le b1)∧(BK b1 lv (GD (Lib.cut (W.getD (1) []) [58]).2.1))∧Slots 63 [(0,vP y 0),(4,.bool (false)),(7,.bool ((Lib.cut (W.getD (1) []) [((58:UInt8))]).2.2)),(8,vI ((atoiV (((Lib.cut (W.getD (1) []) [((58:UInt8))]).1))))),(9,.bool (DJ (((Lib.cut (W.getD (1) []) [((58:UInt8))]).1)))),(10,lv),(11,.bool (HB (Lib.cut (W.getD (1) []) [58]).2.1))] a∧a.defers=[]∧St b1 ((bX y #[vS a0 Y.cars.length a1,vS a6 Y.room.length a7,vS a2 y_ws.length a3] 26)::(y_M1++(y_M2++(y_M3++F)))) w) ?_ ?_
 ·
  refine rqr (sp 1 [(28,sV (((Lib.cut (W.getD (1) []) [((58:UInt8))]).2.1)))] (sd (HM (x:=(.tmp 28)) (y:=(.const (.string { data:=#[] }))) (T:=9) (T':=9) (d:=29) (ty:=4) (gd:=none) (by kernel_rfl) rfl rfl rfl) (se (rc 29 rfl (fun h2=>?_) (fun h2=>?_)))))
  ·
   have e8:=h2;have h2:=GH (CL h2);have k4:=cutL_len_le (b:=44) (s:=(Lib.cut (W.getD (1) []) [58]).2.1);refine rr (sp 1 [(31,sV (((Lib.cut (W.getD (1) []) [((58:UInt8))]).2.1)))] ?_);have d0:=Split_ct I9 (((Lib.cut (W.getD (1) []) [((58:UInt8))]).2.1)) ((44:UInt8)) (by first | assumption | exact TextG.mono (by assumption) hI) (by omega);refine sS (sc (some 32) (d0 :) (.refl _) (fun j9 i5 j6 b7 f3=>?_));obtain ⟨k8,d9,d3,f8⟩:=f3;rw [d9,d3];clear d9 d3;replace y_3r:=y_3r.mono b7;replace hG:=hG.mono b7;have c5:=f8;obtain ⟨g8,h0,g9,h7,e3,h5,h6,h8⟩:=id c5;subst e3;refine nm ?_;have d1:=numbers_ct i5 _ _ c5 (by first | assumption | exact TextG.mono (by assumption) hI) (by omega) (by exact fun x hx=>by (have:=IM x hx;omega));refine sS (sc (some 33) (d1 :) (.refl _) (fun k0 i6 j7 c4 f4=>?_));obtain ⟨k1,e0,d4,f9⟩:=f4;rw [e0,d4];clear e0 d4;replace y_3r:=y_3r.mono c4;have c0:=f9;obtain ⟨b8,b9,g0,g3,c8,g1,g2,g4⟩:=id c0;subst c8;refine nm ?_;refine sp 5 [(11,.bool (DK (cutL ((44:UInt8)) (((Lib.cut (W.getD (1) []) [((58:UInt8))]).2.1))))),(10,vS b8 (AK (cutL ((44:UInt8)) (((Lib.cut (W.getD (1) []) [((58:UInt8))]).2.1)))).length b9)] (ee ?_);have d7:=rest_more h2;exact AL (fun a w hS hD hW=>⟨i6,(vS b8 (AK (cutL ((44:UInt8)) (((Lib.cut (W.getD (1) []) [((58:UInt8))]).2.1)))).length b9),(IT b7 c4),(by rw [d7.2];exact c0),hS.sub (.cons 0 rfl (.cons 4 rfl (.cons 7 rfl (.cons 8 rfl (.cons 9 rfl (.consE 10 rfl rfl (.consE 11 rfl (congrArg Value.bool d7.1.symm) (.nil _)))))))),hD,hW⟩)
  have e8:=h2;have h2:=FT (BW h2);refine AH ?_;have d7:=rest_nil h2;exact AL (fun a w hS hD hW=>⟨I9,(vN),(IR _),(by rw [d7.2];exact IsSl.nil _),hS.sub (.cons 0 rfl (.cons 4 rfl (.cons 7 rfl (.cons 8 rfl (.cons 9 rfl (.consE 10 rfl rfl (.consE 11 rfl (congrArg Value.bool d7.1.symm) (.nil _)))))))),hD,hW⟩)
 rintro a w ⟨b1,lv,b5,e1,hS,hD,hW⟩
 refine AX hS hD hW ?_;clear hS hD hW a w;replace y_3r:=y_3r.mono b5;obtain ⟨a4,a5,i8,j1,f5,i9,j0,j2⟩:=id e1;subst f5;refine rq ?_;refine rdY (M:=((bX y #[vS a0 Y.cars.length a1,vS a6 Y.room.length a7,vS a2 y_ws.length a3] 26)::(y_M1++(y_M2++(y_M3++[]))))) (F0:=F) [(42,vI ((atoiV (((Lib.cut (W.getD (1) []) [((58:UInt8))]).1))))),(49,vS a4 (GD (Lib.cut (W.getD (1) []) [58]).2.1).length a5)] [7,14] [(7,43,.bs 3 1 #[vI ((atoiV (((Lib.cut (W.getD (1) []) [((58:UInt8))]).1))))]),(14,50,.bs 23 1 #[vS a4 (GD (Lib.cut (W.getD (1) []) [58]).2.1).length a5])] 19 [(0,true),(1,true),(2,true),(3,true),(4,true),(5,true),(6,true),(9,true),(10,true),(11,true),(12,true),(13,true),(7,false),(8,false),(14,false),(15,false),(16,true),(17,true),(18,false)] (by simp only [AA,CA,NA,List.append_nil];exact PR _) (MR (KD (ops:=HX (MM [1,1,1,1,1,1,1,0])) (i:=7) (d:=43) (by kernel_rfl) rfl (by kernel_rfl) (by kernel_rfl)) (MR (KD (ops:=HX (MM [1,1,1,1,1,1,1,0])) (i:=14) (d:=50) (by kernel_rfl) rfl (by kernel_rfl) (by kernel_rfl)) hA_nil)) ?_;refine HN (FV (d:=36) (v:=vP y 0) (by kernel_rfl)) ?_;refine HN (FV (d:=37) (v:=vP y 0) (by kernel_rfl)) ?_;refine HW (FV (d:=38) (v:=vP y 0) (by kernel_rfl)) ?_;refine HW (FV (d:=39) (v:=vP y 0) (by kernel_rfl)) ?_;refine HW (FV (d:=40) (v:=vP y 1) (by kernel_rfl)) ?_;refine HW (dlb 41 0 1 y (vS a6 Y.room.length a7)) ?_;refine HW (FV (d:=42) (v:=vI ((atoiV (((Lib.cut (W.getD (1) []) [((58:UInt8))]).1))))) (by kernel_rfl)) ?_;refine HN (FV (d:=45) (v:=vP y 0) (by kernel_rfl)) ?_;refine HN (FV (d:=46) (v:=vP y 0) (by kernel_rfl)) ?_;refine HN (FV (d:=47) (v:=vP y 2) (by kernel_rfl)) ?_;refine ofx_part (Rx:=((bX y #[vS a0 Y.cars.length a1,vS a6 Y.room.length a7,vS a2 y_ws.length a3] 26)::[])) (PR _) (dlb 48 0 2 y (vS a2 y_ws.length a3)) ?_;refine HN (FV (d:=49) (v:=vS a4 (GD (Lib.cut (W.getD (1) []) [58]).2.1).length a5) (by kernel_rfl)) ?_;refine ofx_bs rfl (fun c2=>?_);refine MW (Mx:=fun FX=>((bX c2 #[vI ((atoiV (((Lib.cut (W.getD (1) []) [((58:UInt8))]).1))))] 3)::(bX y #[vS a0 Y.cars.length a1,vS a6 Y.room.length a7,vS a2 y_ws.length a3] 26)::(y_M1++(y_M2++(y_M3++FX))))) rfl (fun FX=>by simp only [AA,CA,NA,List.append_nil];exact PR _) (fun FX=>?_);refine id (AN (d:=44) (x:=(.tmp 41)) (y:=(.tmp 43)) (T:=23) (T':=23) (E:=3) (E':=3) (sz:=1) (bs:=8) (z:=vI (0)) (cell:=BA) (xs:=Y.room) (ys:=[((atoiV (((Lib.cut (W.getD (1) []) [((58:UInt8))]).1))):Int)]) (Ms:=y_M2) (ty:=23) (gd:=none) (by kernel_rfl) rfl (by kernel_rfl) (by kernel_rfl) (by kernel_rfl) (by kernel_rfl) (by kernel_rfl) (by decide) (by kernel_rfl) rfl rfl (y_2h) (PU (PU (PO _ _ _))) (CH _) (CI 0 rfl rfl) (by first | omega | (simp only [LC,LN,LA,LK,LD];omega)) (fun k9 a8 d5=>?_));refine ofx_nx (M1:=((bX c2 #[vI ((atoiV (((Lib.cut (W.getD (1) []) [((58:UInt8))]).1))))] 3)::(bX y #[vS a0 Y.cars.length a1,vS a6 Y.room.length a7,vS a2 y_ws.length a3] 26)::(a8++(y_M1++(y_M3++[]))))) (by simp only [AA,CA,NA,List.append_nil];exact (PW PM)) (.none (.part (PS _ _ _) (.none (.none (.none (.wait (by kernel_rfl) (.wait (by kernel_rfl) (.wait (by kernel_rfl) (.wait (by kernel_rfl) (.wait (by kernel_rfl) (.none (.none .nil)))))))))))) ?_;obtain ⟨a9,b0,f6,j3⟩:=d5.shape;subst f6;show OFPX _ _ _ _ _ _ _ _ _ _ ((44,vS a9 (Y.room++([((atoiV (((Lib.cut (W.getD (1) []) [((58:UInt8))]).1))):Int)])).length b0)::_) _ _;refine ofx_bs rfl (fun c3=>?_);refine MW (Mx:=fun FX=>((bX c3 #[vS a4 (GD (Lib.cut (W.getD (1) []) [58]).2.1).length a5] 23)::(bX c2 #[vI ((atoiV (((Lib.cut (W.getD (1) []) [((58:UInt8))]).1))))] 3)::(bX y #[vS a0 Y.cars.length a1,vS a6 Y.room.length a7,vS a2 y_ws.length a3] 26)::(a8++(y_M1++(y_M3++FX))))) rfl (fun FX=>by simp only [AA,CA,NA,List.append_nil];exact PR _) (fun FX=>?_);refine id (AN (d:=51) (x:=(.tmp 48)) (y:=(.tmp 50)) (T:=24) (T':=24) (E:=23) (E':=23) (sz:=1) (bs:=24) (z:=vN) (cell:=AO) (xs:=y_ws) (ys:=[(vS a4 (GD (Lib.cut (W.getD (1) []) [58]).2.1).length a5:Value)]) (Ms:=y_M3) (ty:=24) (gd:=none) (by kernel_rfl) rfl (by kernel_rfl) (by kernel_rfl) (by kernel_rfl) (by kernel_rfl) (by kernel_rfl) (by decide) (by kernel_rfl) rfl rfl (y_3h) (PU (PU (PU (PV (PO _ _ _))))) (FD rfl) (CI 0 rfl rfl) (by first | omega | (have hq:=y_3r.1;simp only [LC,LN,LA,LK,LD] at hq ⊢;omega)) (fun l0 b2 d6=>?_));refine ofx_nx (M1:=((bX c3 #[vS a4 (GD (Lib.cut (W.getD (1) []) [58]).2.1).length a5] 23)::(bX c2 #[vI ((atoiV (((Lib.cut (W.getD (1) []) [((58:UInt8))]).1))))] 3)::(bX y #[vS a0 Y.cars.length a1,vS a6 Y.room.length a7,vS a2 y_ws.length a3] 26)::(b2++(a8++(y_M1++[]))))) (by simp only [AA,CA,NA,List.append_nil];exact (PW (PW PM))) (.wait (by kernel_rfl) (.wait (by kernel_rfl) (.wait (by kernel_rfl) (.wait (by kernel_rfl) (.wait (by kernel_rfl) (.wait (by kernel_rfl) (.wait (by kernel_rfl) (.wait (by kernel_rfl) (.wait (by kernel_rfl) (.wait (by kernel_rfl) (.none (.none .nil)))))))))))) ?_;obtain ⟨b3,b4,f7,j4⟩:=d6.shape;subst f7;show OFPX _ _ _ _ _ _ _ _ _ _ ((51,vS b3 (y_ws++([(vS a4 (GD (Lib.cut (W.getD (1) []) [58]).2.1).length a5:Value)])).length b4)::_) _ _;have e2:=(y_3r).snoc e1;refine HW (FV (d:=52) (v:=vP y 0) (by kernel_rfl)) ?_;refine HW (FV (d:=53) (v:=vP y 1) (by kernel_rfl)) ?_;refine MW (Mx:=fun FX=>((bX c3 #[vS a4 (GD (Lib.cut (W.getD (1) []) [58]).2.1).length a5] 23)::(bX c2 #[vI ((atoiV (((Lib.cut (W.getD (1) []) [((58:UInt8))]).1))))] 3)::(bX y #[vS a0 Y.cars.length a1,vS a6 Y.room.length a7,vS a2 y_ws.length a3] 26)::(b2++(a8++(y_M1++FX))))) rfl (fun FX=>by simp only [AA,CA,NA,List.append_nil];exact PR _) (fun FX=>?_);refine id (ss 2 1 y [vS a9 (Y.room++([((atoiV (((Lib.cut (W.getD (1) []) [((58:UInt8))]).1))):Int)])).length b0] [vS a0 Y.cars.length a1,vS a9 (Y.room++([((atoiV (((Lib.cut (W.getD (1) []) [((58:UInt8))]).1))):Int)])).length b0,vS a2 y_ws.length a3] (_::_::_::_) (cs:=[_,_,_]) rfl rfl ?_);refine ofx_nx (M1:=((bX c3 #[vS a4 (GD (Lib.cut (W.getD (1) []) [58]).2.1).length a5] 23)::(bX c2 #[vI ((atoiV (((Lib.cut (W.getD (1) []) [((58:UInt8))]).1))))] 3)::(bX y #[vS a0 Y.cars.length a1,vS a9 (Y.room++([((atoiV (((Lib.cut (W.getD (1) []) [((58:UInt8))]).1))):Int)])).length b0,vS a2 y_ws.length a3] 26)::(b2++(a8++(y_M1++[]))))) (by simp only [AA,CA,NA,List.append_nil];exact (PR _)) (.wait (by kernel_rfl) (.wait (by kernel_rfl) (.wait (by kernel_rfl) (.wait (by kernel_rfl) (.wait (by kernel_rfl) (.wait (by kernel_rfl) (.wait (by kernel_rfl) (.wait (by kernel_rfl) (.wait (by kernel_rfl) (.wait (by kernel_rfl) (.wait (by kernel_rfl) (.wait (by kernel_rfl) (.none (.wait (by kernel_rfl) .nil)))))))))))))) ?_;refine ofx_end (AR (M':=((bX c3 #[vS a4 (GD (Lib.cut (W.getD (1) []) [58]).2.1).length a5] 23)::(bX c2 #[vI ((atoiV (((Lib.cut (W.getD (1) []) [((58:UInt8))]).1))))] 3)::(bX y #[vS a0 Y.cars.length a1,vS a9 (Y.room++([((atoiV (((Lib.cut (W.getD (1) []) [((58:UInt8))]).1))):Int)])).length b0,vS a2 y_ws.length a3] 26)::(b2++(a8++(y_M1++F))))) (fun w h=>by simpa only [AA,CA,NA,List.append_nil] using h) (AR (M':=((bX c3 #[vS a4 (GD (Lib.cut (W.getD (1) []) [58]).2.1).length a5] 23)::(bX c2 #[vI ((atoiV (((Lib.cut (W.getD (1) []) [((58:UInt8))]).1))))] 3)::(bX y #[vS a0 Y.cars.length a1,vS a9 (Y.room++([((atoiV (((Lib.cut (W.getD (1) []) [((58:UInt8))]).1))):Int)])).length b0,vS a2 y_ws.length a3] 26)::(b2++(a8++(y_M1++F))))) (fun w h=>h) (sp 2 [(55,vP y 2)] (sS (ss 2 2 y [vS b3 (y_ws++([(vS a4 (GD (Lib.cut (W.getD (1) []) [58]).2.1).length a5:Value)])).length b4] [vS a0 Y.cars.length a1,vS a9 (Y.room++([((atoiV (((Lib.cut (W.getD (1) []) [((58:UInt8))]).1))):Int)])).length b0,vS b3 (y_ws++([(vS a4 (GD (Lib.cut (W.getD (1) []) [58]).2.1).length a5:Value)])).length b4] (_::_::_::_) (cs:=[_,_,_]) rfl rfl (se (rq ?_)))))));refine DQ (fun a w=>Slots 63 [(4,.bool (((Lib.cut (W.getD (1) []) [((58:UInt8))]).2.2)&&((DJ (((Lib.cut (W.getD (1) []) [((58:UInt8))]).1)))&&(HB (Lib.cut (W.getD (1) []) [58]).2.1))))] a∧a.defers=[]∧St b1 ((bX c3 #[vS a4 (GD (Lib.cut (W.getD (1) []) [58]).2.1).length a5] 23)::(bX c2 #[vI ((atoiV (((Lib.cut (W.getD (1) []) [((58:UInt8))]).1))))] 3)::(bX y #[vS a0 Y.cars.length a1,vS a9 (Y.room++([((atoiV (((Lib.cut (W.getD (1) []) [((58:UInt8))]).1))):Int)])).length b0,vS b3 (y_ws++([(vS a4 (GD (Lib.cut (W.getD (1) []) [58]).2.1).length a5:Value)])).length b4] 26)::(b2++(a8++(y_M1++F)))) w) ?_ ?_
 ·
  refine rr (sp 2 [(57,.bool ((Lib.cut (W.getD (1) []) [((58:UInt8))]).2.2))] ?_);refine AY 57 rfl (fun h3=>?_) (fun h3=>?_)
  ·
   have e9:=h3;refine sp 3 [(60,.bool (DJ (((Lib.cut (W.getD (1) []) [((58:UInt8))]).1))))] ?_;refine AY 60 rfl (fun h4=>?_) (fun h4=>?_)
   ·
    have f0:=h4;refine sp 3 [(4,.bool (HB (Lib.cut (W.getD (1) []) [58]).2.1))] (ee ?_);refine AL (fun a w hS hD hW=>⟨hS.sub (.consE 4 rfl (congrArg Value.bool (by simp only [h3,h4,kA,kB,kC,kD,kE,kF,kG,kH,kI,kJ])) (.nil _)),hD,hW⟩)
   have f0:=h4;refine sp 3 [(4,.bool (false))] (ee ?_);refine AL (fun a w hS hD hW=>⟨hS.sub (.consE 4 rfl (congrArg Value.bool (by simp only [h3,h4,kA,kB,kC,kD,kE,kF,kG,kH,kI,kJ])) (.nil _)),hD,hW⟩)
  have e9:=h3;refine sp 6 [(4,.bool (false))] (ee ?_);refine AL (fun a w hS hD hW=>⟨hS.sub (.consE 4 rfl (congrArg Value.bool (by simp only [h3,kA,kB,kC,kD,kE,kF,kG,kH,kI,kJ])) (.nil _)),hD,hW⟩)
 rintro a w ⟨hS,hD,hW⟩
 refine AX hS hD hW ?_;clear hS hD hW a w;refine BO ?_;have g7:W.length=2:=by omega
 have c7:ttY Y W=_:=ttY_yes g7;refine ppm (M':=((bX y #[vS a0 Y.cars.length a1,vS a9 (Y.room++([((atoiV (((Lib.cut (W.getD (1) []) [((58:UInt8))]).1))):Int)])).length b0,vS b3 (y_ws++([(vS a4 (GD (Lib.cut (W.getD (1) []) [58]).2.1).length a5:Value)])).length b4] 26)::(y_M1++(a8++(b2++(bX c3 #[vS a4 (GD (Lib.cut (W.getD (1) []) [58]).2.1).length a5] 23)::(bX c2 #[vI ((atoiV (((Lib.cut (W.getD (1) []) [((58:UInt8))]).1))))] 3)::F))))) (((PC _ (PS _ _ _)).trans (PS _ _ _)).trans (PC _ ((PU (PU (PV (PO _ _ _)))).trans (PA _ ((PU (PU (PO _ _ _))).trans (PA _ (PU (PM.symm)))))))) (AE (t:=4) ([(bX y #[vS a0 Y.cars.length a1,vS a9 (Y.room++([((atoiV (((Lib.cut (W.getD (1) []) [((58:UInt8))]).1))):Int)])).length b0,vS b3 (y_ws++([(vS a4 (GD (Lib.cut (W.getD (1) []) [58]).2.1).length a5:Value)])).length b4] 26)]++(y_M1++(a8++(b2)))) (by kernel_rfl) rfl (by simp only [AA,NA,CA];exact (TK _ (TA (TA (TA (TC _ (TC _ (TR _))) _) _) _))) (IT (IT c6 b6) b5) ?_);exact ⟨_,_,_,_,_,_,_,(congrArg Value.bool (show _=ttIs W from by rw [tt_yes g7])),rfl,((congrArg Yard.cars c7).symm▸y_1h),((congrArg Yard.room c7).symm▸d5),d6,((congrArg Yard.tracks c7).symm▸e2)⟩
noncomputable def c_Read (p:List Nat):Code:=sub (AU Tryz.f74) p
set_option maxHeartbeats 2000000 in
theorem Read_ct (I:Imm) (tx:List UInt8) (hG:TextG I):Ct Tryz.prog 74 #[sV tx] I ([]) (fun v I' M'=>∃ u0:Value,v=.tuple #[u0,vI ((BQ tx).2.1),vI ((BQ tx).2.2)]∧M'=[]∧IsYard I' u0 ((BQ tx).1)):=by
 refine fr (args:=[_]) (N:=83) Tryz.func74 (fun F=>?_);show Run _ _ (c_Read []) _ _ [(0,sV (tx))] _ _;refine rnm (rqr ?_);refine sS (sal 2 26 #[vN,vN,vN] (fun b1=>(sp 2 [(4,vI (0)),(3,vI (0))] (se (rq (rqr (sp 3 [(15,.bool (cmp .gtr (↑(tx).length) (300)))] (se (rc 15 rfl (fun h1=>?_) (fun h1=>?_))))))))))
 ·
  have p9:=h1;have h1:=HU h1;refine rqr (sp 1 [(16,.agg #[vN,vN,vN])] (sS (ss 0 0 b1 [vN,vN,vN] [vN,vN,vN] (_::_) (cs:=[_,_,_]) rfl rfl (sp 2 [(4,vI (10)),(3,vI (0))] (se (BO ((RP ?_))))))));have b6:=read_long (t:=tx) (by omega);refine CN (t:=2) (u:=3) (r:=4) (T:=26) (n:=3) [] (by kernel_rfl) rfl (by kernel_rfl) rfl (BG (n:=3) (cs:=#[vN,vN,vN]) (b:=b1) (off:=0) (T:=26) (fz:=(0,0)) (vs:=[vN,vN,vN]) (by simp) rfl) (.inl ⟨by kernel_rfl,rfl⟩) rfl rfl (TC _ (TR _)) (IR _) ?_;exact ⟨_,(congrArg (fun p:Int × Int=>Value.tuple #[_,vI p.1,vI p.2]) (show _=(BQ tx).2 from (congrArg Prod.snd b6).symm)),rfl,((show (⟨[],[],[]⟩:Yard)=(BQ tx).1 from (congrArg Prod.fst b6).symm)▸(BS (IsSl.nil _) (IsSl.nil _) (IsRows.nil _)))⟩
 have p9:=h1;have h1:=HG h1;have s6:tx.length≤300:=by omega
 have x1:=cutL_len_le (b:=10) (s:=tx);have x2:1≤(cutL 10 tx).length:=List.length_pos_iff.2 (OL 10 tx);refine AH (NX (rqr (sp 1 [(17,sV (tx))] ?_)));have k6:=Split_ct I (tx) ((10:UInt8)) (by first | assumption | exact TextG.mono (by assumption) hI) (by omega);refine sS (sc (some 18) (k6 :) (.refl _) (fun v0 I3 u5 c4 u1=>?_));obtain ⟨u8,s7,s3,u4⟩:=u1;rw [s7,s3];clear s7 s3;replace hG:=hG.mono c4;have l9:=u4;obtain ⟨i7,i8,v4,v7,r5,v5,v6,c5⟩:=id l9;subst r5;refine nm ?_;refine sp 1 [(5,vS i7 (cutL ((10:UInt8)) tx).length i8)] (sn (sp 2 [(20,vI (↑((cutL ((10:UInt8)) tx).length)))] (sd (dsb 21 (↑((cutL ((10:UInt8)) tx).length)) (1)) (DN 21 rfl (show (vI ((↑((cutL ((10:UInt8)) tx).length))-1):Value)=vI (↑((cutL 10 tx).length-1)) from congrArg (Value.int .i64) (by omega)) (sp 1 [(6,vI (↑((cutL 10 tx).length-1)))] (sn (sp 1 [(7,.bool (false))] (se (rq (rqr (sp 2 [(23,vI (↑((cutL 10 tx).length-1))),(22,vS i7 (cutL ((10:UInt8)) tx).length i8)] ?_)))))))))));have j3:=l9.cutHi ((cutL 10 tx).length-1) (by omega);obtain ⟨l6,l7,t0,t3,j2,t1,t2,f2⟩:=id j3;rw [j2] at j3;refine sd (BL (EA (x:=(.tmp 22)) (lo:=none) (hi:=(some (.tmp 23))) (T:=87) (e:=9) (sz:=1) (0) ((cutL 10 tx).length-1) (d:=24) (ty:=87) (gd:=none) (by kernel_rfl) rfl (by kernel_rfl) (by kernel_rfl) rfl (.inl ⟨rfl,rfl⟩) (.inr ⟨_,.i64,rfl,rfl⟩) (by omega) (by omega)) j2) (sp 1 [(25,vI (↑(((cutL ((10:UInt8)) tx).take ((cutL 10 tx).length-1)).length)))] (DN 25 rfl (show (vI (↑(((cutL ((10:UInt8)) tx).take ((cutL 10 tx).length-1)).length)):Value)=vI (↑((cutL 10 tx).length-1)) from congrArg (Value.int .i64) (by simp only [LK];omega)) (sp 1 [(26,vI (0))] (se (rb 0 ?_)))));refine rl (fun mz a w=>∃ J0:Imm,∃ i:Nat,∃ e:Bool,∃ Y:Yard,∃ c1:Value,∃ b7:Seg,∃ c2:Value,∃ b0:Seg,∃ c3:Value,∃ a8:Seg,∃ a1:List Value,(I3.le J0)∧(i≤(cutL 10 tx).length-1)∧(JB tx i Y e)∧(YL Y i)∧(Own 56 6 CV c1 (Y.cars) b7)∧(Own 3 1 BA c2 (Y.room) b0)∧(RowsV J0 a1 (Y.tracks))∧(Own 23 1 AO c3 (a1) a8)∧Slots 83 [(7,.bool e),(26,vI ↑i),(2,vP b1 0),(5,vS i7 (cutL ((10:UInt8)) tx).length i8),(6,vI (↑((cutL 10 tx).length-1))),(24,vS l6 ((cutL ((10:UInt8)) tx).take ((cutL 10 tx).length-1)).length l7),(25,vI (↑((cutL 10 tx).length-1)))] a∧a.defers=[]∧St J0 ((bX b1 #[c1,c2,c3] 26)::(b7++(b0++(a8++F)))) w∧mz=(cutL 10 tx).length-i) ?_ ?_
 ·intro a w hS hD hW;exact ⟨_,I3,0,false,AP,(vN),[],(vN),[],(vN),[],[],IR _,Nat.zero_le _,read_start s6,⟨Nat.le_refl _,Nat.le_refl _,Nat.le_refl _,rfl⟩,(Own.nil _ _ _),(Own.nil _ _ _),(RowsV.nil _),(Own.nil _ _ _),hS.sub (.cons 7 rfl (.cons 26 rfl (.cons 2 rfl (.cons 5 rfl (.cons 6 rfl (.cons 24 rfl (.cons 25 rfl (.nil _)))))))),hD,hW,rfl⟩
 rintro mz a w ⟨J0,i,e,Y,c1,b7,c2,b0,c3,a8,a1,hJ0,hi,g1,j9,b2,b3,a0,b4,hS,hD,hW,rfl⟩
 refine AX hS hD hW ?_;clear hS hD hW a w;replace hG:=hG.mono hJ0;replace c5:=c5.mono hJ0;replace f2:=f2.mono hJ0;obtain ⟨a4,a5,e5,k0⟩:=b2.shape;subst e5;obtain ⟨a6,a7,e6,k1⟩:=b3.shape;subst e6;obtain ⟨a2,a3,e7,k2⟩:=b4.shape;subst e7;have c7:=a0.1
 try simp only [LS,LA,LC,LN,LK] at c7
 have x4:=j9.1;have x5:=j9.2.1;have x6:=j9.2.2.1;have x7:=j9.2.2.2;refine rqr (sp 1 [(27,.bool (cmp .lss (↑i) (↑((cutL 10 tx).length-1))))] (se (rq (rc 27 rfl (fun h2=>?_) (fun h2=>?_)))))
 ·
  have q0:=h2;have h2:=BZ h2;refine AH (NX (rq (rb 1 (rqr (sp 1 [(28,vI (↑i))] (sd (di 29 1 (i) f2.addr (hj:=by rw [LK];omega)) (sd (dl 30 (DO f2 (i) (by rw [LK];omega))) (DN 30 rfl (show (sV (((cutL ((10:UInt8)) tx).take ((cutL 10 tx).length-1)).getD (i) []):Value)=sV ((cutL 10 tx).getD (i) []) from congrArg sV (take_get (by omega))) (sp 2 [(9,sV ((cutL 10 tx).getD (i) [])),(8,vI (↑i))] (se (rq ?_)))))))))));have u2:=line_le s6 (i:=i) (by omega);have s8:=words_le u2;have x3:1≤(cutL 32 ((cutL 10 tx).getD (i) [])).length:=List.length_pos_iff.2 (OL 32 _);refine rr (sp 1 [(31,sV ((cutL 10 tx).getD (i) []))] ?_);have k7:=Split_ct J0 ((cutL 10 tx).getD (i) []) ((32:UInt8)) (by first | assumption | exact TextG.mono (by assumption) hI) (by omega);refine sS (sc (some 32) (k7 :) (.refl _) (fun v1 m8 u6 a9 q7=>?_));obtain ⟨x8,l3,l0,r4⟩:=q7;rw [l3,l0];clear l3 l0;replace hG:=hG.mono a9;replace c5:=c5.mono a9;replace a0:=a0.mono a9;have d1:=r4;obtain ⟨c9,d0,t4,t7,l8,t5,t6,c6⟩:=id d1;subst l8;refine nm ?_;refine sp 1 [(10,vS c9 (cutL ((32:UInt8)) ((cutL 10 tx).getD (i) [])).length d0)] (sn (sp 1 [(11,.bool (false))] (se (rq (rb 2 (rqr (sp 2 [(36,.bool (e))] (se (rc 36 rfl (fun h3=>?_) (fun h3=>?_))))))))))
  ·
   have q1:=h3;refine AH (NB (NX (rqr (sp 2 [(59,.bool (!(false)))] (se (rct 59 rfl (rqr (sp 2 [(61,vI (↑i)),(60,.agg #[vN,vN,vN])] (sd (da 62 (↑i) (1)) (sS (ss 0 0 b1 [vN,vN,vN] [vN,vN,vN] (_::_) (cs:=[_,_,_]) rfl rfl (sp 2 [(4,vI (2)),(3,vI (↑i+1))] (se (BO ((RB (RP (RP (RB (RP ?_))))))))))))))))))));have b6:=IV (by omega) (step_e h3) g1;refine CN (t:=2) (u:=3) (r:=4) (T:=26) (n:=3) [] (by kernel_rfl) rfl (by kernel_rfl) rfl (BG (n:=3) (cs:=#[vN,vN,vN]) (b:=b1) (off:=0) (T:=26) (fz:=(0,0)) (vs:=[vN,vN,vN]) (by simp) rfl) (.inl ⟨by kernel_rfl,rfl⟩) rfl rfl (TC _ (TT (TT (TT (TR _) (TB _ _)) (TB _ _)) (TB _ _))) (IT (IT c4 hJ0) a9) ?_;exact ⟨_,(congrArg (fun p:Int × Int=>Value.tuple #[_,vI p.1,vI p.2]) (show _=(BQ tx).2 from (congrArg Prod.snd b6).symm)),rfl,((show (⟨[],[],[]⟩:Yard)=(BQ tx).1 from (congrArg Prod.fst b6).symm)▸(BS (IsSl.nil _) (IsSl.nil _) (IsRows.nil _)))⟩
  have q1:=h3;have he:e=false:=h3;refine rqr (sp 1 [(39,vS c9 (cutL ((32:UInt8)) ((cutL 10 tx).getD (i) [])).length d0)] (sd (di 40 1 (0) c6.addr) (sd (dl 41 (DO c6 (0) (by omega))) (sd (EU (x:=(.tmp 41)) (y:=(.const (.string { data:=#[99,111,97,99,104] }))) (T:=9) (T':=9) (d:=42) (ty:=4) (gd:=none) (by kernel_rfl) rfl rfl rfl) (sp 1 [(38,.bool (decide ((cutL ((32:UInt8)) ((cutL 10 tx).getD (i) [])).getD (0) []=([99,111,97,99,104]:List UInt8))))] (se (rc 38 rfl (fun h4=>?_) (fun h4=>?_))))))))
  ·
   have q2:=h4;have h4:=FT h4;have r3:(cutL 32 ((cutL 10 tx).getD (i) [])).getD 0 []=EW:=h4;refine rr (sp 1 [(43,vP b1 2)] (sd (dlb 44 0 2 b1 (vS a2 a1.length a3)) (sp 3 [(47,.bool (cmp .eql (↑(a1.length)) (0)))] ?_)));refine AY 47 rfl (fun h5=>?_) (fun h5=>?_)
   ·
    have g3:=h5;have g3:=DF g3;refine sp 1 [(48,vS c9 (cutL ((32:UInt8)) ((cutL 10 tx).getD (i) [])).length d0)] ?_;have u3:Y.room=[]:=List.length_eq_zero_iff.1 (by omega);have k8:=takeCoach_ct m8 (b1) _ _ _ _ _ _ _ (Y) _ _ b2 b3 b4 a0 d1 (by first | assumption | exact TextG.mono (by assumption) hI) (by omega) (by exact s8.2) (by omega);refine sS (sc (some 49) (F:=(F)) (k8 :) (by simpa only [AA,CA,NA] using (.refl _)) (fun v2 t8 u7 c0 q8=>?_));obtain ⟨r6,r8,s0,e8,f3,f5,f7,l4,l1,g5,g7,g9,j0⟩:=q8;rw [l4,l1];clear l4 l1;replace hG:=hG.mono c0;replace c5:=c5.mono c0;replace a0:=a0.mono c0;replace d1:=d1.mono c0;replace c6:=c6.mono c0;have f9:=j0.1
    try simp only [LS,LA,LC,LN,LK] at f9
    obtain ⟨d2,d3,i0,m0⟩:=g5.shape;subst i0;obtain ⟨d6,d7,i2,m2⟩:=g7.shape;subst i2;obtain ⟨e0,e1,i4,m4⟩:=g9.shape;subst i4;refine AR (M':=((bX b1 #[vS d2 ((tcY Y (cutL ((32:UInt8)) ((cutL 10 tx).getD (i) []))).cars).length d3,vS d6 ((tcY Y (cutL ((32:UInt8)) ((cutL 10 tx).getD (i) []))).room).length d7,vS e0 e8.length e1] 26)::(f3++(f5++(f7++F))))) (fun w h=>by simpa only [AA,CA,NA] using h) (nm ?_);refine sp 2 [(11,.bool (KR (cutL ((32:UInt8)) ((cutL 10 tx).getD (i) []))))] (ee (NB (NX (rqr (sp 2 [(59,.bool (!(KR (cutL ((32:UInt8)) ((cutL 10 tx).getD (i) [])))))] (se (rc 59 rfl (fun h6=>?_) (fun h6=>?_))))))))
    ·
     have q3:=h6;have h6:=CL h6
     first | (have j8:KR (cutL 32 ((cutL 10 tx).getD (i) []))=false:=h6) | (have j8:ttIs (cutL 32 ((cutL 10 tx).getD (i) []))=false:=h6) | (have r0:¬ ((cutL 10 tx).getD (i) [])=DD:=h6)
     refine rqr (sp 2 [(61,vI (↑i)),(60,.agg #[vN,vN,vN])] (sd (da 62 (↑i) (1)) (sS (ss 0 0 b1 [vN,vN,vN] [vN,vN,vN] (_::_) (cs:=[_,_,_]) rfl rfl (sp 2 [(4,vI (2)),(3,vI (↑i+1))] (se (BO ((RB (RP (RP (RB (RP ?_)))))))))))));have b6:=IV (by omega) (sstep_cn he r3 (.inr j8)) g1;refine CN (t:=2) (u:=3) (r:=4) (T:=26) (n:=3) [] (by kernel_rfl) rfl (by kernel_rfl) rfl (BG (n:=3) (cs:=#[vN,vN,vN]) (b:=b1) (off:=0) (T:=26) (fz:=(0,0)) (vs:=[vN,vN,vN]) (by simp) rfl) (.inl ⟨by kernel_rfl,rfl⟩) rfl rfl (TC _ (TT (TT (TT (TR _) (TB _ _)) (TB _ _)) (TB _ _))) (IT (IT (IT c4 hJ0) a9) c0) ?_;exact ⟨_,(congrArg (fun p:Int × Int=>Value.tuple #[_,vI p.1,vI p.2]) (show _=(BQ tx).2 from (congrArg Prod.snd b6).symm)),rfl,((show (⟨[],[],[]⟩:Yard)=(BQ tx).1 from (congrArg Prod.fst b6).symm)▸(BS (IsSl.nil _) (IsSl.nil _) (IsRows.nil _)))⟩
    have q3:=h6;have h6:=BW h6
    first | (have r1:KR (cutL 32 ((cutL 10 tx).getD (i) []))=true:=h6) | (have r2:ttIs (cutL 32 ((cutL 10 tx).getD (i) []))=true:=h6) | (have m7:((cutL 10 tx).getD (i) [])=DD:=h6)
    refine AH (NB (NX (rr (sd (da 63 (↑i) (1)) (sp 1 [(26,vI (↑i+1))] (ee ?_))))));refine AG ((cutL 10 tx).length-(i+1)) (by omega) ?_;intro a w hS hD hW;exact ⟨t8,i+1,false,tcY Y (cutL 32 ((cutL 10 tx).getD (i) [])),vS d2 ((tcY Y (cutL ((32:UInt8)) ((cutL 10 tx).getD (i) []))).cars).length d3,f3,vS d6 ((tcY Y (cutL ((32:UInt8)) ((cutL 10 tx).getD (i) []))).room).length d7,f5,vS e0 e8.length e1,f7,e8,(IT (IT hJ0 a9) c0),by omega,OW (by omega) (sstep_c he r3 u3 r1) g1,j9.c _,g5,g7,j0,g9,hS.sub (.consE 7 rfl (congrArg Value.bool he) (.consE 26 rfl rfl (.cons 2 rfl (.cons 5 rfl (.cons 6 rfl (.cons 24 rfl (.cons 25 rfl (.nil _)))))))),hD,hW,rfl⟩
   have g3:=h5;have g3:=DE g3;refine sp 4 [(11,.bool (false))] (ee (NB (NX (rqr (sp 2 [(59,.bool (!(false)))] (se (rct 59 rfl (rqr (sp 2 [(61,vI (↑i)),(60,.agg #[vN,vN,vN])] (sd (da 62 (↑i) (1)) (sS (ss 0 0 b1 [vN,vN,vN] [vN,vN,vN] (_::_) (cs:=[_,_,_]) rfl rfl (sp 2 [(4,vI (2)),(3,vI (↑i+1))] (se (BO ((RB (RP (RP (RB (RP ?_)))))))))))))))))))));have b6:=IV (by omega) (sstep_cn he r3 (.inl (fun e=>by (have hz:=congrArg List.length e;simp only [LN] at hz;omega)))) g1;refine CN (t:=2) (u:=3) (r:=4) (T:=26) (n:=3) [] (by kernel_rfl) rfl (by kernel_rfl) rfl (BG (n:=3) (cs:=#[vN,vN,vN]) (b:=b1) (off:=0) (T:=26) (fz:=(0,0)) (vs:=[vN,vN,vN]) (by simp) rfl) (.inl ⟨by kernel_rfl,rfl⟩) rfl rfl (TC _ (TT (TT (TT (TR _) (TB _ _)) (TB _ _)) (TB _ _))) (IT (IT c4 hJ0) a9) ?_;exact ⟨_,(congrArg (fun p:Int × Int=>Value.tuple #[_,vI p.1,vI p.2]) (show _=(BQ tx).2 from (congrArg Prod.snd b6).symm)),rfl,((show (⟨[],[],[]⟩:Yard)=(BQ tx).1 from (congrArg Prod.fst b6).symm)▸(BS (IsSl.nil _) (IsSl.nil _) (IsRows.nil _)))⟩
  have q2:=h4;have h4:=GH h4;have s4:¬ (cutL 32 ((cutL 10 tx).getD (i) [])).getD 0 []=EW:=h4;refine rqr (sp 1 [(52,vS c9 (cutL ((32:UInt8)) ((cutL 10 tx).getD (i) [])).length d0)] (sd (di 53 1 (0) c6.addr) (sd (dl 54 (DO c6 (0) (by omega))) (sd (EU (x:=(.tmp 54)) (y:=(.const (.string { data:=#[116,114,97,99,107] }))) (T:=9) (T':=9) (d:=55) (ty:=4) (gd:=none) (by kernel_rfl) rfl rfl rfl) (sp 1 [(51,.bool (decide ((cutL ((32:UInt8)) ((cutL 10 tx).getD (i) [])).getD (0) []=([116,114,97,99,107]:List UInt8))))] (se (rc 51 rfl (fun h7=>?_) (fun h7=>?_))))))))
  ·
   have q4:=h7;have h7:=FT h7;have s9:(cutL 32 ((cutL 10 tx).getD (i) [])).getD 0 []=EF:=h7;refine rr (sp 1 [(56,vS c9 (cutL ((32:UInt8)) ((cutL 10 tx).getD (i) [])).length d0)] ?_);have k9:=takeTrack_ct m8 (b1) _ _ _ _ _ _ _ (Y) _ _ b2 b3 b4 a0 d1 (by first | assumption | exact TextG.mono (by assumption) hI) (by omega) (by exact s8.2) (by omega);refine sS (sc (some 57) (F:=(F)) (k9 :) (by simpa only [AA,CA,NA] using (.refl _)) (fun v3 t9 u9 f0 q9=>?_));obtain ⟨r7,r9,s1,e9,f4,f6,f8,l5,l2,g6,g8,h0,j1⟩:=q9;rw [l5,l2];clear l5 l2;replace c5:=c5.mono f0;replace a0:=a0.mono f0;have g0:=j1.1
   try simp only [LS,LA,LC,LN,LK] at g0
   obtain ⟨d4,d5,i1,m1⟩:=g6.shape;subst i1;obtain ⟨d8,d9,i3,m3⟩:=g8.shape;subst i3;obtain ⟨e2,e3,i5,m5⟩:=h0.shape;subst i5;refine AR (M':=((bX b1 #[vS d4 ((ttY Y (cutL ((32:UInt8)) ((cutL 10 tx).getD (i) []))).cars).length d5,vS d8 ((ttY Y (cutL ((32:UInt8)) ((cutL 10 tx).getD (i) []))).room).length d9,vS e2 e9.length e3] 26)::(f4++(f6++(f8++F))))) (fun w h=>by simpa only [AA,CA,NA] using h) (nm ?_);refine sp 1 [(11,.bool (ttIs (cutL ((32:UInt8)) ((cutL 10 tx).getD (i) []))))] (ee (NB (NX (rqr (sp 2 [(59,.bool (!(ttIs (cutL ((32:UInt8)) ((cutL 10 tx).getD (i) [])))))] (se (rc 59 rfl (fun h8=>?_) (fun h8=>?_))))))))
   ·
    have q5:=h8;have h8:=CL h8
    first | (have j8:KR (cutL 32 ((cutL 10 tx).getD (i) []))=false:=h8) | (have j8:ttIs (cutL 32 ((cutL 10 tx).getD (i) []))=false:=h8) | (have r0:¬ ((cutL 10 tx).getD (i) [])=DD:=h8)
    refine rqr (sp 2 [(61,vI (↑i)),(60,.agg #[vN,vN,vN])] (sd (da 62 (↑i) (1)) (sS (ss 0 0 b1 [vN,vN,vN] [vN,vN,vN] (_::_) (cs:=[_,_,_]) rfl rfl (sp 2 [(4,vI (2)),(3,vI (↑i+1))] (se (BO ((RB (RP (RP (RB (RP ?_)))))))))))));have b6:=IV (by omega) (sstep_tn he s9 j8) g1;refine CN (t:=2) (u:=3) (r:=4) (T:=26) (n:=3) [] (by kernel_rfl) rfl (by kernel_rfl) rfl (BG (n:=3) (cs:=#[vN,vN,vN]) (b:=b1) (off:=0) (T:=26) (fz:=(0,0)) (vs:=[vN,vN,vN]) (by simp) rfl) (.inl ⟨by kernel_rfl,rfl⟩) rfl rfl (TC _ (TT (TT (TT (TR _) (TB _ _)) (TB _ _)) (TB _ _))) (IT (IT (IT c4 hJ0) a9) f0) ?_;exact ⟨_,(congrArg (fun p:Int × Int=>Value.tuple #[_,vI p.1,vI p.2]) (show _=(BQ tx).2 from (congrArg Prod.snd b6).symm)),rfl,((show (⟨[],[],[]⟩:Yard)=(BQ tx).1 from (congrArg Prod.fst b6).symm)▸(BS (IsSl.nil _) (IsSl.nil _) (IsRows.nil _)))⟩
   have q5:=h8;have h8:=BW h8
   first | (have r1:KR (cutL 32 ((cutL 10 tx).getD (i) []))=true:=h8) | (have r2:ttIs (cutL 32 ((cutL 10 tx).getD (i) []))=true:=h8) | (have m7:((cutL 10 tx).getD (i) [])=DD:=h8)
   refine AH (NB (NX (rr (sd (da 63 (↑i) (1)) (sp 1 [(26,vI (↑i+1))] (ee ?_))))));refine AG ((cutL 10 tx).length-(i+1)) (by omega) ?_;intro a w hS hD hW;exact ⟨t9,i+1,false,ttY Y (cutL 32 ((cutL 10 tx).getD (i) [])),vS d4 ((ttY Y (cutL ((32:UInt8)) ((cutL 10 tx).getD (i) []))).cars).length d5,f4,vS d8 ((ttY Y (cutL ((32:UInt8)) ((cutL 10 tx).getD (i) []))).room).length d9,f6,vS e2 e9.length e3,f8,e9,(IT (IT hJ0 a9) f0),by omega,OW (by omega) (sstep_t he s9 r2) g1,j9.t _,g6,g8,j1,h0,hS.sub (.consE 7 rfl (congrArg Value.bool he) (.consE 26 rfl rfl (.cons 2 rfl (.cons 5 rfl (.cons 6 rfl (.cons 24 rfl (.cons 25 rfl (.nil _)))))))),hD,hW,rfl⟩
  have q4:=h7;have h7:=GH h7;have s5:¬ (cutL 32 ((cutL 10 tx).getD (i) [])).getD 0 []=EF:=h7;refine rqr (sp 1 [(33,sV ((cutL 10 tx).getD (i) []))] (sd (EU (x:=(.tmp 33)) (y:=(.const (.string { data:=#[112,111,105,110,116,115] }))) (T:=9) (T':=9) (d:=34) (ty:=4) (gd:=none) (by kernel_rfl) rfl rfl rfl) (sp 1 [(11,.bool (decide ((cutL 10 tx).getD (i) []=([112,111,105,110,116,115]:List UInt8))))] (se (rr (sp 2 [(7,.bool (decide ((cutL 10 tx).getD (i) []=([112,111,105,110,116,115]:List UInt8))))] (ee (NB (NX (rqr (sp 2 [(59,.bool (!(decide ((cutL 10 tx).getD (i) []=([112,111,105,110,116,115]:List UInt8)))))] (se (rc 59 rfl (fun h9=>?_) (fun h9=>?_))))))))))))))
  ·
   have q6:=h9;have h9:=GH (CL h9)
   first | (have j8:KR (cutL 32 ((cutL 10 tx).getD (i) []))=false:=h9) | (have j8:ttIs (cutL 32 ((cutL 10 tx).getD (i) []))=false:=h9) | (have r0:¬ ((cutL 10 tx).getD (i) [])=DD:=h9)
   refine rqr (sp 2 [(61,vI (↑i)),(60,.agg #[vN,vN,vN])] (sd (da 62 (↑i) (1)) (sS (ss 0 0 b1 [vN,vN,vN] [vN,vN,vN] (_::_) (cs:=[_,_,_]) rfl rfl (sp 2 [(4,vI (2)),(3,vI (↑i+1))] (se (BO ((RB (RP (RP (RB (RP ?_)))))))))))));have b6:=IV (by omega) (sstep_n he s4 s5 r0) g1;refine CN (t:=2) (u:=3) (r:=4) (T:=26) (n:=3) [] (by kernel_rfl) rfl (by kernel_rfl) rfl (BG (n:=3) (cs:=#[vN,vN,vN]) (b:=b1) (off:=0) (T:=26) (fz:=(0,0)) (vs:=[vN,vN,vN]) (by simp) rfl) (.inl ⟨by kernel_rfl,rfl⟩) rfl rfl (TC _ (TT (TT (TT (TR _) (TB _ _)) (TB _ _)) (TB _ _))) (IT (IT c4 hJ0) a9) ?_;exact ⟨_,(congrArg (fun p:Int × Int=>Value.tuple #[_,vI p.1,vI p.2]) (show _=(BQ tx).2 from (congrArg Prod.snd b6).symm)),rfl,((show (⟨[],[],[]⟩:Yard)=(BQ tx).1 from (congrArg Prod.fst b6).symm)▸(BS (IsSl.nil _) (IsSl.nil _) (IsRows.nil _)))⟩
  have q6:=h9;have h9:=FT (BW h9)
  first | (have r1:KR (cutL 32 ((cutL 10 tx).getD (i) []))=true:=h9) | (have r2:ttIs (cutL 32 ((cutL 10 tx).getD (i) []))=true:=h9) | (have m7:((cutL 10 tx).getD (i) [])=DD:=h9)
  refine AH (NB (NX (rr (sd (da 63 (↑i) (1)) (sp 1 [(26,vI (↑i+1))] (ee ?_))))));refine AG ((cutL 10 tx).length-(i+1)) (by omega) ?_;intro a w hS hD hW;exact ⟨m8,i+1,true,Y,vS a4 Y.cars.length a5,b7,vS a6 Y.room.length a7,b0,vS a2 a1.length a3,a8,a1,(IT hJ0 a9),by omega,OW (by omega) (sstep_p he s4 s5 m7) g1,j9.up,b2,b3,a0,b4,hS.sub (.consE 7 rfl (congrArg Value.bool (decide_eq_true m7)) (.consE 26 rfl rfl (.cons 2 rfl (.cons 5 rfl (.cons 6 rfl (.cons 24 rfl (.cons 25 rfl (.nil _)))))))),hD,hW,rfl⟩
 have q0:=h2;have h2:=BX h2;refine CC 0 ((EP (EP (EB (NX (rq (rqr (sp 3 [(66,.bool (!(e)))] ?_))))))));refine AY 66 rfl (fun p8=>?_) (fun p8=>?_)
 ·
  have b8:=p8;have b8:=CL b8;refine sp 6 [(72,.bool (true))] (se (rct 72 rfl (rqr (sp 2 [(74,vI (↑((cutL 10 tx).length-1))),(73,.agg #[vN,vN,vN])] (sd (da 75 (↑((cutL 10 tx).length-1)) (1)) (sS (ss 0 0 b1 [vN,vN,vN] [vN,vN,vN] (_::_) (cs:=[_,_,_]) rfl rfl (sp 2 [(4,vI (2)),(3,vI ((↑((cutL 10 tx).length-1))+1))] (se (BO ((RP ?_))))))))))));have b6:=(show BQ tx=(AP,↑((cutL 10 tx).length-1)+1,2) from (QK (by omega) g1 (.inl b8)).trans (by rw [show (i:Int)=↑((cutL 10 tx).length-1) by omega]));refine CN (t:=2) (u:=3) (r:=4) (T:=26) (n:=3) [] (by kernel_rfl) rfl (by kernel_rfl) rfl (BG (n:=3) (cs:=#[vN,vN,vN]) (b:=b1) (off:=0) (T:=26) (fz:=(0,0)) (vs:=[vN,vN,vN]) (by simp) rfl) (.inl ⟨by kernel_rfl,rfl⟩) rfl rfl (TC _ (TT (TT (TT (TR _) (TB _ _)) (TB _ _)) (TB _ _))) (IT c4 hJ0) ?_;exact ⟨_,(congrArg (fun p:Int × Int=>Value.tuple #[_,vI p.1,vI p.2]) (show _=(BQ tx).2 from (congrArg Prod.snd b6).symm)),rfl,((show (⟨[],[],[]⟩:Yard)=(BQ tx).1 from (congrArg Prod.fst b6).symm)▸(BS (IsSl.nil _) (IsSl.nil _) (IsRows.nil _)))⟩
 have b8:=p8;have b8:=BW b8;refine sp 2 [(68,vI (↑((cutL 10 tx).length-1))),(67,vS i7 (cutL ((10:UInt8)) tx).length i8)] (sd (di 69 1 ((cutL 10 tx).length-1) c5.addr) (sd (dl 70 (DO c5 ((cutL 10 tx).length-1) (by omega))) (sd (HM (x:=(.tmp 70)) (y:=(.const (.string { data:=#[] }))) (T:=9) (T':=9) (d:=71) (ty:=4) (gd:=(some (2,false))) (by kernel_rfl) (by kernel_rfl) rfl rfl) (sp 1 [(72,.bool (!(decide ((cutL ((10:UInt8)) tx).getD ((cutL 10 tx).length-1) []=([]:List UInt8)))))] (se (rc 72 rfl (fun i6=>?_) (fun i6=>?_)))))))
 ·
  have k4:=i6;have i6:=GH (CL i6);refine rqr (sp 2 [(74,vI (↑((cutL 10 tx).length-1))),(73,.agg #[vN,vN,vN])] (sd (da 75 (↑((cutL 10 tx).length-1)) (1)) (sS (ss 0 0 b1 [vN,vN,vN] [vN,vN,vN] (_::_) (cs:=[_,_,_]) rfl rfl (sp 2 [(4,vI (2)),(3,vI ((↑((cutL 10 tx).length-1))+1))] (se (BO ((RP ?_)))))))));have b6:=(show BQ tx=(AP,↑((cutL 10 tx).length-1)+1,2) from (QK (by omega) g1 (.inr i6)).trans (by rw [show (i:Int)=↑((cutL 10 tx).length-1) by omega]));refine CN (t:=2) (u:=3) (r:=4) (T:=26) (n:=3) [] (by kernel_rfl) rfl (by kernel_rfl) rfl (BG (n:=3) (cs:=#[vN,vN,vN]) (b:=b1) (off:=0) (T:=26) (fz:=(0,0)) (vs:=[vN,vN,vN]) (by simp) rfl) (.inl ⟨by kernel_rfl,rfl⟩) rfl rfl (TC _ (TT (TT (TT (TR _) (TB _ _)) (TB _ _)) (TB _ _))) (IT c4 hJ0) ?_;exact ⟨_,(congrArg (fun p:Int × Int=>Value.tuple #[_,vI p.1,vI p.2]) (show _=(BQ tx).2 from (congrArg Prod.snd b6).symm)),rfl,((show (⟨[],[],[]⟩:Yard)=(BQ tx).1 from (congrArg Prod.fst b6).symm)▸(BS (IsSl.nil _) (IsSl.nil _) (IsRows.nil _)))⟩
 have k4:=i6;have i6:=FT (BW i6);have s2:lastT tx=[]:=i6;refine AH (NX (rq (rqr (sd (dnb 76 0 0 b1 [vS a4 Y.cars.length a5,vS a6 Y.room.length a7,vS a2 a1.length a3]) (sfz (A:=((bX b1 #[vS a4 Y.cars.length a5,vS a6 Y.room.length a7,vS a2 a1.length a3] 26)::(b0++(a8++F)))) AD b2 (PM.symm) (fun v8 g4 b5=>?_))))));replace a0:=a0.mono g4;obtain ⟨n7,n9,n8,o2,j5,o0,o1,o3⟩:=id b5;cases j5;refine sfz (A:=((bX b1 #[vS a4 Y.cars.length a5,vS a6 Y.room.length a7,vS a2 a1.length a3] 26)::(a8++F))) 0 b3 (PM.symm) (fun v9 f1 b9=>?_);replace a0:=a0.mono f1;replace b5:=b5.mono f1;obtain ⟨o4,o6,o5,o9,j6,o7,o8,p0⟩:=id b9;cases j6;refine sfz (A:=((bX b1 #[vS a4 Y.cars.length a5,vS a6 Y.room.length a7,vS a2 a1.length a3] 26)::F)) undef b4 (PM.symm) (fun x0 c8 g2=>?_);replace a0:=a0.mono c8;replace b5:=b5.mono c8;replace b9:=b9.mono c8;obtain ⟨p1,p3,p2,p6,j7,p4,p5,p7⟩:=id g2;cases j7;have e4:=a0.isRows g2;have k3:=a0.1;obtain ⟨m9,n1,n0,n4,m6,j4,n2,n3,n5,n6⟩:=id e4
 injection j4 with fr71_e1 fr71_e2 fr71_e3;subst fr71_e1;subst fr71_e3
 refine sd (dc 77 (fun I' hI=>(LX I' _ (Y) ((BS b5 b9 e4).mono hI) :))) (sp 1 [(12,vI ((checkErr Y)))] (sn (sp 2 [(79,.bool (!(cmp .eql ((checkErr Y)) (0))))] (se (rc 79 rfl (fun i9=>?_) (fun i9=>?_))))))
 ·
  have k5:=i9;have i9:=DE (CL i9);refine rqr (sp 2 [(81,vI ((checkErr Y))),(80,.agg #[vN,vN,vN])] (sS (ss 0 0 b1 [vN,vN,vN] [vN,vN,vN] (_::_) (cs:=[_,_,_]) rfl rfl (sp 2 [(4,vI ((checkErr Y))),(3,vI (0))] (se (BO ((RP ?_))))))));have b6:=read_err (by omega) g1 b8 s2 i9;refine CN (t:=2) (u:=3) (r:=4) (T:=26) (n:=3) [] (by kernel_rfl) rfl (by kernel_rfl) rfl (BG (n:=3) (cs:=#[vN,vN,vN]) (b:=b1) (off:=0) (T:=26) (fz:=(0,0)) (vs:=[vN,vN,vN]) (by simp) rfl) (.inl ⟨by kernel_rfl,rfl⟩) rfl rfl (TC _ (TR _)) (IT (IT (IT (IT c4 hJ0) g4) f1) c8) ?_;exact ⟨_,(congrArg (fun p:Int × Int=>Value.tuple #[_,vI p.1,vI p.2]) (show _=(BQ tx).2 from (congrArg Prod.snd b6).symm)),rfl,((show (⟨[],[],[]⟩:Yard)=(BQ tx).1 from (congrArg Prod.fst b6).symm)▸(BS (IsSl.nil _) (IsSl.nil _) (IsRows.nil _)))⟩
 have k5:=i9;have i9:=DF (BW i9);refine AH (NX (rqr (sd (dnb 82 0 0 b1 [vS a4 Y.cars.length a5,vS a6 Y.room.length a7,vS a2 a1.length a3]) (sS (ss 0 0 b1 [vS a4 Y.cars.length a5,vS a6 Y.room.length a7,vS a2 a1.length a3] [vS a4 Y.cars.length a5,vS a6 Y.room.length a7,vS a2 a1.length a3] (_::_) (cs:=[_,_,_]) rfl rfl (sp 2 [(4,vI (0)),(3,vI (0))] (se (BO ?_))))))));have b6:=read_fine (by omega) g1 b8 s2 (by omega);refine CN (t:=2) (u:=3) (r:=4) (T:=26) (n:=3) [] (by kernel_rfl) rfl (by kernel_rfl) rfl (BG (n:=3) (cs:=#[vS a4 Y.cars.length a5,vS a6 Y.room.length a7,vS a2 a1.length a3]) (b:=b1) (off:=0) (T:=26) (fz:=(0,0)) (vs:=[vS a4 Y.cars.length a5,vS a6 Y.room.length a7,vS a2 a1.length a3]) (by simp) rfl) (.inl ⟨by kernel_rfl,rfl⟩) rfl rfl (TC _ (TR _)) (IT (IT (IT (IT c4 hJ0) g4) f1) c8) ?_;exact ⟨_,(congrArg (fun p:Int × Int=>Value.tuple #[_,vI p.1,vI p.2]) (show _=(BQ tx).2 from (congrArg Prod.snd b6).symm)),rfl,((show (⟨Y.cars,Y.room,Y.tracks⟩:Yard)=(BQ tx).1 from (congrArg Prod.fst b6).symm)▸(BS b5 b9 e4))⟩
noncomputable def c_cutR (p:List Nat):Code:=sub (AU Tryz.f125) p
theorem cutR_ct (I:Imm) (s:List UInt8) (bb:UInt8) (hs:s.length≤1000000):Ct Tryz.prog 125 #[sV s,.int .u8 ↑bb.toNat] I ([]) (fun v I' M'=>∃ u:Value,v=u∧M'=[]∧NG I' u (cutL bb s)):=by
 refine fr (args:=[_,_]) (N:=35) Tryz.func125 (fun F=>?_);show Run _ _ (c_cutR []) _ _ [(0,sV (s)),(1,.int .u8 (↑bb.toNat))] _ _;refine rnm (rqr ?_);refine sp 1 [(4,vN)] (sn (sp 1 [(5,vN)] (sn (sp 1 [(6,vI (0))] (se (rq (rqr (sp 1 [(7,vI (0))] (se (rb 0 ?_))))))))));refine rl (fun mz a w=>∃ J0:Imm,∃ i:Nat,∃ a0:Nat,∃ a5:List (List UInt8),∃ a7:Value,∃ a3:Seg,(I.le J0)∧(Cutting bb s i a0 a5)∧(Own 9 1 EX a7 (a5) a3)∧Slots 35 [(5,a7),(6,vI ↑a0),(7,vI ↑i),(0,sV (s)),(1,.int .u8 (↑bb.toNat)),(4,vN)] a∧a.defers=[]∧St J0 ((a3++F)) w∧mz=s.length+1-i) ?_ ?_
 ·intro a w hS hD hW;exact ⟨_,I,0,0,[],(vN),[],IR _,Cutting.start,(Own.nil _ _ _),hS.sub (.cons 5 rfl (.cons 6 rfl (.cons 7 rfl (.cons 0 rfl (.cons 1 rfl (.cons 4 rfl (.nil _))))))),hD,hW,rfl⟩
 rintro mz a w ⟨J0,i,a0,a5,a7,a3,hJ0,hc,a4,hS,hD,hW,rfl⟩
 refine AX hS hD hW ?_;clear hS hD hW a w;obtain ⟨a1,a2,a8,b2⟩:=a4.shape;subst a8;have d9:=hc.le;refine rq (rqr (sp 4 [(11,.bool (cmp .leq (↑i) (↑(s).length)))] (se (rc 11 rfl (fun h1=>?_) (fun h1=>?_)))))
 ·
  have b3:=h1;have h1:=leq_t h1;refine AH (NX (rq (rb 1 (rqr (sp 5 [(18,.bool (cmp .eql (↑i) (↑(s).length)))] ?_)))));refine AY 18 rfl (fun h2=>?_) (fun h2=>?_)
  ·
   have a6:=h2;have a6:=DF a6;refine sp 6 [(24,.bool (true))] (se (rct 24 rfl (rq ?_)));have d5:=hc.frm_le (by omega);have c9:=hc.len;have b6:=hc.last (by omega);refine rr (sp 4 [(28,vI (↑i)),(27,vI (↑a0)),(26,sV (s)),(25,vS a1 a5.length a2)] (sd (GN (x:=(.tmp 26)) (lo:=(some (.tmp 27))) (hi:=(some (.tmp 28))) (T:=9) (a0) (i) (d:=29) (ty:=9) (gd:=none) (by kernel_rfl) rfl (by kernel_rfl) rfl (.inr ⟨_,.i64,rfl,rfl⟩) (.inr ⟨_,.i64,rfl,rfl⟩) (by omega) (by omega)) (sS (sbs 30 9 1 #[sV ((s.drop (a0)).take (i-a0))] (fun b1=>(sS (AN (d:=31) (x:=(.tmp 25)) (y:=(.tmp 30)) (T:=87) (T':=87) (E:=9) (E':=9) (sz:=1) (bs:=16) (z:=sV (([]:List UInt8))) (cell:=EX) (xs:=a5) (ys:=[((s.drop (a0)).take (i-a0):List UInt8)]) (Ms:=a3) (ty:=87) (gd:=none) (by kernel_rfl) rfl (by kernel_rfl) (by kernel_rfl) (by kernel_rfl) (by kernel_rfl) (by kernel_rfl) (by decide) (by kernel_rfl) rfl rfl (a4) (PM.symm) (FM _) (CI 0 rfl rfl) (by first | omega | (first | omega | (simp only [LA,LC,LN];omega))) (fun v3 b8 c7=>(AR (M':=((b8++F))) (fun w h=>(h.perm PM).sub (TC _ (TR _))) ?_)))))))));obtain ⟨d0,d2,d7,e0⟩:=c7.shape;subst d7;refine sp 1 [(5,vS d0 (a5++([((s.drop (a0)).take (i-a0):List UInt8)])).length d2)] (se (rr (sp 1 [(32,vI (↑i))] (sd (da 33 (↑i) (1)) (sp 1 [(6,vI (↑i+1))] (ee (NB (NX (rr (sp 1 [(12,vI (↑i))] (sd (da 13 (↑i) (1)) (sp 1 [(7,vI (↑i+1))] (ee ?_)))))))))))));refine AG (s.length+1-(i+1)) (by omega) ?_;intro a w hS hD hW;exact ⟨J0,i+1,i+1,a5++([((s.drop (a0)).take (i-a0):List UInt8)]),vS d0 (a5++([((s.drop (a0)).take (i-a0):List UInt8)])).length d2,b8,hJ0,b6,c7,hS.sub (.consE 5 rfl rfl (.consE 6 rfl rfl (.consE 7 rfl rfl (.cons 0 rfl (.cons 1 rfl (.cons 4 rfl (.nil _))))))),hD,hW,rfl⟩
  have a6:=h2;have a6:=DE a6;refine sp 2 [(20,vI (↑i)),(19,sV (s))] (sd (HI (x:=(.tmp 19)) (y:=(.tmp 20)) (T:=9) (i) (d:=21) (ty:=5) (gd:=(some (4,false))) (by kernel_rfl) (by kernel_rfl) (by kernel_rfl) rfl rfl (by omega)) (sp 3 [(24,.bool (cmp .eql (BU s (i)) (↑bb.toNat)))] (se (rc 24 rfl (fun h3=>?_) (fun h3=>?_)))))
  ·
   have b5:=h3;have h3:=DF h3;refine rq ?_;have d5:=hc.frm_le (by omega);have c9:=hc.len;have b6:=hc.hit (by omega) (byteAt_eq.1 (by omega));refine rr (sp 4 [(28,vI (↑i)),(27,vI (↑a0)),(26,sV (s)),(25,vS a1 a5.length a2)] (sd (GN (x:=(.tmp 26)) (lo:=(some (.tmp 27))) (hi:=(some (.tmp 28))) (T:=9) (a0) (i) (d:=29) (ty:=9) (gd:=none) (by kernel_rfl) rfl (by kernel_rfl) rfl (.inr ⟨_,.i64,rfl,rfl⟩) (.inr ⟨_,.i64,rfl,rfl⟩) (by omega) (by omega)) (sS (sbs 30 9 1 #[sV ((s.drop (a0)).take (i-a0))] (fun b4=>(sS (AN (d:=31) (x:=(.tmp 25)) (y:=(.tmp 30)) (T:=87) (T':=87) (E:=9) (E':=9) (sz:=1) (bs:=16) (z:=sV (([]:List UInt8))) (cell:=EX) (xs:=a5) (ys:=[((s.drop (a0)).take (i-a0):List UInt8)]) (Ms:=a3) (ty:=87) (gd:=none) (by kernel_rfl) rfl (by kernel_rfl) (by kernel_rfl) (by kernel_rfl) (by kernel_rfl) (by kernel_rfl) (by decide) (by kernel_rfl) rfl rfl (a4) (PM.symm) (FM _) (CI 0 rfl rfl) (by first | omega | (first | omega | (simp only [LA,LC,LN];omega))) (fun v6 b9 c8=>(AR (M':=((b9++F))) (fun w h=>(h.perm PM).sub (TC _ (TR _))) ?_)))))))));obtain ⟨d1,d3,d8,e1⟩:=c8.shape;subst d8;refine sp 1 [(5,vS d1 (a5++([((s.drop (a0)).take (i-a0):List UInt8)])).length d3)] (se (rr (sp 1 [(32,vI (↑i))] (sd (da 33 (↑i) (1)) (sp 1 [(6,vI (↑i+1))] (ee (NB (NX (rr (sp 1 [(12,vI (↑i))] (sd (da 13 (↑i) (1)) (sp 1 [(7,vI (↑i+1))] (ee ?_)))))))))))));refine AG (s.length+1-(i+1)) (by omega) ?_;intro a w hS hD hW;exact ⟨J0,i+1,i+1,a5++([((s.drop (a0)).take (i-a0):List UInt8)]),vS d1 (a5++([((s.drop (a0)).take (i-a0):List UInt8)])).length d3,b9,hJ0,b6,c8,hS.sub (.consE 5 rfl rfl (.consE 6 rfl rfl (.consE 7 rfl rfl (.cons 0 rfl (.cons 1 rfl (.cons 4 rfl (.nil _))))))),hD,hW,rfl⟩
  have b5:=h3;have h3:=DE h3;have d6:=mt byteAt_eq.2 h3;refine AH (NB (NX (rr (sp 1 [(12,vI (↑i))] (sd (da 13 (↑i) (1)) (sp 1 [(7,vI (↑i+1))] (ee ?_)))))));refine AG (s.length+1-(i+1)) (by omega) ?_;intro a w hS hD hW;exact ⟨J0,i+1,a0,a5,vS a1 a5.length a2,a3,hJ0,hc.miss (by omega) d6,a4,hS.sub (.consE 5 rfl rfl (.consE 6 rfl rfl (.consE 7 rfl rfl (.cons 0 rfl (.cons 1 rfl (.cons 4 rfl (.nil _))))))),hD,hW,rfl⟩
 have b3:=h1;have h1:=leq_f h1;refine CC 0 ((EP (EP (EB (NX (rq ?_))))));have c9:=hc.len;refine HC (B:=(F)) ([]:List UInt8) a4 (by first | omega | (simp only [LS,LC,LN,LA,LK,LD] <;> omega) | decide) (PR _) (PR _) (fun I7 b7 a9=>?_);obtain ⟨c0,c2,c1,c5,b0,c3,c4,c6⟩:=id a9;cases b0;refine rr (sp 2 [(4,vS a1 a5.length a2)] (se (BO ?_)));have d4:=hc.done (by omega);refine AE (t:=4) [] (by kernel_rfl) rfl (TR _) (IT hJ0 b7) ?_;exact ⟨_,rfl,rfl,(d4▸a9)⟩
end Go.Proofs.YtcaocbhbofejnaaGreatDoor

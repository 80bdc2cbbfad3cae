/- A part of the proof of the laws of this seat. -/
import Derived.Test.YtgcemienebmdeaaGreatLinenStruckP8
import Derived.Test.YtgcemienebmdeaaGreatP1
import Derived.Conc.Holds
import Derived.Leaving
set_option linter.unusedVariables false
set_option linter.unusedSimpArgs false
namespace Go.Sl
open Go Go.ChangeShapes Go.WideShapes Go.Deep Go.Sh
section
variable {H:Type} {enc:TypeId × Value→H} {P:Program} {W:World}
def mixB (P:Program) (t:TypeId) (ks:List Bool):Bool:=match P.underlying t with
  | some (.struct fs)=>decide (P.cellsOf t=ks.length)&&(decide (fs.size=ks.length)&&(List.range ks.length).all fun i=>match fs[i]? with
    | some f=>decide (f.offset=i)&&(decide (P.cellsOf f.type=1)&&(match P.underlying f.type with | some (.int .i64)=>decide (ks.getD i false=false) | some .bool=>decide (ks.getD i false=true) | _=>false))
    | none=>false)
  | _=>false
def isMix (ks:List Bool) (i:Nat) (v:Value):Prop:=if ks.getD i false=true then ∃ b,v=.bool b else ∃ z,v=.int .i64 z
theorem mix_cells {t:TypeId} {ks:List Bool} {fuel:Nat} {cs:List Value} {x:DataW H × List MemPlace} (hB:mixB P t ks=true) (h:DataW.trod enc P W 0 (fun _=>true) true fuel t cs=some x):cs.length=ks.length∧∀ i,i<ks.length→∃ v,cs[i]?=some v∧isMix ks i v:=by
  unfold mixB at hB
  split at hB
  · rename_i fs hu
    simp only [Bool.and_eq_true,decide_eq_true_eq,List.all_eq_true,List.mem_range] at hB;obtain ⟨b1,b2,b3⟩:=hB;obtain ⟨xs,m,_,_,g3,g4,g5⟩:=DataW.trod_struct hu h;refine ⟨g3.trans b1,fun i hi=>?_⟩;have b4:=b3 i hi
    split at b4
    · rename_i f hf
      simp only [Bool.and_eq_true,decide_eq_true_eq] at b4;obtain ⟨c1,c2,c3⟩:=b4;have g6:=g5 i f hf;rw [c1,c2] at g6;have hxi:i<xs.length:=by omega
      rw [List.getElem?_eq_getElem hxi] at g6;have key:∀ v,(cs.drop i).take 1=[v]→cs[i]?=some v:=fun v hv=>by
        have:=congrArg (fun l:List Value=>l[0]?) hv
        simpa [List.getElem?_take,List.getElem?_drop] using this
      split at c3
      · rename_i hT
        obtain ⟨z,e1,_,_⟩:=DataW.trod_int hT g6;exact ⟨_,key _ e1,by unfold isMix;rw [if_neg (by rw [of_decide_eq_true c3];decide)];exact ⟨z,rfl⟩⟩
      · rename_i hT
        obtain ⟨z,e1,_⟩:=DataW.trod_bool hT g6;exact ⟨_,key _ e1,by unfold isMix;rw [if_pos (of_decide_eq_true c3)];exact ⟨z,rfl⟩⟩
      · cases c3
    · cases b4
  · cases hB
theorem slip_of {t:TypeId} {fuel:Nat} {cs:List Value} {x:DataW H × List MemPlace} (hB:mixB P t [false,false,false,false,false,false,true,false]=true) (h:DataW.trod enc P W 0 (fun _=>true) true fuel t cs=some x):∃ s:Slip,cs=CZ s:=by
  obtain ⟨hl,hp⟩:=mix_cells hB h;obtain ⟨v0,e0,z0,rfl⟩:=hp 0 (by decide);obtain ⟨v1,e1,z1,rfl⟩:=hp 1 (by decide);obtain ⟨v2,e2,z2,rfl⟩:=hp 2 (by decide);obtain ⟨v3,e3,z3,rfl⟩:=hp 3 (by decide);obtain ⟨v4,e4,z4,rfl⟩:=hp 4 (by decide);obtain ⟨v5,e5,z5,rfl⟩:=hp 5 (by decide);obtain ⟨v6,e6,z6,rfl⟩:=hp 6 (by decide);obtain ⟨v7,e7,z7,rfl⟩:=hp 7 (by decide)
  match cs,hl with
  | [a,b,c,d,e,f,g,i],_=>
    simp only [List.getElem?_cons_zero,List.getElem?_cons_succ,Option.some.injEq] at e0 e1 e2 e3 e4 e5 e6 e7;exact ⟨⟨z0,z1,z2,z3,z4,z5,z6,z7⟩,by rw [e0,e1,e2,e3,e4,e5,e6,e7];rfl⟩
theorem keep_of {t:TypeId} {fuel:Nat} {cs:List Value} {x:DataW H × List MemPlace} (hB:mixB P t [false,false,false]=true) (h:DataW.trod enc P W 0 (fun _=>true) true fuel t cs=some x):∃ k:Keep,cs=IL k:=by
  obtain ⟨hl,hp⟩:=mix_cells hB h;obtain ⟨v0,e0,z0,rfl⟩:=hp 0 (by decide);obtain ⟨v1,e1,z1,rfl⟩:=hp 1 (by decide);obtain ⟨v2,e2,z2,rfl⟩:=hp 2 (by decide)
  match cs,hl with
  | [a,b,c],_=>
    simp only [List.getElem?_cons_zero,List.getElem?_cons_succ,Option.some.injEq] at e0 e1 e2;exact ⟨⟨z0,z1,z2⟩,by rw [e0,e1,e2];rfl⟩
instance:Inhabited Slip:=⟨AB⟩
instance:Inhabited Keep:=⟨AN⟩
theorem slips_of {t e : TypeId} {fuel : Nat} {v : Value} {d : DataW H} {p : List MemPlace} (ht : P.underlying t = some (.slice e)) (hB : mixB P e [false, false, false, false, false, false, true, false] = true) (hc : P.cellsOf e = 8) (hb : 0 < P.bytesOf e)
    (h:DataW.trod enc P W 0 (fun _=>true) true fuel t [v]=some (d,p)) (hl:OW P t d):∃ xs:List Slip,GM (QH W) v xs:=by
  obtain ⟨xs,h1,_⟩:=sl_of (cell:=BA) (dflt:=AB) (Q:=fun _=>True) ht hc (by decide) hb h hl fun n cs d p _ hd _=>by
    obtain ⟨s,rfl⟩:=slip_of hB hd
    exact ⟨s,trivial,fun f hf=>by
      match f,hf with
      | 0,_=>rfl
      | 1,_=>rfl
      | 2,_=>rfl
      | 3,_=>rfl
      | 4,_=>rfl
      | 5,_=>rfl
      | 6,_=>rfl
      | 7,_=>rfl⟩
  exact ⟨xs,h1⟩
theorem keeps_of {t e : TypeId} {fuel : Nat} {v : Value} {d : DataW H} {p : List MemPlace} (ht : P.underlying t = some (.slice e)) (hB : mixB P e [false, false, false] = true) (hc : P.cellsOf e = 3) (hb : 0 < P.bytesOf e)
    (h:DataW.trod enc P W 0 (fun _=>true) true fuel t [v]=some (d,p)) (hl:OW P t d):∃ xs:List Keep,GL (QH W) v xs:=by
  obtain ⟨xs,h1,_⟩:=sl_of (cell:=FZ) (dflt:=AN) (Q:=fun _=>True) ht hc (by decide) hb h hl fun n cs d p _ hd _=>by
    obtain ⟨s,rfl⟩:=keep_of hB hd
    exact ⟨s,trivial,fun f hf=>by
      match f,hf with
      | 0,_=>rfl
      | 1,_=>rfl
      | 2,_=>rfl⟩
  exact ⟨xs,h1⟩
def linB (P:Program) (t i tr tt tk k ts s:TypeId):Bool:=match P.underlying t with
  | some (.struct fs) => decide (P.cellsOf t = 5) && (decide (fs.toList.map (·.type) = [i, i, tt, tk, ts]) && (decide (fs.toList.map (·.offset) = [0, 1, 2, 3, 4]) && (decide (P.cellsOf i = 1) && (decide (P.cellsOf tt = 1) && (decide (P.cellsOf tk = 1) && (decide (P.cellsOf ts = 1) && (decide (P.cellsOf tr = 1) && (decide (P.cellsOf k = 3) && (decide (P.cellsOf s = 8) &&
      (mixB P k [false,false,false]&&(mixB P s [false,false,false,false,false,false,true,false]&&(decide (0<P.bytesOf tr)&&(decide (0<P.bytesOf i)&&(decide (0<P.bytesOf k)&&decide (0<P.bytesOf s)))))))))))))))
  | _=>false
theorem lin_of {t i tr tt tk k ts s : TypeId} {fuel : Nat} {cs : List Value} {d : DataW H} {p : List MemPlace} (hB : linB P t i tr tt tk k ts s = true) (u1 : P.underlying tt = some (.slice tr)) (u2 : P.underlying tr = some (.slice i)) (u3 : P.underlying i = some (.int .i64)) (u4 : P.underlying tk = some (.slice k)) (u5 : P.underlying ts = some (.slice s))
    (h:DataW.trod enc P W 0 (fun _=>true) true fuel t cs=some (d,p)) (hl:OW P t d):∃ L:Lin,IsLin (QH W) (.agg cs.toArray) L:=by
  unfold linB at hB
  split at hB
  · rename_i fs hu
    simp only [Bool.and_eq_true,decide_eq_true_eq] at hB;obtain ⟨b1,b2,b3,b4,b5,b6,b7,b8,b9,b10,b11,b12,b13,b14,b15,b16⟩:=hB;obtain ⟨fs⟩:=fs;simp only at b2 b3;have b0:fs.length=5:=by simpa using congrArg List.length b2
    match fs,b0,b2,b3 with
    | [f0,f1,f2,f3,f4],_,b2,b3=>
      simp only [List.map_cons,List.map_nil,List.cons.injEq,and_true] at b2 b3;obtain ⟨t0,t1,rfl,rfl,rfl⟩:=b2;obtain ⟨o0,o1,o2,o3,o4⟩:=b3;obtain ⟨xs,n,_,hx,hlen,hlx,hf⟩:=DataW.trod_struct hu h
      match xs,hlx with
      | [y0,y1,y2,y3,y4],_=>
        simp only [Prod.mk.injEq] at hx;obtain ⟨rfl,rfl⟩:=hx;have h0:=hf 0 f0 rfl;have h1:=hf 1 f1 rfl;have h2:=hf 2 f2 rfl;have h3:=hf 3 f3 rfl;have h4:=hf 4 f4 rfl;rw [o0,t0,b4] at h0;rw [o1,t1,b4] at h1;rw [o2,b5] at h2;rw [o3,b6] at h3;rw [o4,b7] at h4
        match cs,hlen.trans b1 with
        | [v0,v1,v2,v3,v4],_=>
          obtain ⟨z0,e0,_,_⟩:=DataW.trod_int u3 h0;obtain ⟨z1,e1,_,_⟩:=DataW.trod_int u3 h1;obtain rfl:v0=.int .i64 z0:=by simpa using e0
          obtain rfl:v1=.int .i64 z1:=by simpa using e1
          obtain ⟨st,hs⟩:=rows_of u1 u2 u3 b8 b13 b4 b14 (v:=v2) (d:=y2.1) (p:=y2.2) h2 (NL hu hl (j:=2) rfl rfl);obtain ⟨ks,hk⟩:=keeps_of u4 b11 b9 b15 (v:=v3) (d:=y3.1) (p:=y3.2) h3 (NL hu hl (j:=3) rfl rfl);obtain ⟨ss,hss⟩:=slips_of u5 b12 b10 b16 (v:=v4) (d:=y4.1) (p:=y4.2) h4 (NL hu hl (j:=4) rfl rfl);exact ⟨⟨z0,z1,st,ks,ss⟩,v2,v3,v4,rfl,hs,hk,hss⟩
  · cases hB
end
end Go.Sl
namespace Go
open Go.Conc
theorem PB {a:Assume} {C:Checked} {os:Os} {f:FuncId} {r:Reach} {Pre:World→Array Value→Prop} {Post:World→Array Value→Value→World→Prop} (h:ReturnsInHanded a C os f r Pre Post):ReturnsInLeavingWide a C os f r Pre Post:=fun e=>by
  obtain ⟨h1,h2,h3,h4,h5⟩:=h e
  exact ⟨h1,h2,h3,h4,fun w tape i hf=>by
    obtain ⟨n,v,w',a1,a2,a3,a4,⟨j,last,e1,e2,q,ho,eh⟩,k⟩:=h5 w tape i hf
    exact ⟨n,v,w',a1,a2,a3,a4,⟨j,last,e1,e2,ho,onlyLeaving_of_quiet q,eh⟩,k⟩⟩
end Go

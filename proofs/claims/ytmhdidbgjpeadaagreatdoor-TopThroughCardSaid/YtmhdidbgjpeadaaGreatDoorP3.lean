/- A part of the proof of the laws of this seat. -/
import Derived.Test.YtmhdidbgjpeadaaGreatDoorP2
import Derived.Test.YtmhdidbgjpeadaaGreatDoorP1
import Derived.Test.YtmhdidbgjpeadaaGreatDoorProg
import Derived.WalkKit
import Derived.LaidEql
import Derived.Stop.Asserts
import Derived.RowKitTokens
set_option linter.unusedVariables false
set_option linter.unusedSimpArgs false
namespace Go.Sh
open Go Go.Sl
section
variable {α:Type} {p:α→Bool} {xs zs:List α} {i j:Nat} {d:α}
def DelI (p:α→Bool) (xs zs:List α) (i j:Nat):Prop:=zs.length=xs.length∧i<j∧j≤xs.length∧zs.take i=(xs.take j).filter (fun x=>!p x)∧zs.drop j=xs.drop j
theorem DelI.start (hi:i<xs.length) (hp:p (xs.getD i d)=true) (hb:∀ j,j<i→p (xs.getD j d)=false):DelI p xs xs i (i+1):=by
  refine ⟨rfl,by omega,hi,?_,rfl⟩;rw [CF (d:=d) hi,Cm];have h1:(xs.take i).filter (fun x=>!p x)=xs.take i:=List.filter_eq_self.2 fun x hx=>by
    obtain ⟨q,hq,rfl⟩:=Cc.1 hx;rw [Be] at hq;have:=hb q (by omega);simp only [List.getElem_take]
    simpa [List.getD,show q<xs.length by omega] using this
  rw [h1];simp only [Cr,hp,List.filter_nil];simp
theorem DelI.at_j (h:DelI p xs zs i j) (hj:j<xs.length):zs.getD j d=xs.getD j d:=by
  obtain ⟨h1,h2,h3,h4,h5⟩:=h;have e:(zs.drop j)[0]?=(xs.drop j)[0]?:=by rw [h5]
  simp only [List.getElem?_drop,Nat.add_zero] at e;rw [List.getD_eq_getElem?_getD,List.getD_eq_getElem?_getD,e]
theorem drop_next (h:zs.drop j=xs.drop j):zs.drop (j+1)=xs.drop (j+1):=by
  rw [← List.drop_drop,← List.drop_drop,h]
theorem DelI.keep (h:DelI p xs zs i j) (hj:j<xs.length) (hp:p (zs.getD j d)=false):DelI p xs (zs.set i (zs.getD j d)) (i+1) (j+1):=by
  rw [h.at_j hj] at hp ⊢;obtain ⟨h1,h2,h3,h4,h5⟩:=h;refine ⟨by rw [Bv,h1],by omega,hj,?_,?_⟩
  · rw [CF (d:=d) hj,Cm,← h4,CF (d:=d) (by rw [Bv];omega)]
    simp only [Cr,hp,List.filter_nil];have e1:(zs.set i (xs.getD j d)).take i=zs.take i:=by rw [List.take_set_of_le (Bj _)]
    have e2:(zs.set i (xs.getD j d)).getD i d=xs.getD j d:=by rw [List.getD_eq_getElem?_getD,Bp (by omega)];rfl
    rw [e1,e2];simp
  · rw [List.drop_set_of_lt (by omega)];exact drop_next h5
end
def slipsTo (L:Lin) (h:Int):List Slip:=L.slips.filter fun x=>!decide (h<x.hour)
def atL (L:Lin) (h:Int):Lin:=⟨L.places,L.sorts,L.start,L.keeps,slipsTo L h⟩
theorem GoodS.to {L:Lin} (hg:GoodS L.slips) (h:Int):GoodS (atL L h).slips:=hg.sub (Cd _ _) fun x hx=>(Bh.1 hx).1
structure GoodL (L:Lin):Prop where
  places:1≤L.places∧L.places≤4
  sorts:1≤L.sorts∧L.sorts≤2
  start:(L.start.length:Int)=L.places
  rows:∀ r∈L.start,(r.length:Int)=L.sorts
  nums:∀ r∈L.start,∀ n∈r,0≤n∧n≤50
  keeps:L.keeps.length≤4
  keep:∀ k,k<L.keeps.length→keepErr L k=0
  slips:L.slips.length≤8
  slip:∀ k,k<L.slips.length→slipErrAt L k=0
section
variable {L:Lin} (g:GoodL L)
include g
end
end Go.Sh
namespace Go.Sl
open Go
section
variable {ρ:Option Nat} {P:Program} {N:Nat} {ops:Array Oper} {i:Nat} {l:Sl} {I:Imm} {R M:Seg} {ty:TypeId} {gd:Option (Nat × Bool)} {K:Sl→Imm→Seg→Prop} {Q:Exit→Act→World→Prop} {ds:List Deferred}
end
end Go.Sl
namespace Go.Sh
open Go Go.Sl
section
variable {p h:Int} {ks:List Keep} {k:Nat}
end
section
variable {L:Lin} {p since:Int} {n:Nat}
end
section
variable {L:Lin} {xs ys:List Sh.Event} {x:Sh.Event}
end
section
variable {L:Lin} {n:Int} {i:Nat}
end
section
variable {f:Nat→List Int × Bool} {i n:Nat}
end
section
variable {so:Int} {H H':Hs} {k:HKey} {v d:Int}
end
section
variable {L:Lin} {so hour:Int}
end
section
variable {L:Lin} {G:List Gap} {so n X:Int} {i m k:Nat} {s:Slip}
end
section
variable {p kh to f h:Int} {ks:List Keep} {k:Nat}
end
section
variable {L:Lin} (g:GoodL L)
include g
omit g
theorem strictZ {l:List Int}:Strict cmpZ l:=⟨fun a _ b _ h=>by unfold cmpZ;omega,fun a _=>by unfold cmpZ;omega,fun a _ b _ d _ h1 h2=>by unfold cmpZ at *;omega⟩
section
variable {i:Nat} (g:GoodL L) (hi:i<(HY cmpSlip L.slips).length)
include g hi
end
end
section
variable {L:Lin} {p who frm to:Int} {ks:List Keep} {k:Keep} {i m:Nat}
end
section
variable {L:Lin} {G:List Gap} {n:Int} {i k m:Nat}
variable (g:GoodL L) (hi:i<(sortS L.slips).length)
include g hi
end
section
variable {A:List Slip} {s:Slip} {k:Nat}
end
def CZ (l:List Int) (n:Int):List Int:=l.filter (fun x=>decide (x<n))++n::l.filter (fun x=>decide (n<x))
def DS (l:List Int) (n:Int):List Int:=HY cmpZ (l++[n])
theorem NC (l:List Int) (n:Int):(DS l n).length=l.length+1:=by unfold DS;rw [(KC _).length_eq];simp
theorem putM_length_le (l:List Int) (n:Int):(CZ l n).length≤2*l.length+1:=by
  unfold CZ;have h1:=Cd (fun x=>decide (x<n)) l;have h2:=Cd (fun x=>decide (n<x)) l;simp only [Ad,Aq];omega
theorem putM_mem {l:List Int} {n x:Int}:x∈CZ l n↔x=n∨(x∈l∧x≠n):=by
  unfold CZ;simp only [Ab,Bh,Ac,Ay]
  constructor
  · rintro (⟨h,h1⟩ | h | ⟨h,h1⟩)
    · exact .inr ⟨h,by omega⟩
    · exact .inl h
    · exact .inr ⟨h,by omega⟩
  · rintro (h | ⟨h,h1⟩)
    · exact .inr (.inl h)
    · by_cases hl:x<n
      · exact .inl ⟨h,hl⟩
      · exact .inr (.inr ⟨h,by omega⟩)
theorem putM_asc {l:List Int} {n:Int} (h:Asc l):Asc (CZ l n):=by
  refine List.pairwise_append.2 ⟨h.filter _,List.pairwise_cons.2 ⟨fun x hx=>?_,h.filter _⟩,fun a ha b hb=>?_⟩
  · have:=(Bh.1 hx).2;simpa using this
  · have h1:a<n:=by simpa using (Bh.1 ha).2
    rcases Ac.1 hb with rfl | hb
    · exact h1
    · have h2:n<b:=by simpa using (Bh.1 hb).2
      omega
theorem insI_put {l:List Int} {n:Int} (h:Asc l) (hn:n∉l):DS l n=CZ l n:=by
  have hnd:(l++[n]).Nodup:=Au.2 ⟨h.imp (fun q e=>by omega),by simp,fun a ha b hb e=>hn (by rw [Af.1 hb] at e;exact e▸ha)⟩;have hpd:(CZ l n).Nodup:=(putM_asc h).imp (fun q e=>by omega);refine asc_unique (c:=cmpZ) strictZ ?_ (isort_sorted strictZ hnd) ((putM_asc h).imp fun q=>by unfold cmpZ;omega);refine (KC _).trans ?_;refine (List.perm_ext_iff_of_nodup hnd hpd).2 fun x=>?_
  rw [putM_mem];simp only [Ab,Af]
  constructor
  · rintro (hx | hx)
    · exact .inr ⟨hx,fun e=>hn (e▸hx)⟩
    · exact .inl hx
  · rintro (hx | ⟨hx,_⟩)
    · exact .inr hx
    · exact .inl hx
theorem Rises.put {l:List Int} {n lo hi:Int} (h:Rises l lo hi) (hn:lo≤n∧n≤hi):Rises (CZ l n) lo hi:=
  ⟨putM_asc h.asc,fun x hx=>(putM_mem.1 hx).elim (fun e=>e▸hn) fun q=>h.inb x q.1⟩
def HX (f:List Int→Int→List Int) (W:Wag) (t:Int):Wag:=
  if t=30 then ⟨W.gauges,W.size,W.load,W.brakes,W.heats,true⟩
  else if t>20 then ⟨W.gauges,W.size,W.load,W.brakes,f W.heats (t-20),W.hooks⟩
  else if t>10 then ⟨W.gauges,W.size,W.load,f W.brakes (t-10),W.heats,W.hooks⟩
  else ⟨f W.gauges t,W.size,W.load,W.brakes,W.heats,W.hooks⟩
def AJ (f:List Int→Int→List Int) (W:Wag) (ts:List Int):Wag:=ts.foldl (HX f) W
section
variable {f:List Int→Int→List Int} {W:Wag} {t:Int} {ts:List Int} {k:Nat}
theorem giveW_h (h:t=30):HX f W t=⟨W.gauges,W.size,W.load,W.brakes,W.heats,true⟩:=if_pos h
theorem giveW_e (h1:¬ t=30) (h2:t>20):HX f W t=⟨W.gauges,W.size,W.load,W.brakes,f W.heats (t-20),W.hooks⟩:=by unfold HX;rw [if_neg h1,if_pos h2]
theorem giveW_b (h1:¬ t=30) (h2:¬ t>20) (h3:t>10):HX f W t=⟨W.gauges,W.size,W.load,f W.brakes (t-10),W.heats,W.hooks⟩:=by unfold HX;rw [if_neg h1,if_neg h2,if_pos h3]
theorem giveW_g (h1:¬ t=30) (h2:¬ t>20) (h3:¬ t>10):HX f W t=⟨f W.gauges t,W.size,W.load,W.brakes,W.heats,W.hooks⟩:=by unfold HX;rw [if_neg h1,if_neg h2,if_neg h3]
theorem FU (hk:k<ts.length):AJ f W (ts.take (k+1))=HX f (AJ f W (ts.take k)) (ts.getD k 0):=by
  unfold AJ;rw [CF (d:=0) hk,List.foldl_append];rfl
theorem givenW_done (hk:ts.length≤k):AJ f W (ts.take k)=AJ f W ts:=by rw [Bq hk]
def LackT (W:Wag) (t:Int):Prop:=(1≤t∧t≤3∧t∉W.gauges)∨(11≤t∧t≤13∧t-10∉W.brakes)∨(21≤t∧t≤23∧t-20∉W.heats)∨(t=30∧W.hooks=false)
theorem LackT.other {u:Int} (hu:LackT W u) (ht:LackT W t) (hne:u≠t):LackT (HX CZ W t) u:=by
  rcases ht with ⟨h1,h2,h3⟩ | ⟨h1,h2,h3⟩ | ⟨h1,h2,h3⟩ | ⟨h1,h2⟩
  · rw [giveW_g (by omega) (by omega) (by omega)]
    rcases hu with ⟨a,b,c⟩ | hu | hu | hu
    · exact .inl ⟨a,b,fun q=>(putM_mem.1 q).elim hne (fun q=>c q.1)⟩
    · exact .inr (.inl hu)
    · exact .inr (.inr (.inl hu))
    · exact .inr (.inr (.inr hu))
  · rw [giveW_b (by omega) (by omega) (by omega)]
    rcases hu with hu | ⟨a,b,c⟩ | hu | hu
    · exact .inl hu
    · exact .inr (.inl ⟨a,b,fun q=>(putM_mem.1 q).elim (by omega) (fun q=>c q.1)⟩)
    · exact .inr (.inr (.inl hu))
    · exact .inr (.inr (.inr hu))
  · rw [giveW_e (by omega) (by omega)]
    rcases hu with hu | hu | ⟨a,b,c⟩ | hu
    · exact .inl hu
    · exact .inr (.inl hu)
    · exact .inr (.inr (.inl ⟨a,b,fun q=>(putM_mem.1 q).elim (by omega) (fun q=>c q.1)⟩))
    · exact .inr (.inr (.inr hu))
  · rw [giveW_h h1]
    rcases hu with hu | hu | hu | hu
    · exact .inl hu
    · exact .inr (.inl hu)
    · exact .inr (.inr (.inl hu))
    · exact absurd (hu.1.trans h1.symm) hne
theorem GoodWag.give (hW:GoodWag W) (ht:LackT W t):GoodWag (HX CZ W t)∧HX DS W t=HX CZ W t:=by
  rcases ht with ⟨h1,h2,h3⟩ | ⟨h1,h2,h3⟩ | ⟨h1,h2,h3⟩ | ⟨h1,h2⟩
  · rw [giveW_g (by omega) (by omega) (by omega),giveW_g (by omega) (by omega) (by omega),insI_put hW.gauges.asc h3]
    exact ⟨⟨by unfold CZ;simp only [Ad,Aq];omega,hW.gauges.put (by omega),hW.size,hW.load,hW.brakes,hW.heats⟩,rfl⟩
  · rw [giveW_b (by omega) (by omega) (by omega),giveW_b (by omega) (by omega) (by omega),insI_put hW.brakes.asc h3]
    exact ⟨⟨hW.some,hW.gauges,hW.size,hW.load,hW.brakes.put (by omega),hW.heats⟩,rfl⟩
  · rw [giveW_e (by omega) (by omega),giveW_e (by omega) (by omega),insI_put hW.heats.asc h3]
    exact ⟨⟨hW.some,hW.gauges,hW.size,hW.load,hW.brakes,hW.heats.put (by omega)⟩,rfl⟩
  · rw [giveW_h h1,giveW_h h1]
    exact ⟨⟨hW.some,hW.gauges,hW.size,hW.load,hW.brakes,hW.heats⟩,rfl⟩
structure Bears (W V:Wag):Prop where
  gauges:∀ x∈W.gauges,x∈V.gauges
  size:V.size=W.size
  load:V.load=W.load
  brakes:∀ x∈W.brakes,x∈V.brakes
  heats:∀ x∈W.heats,x∈V.heats
  hooks:W.hooks=true→V.hooks=true
theorem Bears.refl (W:Wag):Bears W W:=⟨fun _ h=>h,rfl,rfl,fun _ h=>h,fun _ h=>h,fun h=>h⟩
theorem Bears.trans {U V:Wag} (h:Bears W U) (k:Bears U V):Bears W V:=
  ⟨fun x q=>k.gauges x (h.gauges x q),k.size.trans h.size,k.load.trans h.load,fun x q=>k.brakes x (h.brakes x q),fun x q=>k.heats x (h.heats x q),fun q=>k.hooks (h.hooks q)⟩
theorem putM_sub {l:List Int} {n:Int}:∀ x∈l,x∈CZ l n:=fun x hx=>putM_mem.2 (by by_cases e:x=n <;> simp_all)
theorem Bears.give (W:Wag) (t:Int):Bears W (HX CZ W t):=by
  unfold HX
  split
  · exact ⟨fun _ h=>h,rfl,rfl,fun _ h=>h,fun _ h=>h,fun _=>rfl⟩
  · split
    · exact ⟨fun _ h=>h,rfl,rfl,fun _ h=>h,putM_sub,fun h=>h⟩
    · split
      · exact ⟨fun _ h=>h,rfl,rfl,putM_sub,fun _ h=>h,fun h=>h⟩
      · exact ⟨putM_sub,rfl,rfl,fun _ h=>h,fun _ h=>h,fun h=>h⟩
theorem given_all:∀ (ts:List Int) (W:Wag),GoodWag W→ts.Nodup→(∀ t∈ts,LackT W t)→GoodWag (AJ CZ W ts)∧AJ DS W ts=AJ CZ W ts∧Bears W (AJ CZ W ts):=by
  intro ts
  induction ts with
  | nil=>intro W h _ _;exact ⟨h,rfl,Bears.refl W⟩
  | cons t ts ih=>
    intro W h hn hl;obtain ⟨g1,g2⟩:=h.give (hl t (by simp));rw [Cb] at hn;obtain ⟨i1,i2,i3⟩:=ih (HX CZ W t) g1 hn.2 fun u hu=>(hl u (by simp [hu])).other (hl t (by simp)) (fun e=>hn.1 (e▸hu))
    refine ⟨i1,?_,(Bears.give W t).trans i3⟩;show AJ DS (HX DS W t) ts=_;rw [g2];exact i2
end
def PT (b:Int) (l:List Int) (m:Nat):List Int:=((List.range m).filter fun j:Nat=>!decide ((j:Int)+1∈l)).map fun j:Nat=>b+((j:Int)+1)
theorem misK_add {b:Int} {l:List Int} {m:Nat} (h:¬ (m:Int)+1∈l):PT b l (m+1)=PT b l m++[b+((m:Int)+1)]:=by
  simp [PT,Dd,Cm,h]
theorem misK_skip {b:Int} {l:List Int} {m:Nat} (h:(m:Int)+1∈l):PT b l (m+1)=PT b l m:=by
  simp [PT,Dd,Cm,h]
theorem misK_len {b:Int} {l:List Int} {m:Nat}:(PT b l m).length≤m:=by
  unfold PT;rw [Bi];exact Cv (Cd ..) (by simp)
structure Mk where
  base:Int
  most:Int
  h:Lst
def EV:Mk:=⟨0,0,noLst⟩
def mkVals (x:Mk):List Value:=[.int .i64 x.base,.int .i64 x.most,.slice x.h.a x.h.l.length x.h.c]
abbrev mkCell:=OP mkVals
abbrev MkOk (I:Imm) (x:Mk):Prop:=AF I (.slice x.h.a x.h.l.length x.h.c) x.h.l
def misP (xs:List Mk):List Int:=xs.flatMap fun x=>PT x.base x.h.l 3
def missM (W:Wag):List Int:=PT 0 W.gauges 3++(PT 10 W.brakes 3++PT 20 W.heats 3)
def KP (W:Wag):List Int:=missM W++if W.hooks=true then [] else [30]
section
variable {W:Wag} {b:Int} {l:List Int} {m:Nat} {x:Int}
theorem misK_mem:x∈PT b l m↔∃ j:Nat,j<m∧¬ (j:Int)+1∈l∧x=b+((j:Int)+1):=by
  simp only [PT,Ai,Bh,Bl,Ck,Al]
  constructor
  · rintro ⟨j,⟨h1,h2⟩,rfl⟩;exact ⟨j,h1,h2,rfl⟩
  · rintro ⟨j,h1,h2,rfl⟩;exact ⟨j,⟨h1,h2⟩,rfl⟩
theorem OV:(PT b l m).Nodup:=by
  unfold PT;exact List.Pairwise.map _ (R:=fun i j:Nat=>i≠j) (fun i j h e=>h (by omega)) (List.nodup_range.filter _)
theorem missA_lack:∀ t∈KP W,LackT W t:=by
  intro t ht;unfold KP missM at ht;rcases Ab.1 ht with ht | ht
  · rcases Ab.1 ht with ht | ht
    · obtain ⟨j,h1,h2,rfl⟩:=misK_mem.1 ht
      exact .inl ⟨by omega,by omega,by rw [Int.zero_add];exact h2⟩
    · rcases Ab.1 ht with ht | ht
      · obtain ⟨j,h1,h2,rfl⟩:=misK_mem.1 ht
        exact .inr (.inl ⟨by omega,by omega,by rw [show (10:Int)+((j:Int)+1)-10=(j:Int)+1 by omega];exact h2⟩)
      · obtain ⟨j,h1,h2,rfl⟩:=misK_mem.1 ht
        exact .inr (.inr (.inl ⟨by omega,by omega,by rw [show (20:Int)+((j:Int)+1)-20=(j:Int)+1 by omega];exact h2⟩))
  · split at ht
    · simp at ht
    · rename_i h
      rw [Af] at ht;exact .inr (.inr (.inr ⟨ht,by simpa using h⟩))
theorem missA_nodup:(KP W).Nodup:=by
  unfold KP missM;refine Au.2 ⟨Au.2 ⟨OV,Au.2 ⟨OV,OV,fun a ha c hc e=>?_⟩,fun a ha c hc e=>?_⟩,by split <;> simp,fun a ha c hc e=>?_⟩
  · obtain ⟨i,h1,_,h2⟩:=misK_mem.1 ha;obtain ⟨j,h3,_,h4⟩:=misK_mem.1 hc;omega
  · obtain ⟨i,h1,_,h2⟩:=misK_mem.1 ha
    rcases Ab.1 hc with hc | hc
    · obtain ⟨j,h3,_,h4⟩:=misK_mem.1 hc;omega
    · obtain ⟨j,h3,_,h4⟩:=misK_mem.1 hc;omega
  · split at hc
    · simp at hc
    · rw [Af] at hc
      rcases Ab.1 ha with ha | ha
      · obtain ⟨j,h3,_,h4⟩:=misK_mem.1 ha;omega
      · rcases Ab.1 ha with ha | ha
        · obtain ⟨j,h3,_,h4⟩:=misK_mem.1 ha;omega
        · obtain ⟨j,h3,_,h4⟩:=misK_mem.1 ha;omega
theorem misK_some {l:List Int} (h:Rises l 1 3) (hs:1≤l.length):(PT 0 l 3).length≤2:=by
  obtain ⟨g,hg⟩:∃ g,g∈l:=by cases l with | nil=>simp at hs | cons a r=>exact ⟨a,by simp⟩
  have hb:=h.inb g hg;have hj:g=((g.toNat-1:Nat):Int)+1:=by omega
  have h1:(PT 0 l 3).length≤((List.range 3).filter fun j:Nat=>!decide (j=g.toNat-1)).length:=by
    unfold PT;rw [Bi];refine (List.Sublist.length_le ?_)
    rw [show ((List.range 3).filter fun j:Nat=>!decide ((j:Int)+1∈l))=(((List.range 3).filter fun j:Nat=>!decide (j=g.toNat-1)).filter fun j:Nat=>!decide ((j:Int)+1∈l)) from by
      rw [List.filter_filter]
      refine List.filter_congr fun j _=>?_
      by_cases e:j=g.toNat-1
      · subst e;rw [← hj];simp [hg]
      · simp [e]]
    exact List.filter_sublist
  have h2:g.toNat-1=0∨g.toNat-1=1∨g.toNat-1=2:=by omega
  rcases h2 with e | e | e <;> rw [e] at h1 <;> exact h1
theorem missA_len (hW:GoodWag W):(KP W).length≤9:=by
  have h1:=misK_some hW.gauges hW.some;have h2:=misK_len (b:=10) (l:=W.brakes) (m:=3);have h3:=misK_len (b:=20) (l:=W.heats) (m:=3);unfold KP missM;simp only [Ad]
  split <;> simp <;> omega
end
section
variable {W V:Wag} {N:Net}
theorem bars_none {W:Wag} {t:Rail}:BU W t 6=[]↔∀ k,k<6→MW W t k=false:=by
  unfold BU;rw [List.map_eq_nil_iff,List.filter_eq_nil_iff];simp
theorem Bears.bars (h:Bears W V) {t:Rail} (hb:BU W t 6=[]):BU V t 6=[]:=by
  rw [bars_none] at hb ⊢;intro k hk;have h0:=hb k hk
  match k,hk with
  | 0,_=>simp only [MW,Bool.not_eq_false',Ay] at h0 ⊢;exact h.gauges _ h0
  | 1,_=>simp only [MW] at h0 ⊢;rw [h.size];exact h0
  | 2,_=>simp only [MW] at h0 ⊢;rw [h.load];exact h0
  | 3,_=>
    simp only [MW,Bool.and_eq_false_iff,Bool.not_eq_false',Ay] at h0 ⊢;exact h0.imp id (h.brakes _)
  | 4,_=>
    simp only [MW,Bool.and_eq_false_iff,Bool.not_eq_false',Ay] at h0 ⊢;exact h0.imp id (h.heats _)
  | 5,_=>
    simp only [MW,Bool.and_eq_false_iff,Bool.not_eq_false'] at h0 ⊢;exact h0.imp id h.hooks
theorem Bears.run (h:Bears W V) {p:Plc} {i:Nat} (hr:(CT W N [] p i).2.2=0):CT V N [] p i=CT W N [] p i:=by
  obtain ⟨_,h2,h3,h4⟩:=QA hr;rw [ok_run h2 h3 h4,ok_run h2 (h.bars h3) h4]
theorem Bears.ok (h:Bears W V):∀ (way:List Int) (p:Plc),okM W N p way→okM V N p way:=by
  intro way
  induction way with
  | nil=>intro p _;trivial
  | cons t r ih=>
    rintro p ⟨h1,h2,h3⟩
    have e:=h.run h2;exact ⟨h1,by rw [e];exact h2,by rw [e];exact ih _ h3⟩
end
theorem giveI_len (W:Wag) (t:Int):(HX DS W t).gauges.length≤W.gauges.length+1∧(HX DS W t).brakes.length≤W.brakes.length+1∧(HX DS W t).heats.length≤W.heats.length+1:=by
  unfold HX
  split
  · exact ⟨by simp,by simp,by simp⟩
  · split
    · exact ⟨by simp,by simp,Nat.le_of_eq (NC _ _)⟩
    · split
      · exact ⟨by simp,Nat.le_of_eq (NC _ _),by simp⟩
      · exact ⟨Nat.le_of_eq (NC _ _),by simp,by simp⟩
theorem givenI_len:∀ (ts:List Int) (W:Wag),(AJ DS W ts).gauges.length≤W.gauges.length+ts.length∧(AJ DS W ts).brakes.length≤W.brakes.length+ts.length∧(AJ DS W ts).heats.length≤W.heats.length+ts.length:=by
  intro ts
  induction ts with
  | nil=>intro W;simp [AJ]
  | cons t ts ih=>
    intro W;have h:=ih (HX DS W t);have h2:=giveI_len W t;show (AJ DS (HX DS W t) ts).gauges.length≤_∧(AJ DS (HX DS W t) ts).brakes.length≤_∧(AJ DS (HX DS W t) ts).heats.length≤_;simp only [Aq];omega
section
variable {W:Wag} {KS:List Mk} {i n:Nat} {h1 h2 h3:Lst}
structure Kinds (W:Wag) (KS:List Mk):Prop where
  len:KS.length=3
  most:∀ i,i<3→(KS.getD i EV).most=3∧0≤(KS.getD i EV).base∧(KS.getD i EV).base≤20
  all:misP KS=missM W
theorem Kinds.of (e1:h1.l=W.gauges) (e2:h2.l=W.brakes) (e3:h3.l=W.heats):Kinds W [⟨0,3,h1⟩,⟨10,3,h2⟩,⟨20,3,h3⟩]:=by
  refine ⟨rfl,fun i hi=>?_,?_⟩
  · match i,hi with
    | 0,_=>exact ⟨rfl,(by decide:(0:Int)≤0),(by decide:(0:Int)≤20)⟩
    | 1,_=>exact ⟨rfl,(by decide:(0:Int)≤10),(by decide:(10:Int)≤20)⟩
    | 2,_=>exact ⟨rfl,(by decide:(0:Int)≤20),(by decide:(20:Int)≤20)⟩
  · simp only [misP,missM,Dc,List.flatMap_nil,Aa,e1,e2,e3]
def outM (KS:List Mk) (i n:Nat):List Int:=misP (KS.take i)++PT (KS.getD i EV).base (KS.getD i EV).h.l n
theorem outM_zero:outM KS i 0=misP (KS.take i):=by simp [outM,PT]
theorem outM_add (h:¬ (n:Int)+1∈(KS.getD i EV).h.l):outM KS i (n+1)=outM KS i n++[(KS.getD i EV).base+((n:Int)+1)]:=by
  unfold outM;rw [misK_add h,Am]
theorem outM_skip (h:(n:Int)+1∈(KS.getD i EV).h.l):outM KS i (n+1)=outM KS i n:=by
  unfold outM;rw [misK_skip h]
theorem outM_next (hi:i<KS.length):outM KS i 3=misP (KS.take (i+1)):=by
  unfold outM misP;rw [CF (d:=EV) hi,Cz];simp
theorem misK_pre {b:Int} {l:List Int} {m:Nat} (h:m≤n):PT b l m <+: PT b l n:=by
  induction h with
  | refl=>exact List.prefix_refl _
  | @step k _ ih=>
    by_cases hx:(k:Int)+1∈l
    · rw [misK_skip hx];exact ih
    · rw [misK_add hx];exact ih.trans (List.prefix_append _ _)
theorem mk_drop (hi:i<KS.length):KS.drop i=KS.getD i EV::KS.drop (i+1):=by
  rw [Ch hi,List.getD,Bf hi];rfl
theorem Kinds.pref (h:Kinds W KS) (hi:i<3) (hn:n<3) (hx:¬ (n:Int)+1∈(KS.getD i EV).h.l):outM KS i n++[(KS.getD i EV).base+((n:Int)+1)] <+: KP W:=by
  rw [← outM_add hx];have e1:misP KS=misP (KS.take i)++(PT (KS.getD i EV).base (KS.getD i EV).h.l 3++misP (KS.drop (i+1))):=by
    have hk:i<KS.length:=by rw [h.len];exact hi
    have:=Ce i KS
    conv=>lhs;rw [← this,mk_drop hk]
    unfold misP;rw [Cz,Dc]
  have e2:PT (KS.getD i EV).base (KS.getD i EV).h.l (n+1) <+: PT (KS.getD i EV).base (KS.getD i EV).h.l 3:=misK_pre (by omega);unfold KP outM;rw [← h.all,e1,Am,Am];exact (List.prefix_append_right_inj _).2 (e2.trans ⟨_,rfl⟩)
theorem Kinds.done (h:Kinds W KS) (hi:3≤i):misP (KS.take i)=missM W:=by rw [Bq (by rw [h.len];exact hi),h.all]
end
theorem Rises.few3 {l:List Int} (h:Rises l 1 3):l.length≤3:=by
  have h1:l ⊆ [1,2,3]:=fun x hx=>by
    have:=h.inb x hx;simp only [Ac,Av,or_false];omega
  exact (show l.Nodup from h.asc.imp fun q e=>by omega).length_le_of_subset h1
def amB (n lo hi:Int):Bool:=cmp .geq n lo&&cmp .leq n hi
theorem GJ {n lo hi:Int} (h:lo≤n∧n≤hi):amB n lo hi=true:=by simp [amB,cmp];omega
theorem given_take {W:Wag} {ts:List Int} (hW:GoodWag W) (hn:ts.Nodup) (hl:∀ t∈ts,LackT W t) (k:Nat):GoodWag (AJ CZ W (ts.take k)):=
  (given_all (ts.take k) W hW (hn.sublist (List.take_sublist _ _)) fun t ht=>hl t (List.mem_of_mem_take ht)).1
theorem filt_yes {l:List Int} {p:Int→Bool} {k:Nat} (hk:k<l.length) (h:p (l.getD k 0)=true):(l.take (k+1)).filter p=(l.take k).filter p++[l.getD k 0]:=by
  rw [CF (d:=0) hk,Cm,Cr,if_pos h,List.filter_nil]
theorem filt_no {l:List Int} {p:Int→Bool} {k:Nat} (hk:k<l.length) (h:p (l.getD k 0)=false):(l.take (k+1)).filter p=(l.take k).filter p:=by
  rw [CF (d:=0) hk,Cm,Cr,if_neg (by rw [h];decide),List.filter_nil,Aa]
def rrM (W:Wag) (N:Net) (p:Plc) (tr:Nat):Plc × Int:=if (CT W N [] p tr).2.2=0 then ((CT W N [] p tr).1,0) else (p,(CT W N [] p tr).2.2)
section
variable {W:Wag} {N:Net} {p:Plc} {tr:Nat}
theorem rrM_7 (h1:¬ p.st=(N.tracks.getD tr AB).a) (h2:¬ p.st=(N.tracks.getD tr AB).b):rrM W N p tr=(p,7):=by unfold rrM;rw [runM_7 h1 h2,if_neg (by decide)]
theorem bars_pos {t:Rail} (h:¬ (BU W t 6).length=0):¬ (BU W t 6).getD 0 0=0:=by
  cases hb:BU W t 6 with
  | nil=>rw [hb] at h;simp at h
  | cons x r=>
    have hx:x∈BU W t 6:=by rw [hb];simp
    obtain ⟨k,_,rfl⟩:=Ai.1 hx;simp;omega
theorem rrM_b (h:p.st=(N.tracks.getD tr AB).a∨p.st=(N.tracks.getD tr AB).b) (hb:¬ (BU W (N.tracks.getD tr AB) 6).length=0):rrM W N p tr=(p,(BU W (N.tracks.getD tr AB) 6).getD 0 0):=by
  unfold rrM;rw [runM_b h (by simp) hb,if_neg (bars_pos hb)]
theorem rrM_8 (h:p.st=(N.tracks.getD tr AB).a∨p.st=(N.tracks.getD tr AB).b) (hb:(BU W (N.tracks.getD tr AB) 6).length=0) (hg:¬ (N.tracks.getD tr AB).gauge=p.ga) (hp:¬ p.st∈N.shops):rrM W N p tr=(p,8):=by
  unfold rrM;rw [runM_8 h (by simp) hb hg hp,if_neg (by decide)]
theorem rrM_k {s:Int} (h:p.st=(N.tracks.getD tr AB).a∨p.st=(N.tracks.getD tr AB).b) (hs:IG (N.tracks.getD tr AB) p.st=s) (hb:(BU W (N.tracks.getD tr AB) 6).length=0) (hg:(N.tracks.getD tr AB).gauge=p.ga∨p.st∈N.shops):rrM W N p tr=(⟨s,(N.tracks.getD tr AB).gauge⟩,0):=by
  unfold rrM;rw [runM_k h hs (by simp) hb hg,if_pos rfl]
end
def rfM (W:Wag) (N:Net):Plc→List Int→Int→Int × Int
  | _,[],_=>(-1,0)
  | p,t::r,i=>if (rrM W N p t.toNat).2=0 then rfM W N (rrM W N p t.toNat).1 r (i+1) else (i,(rrM W N p t.toNat).2)
section
variable {W:Wag} {N:Net} {p:Plc} {L:List Int} {k:Nat}
theorem rfM_stop (hk:k<L.length) (h:¬ (rrM W N p (L.getD k 0).toNat).2=0):rfM W N p (L.drop k) k=((k:Int),(rrM W N p (L.getD k 0).toNat).2):=by rw [NN hk];exact if_neg h
theorem rfM_go (hk:k<L.length) (h:(rrM W N p (L.getD k 0).toNat).2=0):rfM W N p (L.drop k) k=rfM W N (rrM W N p (L.getD k 0).toNat).1 (L.drop (k+1)) ((k+1:Nat):Int):=by rw [NN hk,rfM,if_pos h];rfl
theorem rfM_done (hk:L.length≤k):rfM W N p (L.drop k) k=(-1,0):=by rw [List.drop_of_length_le hk];rfl
theorem rf_one (tr:Nat):(rfM W N p [(tr:Int)] 0).1<0↔(CT W N [] p tr).2.2=0:=by
  simp only [rfM,Bx];unfold rrM
  by_cases h:(CT W N [] p tr).2.2=0 <;> simp [h]
end
theorem hasM_f {xs:List Int} {n:Int} {k:Nat} (h:∀ j,j<k→xs.getD j 0≠n) (hk:xs.length≤k):decide (n∈xs)=false:=Br fun hm=>by
  obtain ⟨j,hj,e⟩:=Cc.1 hm;exact h j (by omega) (by rw [List.getD,Bf hj];exact e)
section
variable {l:List Int} {n:Int} {k:Nat}
theorem filt_ly (hk:k<l.length) (h:l.getD k 0<n):(l.take (k+1)).filter (fun x=>decide (x<n))=(l.take k).filter (fun x=>decide (x<n))++[l.getD k 0]:=filt_yes (p:=fun x=>decide (x<n)) hk (Bg h)
theorem filt_ln (hk:k<l.length) (h:¬ l.getD k 0<n):(l.take (k+1)).filter (fun x=>decide (x<n))=(l.take k).filter (fun x=>decide (x<n)):=filt_no (p:=fun x=>decide (x<n)) hk (Br h)
theorem filt_gy (hk:k<l.length) (h:n<l.getD k 0):(l.take (k+1)).filter (fun x=>decide (n<x))=(l.take k).filter (fun x=>decide (n<x))++[l.getD k 0]:=filt_yes (p:=fun x=>decide (n<x)) hk (Bg h)
theorem filt_gn (hk:k<l.length) (h:¬ n<l.getD k 0):(l.take (k+1)).filter (fun x=>decide (n<x))=(l.take k).filter (fun x=>decide (n<x)):=filt_no (p:=fun x=>decide (n<x)) hk (Br h)
end
structure Rollv where
  gs:Lst
  size:Int
  load:Int
  bs:Lst
  hs:Lst
  hooks:Bool
  firm:Int
  st:Int
  ga:Int
  rate:Int
  limit:Int
  mil:Int
def AC:Rollv:=⟨noLst,0,0,noLst,noLst,false,0,0,0,0,0,0⟩
def HG (x:Rollv):List Value:=[.slice x.gs.a x.gs.l.length x.gs.c,.int .i64 x.size,.int .i64 x.load,.slice x.bs.a x.bs.l.length x.bs.c,.slice x.hs.a x.hs.l.length x.hs.c,.bool x.hooks,.int .i64 x.firm,.int .i64 x.st,.int .i64 x.ga,.int .i64 x.rate,.int .i64 x.limit,.int .i64 x.mil]
abbrev rvL (x:Rollv) (s g m:Int):List Value:=[.slice x.gs.a x.gs.l.length x.gs.c,.int .i64 x.size,.int .i64 x.load,.slice x.bs.a x.bs.l.length x.bs.c,.slice x.hs.a x.hs.l.length x.hs.c,.bool x.hooks,.int .i64 x.firm,.int .i64 s,.int .i64 g,.int .i64 x.rate,.int .i64 x.limit,.int .i64 m]
abbrev rvA (x:Rollv) (s g m:Int):Array Value:=#[.slice x.gs.a x.gs.l.length x.gs.c,.int .i64 x.size,.int .i64 x.load,.slice x.bs.a x.bs.l.length x.bs.c,.slice x.hs.a x.hs.l.length x.hs.c,.bool x.hooks,.int .i64 x.firm,.int .i64 s,.int .i64 g,.int .i64 x.rate,.int .i64 x.limit,.int .i64 m]
abbrev rvN (x:Rollv) (s g m:Int) (p q:Value):List Value:=[.slice x.gs.a x.gs.l.length x.gs.c,.int .i64 x.size,.int .i64 x.load,.slice x.bs.a x.bs.l.length x.bs.c,.slice x.hs.a x.hs.l.length x.hs.c,.bool x.hooks,.int .i64 x.firm,.int .i64 s,.int .i64 g,.int .i64 x.rate,.int .i64 x.limit,.int .i64 m,p,q]
abbrev rvB (x:Rollv) (s g m:Int) (p q:Value):Array Value:=#[.slice x.gs.a x.gs.l.length x.gs.c,.int .i64 x.size,.int .i64 x.load,.slice x.bs.a x.bs.l.length x.bs.c,.slice x.hs.a x.hs.l.length x.hs.c,.bool x.hooks,.int .i64 x.firm,.int .i64 s,.int .i64 g,.int .i64 x.rate,.int .i64 x.limit,.int .i64 m,p,q]
abbrev reL (x:Rollv):List Value:=rvL x x.st x.ga x.mil
abbrev reA (x:Rollv):Array Value:=rvA x x.st x.ga x.mil
abbrev reB (x:Rollv) (p q:Value):Array Value:=rvB x x.st x.ga x.mil p q
abbrev CQ:=OP HG
abbrev NI:=IsSl 12 CQ AC
theorem IH (ys:List Rollv):∀ c∈DM 12 CQ ys,DF c=true:=one_rec (vals:=HG) (fun _=>rfl) (fun _=>rfl) ys
def RollvOk (I:Imm) (x:Rollv):Prop:=AF I (.slice x.gs.a x.gs.l.length x.gs.c) x.gs.l∧AF I (.slice x.bs.a x.bs.l.length x.bs.c) x.bs.l∧AF I (.slice x.hs.a x.hs.l.length x.hs.c) x.hs.l
theorem RollvOk.mono {I J:Imm} {x:Rollv} (h:RollvOk I x) (le:I.le J):RollvOk J x:=⟨h.1.mono le,h.2.1.mono le,h.2.2.mono le⟩
structure Jrnv where
  car:Int
  way:Lst
def AQ:Jrnv:=⟨0,noLst⟩
def jrnvVals (x:Jrnv):List Value:=[.int .i64 x.car,.slice x.way.a x.way.l.length x.way.c]
abbrev FZ:=OP jrnvVals
abbrev IsJrnvs:=IsSl 2 FZ AQ
theorem JO (ys:List Jrnv):∀ c∈DM 2 FZ ys,DF c=true:=one_rec (vals:=jrnvVals) (fun _=>rfl) (fun _=>rfl) ys
abbrev JZ (I:Imm) (x:Jrnv):Prop:=AF I (.slice x.way.a x.way.l.length x.way.c) x.way.l
structure Clr where
  nstops:Int
  ntracks:List Rail
  nshops:List Int
  firms:Int
  owners:List Int
  tolls:List Int
  works:List Int
  cars:List Rollv
  jrns:List Jrnv
abbrev Clr.net (C:Clr):Net:=⟨C.nstops,C.ntracks,C.nshops⟩
abbrev cL (C:Clr) (a1:Option Addr) (c1:Nat) (a2:Option Addr) (c2:Nat) (a3:Option Addr) (c3:Nat) (a4:Option Addr) (c4:Nat) (a5:Option Addr) (c5:Nat) (a6:Option Addr) (c6:Nat) (a7:Option Addr) (c7:Nat):List Value:=[.int .i64 C.nstops,.slice a1 C.ntracks.length c1,.slice a2 C.nshops.length c2,.int .i64 C.firms,.slice a3 C.owners.length c3,.slice a4 C.tolls.length c4,.slice a5 C.works.length c5,.slice a6 C.cars.length c6,.slice a7 C.jrns.length c7]
abbrev cA (C:Clr) (a1:Option Addr) (c1:Nat) (a2:Option Addr) (c2:Nat) (a3:Option Addr) (c3:Nat) (a4:Option Addr) (c4:Nat) (a5:Option Addr) (c5:Nat) (a6:Option Addr) (c6:Nat) (a7:Option Addr) (c7:Nat):Array Value:=#[.int .i64 C.nstops,.slice a1 C.ntracks.length c1,.slice a2 C.nshops.length c2,.int .i64 C.firms,.slice a3 C.owners.length c3,.slice a4 C.tolls.length c4,.slice a5 C.works.length c5,.slice a6 C.cars.length c6,.slice a7 C.jrns.length c7]
def IsClr (I:Imm) (v:Value) (C:Clr):Prop:=∃ v1 v2 v3 v4 v5 v6 v7,v=.agg #[.int .i64 C.nstops,v1,v2,.int .i64 C.firms,v3,v4,v5,v6,v7] ∧
  IW I v1 C.ntracks∧AF I v2 C.nshops∧AF I v3 C.owners∧AF I v4 C.tolls∧AF I v5 C.works∧NI I v6 C.cars∧(∀ x∈C.cars,RollvOk I x)∧IsJrnvs I v7 C.jrns∧(∀ x∈C.jrns,JZ I x)
theorem IsClr.mono {I J:Imm} {v:Value} {C:Clr} (h:IsClr I v C) (le:I.le J):IsClr J v C:=by
  obtain ⟨v1,v2,v3,v4,v5,v6,v7,h0,h1,h2,h3,h4,h5,h6,h7,h8,h9⟩:=h;exact ⟨v1,v2,v3,v4,v5,v6,v7,h0,h1.mono le,h2.mono le,h3.mono le,h4.mono le,h5.mono le,h6.mono le,fun x hx=>(h7 x hx).mono le,h8.mono le,fun x hx=>(h9 x hx).mono le⟩
theorem HZ {I : Imm} {v1 v2 v3 v4 v5 v6 v7 : Value} {st fi : Int} {ts : List Rail} {ss os ls ws : List Int} {cs : List Rollv} {js : List Jrnv} (h1 : IW I v1 ts) (h2 : AF I v2 ss) (h3 : AF I v3 os) (h4 : AF I v4 ls) (h5 : AF I v5 ws) (h6 : NI I v6 cs) (h7 : ∀ x ∈ cs, RollvOk I x) (h8 : IsJrnvs I v7 js) (h9 : ∀ x ∈ js, JZ I x) :
    IsClr I (.agg #[.int .i64 st,v1,v2,.int .i64 fi,v3,v4,v5,v6,v7]) ⟨st,ts,ss,fi,os,ls,ws,cs,js⟩:=⟨v1,v2,v3,v4,v5,v6,v7,rfl,h1,h2,h3,h4,h5,h6,h7,h8,h9⟩
abbrev AL (x:Rollv):Wag:=⟨x.gs.l,x.size,x.load,x.bs.l,x.hs.l,x.hooks⟩
abbrev Clr.car (C:Clr):Rollv:=C.cars.getD 0 AC
def goJ (C:Clr) (s:Plc × Int) (way:List Int):Plc × Int:=(endM C.net s.1 way,if (endM C.net s.1 way).st∈C.works then 0 else s.2+kmM C.net way)
def stM (C:Clr) (k:Nat):Plc × Int:=(C.jrns.take k).foldl (fun s x=>goJ C s x.way.l) (⟨C.car.st,C.car.ga⟩,C.car.mil)
def QK (C:Clr):Plc × Int:=stM C C.jrns.length
structure GoodRoll (C:Clr) (x:Rollv):Prop where
  coach:GoodWag (AL x)
  firm:0≤x.firm∧x.firm<C.firms
  st:0≤x.st∧x.st<C.nstops
  ga:x.ga∈x.gs.l
  rate:0≤x.rate∧x.rate≤20
  limit:1≤x.limit∧x.limit≤300
  mil:0≤x.mil∧x.mil≤x.limit
structure GoodClr (C:Clr):Prop where
  net:GoodNet C.net
  seven:C.ntracks.length≤7
  firms:1≤C.firms∧C.firms≤5
  owners:C.owners.length=C.ntracks.length
  owner:∀ x∈C.owners,0≤x∧x<C.firms
  tolls:(C.tolls.length:Int)=C.firms
  toll:∀ x∈C.tolls,0≤x∧x≤20
  works:Rises C.works 0 (C.nstops-1)
  one:C.cars.length=1
  car:GoodRoll C C.car
  few:C.jrns.length≤2
  runs:∀ k,k<C.jrns.length→(C.jrns.getD k AQ).car=0∧1≤(C.jrns.getD k AQ).way.l.length∧(C.jrns.getD k AQ).way.l.length≤17∧okM (AL C.car) C.net (stM C k).1 (C.jrns.getD k AQ).way.l
section
variable {C:Clr} {W:Wag} {N:Net} {p:Plc} {k:Nat}
theorem stM_zero:stM C 0=(⟨C.car.st,C.car.ga⟩,C.car.mil):=rfl
theorem OE (hk:k<C.jrns.length):stM C (k+1)=goJ C (stM C k) (C.jrns.getD k AQ).way.l:=by
  unfold stM;rw [CF (d:=AQ) hk,List.foldl_append];rfl
def AtP (W:Wag) (N:Net) (p:Plc):Prop:=(0≤p.st∧p.st<N.stops)∧p.ga∈W.gauges
theorem AtP.good (hN:GoodNet N) (hW:GoodWag W) (h:AtP W N p):FY p:=⟨⟨h.1.1,by have:=hN.stops;have:=h.1.2;omega⟩,hW.gauges.inb _ h.2⟩
theorem move_at (hN:GoodNet N) {i:Nat} (hi:i<N.tracks.length) (h:(CT W N [] p i).2.2=0):AtP W N (JJ N p i):=by
  obtain ⟨_,_,hb,_⟩:=QA h;have hr:=hN.at hi;refine ⟨?_,?_⟩
  · show 0≤IG _ _∧IG _ _<N.stops
    unfold IG
    split
    · exact hr.b
    · exact hr.a
  · have:=(bars_none.1 hb) 0 (by decide)
    simp only [MW,Bool.not_eq_false',Ay] at this;exact this
theorem end_at (hN:GoodNet N):∀ (way:List Int) (p:Plc),AtP W N p→okM W N p way→AtP W N (endM N p way):=by
  intro way
  induction way with
  | nil=>intro p h _;exact h
  | cons t r ih=>
    rintro p _ ⟨h1,h2,h3⟩
    have e:=(QA h2).1;exact ih _ (move_at hN h1.2 h2) (e▸h3)
theorem ok_along:∀ (way:List Int) (p:Plc) (c i:Int),okM W N p way→(EW W N [] p way c i).2.1=-1∧(EW W N [] p way c i).2.2=0:=by
  intro way
  induction way with
  | nil=>intro p c i _;exact ⟨rfl,rfl⟩
  | cons t r ih=>
    rintro p c i ⟨h1,h2,h3⟩
    rw [EW,if_pos h2];exact ih _ _ _ h3
theorem ok_in:∀ (way:List Int) (p:Plc),okM W N p way→∀ x∈way,0≤x∧x<(N.tracks.length:Int):=by
  intro way
  induction way with
  | nil=>intro p _ x hx;simp at hx
  | cons t r ih=>
    rintro p ⟨h1,h2,h3⟩ x hx
    rcases Ac.1 hx with rfl | hx
    · omega
    · exact ih _ h3 x hx
theorem km_le (hN:GoodNet N):∀ (way:List Int),(∀ x∈way,0≤x∧x<(N.tracks.length:Int))→0≤kmM N way∧kmM N way≤99*way.length∧(1≤way.length→1≤kmM N way):=by
  intro way
  induction way with
  | nil=>intro _;simp [kmM]
  | cons t r ih=>
    intro h;have h1:=ih fun x hx=>h x (by simp [hx])
    have h2:=h t (by simp);have h3:=(hN.at (k:=t.toNat) (by omega)).km;simp only [kmM,Aq];omega
theorem GoodClr.at (h:GoodClr C):∀ k,k≤C.jrns.length→AtP (AL C.car) C.net (stM C k).1∧0≤(stM C k).2∧(stM C k).2≤300+1683*k:=by
  intro k
  induction k with
  | zero=>
    intro _;have hc:=h.car;have h1:=hc.mil;have h2:=hc.limit;exact ⟨⟨hc.st,hc.ga⟩,h1.1,by rw [stM_zero];simp only;omega⟩
  | succ k ih=>
    intro hk;obtain ⟨h1,h2,h3⟩:=ih (by omega);obtain ⟨r1,r2,r3,r4⟩:=h.runs k (by omega);rw [OE (by omega)];have hkm:=km_le h.net _ (ok_in _ _ r4);refine ⟨end_at h.net _ _ h1 r4,?_,?_⟩
    · unfold goJ;simp only;split <;> omega
    · unfold goJ;simp only;split <;> omega
theorem endM_take {way:List Int} (hk:k<way.length):endM N p (way.take (k+1))=JJ N (endM N p (way.take k)) (way.getD k 0).toNat:=by
  rw [CF (d:=0) hk,endM_append];rfl
theorem kmM_take {way:List Int} (hk:k<way.length):kmM N (way.take (k+1))=kmM N (way.take k)+(N.tracks.getD (way.getD k 0).toNat AB).km:=by
  rw [CF (d:=0) hk,kmM_append];simp [kmM]
end
structure IsMNet (T:TypeId) (I:Imm) (b:Nat) (v1 v2 v3 v4 v5 v6 v7:Value) (C:Clr):Prop where
  blk:I.blk b=some (Obj.cells #[.int .i64 C.nstops,v1,v2,.int .i64 C.firms,v3,v4,v5,v6,v7] T (0,0))
  f1:IW I v1 C.ntracks
  f2:AF I v2 C.nshops
  f3:AF I v3 C.owners
  f4:AF I v4 C.tolls
  f5:AF I v5 C.works
  f6:NI I v6 C.cars
  w6:∀ x∈C.cars,RollvOk I x
  f7:IsJrnvs I v7 C.jrns
  w7:∀ x∈C.jrns,JZ I x
theorem IsMNet.mono {T:TypeId} {I J:Imm} {b:Nat} {v1 v2 v3 v4 v5 v6 v7:Value} {C:Clr} (h:IsMNet T I b v1 v2 v3 v4 v5 v6 v7 C) (le:I.le J):IsMNet T J b v1 v2 v3 v4 v5 v6 v7 C:=
  ⟨le.blk _ _ h.blk,h.f1.mono le,h.f2.mono le,h.f3.mono le,h.f4.mono le,h.f5.mono le,h.f6.mono le,fun x hx=>(h.w6 x hx).mono le,h.f7.mono le,fun x hx=>(h.w7 x hx).mono le⟩
abbrev lastR (C:Clr) (k:Nat):Rollv:={ C.car with st:=(stM C k).1.st,ga:=(stM C k).1.ga,mil:=(stM C k).2 }
abbrev AV (C:Clr):Rollv:=lastR C C.jrns.length
section
variable {C:Clr} {k j:Nat} {st9 ga9 mi9 s1 g1 m1 m2:Int}
theorem stM_next (hk:k<C.jrns.length) (hst:((⟨st9,ga9⟩:Plc),mi9)=stM C k) (hj:(C.jrns.getD k AQ).way.l.length≤j) (he:(⟨s1,g1⟩:Plc)=endM C.net ⟨st9,ga9⟩ ((C.jrns.getD k AQ).way.l.take j)) (hm:m1=mi9+kmM C.net ((C.jrns.getD k AQ).way.l.take j)) (h2:m2=if s1∈C.works then 0 else m1):((⟨s1,g1⟩:Plc),m2)=stM C (k+1):=by
  rw [Bq hj] at he hm;rw [OE hk,← hst];unfold goJ;simp only;rw [← he,h2,hm]
theorem mil_in (h:GoodClr C) (hk:k<C.jrns.length) (hst:((⟨st9,ga9⟩:Plc),mi9)=stM C k) (hm:m1=mi9+kmM C.net ((C.jrns.getD k AQ).way.l.take j)):0≤m1∧m1≤100000:=by
  obtain ⟨_,a,b⟩:=h.at k (by omega);rw [← hst] at a b;simp only at a b;obtain ⟨_,r2,r3,r4⟩:=h.runs k hk;have hkm:=km_le h.net ((C.jrns.getD k AQ).way.l.take j) fun x hx=>ok_in _ _ r4 x (List.mem_of_mem_take hx)
  have hl:((C.jrns.getD k AQ).way.l.take j).length≤17:=by rw [Be];omega
  have:=h.few;omega
theorem st_last (hst:((⟨st9,ga9⟩:Plc),mi9)=stM C k) (h1:k≤C.jrns.length) (h2:C.jrns.length≤k):st9=(AV C).st∧ga9=(AV C).ga∧mi9=(AV C).mil:=by
  obtain rfl:k=C.jrns.length:=by omega
  unfold AV lastR;simp only;rw [← hst];exact ⟨rfl,rfl,rfl⟩
theorem at_here (h:GoodClr C) (hk:k≤C.jrns.length) (hst:((⟨st9,ga9⟩:Plc),mi9)=stM C k):AtP (AL C.car) C.net ⟨st9,ga9⟩:=by
  have:=(h.at k hk).1;rw [← hst] at this;exact this
theorem runs_here (h:GoodClr C) (hk:k<C.jrns.length) (hst:((⟨st9,ga9⟩:Plc),mi9)=stM C k):(C.jrns.getD k AQ).car=0∧1≤(C.jrns.getD k AQ).way.l.length∧(C.jrns.getD k AQ).way.l.length≤17∧okM (AL C.car) C.net ⟨st9,ga9⟩ (C.jrns.getD k AQ).way.l:=by
  have:=h.runs k hk;rw [← hst] at this;exact this
theorem GoodClr.fin (h:GoodClr C):AtP (AL C.car) C.net ⟨(AV C).st,(AV C).ga⟩∧0≤(AV C).mil∧(AV C).mil≤10000:=by
  obtain ⟨a,b,c⟩:=h.at C.jrns.length (Bj _);have:=h.few;exact ⟨a,b,by show (stM C C.jrns.length).2≤_;omega⟩
end
def gAt (cs:List Car) (i:Nat):Int:=(cs.getD i BZ).grp
structure CarsInv (cs:List Car) (g l:Int):Prop where
  ok:∀ c∈cs,EX c=0∧c.len≤3
  le:∀ i,i<cs.length→gAt cs i≤g
  run:∀ i j,i≤j→j<cs.length→gAt cs i=gAt cs j→gAt cs i≠0→∀ m,i≤m→m≤j→gAt cs m=gAt cs i
  g0:0≤g∧g≤3
  l0:0≤l∧l≤2
  last:0<l→1≤g∧(0<cs.length→gAt cs (cs.length-1)=g∨∀ i,i<cs.length→gAt cs i<g)
theorem CarsInv.nil:CarsInv [] 0 0:=⟨fun c h=>by simp at h,fun i h=>by simp at h,fun i j _ h=>by simp at h,by omega,by omega,fun h=>by omega⟩
theorem CarsInv.group {cs:List Car} {g l l':Int} (h:CarsInv cs g l) (hg:g<3) (hl:1≤l'∧l'≤2):CarsInv cs (g+1) l':=by
  have:=h.g0;refine ⟨h.ok,fun i hi=>by have:=h.le i hi;omega,h.run,by omega,by omega,fun _=>⟨by omega,fun _=>.inr fun i hi=>by have:=h.le i hi;omega⟩⟩
theorem MD {cs:List Car} {c:Car} {i:Nat}:gAt (cs++[c]) i=if i<cs.length then gAt cs i else if i=cs.length then c.grp else 0:=by
  unfold gAt;simp only [List.getD]
  split
  · rename_i h;rw [Bt h]
  · rename_i h
    rw [Cn (by omega)]
    split
    · rename_i h2;simp [h2]
    · rename_i h2
      have:1≤i-cs.length:=by omega
      cases hh:i-cs.length with
      | zero=>omega
      | succ n=>simp [BZ]
theorem CarsInv.snoc {cs:List Car} {g l:Int} (h:CarsInv cs g l) {c:Car} (hc:EX c=0∧c.len≤3) (hg:(0<l→c.grp=g)∧(¬ 0<l→c.grp=0)):CarsInv (cs++[c]) g (if 0<l then l-1 else l):=by
  have hg0:=h.g0;have hl0:=h.l0;have hle:c.grp≤g:=by by_cases hl:0<l;exact Int.le_of_eq (hg.1 hl);rw [hg.2 hl];omega
  refine ⟨fun x hx=>?_,fun i hi=>?_,?_,hg0,by split <;> omega,fun hl=>?_⟩
  · rcases Ab.1 hx with hx | hx
    · exact h.ok x hx
    · simp at hx;subst hx;exact hc
  · rw [MD]
    split
    · rename_i h1;exact h.le i h1
    · split
      · exact hle
      · omega
  · intro i j hij hj e h0 m him hmj
    simp only [Ad,Aq,Cg] at hj;have A:∀ x,x<cs.length→gAt (cs++[c]) x=gAt cs x:=fun x hx=>by rw [MD,if_pos hx]
    have B:gAt (cs++[c]) cs.length=c.grp:=by rw [MD,if_neg (by omega),if_pos rfl]
    by_cases hj1:j<cs.length
    · rw [A i (by omega)] at e h0 ⊢
      rw [A j hj1] at e;rw [A m (by omega)];exact h.run i j hij hj1 e h0 m him hmj
    · have hj2:j=cs.length:=by omega
      subst hj2;rw [B] at e
      by_cases hi1:i<cs.length
      · rw [A i hi1] at e h0 ⊢
        by_cases hm1:m<cs.length
        · rw [A m hm1]
          by_cases hl:0<l
          · have hcg:=hg.1 hl
            rcases (h.last hl).2 (by omega) with hla | hla
            · exact h.run i (cs.length-1) (by omega) (by omega) (by rw [hla];omega) h0 m him (by omega)
            · have:=hla i hi1;omega
          · have:=hg.2 hl;omega
        · have hm2:m=cs.length:=by omega
          subst hm2;rw [B];exact e.symm
      · have hi2:i=cs.length:=by omega
        have hm2:m=i:=by omega
        rw [hm2]
  · have hl1 : 0 < l := by
      by_cases h1:0<l
      · exact h1
      · rw [if_neg h1] at hl;exact hl
    have:=h.last hl1;refine ⟨this.1,fun _=>.inl ?_⟩;have e:(cs++[c]).length-1=cs.length:=by simp
    rw [e,MD,if_neg (by omega),if_pos rfl];exact hg.1 hl1
structure Placed (cs:List Car) (T k a:Nat) (ts:List (List Int)):Prop where
  len:ts.length=T
  a0:a<T
  perm:ts.flatten.Perm (GZ k)
  ex:∃ tr:Nat→Nat,(∀ i,i<T→ts.getD i []=(GZ k).filter fun c=>decide (tr c.toNat=i))∧(∀ c,c<k→tr c<T)∧(∀ c,c+1<k→gAt cs (c+1)≠0→gAt cs (c+1)=gAt cs c→tr (c+1)=tr c)∧(0<k→tr (k-1)=a)
theorem mem_wholeL {n:Nat} {c:Int}:c∈GZ n↔0≤c∧c<n:=by
  unfold GZ;simp only [Ai,Bl]
  constructor
  · rintro ⟨i,hi,rfl⟩;omega
  · intro h;exact ⟨c.toNat,by omega,by omega⟩
theorem Placed.start {cs:List Car} {T:Nat} (hT:0<T):Placed cs T 0 0 (List.replicate T []):=by
  refine ⟨by simp,hT,by simp [GZ],fun _=>0,fun i hi=>?_,fun c h=>by omega,fun c h=>by omega,fun h=>by omega⟩;simp [GZ,List.getD,hi]
theorem QG:∀ (ts:List (List Int)) (a:Nat) (x:Int),a<ts.length→(ts.set a (ts.getD a []++[x])).flatten.Perm (ts.flatten++[x]):=by
  intro ts
  induction ts with
  | nil=>intro a x h;simp at h
  | cons t r ih=>
    intro a x h;cases a with
    | zero=>
      simp only [List.set_cons_zero,Cf,Co,Am];exact Bo t List.perm_append_comm
    | succ a=>
      simp only [List.set_cons_succ,Ca,Co,Am];exact Bo t (ih a x (by simpa using h))
theorem Placed.put {cs : List Car} {T k a a2 : Nat} {ts : List (List Int)} (h : Placed cs T k a ts) (h2 : a2 < T) (hs : k ≠ 0 → gAt cs k ≠ 0 → gAt cs k = gAt cs (k - 1) → a2 = a) :
    Placed cs T (k+1) a2 (ts.set a2 (ts.getD a2 []++[(k:Int)])):=by
  obtain ⟨tr,t1,t2,t3,t4⟩:=h.ex;have hl:=h.len;refine ⟨by rw [Bv];exact hl,h2,?_,fun c=>if c=k then a2 else tr c,fun i hi=>?_,fun c hc=>?_,fun c hc h0 he=>?_,fun _=>?_⟩
  · rw [wholeL_succ]
    exact (QG ts a2 k (by omega)).trans (List.Perm.append_right _ h.perm)
  · have hf : (GZ k).filter (fun c => decide ((if c.toNat = k then a2 else tr c.toNat) = i)) = ts.getD i [] := by
      rw [t1 i hi];refine List.filter_congr fun c hc=>?_
      have:=mem_wholeL.1 hc;rw [if_neg (by omega)]
    rw [wholeL_succ,Cm,hf]
    by_cases e:a2=i
    · subst e
      simp [List.getD,Db,hl,hi]
    · simp [List.getD,Db,e]
  · show (if c=k then a2 else tr c)<T
    split
    · exact h2
    · exact t2 c (by omega)
  · show (if c+1=k then a2 else tr (c+1))=(if c=k then a2 else tr c)
    by_cases e1:c+1=k
    · have e3:¬ c=k:=by omega
      rw [if_pos e1,if_neg e3];have:=hs (by omega) (by rw [← e1];exact h0) (by rw [← e1];exact he);rw [this,← t4 (by omega),← e1];rfl
    · have e3:¬ c=k:=by omega
      rw [if_neg e1,if_neg e3];exact t3 c (by omega) h0 he
  · simp
theorem sorted_prev {l:List Int} (hs:l.Pairwise (·<·)) {j:Nat} (hj:j<l.length) (hm:l.getD j 0-1∈l):0<j∧l.getD (j-1) 0=l.getD j 0-1:=by
  obtain ⟨m,hm1,hm2⟩:=Cc.1 hm;have hlt:∀ (x y:Nat) (hx:x<l.length) (hy:y<l.length),x<y→l.getD x 0<l.getD y 0:=fun x y hx hy h=>by
    have:=List.pairwise_iff_getElem.1 hs x y hx hy h
    simpa [List.getD,hx,hy] using this
  have e:l.getD m 0=l.getD j 0-1:=by simpa [List.getD,hm1] using hm2
  have h1:m<j:=by
    rcases Nat.lt_trichotomy m j with h | h | h
    · exact h
    · subst h;omega
    · have:=hlt j m hj hm1 h;omega
  rcases Nat.lt_or_ge m (j-1) with h2 | h2
  · have a:=hlt m (j-1) hm1 (by omega) h2
    have b:=hlt (j-1) j (by omega) hj (by omega);omega
  · have:m=j-1:=by omega
    subst this;exact ⟨by omega,e⟩
theorem IL (n:Nat):(GZ n).Pairwise (·<·):=by
  unfold GZ;rw [List.pairwise_map];exact List.pairwise_lt_range.imp fun h=>by omega
theorem Placed.groups {cs:List Car} {T a:Nat} {ts:List (List Int)} {g l:Int} (h:Placed cs T cs.length a ts) (hc:CarsInv cs g l):GrpFrom cs ts []:=by
  obtain ⟨tr,t1,t2,t3,t4⟩:=h.ex;have hmem:∀ i,i<T→∀ c,c∈ts.getD i []↔(0≤c∧c<cs.length)∧tr c.toNat=i:=fun i hi c=>by
    rw [t1 i hi,Bh,mem_wholeL,Ay]
  have hgrp:∀ c:Int,grp cs c=gAt cs c.toNat:=fun c=>rfl
  have hrun:∀ n x:Nat,x+n<cs.length→gAt cs x≠0→gAt cs x=gAt cs (x+n)→tr (x+n)=tr x:=by
    intro n
    induction n with
    | zero=>intro x _ _ _;rfl
    | succ n ih=>
      intro x hx h0 e;have e1:gAt cs (x+n)=gAt cs x:=hc.run x (x+(n+1)) (by omega) hx e h0 (x+n) (by omega) (by omega);have:=ih x (by omega) h0 e1.symm;rw [← this];exact t3 (x+n) (by omega) (by rw [show x+n+1=x+(n+1) by omega,← e];exact h0) (by rw [show x+n+1=x+(n+1) by omega,← e,e1])
  have hrun2:∀ x y:Nat,x<cs.length→y<cs.length→gAt cs x≠0→gAt cs x=gAt cs y→tr x=tr y:=fun x y hx hy h0 e=>by
    rcases Nat.le_total x y with hxy | hxy
    · have:=hrun (y-x) x (by omega) h0 (by rw [show x+(y-x)=y by omega];exact e)
      rw [show x+(y-x)=y by omega] at this;exact this.symm
    · have:=hrun (x-y) y (by omega) (by rw [← e];exact h0) (by rw [show y+(x-y)=x by omega];exact e.symm)
      rw [show y+(x-y)=x by omega] at this;exact this
  intro i j hi hj h0 hm;rw [h.len] at hi;have hcm:(ts.getD i []).getD j 0∈ts.getD i []:=AO hj;obtain ⟨⟨c0,c1⟩,c2⟩:=(hmem i hi _).1 hcm
  generalize hcc:(ts.getD i []).getD j 0=c at hcm c0 c1 c2 h0 hm
  rcases hm with hm | ⟨c',hc',e⟩
  · simp at hm
  · rw [hgrp,hgrp] at e
    rw [hgrp] at h0;have hs:(ts.getD i []).Pairwise (·<·):=by rw [t1 i hi];exact (IL _).sublist List.filter_sublist
    have hc2:(0≤c'∧c'<cs.length)∧(tr c'.toNat<i∨c'∈(ts.getD i []).take j):=by
      rcases Ab.1 hc' with hx | hx
      · obtain ⟨t,ht,hx⟩:=List.mem_flatten.1 hx
        obtain ⟨m,hm1,hm2⟩:=Cc.1 ht;have hm3:m<i∧m<ts.length:=by rw [Be] at hm1;omega
        have e3:ts.getD m []=t:=by rw [← hm2];simp [List.getD,hm3.2]
        rw [← e3] at hx;obtain ⟨hb,ht2⟩:=(hmem m (by rw [← h.len];exact hm3.2) _).1 hx;exact ⟨hb,.inl (by omega)⟩
      · exact ⟨((hmem i hi _).1 (List.mem_of_mem_take hx)).1,.inr hx⟩
    obtain ⟨⟨d0,d1⟩,hd⟩:=hc2;have htr:=hrun2 c.toNat c'.toNat (by omega) (by omega) (by omega) e.symm;rcases hd with hd | hd
    · omega
    · obtain ⟨m,hm1,hm2⟩:=Cc.1 hd
      have hm3:m<j∧m<(ts.getD i []).length:=by rw [Be] at hm1;omega
      have hlt:c'<c:=by
        have h1:=List.pairwise_iff_getElem.1 hs m j hm3.2 hj hm3.1;have e1:c'=(ts.getD i [])[m]:=by rw [← hm2];simp
        have e2:c=(ts.getD i [])[j]:=by rw [← hcc,List.getD,Bf hj];rfl
        rw [e1,e2];exact h1
      have e4:gAt cs (c.toNat-1)=gAt cs c'.toNat:=hc.run c'.toNat c.toNat (by omega) (by omega) e (by omega) (c.toNat-1) (by omega) (by omega);have e5:tr (c.toNat-1)=i:=by
        have:=hrun2 (c.toNat-1) c.toNat (by omega) (by omega) (by omega) (by omega);omega
      have hin:c-1∈ts.getD i []:=(hmem i hi _).2 ⟨by omega,by rw [show (c-1).toNat=c.toNat-1 by omega];exact e5⟩;have hp:=sorted_prev hs hj (by rw [hcc];exact hin);rw [hcc] at hp;unfold DA;have e6:((j:Int)-1).toNat=j-1:=by omega
      rw [show (↑j:Int).toNat=j by omega,e6,hp.2,hcc];have e7:inB ↑j 1 (↑(ts.getD i []).length-1)=true:=by simp only [inB,Ah,Ay];omega
      rw [e7];have e8:(IE cs c).grp=(IE cs (c-1)).grp:=by
        show gAt cs c.toNat=gAt cs (c-1).toNat;rw [show (c-1).toNat=c.toNat-1 by omega];omega
      rw [Bg (show 0<(IE cs c).grp from h0),Bg e8];rfl
structure Roomy (cs:List Car) (ts:List (List Int)) (k:Nat) (rm:List Int):Prop where
  len:rm.length=k
  ok:∀ n∈rm,0≤n∧n≤20
  fits:∀ i,i<k→lenOf cs (ts.getD i [])≤rm.getD i 0
theorem Roomy.nil (cs:List Car) (ts:List (List Int)):Roomy cs ts 0 []:=⟨rfl,fun n h=>by simp at h,fun i h=>by omega⟩
theorem Roomy.snoc {cs:List Car} {ts:List (List Int)} {k:Nat} {rm:List Int} (h:Roomy cs ts k rm) {n:Int} (hn:0≤n∧n≤20) (hf:lenOf cs (ts.getD k [])≤n):Roomy cs ts (k+1) (rm++[n]):=by
  have hl:=h.len;refine ⟨by simp [hl],fun x hx=>?_,fun i hi=>?_⟩
  · rcases Ab.1 hx with hx | hx
    · exact h.ok x hx
    · simp at hx;subst hx;exact hn
  · by_cases e:i<k
    · have:=h.fits i e
      have e2:(rm++[n]).getD i 0=rm.getD i 0:=by simp only [List.getD];rw [Bt (by omega)]
      rw [e2];exact this
    · have:i=k:=by omega
      subst this;have e2:(rm++[n]).getD i 0=n:=by simp only [List.getD];rw [Cn (by omega),hl];simp
      rw [e2];exact hf
theorem carAt_len {cs:List Car} {g l:Int} (h:CarsInv cs g l) (c:Int):0≤(IE cs c).len∧(IE cs c).len≤3:=by
  unfold IE
  by_cases hc:c.toNat<cs.length
  · have h1:=h.ok _ (AO (d:=BZ) hc)
    have:=carOk_range h1.1;omega
  · simp [List.getD,List.getElem?_eq_none (Nat.le_of_not_lt hc),BZ]
theorem lenOf_3 {cs:List Car} {g l:Int} (h:CarsInv cs g l) (t:List Int):0≤lenOf cs t∧lenOf cs t≤3*t.length:=by
  induction t with
  | nil=>simp [lenOf]
  | cons c t ih=>
    have:=carAt_len h c;simp only [lenOf,Aw,List.sum_cons,Aq] at ih ⊢;omega
theorem Placed.tracks {cs:List Car} {T k a:Nat} {ts:List (List Int)} (h:Placed cs T k a ts):ts.flatten.length=k:=by rw [h.perm.length_eq,OL]
theorem Placed.tlen {cs:List Car} {T k a:Nat} {ts:List (List Int)} (h:Placed cs T k a ts) (i:Nat):(ts.getD i []).length≤k:=by
  by_cases hi:i<ts.length
  · have:=GO (AO (d:=[]) hi)
    rw [h.tracks] at this;exact this
  · simp [List.getD,List.getElem?_eq_none (Nat.le_of_not_lt hi)]
theorem drawn_valid {cs:List Car} {T a:Nat} {ts:List (List Int)} {rm:List Int} {g l:Int} (hc:CarsInv cs g l) (hp:Placed cs T cs.length a ts) (hr:Roomy cs ts T rm) (h5:cs.length≤5) (h3:T≤3):Valid ⟨cs,rm,ts⟩:=by
  have hT:=hp.a0;refine Fine.valid ⟨h5,fun c hx=>(hc.ok c hx).1,by show 0<rm.length;rw [hr.len];omega,by show rm.length≤3;rw [hr.len];exact h3,fun n hn=>?_,by show ts.length=rm.length;rw [hr.len,hp.len],fun t ht c hc2=>?_,?_,fun k hk=>hr.fits k (by rw [← hp.len];exact hk),by show cs.length≤ts.flatten.length;rw [hp.tracks];exact Bj _,groups_iff.2 (hp.groups hc)⟩
  · have:=hr.ok n hn;simp [inB];omega
  · have:c∈GZ cs.length:=hp.perm.mem_iff.1 (List.mem_flatten.2 ⟨t,ht,hc2⟩)
    exact mem_wholeL.1 this
  · show ts.flatten.Nodup
    exact (hp.perm.nodup_iff).2 ((IL _).imp fun h e=>by omega)
theorem HS {a b c d:Int} {p h:Bool} (h1:1≤a∧a≤3) (h2:1≤b∧b≤60) (h3:0≤c∧c≤b) (h4:0≤d∧d≤3):EX ⟨a,b,c,d,p,h⟩=0∧a≤3:=by
  refine ⟨?_,h1.2⟩;unfold EX;rw [if_pos];simp only [inB,Ah,Ay];omega
theorem Placed.tl {cs:List Car} {T k a:Nat} {ts:List (List Int)} (h:Placed cs T k a ts):∀ t∈ts,t.length≤k:=fun t ht=>by
  have:=GO ht;rw [h.tracks] at this;exact this
theorem Placed.okAll {cs:List Car} {T a:Nat} {ts:List (List Int)} (h:Placed cs T cs.length a ts):OkAll cs ts:=fun t ht c hc=>
  mem_wholeL.1 (h.perm.mem_iff.1 (List.mem_flatten.2 ⟨t,ht,hc⟩))
theorem getD_app {a b:List Int} {k:Nat}:(a++b).getD k 0=if k<a.length then a.getD k 0 else b.getD (k-a.length) 0:=by
  simp only [List.getD]
  split
  · rename_i h;rw [Bt h]
  · rename_i h;rw [Cn (by omega)]
theorem coupled_of {cs:List Car} {t:List Int} {k:Nat} (hk:k<t.length) (h0:0<grp cs (t.getD k 0)) (h1:0<k) (e:grp cs (t.getD (k-1) 0)=grp cs (t.getD k 0)):DA cs t ↑k=true:=by
  rw [coupled_raw hk,show ((k:Int)-1).toNat=k-1 by omega,Bg (show 0<(k:Int) by omega),Bg (show 0<(IE cs (t.getD k 0)).grp from h0),Bg (show (IE cs (t.getD k 0)).grp=(IE cs (t.getD (k-1) 0)).grp from e.symm)];rfl
theorem coupled_to {cs:List Car} {t:List Int} {k:Nat} (hk:k<t.length) (h:DA cs t ↑k=true):0<k∧0<grp cs (t.getD k 0)∧grp cs (t.getD k 0)=grp cs (t.getD (k-1) 0):=by
  rw [coupled_raw hk,show ((k:Int)-1).toNat=k-1 by omega] at h;simp only [Ah,Ay] at h;exact ⟨by omega,h.2.1,h.2.2⟩
theorem plain_len {goal:Yard→Bool}:∀ (d:Nat) (Y:Yard) (l:List Shift),plain goal d Y=some l→(∀ m,m<d→plain goal m Y=none)→l.length=d:=by
  intro d
  induction d with
  | zero=>
    intro Y l h _;simp only [plain] at h
    split at h
    · cases h;rfl
    · cases h
  | succ d ih=>
    intro Y l h hm;have hg:goal Y≠true:=fun hg=>by have:=hm 0 (by omega);rw [MG hg] at this;cases this
    simp only [plain,if_neg hg] at h;obtain ⟨s,hs,h2⟩:=List.exists_of_findSome?_eq_some h;obtain ⟨l',hl',rfl⟩:=Option.map_eq_some_iff.1 h2;have:=ih _ l' hl' (fun m hmd=>plain_down (hm (m+1) (by omega)) hs);simp [this]
theorem plain_play {goal:Yard→Bool}:∀ (d:Nat) (Y:Yard) (l:List Shift),plain goal d Y=some l→∃ Z,BN Y l=(Z,0)∧goal Z=true∧Kin Y Z∧l.length≤d:=by
  intro d
  induction d with
  | zero=>
    intro Y l h;simp only [plain] at h
    split at h
    · rename_i hg;cases h;exact ⟨Y,rfl,hg,Kin.refl Y,Bj _⟩
    · cases h
  | succ d ih=>
    intro Y l h
    by_cases hg:goal Y=true
    · rw [MG hg] at h;cases h;exact ⟨Y,rfl,hg,Kin.refl Y,Ae _⟩
    · simp only [plain,if_neg hg] at h
      obtain ⟨s,hs,h2⟩:=List.exists_of_findSome?_eq_some h;obtain ⟨l',hl',rfl⟩:=Option.map_eq_some_iff.1 h2;obtain ⟨Z,h3,h4,h5,h6⟩:=ih _ l' hl';have hm:=GA hs;exact ⟨Z,by simp only [BN];rw [if_pos hm];exact h3,h4,(LI hm).trans h5,by simp;omega⟩
theorem plain_some {goal:Yard→Bool}:∀ (l:List Shift) (d:Nat) (Y Z:Yard),BN Y l=(Z,0)→goal Z=true→l.length≤d→plain goal d Y≠none:=by
  intro l
  induction l with
  | nil=>
    intro d Y Z h hg _;simp only [BN,Bs,and_true] at h;subst h;rw [MG hg];simp
  | cons s l ih=>
    intro d Y Z h hg hd;obtain ⟨d,rfl⟩:∃ e,d=e+1:=⟨d-1,by simp at hd;omega⟩;simp only [BN] at h
    split at h
    · rename_i hm
      intro hn;simp only [plain] at hn
      split at hn
      · cases hn
      · have:=List.findSome?_eq_none_iff.1 hn s (mem_draws.2 hm)
        have h2:=ih d _ Z h hg (by simpa using hd);simp only [Option.map_eq_none_iff] at this;exact h2 this
    · rename_i hm
      simp only [Bs] at h;exact absurd h.2 hm
theorem LG {goal:Yard→Bool} {Y:Yard} {l:List Shift} (h:CP goal Y=some l):∃ Z,BN Y l=(Z,0)∧goal Z=true∧Kin Y Z∧l.length≤4∧(∀ (l':List Shift) (Z':Yard),BN Y l'=(Z',0)→goal Z'=true→l.length≤l'.length):=by
  unfold CP at h;obtain ⟨l₁,d,l₂,h1,h2,h3⟩:=List.findSome?_eq_some_iff.1 h
  have hd : d < 5 := by have : d ∈ List.range 5 := by rw [h1]; simp
                        simpa using this
  have hlow:∀ m,m<d→plain goal m Y=none:=fun m hm=>by
    refine h3 m ?_;have hp:(List.range 5).Pairwise (·<·):=List.pairwise_lt_range;have hm5:m∈List.range 5:=by simp;omega
    rw [h1] at hm5 hp;rcases Ab.1 hm5 with hx | hx
    · exact hx
    · have:=(List.pairwise_append.1 hp).2.1
      rcases Ac.1 hx with e | hx
      · omega
      · have:=List.rel_of_pairwise_cons this hx;omega
  obtain ⟨Z,g1,g2,g3,g4⟩:=plain_play d Y l h2;have hl:=plain_len d Y l h2 hlow;refine ⟨Z,g1,g2,g3,by omega,fun l' Z' hp hg=>?_⟩;rcases Nat.lt_or_ge l'.length l.length with hlt | hge
  · exact absurd (hlow l'.length (by omega)) (plain_some l' _ Y Z' hp hg (Bj _))
  · exact hge
theorem fewestM_none {goal:Yard→Bool} {Y:Yard} (h:CP goal Y=none):∀ (l':List Shift) (Z':Yard),BN Y l'=(Z',0)→goal Z'=true→4<l'.length:=fun l' Z' hp hg=>by
  rcases Nat.lt_or_ge 4 l'.length with hlt | hge
  · exact hlt
  · have:=List.findSome?_eq_none_iff.1 h l'.length (by simp;omega)
    exact absurd this (plain_some l' _ Y Z' hp hg (Bj _))
theorem playFrom_kin:∀ (l:List Shift) {Y Z:Yard},BN Y l=(Z,0)→Kin Y Z:=by
  intro l
  induction l with
  | nil=>intro Y Z h;simp only [BN,Bs,and_true] at h;subst h;exact Kin.refl _
  | cons s l ih=>
    intro Y Z h;simp only [BN] at h
    split at h
    · rename_i hm;exact (LI hm).trans (ih h)
    · rename_i hm;simp only [Bs] at h;exact absurd h.2 hm
theorem whole_perm_of {l:List Int} {n:Nat} (hn:l.Nodup) (hr:∀ x∈l,0≤x∧x<(n:Int)) (hl:n≤l.length):l.Perm (GZ n):=by
  refine (List.perm_ext_iff_of_nodup hn ((IL _).imp fun hab=>by omega)).2 fun x=>⟨fun hx=>mem_wholeL.2 (hr x hx),fun hx=>?_⟩
  by_cases hm:x∈l
  · exact hm
  · have := JE (l := x :: l) (n := n) (Cb.2 ⟨hm, hn⟩) (fun c hc => by
      rcases Ac.1 hc with rfl | hc
      · exact mem_wholeL.1 hx
      · exact hr c hc)
    simp only [Aq] at this;omega
theorem Fine.whole_perm {Y:Yard} (f:Fine Y):Y.tracks.flatten.Perm (GZ Y.cars.length):=
  whole_perm_of f.nodup (fun x hx=>MC f.ok x hx) f.all
theorem goO_fine {n:Nat}:∀ (o pre:List Int),(pre++o).Nodup→(∀ c∈o,0≤c∧c<n)→goO n pre o=0:=by
  intro o
  induction o with
  | nil=>intro pre _ _;rfl
  | cons c r ih=>
    intro pre hn hr;simp only [goO];have h1:=hr c (by simp)
    rw [if_pos (by simp [inB];omega),if_neg (fun hc=>by
      have:=(Au.1 hn).2.2 c hc c (by simp)
      exact this rfl)]
    exact ih (pre++[c]) (by rw [Am];exact hn) (fun x hx=>hr x (by simp [hx]))
theorem orderErr_perm {Y:Yard} (hv:Valid Y) {o:List Int} (hp:o.Perm (GZ Y.cars.length)):EM Y o=0:=by
  unfold EM;rw [if_pos (show BF Y=0 from hv)];refine goO_fine o [] ?_ (fun c hc=>mem_wholeL.1 (hp.mem_iff.1 hc));exact hp.nodup_iff.2 ((IL _).imp fun hab=>by omega)
theorem ordered_iff {o:List Int} {Z:Yard}:EQ [GB o] Z=true↔trk Z 0=o:=by simp [EQ,GB,trk]
theorem leave_iff {cs:List Int} {Z:Yard}:EQ (KF cs) Z=true↔(trk Z 0).length=Z.cars.length∧lastP cs (trk Z 0)=true:=by
  simp only [EQ,KF,wholeP,trk,List.all_cons,List.all_nil,Bool.and_true,Ah,Ay];exact and_congr (by show (_:Int)=_↔_;exact Int.ofNat_inj) Iff.rfl
theorem goL_fine {n:Nat}:∀ (l:List Int) (pre:Option Int),(∀ x∈l,0≤x∧x<n)→Asc l→(∀ p,pre=some p→∀ x∈l,p<x)→goL n pre l=0:=by
  intro l
  induction l with
  | nil=>intro pre _ _ _;rfl
  | cons c r ih=>
    intro pre hr ha hp;have h1:=hr c (by simp);simp only [goL];rw [if_pos (by simp [inB];omega)];have hlow:tooLow pre c=false:=by
      cases pre with
      | none=>rfl
      | some p=>have:=hp p rfl c (by simp);simp [tooLow];omega
    rw [hlow];simp only [Bz,if_false];exact ih (some c) (fun x hx=>hr x (by simp [hx])) (List.Pairwise.of_cons ha) (fun p hp' x hx=>by cases hp';exact List.rel_of_pairwise_cons ha hx)
theorem leaveE_len {Y:Yard} {leave:List Int}:(BD Y leave).1.length≤4:=by
  unfold BD
  split
  · cases h:CP (EQ (KF leave)) Y with
    | none=>decide
    | some l=>obtain ⟨_,_,_,_,h4,_⟩:=LG h;exact h4
  · exact Ae _
theorem train_perm {Y Z:Yard} (f:Fine Y) (k:Kin Y Z) (h:(trk Z 0).length=Z.cars.length):(trk Z 0).Perm (GZ Y.cars.length):=by
  have hp:Z.tracks.flatten.Perm (GZ Y.cars.length):=k.perm.trans f.whole_perm;have hlen:Z.tracks.flatten.length=Y.cars.length:=by rw [hp.length_eq,OL]
  have hpos:0<Z.tracks.length:=by rw [k.len,f.len];exact f.room1
  cases hz:Z.tracks with
  | nil=>rw [hz] at hpos;simp at hpos
  | cons t r=>
    have e:trk Z 0=t:=by simp [trk,hz]
    rw [hz] at hlen hp;rw [e] at h ⊢;simp only [Co,Ad] at hlen;rw [k.cars] at h;have hr:r.flatten=[]:=List.length_eq_zero_iff.1 (by omega);rw [Co,hr,Aa] at hp;exact hp
section
variable {Y:Yard} {k:Nat}
end
def stG (cs:List Car) (g:Int):Bool→List Int→Nat
  | _,[]=>0
  | p,c::r=>(if grp cs c=g∧p=false then 1 else 0)+stG cs g (decide (grp cs c=g)) r
def sumG (cs:List Car) (g:Int):List (List Int)→Nat
  | []=>0
  | t::ts=>stG cs g false t+sumG cs g ts
def inN (g:Int) (met:List Int):Nat:=if g∈met then 1 else 0
def MN (cs:List Car) (g:Int) (t:List Int) (k:Nat):Bool:=decide (0<k)&&decide (grp cs (t.getD (k-1) 0)=g)
theorem goG_st {cs : List Car} {ts : List (List Int)} {t : List Int} (ih : ∀ met, goGs cs ts met = 0 ↔ ∀ g, 0 < g → inN g met + sumG cs g ts ≤ 1) : ∀ (m k : Nat) (met : List Int), k + m = t.length →
    (∀ g,0<g→MN cs g t k=true→g∈met) →
    (goG cs t (goGs cs ts) k (t.drop k) met=0↔∀ g,0<g→inN g met+stG cs g (MN cs g t k) (t.drop k)+sumG cs g ts≤1):=by
  intro m
  induction m with
  | zero=>
    intro k met hk _;rw [goG_done (by omega),ih,DJ (by omega)];simp only [stG,Nat.add_zero]
  | succ m ihm=>
    intro k met hk hp;have hlt:k<t.length:=by omega
    have hcons:t.drop k=t.getD k 0::t.drop (k+1):=BV hlt;have hpk:∀ g,MN cs g t (k+1)=decide (grp cs (t.getD k 0)=g):=fun g=>by simp [MN]
    by_cases hb:(decide (0<grp cs (t.getD k 0))&&(decide (grp cs (t.getD k 0)∈met)&&!(DA cs t ↑k)))=true
    · rw [goG_hit hlt hb]
      simp only [Ah,Ay,Ck] at hb;refine ⟨(fun h=>by cases h),fun h=>?_⟩
      exfalso
      have h1:=h _ hb.1;have hnp:MN cs (grp cs (t.getD k 0)) t k=false:=by
        cases hq:MN cs (grp cs (t.getD k 0)) t k with
        | false=>rfl
        | true=>
          simp only [MN,Ah,Ay] at hq;rw [coupled_of hlt hb.1 hq.1 hq.2] at hb;cases hb.2.2
      rw [hcons,hnp] at h1;have e1:inN (grp cs (t.getD k 0)) met=1:=if_pos hb.2.1;have e2:∀ r,stG cs (grp cs (t.getD k 0)) false (t.getD k 0::r)=1+stG cs (grp cs (t.getD k 0)) (decide (grp cs (t.getD k 0)=grp cs (t.getD k 0))) r:=fun r=>by
        show (if _ then 1 else 0)+_=_;rw [if_pos ⟨rfl,rfl⟩]
      rw [e1,e2] at h1;omega
    · have hb':=Bool.eq_false_iff.2 hb
      rw [goG_miss hlt hb',ihm (k+1) _ (by omega) ?_]
      · refine forall_congr' fun g=>forall_congr' fun hg=>?_
        rw [hpk,hcons];have hst:stG cs g (MN cs g t k) (t.getD k 0::t.drop (k+1))=(if grp cs (t.getD k 0)=g∧MN cs g t k=false then 1 else 0)+stG cs g (decide (grp cs (t.getD k 0)=g)) (t.drop (k+1)):=rfl;rw [hst];have hin:inN g (if grp cs (t.getD k 0)∈met then met else met++[grp cs (t.getD k 0)])=inN g met+(if grp cs (t.getD k 0)=g∧MN cs g t k=false then 1 else 0):=by
          by_cases e:grp cs (t.getD k 0)=g
          · cases hq:MN cs g t k with
            | true=>
              have hm:=hp g hg hq;rw [e,if_pos hm,if_neg (by simp)];rfl
            | false=>
              have hnm:g∉met:=fun hm=>by
                have hc:DA cs t ↑k=false:=by
                  cases hc:DA cs t ↑k with
                  | false=>rfl
                  | true=>
                    obtain ⟨c1,c2,c3⟩:=coupled_to hlt hc;have:MN cs g t k=true:=by
                      simp only [MN,Ah,Ay];exact ⟨c1,c3.symm.trans e⟩
                    rw [hq] at this;cases this
                rw [e,hc] at hb;simp [hg,hm] at hb
              rw [e,if_neg hnm];simp [inN,hnm]
          · have e':¬ g=grp cs (t.getD k 0):=fun h=>e h.symm
            by_cases hG:grp cs (t.getD k 0)∈met
            · rw [if_pos hG,if_neg (fun hh=>e hh.1)];rfl
            · rw [if_neg hG,if_neg (fun hh=>e hh.1),Nat.add_zero]
              unfold inN;simp only [Ab,Af,e',or_false]
        rw [hin]
        generalize stG cs g (decide (grp cs (t.getD k 0)=g)) (t.drop (k+1))=S
        constructor <;> intro h <;> omega
      · intro g hg hq
        rw [hpk] at hq;have e:=Bu hq;subst e
        split
        · assumption
        · simp
theorem goGs_st {cs:List Car}:∀ (ts:List (List Int)) (met:List Int),goGs cs ts met=0↔∀ g,0<g→inN g met+sumG cs g ts≤1:=by
  intro ts
  induction ts with
  | nil=>
    intro met;refine ⟨fun _ g _=>?_,fun _=>rfl⟩;unfold inN sumG;split <;> omega
  | cons t ts ih=>
    intro met;have h:=goG_st (cs:=cs) (ts:=ts) (t:=t) ih t.length 0 met (by omega) (fun g _ h=>by simp [MN] at h);rw [List.drop_zero] at h;show goG cs t (goGs cs ts) 0 t met=0↔_;rw [h];refine forall_congr' fun g=>forall_congr' fun hg=>?_
    have e:MN cs g t 0=false:=by simp [MN]
    rw [e];show _↔inN g met+(stG cs g false t+sumG cs g ts)≤1
    constructor <;> intro h <;> omega
theorem groups_sum {Y:Yard}:EY Y=0↔∀ g,0<g→sumG Y.cars g Y.tracks≤1:=by
  unfold EY;rw [goGs_st];refine forall_congr' fun g=>forall_congr' fun _=>?_
  have e:inN g []=0:=by simp [inN]
  rw [e,Nat.zero_add]
def QJ (cs:List Car) (g:Int):Bool→List Int→Bool
  | p,[]=>p
  | _,c::r=>QJ cs g (decide (grp cs c=g)) r
theorem stG_append {cs:List Car} {g:Int}:∀ (a b:List Int) (p:Bool),stG cs g p (a++b)=stG cs g p a+stG cs g (QJ cs g p a) b:=by
  intro a
  induction a with
  | nil=>intro b p;simp [stG,QJ]
  | cons c a ih=>intro b p;simp only [Ci,stG,QJ,ih];omega
theorem lastB_at {cs:List Car} {g:Int}:∀ (a:List Int) (p:Bool),0<a.length→QJ cs g p a=decide (grp cs (a.getD (a.length-1) 0)=g):=by
  intro a
  induction a with
  | nil=>intro p h;simp at h
  | cons c a ih=>
    intro p _;cases a with
    | nil=>simp [QJ]
    | cons d r=>
      show QJ cs g (decide (grp cs c=g)) (d::r)=_;rw [ih _ (by simp)];simp
theorem stG_tf {cs:List Car} {g:Int} (b:List Int):stG cs g false b=stG cs g true b+if 0<b.length∧grp cs (b.getD 0 0)=g then 1 else 0:=by
  cases b with
  | nil=>simp [stG]
  | cons c r=>
    simp only [stG,Aq,Cf]
    by_cases h:grp cs c=g <;> simp [h] <;> omega
theorem stG_le {cs:List Car} {g:Int} (p:Bool) (b:List Int):stG cs g p b≤stG cs g false b:=by
  cases p with
  | false=>exact Bj _
  | true=>rw [stG_tf b];omega
theorem stG_app_le {cs:List Car} {g:Int} (a b:List Int):stG cs g false (a++b)≤stG cs g false a+stG cs g false b:=by
  rw [stG_append];have:=stG_le (cs:=cs) (g:=g) (QJ cs g false a) b;omega
theorem stG_cut {cs : List Car} {g : Int} {A : List Int} {n : Nat} (h : 0 < n → n < A.length → ¬ (grp cs (A.getD (n - 1) 0) = g ∧ grp cs (A.getD n 0) = g)) :
    stG cs g false A=stG cs g false (A.take n)+stG cs g false (A.drop n):=by
  have e:stG cs g false A=stG cs g false (A.take n++A.drop n):=by rw [Ce]
  rw [e,stG_append]
  congr 1
  by_cases hn:0<n∧n<A.length
  · have hl:(A.take n).length=n:=by rw [Be];omega
    rw [lastB_at _ _ (by omega),hl];have e1:(A.take n).getD (n-1) 0=A.getD (n-1) 0:=by simp only [List.getD,Da];rw [if_pos (by omega)]
    rw [e1]
    by_cases hq:grp cs (A.getD (n-1) 0)=g
    · have h2:¬ grp cs (A.getD n 0)=g:=fun hh=>h hn.1 hn.2 ⟨hq,hh⟩
      rw [Bg hq,stG_tf (A.drop n)];have e2:(A.drop n).getD 0 0=A.getD n 0:=by simp [List.getD]
      rw [e2,if_neg (fun hh=>h2 hh.2)];omega
    · rw [Br hq]
  · by_cases h0:n=0
    · subst h0;simp [QJ]
    · rw [DJ (by omega)];simp [stG]
theorem sumG_set {cs:List Car} {g:Int} (X:List Int):∀ (ts:List (List Int)) (i:Nat),i<ts.length→sumG cs g (ts.set i X)+stG cs g false (ts.getD i [])=sumG cs g ts+stG cs g false X:=by
  intro ts
  induction ts with
  | nil=>intro i h;simp at h
  | cons t ts ih=>
    intro i h;cases i with
    | zero=>simp only [List.set_cons_zero,sumG,Cf];omega
    | succ i=>simp only [List.set_cons_succ,sumG,Ca];have:=ih i (by simpa using h);omega
theorem sumG_at {cs:List Car} {g:Int}:∀ (ts:List (List Int)) (i j:Nat),i<ts.length→j<ts.length→i≠j→stG cs g false (ts.getD i [])+stG cs g false (ts.getD j [])≤sumG cs g ts:=by
  have one:∀ (ts:List (List Int)) (i:Nat),i<ts.length→stG cs g false (ts.getD i [])≤sumG cs g ts:=by
    intro ts
    induction ts with
    | nil=>intro i h;simp at h
    | cons t ts ih=>
      intro i h;cases i with
      | zero=>simp only [sumG,Cf];omega
      | succ i=>simp only [sumG,Ca];have:=ih i (by simpa using h);omega
  intro ts
  induction ts with
  | nil=>intro i j h;simp at h
  | cons t ts ih=>
    intro i j hi hj hne;cases i with
    | zero=>
      cases j with
      | zero=>exact absurd rfl hne
      | succ j=>simp only [sumG,Cf,Ca];have:=one ts j (by simpa using hj);omega
    | succ i=>
      cases j with
      | zero=>simp only [sumG,Cf,Ca];have:=one ts i (by simpa using hi);omega
      | succ j=>simp only [sumG,Ca];have:=ih i j (by simpa using hi) (by simpa using hj) (by omega);omega
theorem free_cut {Y:Yard} {s:Shift} (m:MayOk Y s) (g:Int) (hg:0<g):0<(EI Y s).toNat→(EI Y s).toNat<(trk Y s.frm).length→¬ (grp Y.cars ((trk Y s.frm).getD ((EI Y s).toNat-1) 0)=g∧grp Y.cars ((trk Y s.frm).getD (EI Y s).toNat 0)=g):=fun h1 h2 hh=>by
  have hf:=m.free;have e:EI Y s=↑(EI Y s).toNat:=by omega
  rw [e,coupled_of h2 (by rw [hh.2];exact hg) h1 (hh.1.trans hh.2.symm)] at hf;cases hf
theorem moved_trk {Y:Yard} {s:Shift} (m:MayOk Y s):trk (moved Y s) s.frm=(trk Y s.frm).take (EI Y s).toNat∧trk (moved Y s) s.to=trk Y s.to++(trk Y s.frm).drop (EI Y s).toNat:=by
  have hf:=m.frm;have ht:=m.to;have hne:=m.ne;have hne':s.frm.toNat≠s.to.toNat:=by omega
  constructor
  · simp only [trk,moved,List.getD]
    rw [Bp (by rw [Bv];omega)];rfl
  · simp only [trk,moved,List.getD]
    rw [Bk hne',Bp (by omega)];rfl
theorem moved_other {Y:Yard} {s:Shift} {k:Nat} (h1:k≠s.frm.toNat) (h2:k≠s.to.toNat):(moved Y s).tracks.getD k []=Y.tracks.getD k []:=by
  simp only [moved,List.getD];rw [Bk (Ne.symm h1),Bk (Ne.symm h2)]
theorem lenOf_cut (cs:List Car) (A:List Int) (n:Nat):lenOf cs A=lenOf cs (A.take n)+lenOf cs (A.drop n):=by
  rw [← LL,Ce]
theorem moved_sum {Y:Yard} {s:Shift} (m:MayOk Y s) (g:Int) (hg:0<g):sumG Y.cars g (moved Y s).tracks≤sumG Y.cars g Y.tracks:=by
  have hf:=m.frm;have ht:=m.to;have hne:=m.ne;have hne':s.to.toNat≠s.frm.toNat:=by omega
  have hc:=stG_cut (cs:=Y.cars) (g:=g) (A:=trk Y s.frm) (n:=(EI Y s).toNat) (free_cut m g hg);have ha:=stG_app_le (cs:=Y.cars) (g:=g) (trk Y s.to) ((trk Y s.frm).drop (EI Y s).toNat);have s1:=sumG_set (cs:=Y.cars) (g:=g) (trk Y s.to++(trk Y s.frm).drop (EI Y s).toNat) Y.tracks s.to.toNat (by omega);have s2:=sumG_set (cs:=Y.cars) (g:=g) ((trk Y s.frm).take (EI Y s).toNat) (Y.tracks.set s.to.toNat (trk Y s.to++(trk Y s.frm).drop (EI Y s).toNat)) s.frm.toNat (by rw [Bv];omega);have e2:(Y.tracks.set s.to.toNat (trk Y s.to++(trk Y s.frm).drop (EI Y s).toNat)).getD s.frm.toNat []=trk Y s.frm:=by
    simp only [trk,List.getD];rw [Bk hne']
  rw [e2] at s2;have e1:Y.tracks.getD s.to.toNat []=trk Y s.to:=rfl;rw [e1] at s1;show sumG Y.cars g ((Y.tracks.set s.to.toNat _).set s.frm.toNat _)≤_;omega
theorem Fine.mv {Y:Yard} {s:Shift} (f:Fine Y) (h:BX Y s=0):Fine (moved Y s):=by
  have m:=mayOk h;have k:=LI h;have gd:=f.good.moved h;have hf:=m.frm;have ht:=m.to;have hne:=m.ne;have sm:=f.good.small;refine ⟨f.cars,f.carOk,f.room1,f.room3,f.roomOk,by rw [k.len];exact f.len,gd.ok,k.perm.nodup_iff.2 f.nodup,fun i hi=>?_,by rw [k.perm.length_eq];exact f.all,?_⟩
  · rw [k.len] at hi
    have t1:=moved_trk m;have e0:(moved Y s).cars=Y.cars:=rfl;have e9:(moved Y s).room=Y.room:=rfl;rw [e0,e9]
    by_cases h1:i=s.frm.toNat
    · subst h1
      have e:(moved Y s).tracks.getD s.frm.toNat []=_:=t1.1;rw [e];have h2:=f.fits s.frm.toNat hi;have h3:=lenOf_cut Y.cars (trk Y s.frm) (EI Y s).toNat;have h4:=KN sm ((trk Y s.frm).drop (EI Y s).toNat);have e5:Y.tracks.getD s.frm.toNat []=trk Y s.frm:=rfl;rw [e5] at h2;omega
    · by_cases h2:i=s.to.toNat
      · subst h2
        have e:(moved Y s).tracks.getD s.to.toNat []=_:=t1.2;rw [e,LL];have:=m.fits;omega
      · rw [moved_other h1 h2];exact f.fits i hi
  · rw [groups_sum]
    intro g hg;have h1:=groups_sum.1 f.groups g hg;have h2:=moved_sum m g hg;exact Cv h2 h1
theorem may_back {Y:Yard} {s:Shift} (f:Fine Y) (h:BX Y s=0):BX (moved Y s) (BA s)=0:=by
  have m:=mayOk h;have b:=back_ok h;have k:=LI h;have hf:=m.frm;have ht:=m.to;have hne:=m.ne;have hm:=m.many;have t1:=moved_trk m;have hlen:(moved Y s).tracks.length=Y.tracks.length:=k.len;have ec:EI (moved Y s) (BA s)=↑(trk Y s.to).length:=by
    have e1:trk (moved Y s) (BA s).frm=_:=t1.2;unfold EI;rw [e1];simp only [Ad,Cq,BA,EI,trk];omega
  refine mayErr_7 rfl ?_ ?_ ?_ ?_ ?_ ?_
  · rw [hlen]
    show (decide (0≤s.to)&&decide (s.to≤↑Y.tracks.length-1))=true;rw [Bg ht.1,Bg (by omega)];rfl
  · rw [hlen]
    show (decide (0≤s.frm)&&decide (s.frm≤↑Y.tracks.length-1))=true;rw [Bg hf.1,Bg (by omega)];rfl
  · exact fun e=>hne e.symm
  · simp only [BA];omega
  · have:=b.2.2.2
    unfold trk;omega
  · rw [ec]
    have e1:trk (moved Y s) (BA s).frm=_:=t1.2;have e2:trk (moved Y s) (BA s).to=_:=t1.1;have e3:(moved Y s).cars=Y.cars:=rfl;have e4:(moved Y s).room=Y.room:=rfl;rw [e1,e2,e3,e4,Bx,List.drop_left,Bool.or_eq_false_iff]
    constructor
    · cases hc:DA Y.cars (trk Y s.to++(trk Y s.frm).drop (EI Y s).toNat) ↑(trk Y s.to).length with
      | false=>rfl
      | true=>
        exfalso
        have hDl:0<((trk Y s.frm).drop (EI Y s).toNat).length:=by
          simp only [Cq,EI];have:(trk Y s.frm).length=(Y.tracks.getD s.frm.toNat []).length:=rfl;omega
        obtain ⟨c1,c2,c3⟩:=coupled_to (by rw [Ad];omega) hc;have q1:(trk Y s.to++(trk Y s.frm).drop (EI Y s).toNat).getD (trk Y s.to).length 0=((trk Y s.frm).drop (EI Y s).toNat).getD 0 0:=by
          rw [getD_app,if_neg (by omega),Nat.sub_self]
        have q2:(trk Y s.to++(trk Y s.frm).drop (EI Y s).toNat).getD ((trk Y s.to).length-1) 0=(trk Y s.to).getD ((trk Y s.to).length-1) 0:=by
          rw [getD_app,if_pos (by omega)]
        rw [q1] at c2;rw [q1,q2] at c3
        generalize hg:grp Y.cars (((trk Y s.frm).drop (EI Y s).toNat).getD 0 0)=g at c2 c3
        have h1:=groups_sum.1 f.groups g c2;have h2:=sumG_at (cs:=Y.cars) (g:=g) Y.tracks s.frm.toNat s.to.toNat (by omega) (by omega) (by omega);have h3:=stG_cut (cs:=Y.cars) (g:=g) (A:=trk Y s.frm) (n:=(EI Y s).toNat) (free_cut m g c2);have h4:=stG_tf (cs:=Y.cars) (g:=g) ((trk Y s.frm).drop (EI Y s).toNat);rw [if_pos ⟨hDl,hg⟩] at h4;have h5:1≤stG Y.cars g false (trk Y s.to):=by
          have e5:trk Y s.to=(trk Y s.to).take ((trk Y s.to).length-1)++[(trk Y s.to).getD ((trk Y s.to).length-1) 0]:=by
            have:=CF (d:=(0:Int)) (xs:=trk Y s.to) (k:=(trk Y s.to).length-1) (by omega);rw [← this,show (trk Y s.to).length-1+1=(trk Y s.to).length by omega,List.take_length]
          by_cases hz:stG Y.cars g false (trk Y s.to)=0
          · exfalso
            have hl:QJ Y.cars g false (trk Y s.to)=true:=by rw [lastB_at _ _ c1];exact Bg c3.symm
            have:∀ (a:List Int),stG Y.cars g false a=0→QJ Y.cars g false a=false:=by
              intro a
              induction a with
              | nil=>intro _;rfl
              | cons c a ih=>
                intro hz;simp only [stG] at hz
                by_cases hcg:grp Y.cars c=g
                · rw [if_pos ⟨hcg,trivial⟩] at hz;omega
                · simp only [QJ]
                  rw [Br hcg] at hz ⊢;exact ih (by omega)
            rw [this _ hz] at hl;cases hl
          · omega
        have e6:Y.tracks.getD s.frm.toNat []=trk Y s.frm:=rfl;have e7:Y.tracks.getD s.to.toNat []=trk Y s.to:=rfl;rw [e6,e7] at h2;omega
    · refine Br ?_
      have h2:=f.fits s.frm.toNat (by omega);have h3:=lenOf_cut Y.cars (trk Y s.frm) (EI Y s).toNat;have e6:Y.tracks.getD s.frm.toNat []=trk Y s.frm:=rfl;rw [e6] at h2;have e8:(BA s).to=s.frm:=rfl;rw [e8];omega
theorem playFrom_app:∀ (a:List Shift) (b:List Shift) {Y Z:Yard},BN Y a=(Z,0)→BN Y (a++b)=BN Z b:=by
  intro a
  induction a with
  | nil=>intro b Y Z h;simp only [BN,Bs,and_true] at h;subst h;rfl
  | cons s a ih=>
    intro b Y Z h;simp only [Ci,BN] at h ⊢
    by_cases hm:BX Y s=0
    · rw [if_pos hm] at h ⊢;exact ih b h
    · rw [if_neg hm] at h
      simp only [Bs] at h;exact absurd h.2 hm
theorem playFrom_one {Y:Yard} {s:Shift} (h:BX Y s=0):BN Y [s]=(moved Y s,0):=by simp only [BN];rw [if_pos h]
theorem playFrom_fine:∀ (l:List Shift) {Y X:Yard},Fine Y→BN Y l=(X,0)→Fine X:=by
  intro l
  induction l with
  | nil=>intro Y X f h;simp only [BN,Bs,and_true] at h;subst h;exact f
  | cons s l ih=>
    intro Y X f h;simp only [BN] at h
    by_cases hm:BX Y s=0
    · rw [if_pos hm] at h;exact ih (f.mv hm) h
    · rw [if_neg hm] at h;simp only [Bs] at h;exact absurd h.2 hm
theorem playFrom_back:∀ (l:List Shift) {Y X:Yard},Fine Y→BN Y l=(X,0)→BN X (l.map BA).reverse=(Y,0):=by
  intro l
  induction l with
  | nil=>intro Y X f h;simp only [BN,Bs,and_true] at h;subst h;rfl
  | cons s l ih=>
    intro Y X f h;simp only [BN] at h
    by_cases hm:BX Y s=0
    · rw [if_pos hm] at h
      rw [Aw,List.reverse_cons,playFrom_app _ _ (ih (f.mv hm) h),playFrom_one (may_back f hm),moved_back hm]
    · rw [if_neg hm] at h;simp only [Bs] at h;exact absurd h.2 hm
def HB (Y:Yard) (l:List Shift):List Shift × Int:=if (FC Y l).2=0 then ((l.map BA).reverse,0) else ([],(FC Y l).2)
theorem play_valid {Y X:Yard} {l:List Shift} (h:Valid Y) (hp:BN Y l=(X,0)):FC Y l=(X,0)∧Valid X∧Kin Y X:=by
  exact ⟨(JC h).trans hp,(playFrom_fine l h.fine hp).valid,playFrom_kin l hp⟩
theorem back_law {Y X:Yard} {l:List Shift} (h:Valid Y) (hp:BN Y l=(X,0)):HB Y l=((l.map BA).reverse,0)∧FC X (l.map BA).reverse=(Y,0):=by
  obtain ⟨h1,h2,_⟩:=play_valid h hp;refine ⟨by unfold HB;rw [h1];rfl,(JC h2).trans (playFrom_back l h.fine hp)⟩
def yvD:Value × Value × Value:=(undef,undef,undef)
def YardsV (I:Imm) (xs:List (Value × Value × Value)) (Ys:List Yard):Prop:=xs.length=Ys.length∧∀ i,i<xs.length→IsYard I (.agg #[(xs.getD i yvD).1,(xs.getD i yvD).2.1,(xs.getD i yvD).2.2]) (Ys.getD i LO)
theorem YardsV.nil (I:Imm):YardsV I [] []:=⟨rfl,fun i hi=>by simp at hi⟩
theorem YardsV.at {I : Imm} {xs : List (Value × Value × Value)} {Ys : List Yard} (h : YardsV I xs Ys) {i : Nat} (hi : i < xs.length) :
    ∃ a b c,xs.getD i yvD=(a,b,c)∧GL I a (Ys.getD i LO).cars∧AF I b (Ys.getD i LO).room∧IsRows I c (Ys.getD i LO).tracks:=by
  obtain ⟨v1,v2,v3,h1,h2,h3,h4⟩:=h.2 i hi;simp only [Value.agg.injEq] at h1;have e:=congrArg Array.toList h1;simp only [List.cons.injEq,and_true] at e;refine ⟨v1,v2,v3,?_,h2,h3,h4⟩;rw [← e.1,← e.2.1,← e.2.2]
def RowsS (I:Imm) (vs:List Value) (Ls:List (List Shift)):Prop:=vs.length=Ls.length∧∀ i,i<Ls.length→IsShifts I (vs.getD i undef) (Ls.getD i [])
theorem RowsS.nil (I:Imm):RowsS I [] []:=⟨rfl,fun i hi=>by simp at hi⟩
structure Few (n:Nat) (Y:Yard):Prop where
  cars:Y.cars.length≤n
  room:Y.room.length≤n
  tracks:Y.tracks.length≤n
  each:∀ t∈Y.tracks,t.length≤n
end Go.Sh
namespace Go.Sl
open Go
end Go.Sl
namespace Go.Sh
open Go Go.Sl
theorem few_of {Y:Yard} {k:Nat} (hal:∀ t∈Y.tracks.take k,t.length≤20) (hk:k≤Y.tracks.length) (hx:k<Y.tracks.length→20≤k) (h3:Y.cars.length≤20∧Y.room.length≤20∧Y.tracks.length≤20):Few 20 Y:=
  ⟨h3.1,h3.2.1,h3.2.2,fun t ht=>hal t (by rw [Bq (by omega)];exact ht)⟩
end Go.Sh
namespace Go.Sl
open Go
section
variable {P:Program} {N:Nat} {ops:Array Oper} {i d:Nat} {l:Sl} {I:Imm} {R:Seg} {ty:TypeId} {gd:Option (Nat × Bool)}
end
end Go.Sl
namespace Go.Sh
open Go Go.Sl
class Up (I J:Imm) (p:Prop) (q:outParam Prop):Prop where
  up:I.le J→p→q
section
variable {I J:Imm}
instance {α:Type} {sz:Nat} {cell:α→Nat→Value} {dflt:α} {v:Value} {xs:List α}:Up I J (IsSl sz cell dflt I v xs) (IsSl sz cell dflt J v xs):=⟨fun h p=>p.mono h⟩
instance {sz:Nat} {a:Option Addr} {b o n:Nat} {cell:Nat→Nat→Value}:Up I J (Row sz I a b o n cell) (Row sz J a b o n cell):=⟨fun h p=>p.mono h⟩
instance {v:Value} {xs:List (List Int)}:Up I J (IsRows I v xs) (IsRows J v xs):=⟨fun h p=>p.mono h⟩
instance {v:List Value} {xs:List (List Int)}:Up I J (RowsV I v xs) (RowsV J v xs):=⟨fun h p=>p.mono h⟩
instance {v:Value} {Y:Yard}:Up I J (IsYard I v Y) (IsYard J v Y):=⟨fun h p=>p.mono h⟩
instance {v:Value} {N:Net}:Up I J (IsNet I v N) (IsNet J v N):=⟨fun h p=>p.mono h⟩
instance {v:Value} {N:Wag}:Up I J (IsWag I v N) (IsWag J v N):=⟨fun h p=>p.mono h⟩
instance {v:Value} {N:Trp}:Up I J (IsTrp I v N) (IsTrp J v N):=⟨fun h p=>p.mono h⟩
instance {v:Value} {C:Clr}:Up I J (IsClr I v C) (IsClr J v C):=⟨fun h p=>p.mono h⟩
instance {x:Rollv}:Up I J (RollvOk I x) (RollvOk J x):=⟨fun h p=>p.mono h⟩
instance {T:TypeId} {b:Nat} {v1 v2 v3 v4 v5 v6 v7:Value} {C:Clr}:Up I J (IsMNet T I b v1 v2 v3 v4 v5 v6 v7 C) (IsMNet T J b v1 v2 v3 v4 v5 v6 v7 C):=⟨fun h p=>p.mono h⟩
instance {T U:TypeId} {c n:Nat} {v1 v2 v3 v4 v5 v6:Value} {W:Wag} {N:Net} {r:List Int}:Up I J (IsLCar T U I c n v1 v2 v3 v4 v5 v6 W N r) (IsLCar T U J c n v1 v2 v3 v4 v5 v6 W N r):=⟨fun h p=>p.mono h⟩
instance {b:Nat} {o:Obj}:Up I J (I.blk b=some o) (J.blk b=some o):=⟨fun h p=>h.blk _ _ p⟩
instance {α:Type} {xs:List α} {Q R:α→Prop} [q:∀ x,Up I J (Q x) (R x)]:Up I J (∀ x∈xs,Q x) (∀ x∈xs,R x):=⟨fun h p x hx=>(q x).up h (p x hx)⟩
variable {A A' B B' C C' D D' E E' F F' G G' H H':Prop}
theorem mnB [u:Up I J A A'] [w:Up I J B B'] (h:I.le J) (a:A) (b:B):A'∧B':=⟨u.up h a,w.up h b⟩
theorem mnC [u:Up I J A A'] [Up I J B B'] [Up I J C C'] (h:I.le J) (a:A) (b:B) (c:C):A'∧B'∧C':=⟨u.up h a,mnB h b c⟩
theorem mnD [u:Up I J A A'] [Up I J B B'] [Up I J C C'] [Up I J D D'] (h:I.le J) (a:A) (b:B) (c:C) (d:D):A'∧B'∧C'∧D':=⟨u.up h a,mnC h b c d⟩
theorem mnE [u:Up I J A A'] [Up I J B B'] [Up I J C C'] [Up I J D D'] [Up I J E E'] (h:I.le J) (a:A) (b:B) (c:C) (d:D) (e:E):A'∧B'∧C'∧D'∧E':=⟨u.up h a,mnD h b c d e⟩
theorem mnF [u:Up I J A A'] [Up I J B B'] [Up I J C C'] [Up I J D D'] [Up I J E E'] [Up I J F F'] (h:I.le J) (a:A) (b:B) (c:C) (d:D) (e:E) (f:F):A'∧B'∧C'∧D'∧E'∧F':=⟨u.up h a,mnE h b c d e f⟩
theorem mnG [u:Up I J A A'] [Up I J B B'] [Up I J C C'] [Up I J D D'] [Up I J E E'] [Up I J F F'] [Up I J G G'] (h:I.le J) (a:A) (b:B) (c:C) (d:D) (e:E) (f:F) (g:G):A'∧B'∧C'∧D'∧E'∧F'∧G':=⟨u.up h a,mnF h b c d e f g⟩
theorem mnH [u:Up I J A A'] [Up I J B B'] [Up I J C C'] [Up I J D D'] [Up I J E E'] [Up I J F F'] [Up I J G G'] [Up I J H H'] (h:I.le J) (a:A) (b:B) (c:C) (d:D) (e:E) (f:F) (g:G) (z:H):A'∧B'∧C'∧D'∧E'∧F'∧G'∧H':=⟨u.up h a,mnG h b c d e f g z⟩
end
end Go.Sh
namespace Go.Sl
open Go
section
variable {ρ:Option Nat} {P:Program} {N:Nat} {ops:Array Oper} {Q:Exit→Act→World→Prop} {ds:List Deferred} {i:Nat} {l:Sl} {I I₀:Imm} {R M F:Seg} {fn:Func} {post:Value→Imm→Seg→Prop}
theorem rt1 (t : Nat) {v : Value} (hv : DL t l = some v) (hle : I₀.le I) (hp : post v I []) (hr : fn.results = #[.tmp t] := by kernel_rfl) (hs : ([] ++ F).Sublist M := by exact TR _) :
    Pst N (RetQ P fn I₀ post F) .ret [] l I M:=KQ [] hr hv hs hle hp
theorem EJ (t : Nat) {v : Value} (M' : Seg) (hv : DL t l = some v) (hs : (M' ++ F).Sublist M) (hle : I₀.le I) (hp : post v I M') (hr : fn.results = #[.tmp t] := by kernel_rfl) :
    Pst N (RetQ P fn I₀ post F) .ret [] l I M:=KQ M' hr hv hs hle hp
theorem rt2 (t u : Nat) {v x : Value} (hv : DL t l = some v) (hx : DL u l = some x) (hle : I₀.le I) (hp : post (.tuple #[v, x]) I []) (hr : fn.results = #[.tmp t, .tmp u] := by kernel_rfl) (hs : ([] ++ F).Sublist M := by exact TR _) :
    Pst N (RetQ P fn I₀ post F) .ret [] l I M:=MH [] hr hv hx hs hle hp
theorem rt2s (t u : Nat) {v x : Value} (M' : Seg) (hv : DL t l = some v) (hx : DL u l = some x) (hs : (M' ++ F).Sublist M) (hle : I₀.le I) (hp : post (.tuple #[v, x]) I M') (hr : fn.results = #[.tmp t, .tmp u] := by kernel_rfl) :
    Pst N (RetQ P fn I₀ post F) .ret [] l I M:=MH M' hr hv hx hs hle hp
theorem dpv (d:Nat) (v:Value) (h:pvAt P N ops l i=some (d,v):=by kernel_rfl):Det P N ops i l I R d v:=det_pv h
theorem dld (d x : Nat) (T : TypeId) {b off : Nat} (v : Value) (hx : DL x l = some (.pointer (some ⟨b, off, none⟩))) (hs : Sees I R ⟨b, off, none⟩ v) (hop : FH ops N i = some (some d, .load T (.tmp x), T, none) := by kernel_rfl) (hT : DR P T = some false := by kernel_rfl) :
    Det P N ops i l I R d v:=HP hop rfl hT hx hs
theorem dfa (d x : Nat) (T : TypeId) (k o : Nat) (ty : TypeId) {b off : Nat} (hx : DL x l = some (.pointer (some ⟨b, off, none⟩))) (hop : FH ops N i = some (some d, .fieldAddr T (.tmp x) k, ty, none) := by kernel_rfl) (hT : tyOff P T k = some o := by kernel_rfl) :
    Det P N ops i l I R d (.pointer (some ⟨b,off+o,none⟩)):=CX hop rfl hT hx
theorem sap {α : Type} {d : Nat} (x y : Nat) (T E sz bs : Nat) (z : Value) (cell : α → Nat → Value) {v u : Value} (xs ys : List α) (Ms : Seg) {Rest : Seg} {K : Sl → Imm → Seg → Prop}
    (hx:DL x l=some v) (hy:DL y l=some u) (own:Own E sz cell v xs Ms) (hM:M.Perm (Ms++Rest)) (hone:∀ c∈DM sz cell ys,DF c=true) (hsrc:Src I (Ms++Rest) u ys.length (DM sz cell ys))
    (next:∀ v' Ms',Own E sz cell v' (xs++ys) Ms'→K ((d,v')::l) I (Ms'++Rest))
    (hneed:xs.length+ys.length≤274877906944:=by first | omega | (simp only [Aq,Cg];omega) | (simp only [Aq,Cg,Ad];omega) | (simp only [Aq,Cg,Ad,Be,Cq];omega) | (simp only [Aq,Cg,Ad,Be,Bi];omega))
    (hop:FH ops N i=some (some d,.call { callee:=.builtin .append,args:=#[.tmp x,.tmp y],argTypes:=#[T,T] },T,none):=by kernel_rfl)
    (hT:ID P T=some E:=by kernel_rfl) (hsz:CW P E=some sz:=by kernel_rfl) (hz:JI P E=some z:=by kernel_rfl) (hzc:z.cells.size=sz:=by kernel_rfl) (hb:KR P E=some bs:=by kernel_rfl) (hbs:1≤bs∧bs≤256:=by decide):Stp P N ops i l I M K:=
  IV hop rfl hT hsz hz hzc hb hbs hT hx hy own hM hone hsrc hneed next
theorem snm (vs:List Value) (b:Nat) (T:TypeId) (h:(b,Obj.cells vs.toArray T (0,0))∈M:=by simp):SeesN I M b 0 vs:=seesN_mem (n:=vs.length) h (by simp)
theorem FpOk.wt {M:Seg} {k:Nat} {pr:Seg→Prop} {fp:List (Nat × (Seg→Prop))} (f:FpOk ops i M fp) (h:Go.Sl.wt ops i k=true:=by kernel_rfl):FpOk ops i M ((k,pr)::fp):=.wait h f
theorem kk:(∀ b,(true&&b)=b)∧(∀ b,(false&&b)=false)∧(∀ b,(b&&true)=b)∧(∀ b,(b&&false)=false)∧(∀ b,(true||b)=true)∧(∀ b,(false||b)=b)∧(∀ b,(b||true)=true)∧(∀ b,(b||false)=b)∧(∀ a b:Bool,(bif true then a else b)=a)∧(∀ a b:Bool,(bif false then a else b)=b):=
  ⟨kA,kB,kC,kD,kE,kF,kG,kH,kI,kJ⟩
theorem sun (n:Nat) {l' l:Sl} (h2:Sub (l'.drop n) l) (h:pickL l (l'.take n) true=some (l'.take n):=by kernel_rfl):Sub l' l:=by
  intro t v ht;rw [← Ce n l',JB] at ht;cases hq:DL t (l'.take n) with
  | none=>rw [hq] at ht;exact h2 t v ht
  | some u=>rw [hq] at ht;cases ht;exact MF h hq
theorem dln (d x : Nat) (T : TypeId) (vs : List Value) {b off : Nat} (hx : DL x l = some (.pointer (some ⟨b, off, none⟩))) (hs : SeesN I R b off vs) (hop : FH ops N i = some (some d, .load T (.tmp x), T, none) := by kernel_rfl) (hT : DR P T = some true := by kernel_rfl) (hn : CW P T = some vs.length := by kernel_rfl) :
    Det P N ops i l I R d (.agg vs.toArray):=det_loadN hop rfl hT hn hx rfl hs
theorem rmA {c:Code} {M':Seg} (next:Run (ρ:=ρ) P N c Q ds l I M') (h:∀ w,St I M w→St I M' w:=by intro w h;simpa only [Am,Ci,De] using h):Run (ρ:=ρ) P N c Q ds l I M:=run_mem h next
abbrev SD (N:Nat) (l:Sl) (I:Imm) (M:Seg) (a:Act) (w:World) (p:Prop):Prop:=Slots N l a∧a.defers=[]∧St I M w∧p
abbrev SE (N:Nat) (l:Sl) (I:Imm) (M:Seg) (a:Act) (w:World):Prop:=Slots N l a∧a.defers=[]∧St I M w
noncomputable def cod (f:Func) (p:List Nat):Code:=sub (KT f) p
end
end Go.Sl
namespace Go.Sh
open Go Go.Sl
end Go.Sh
namespace Go.Proofs.YtmhdidbgjpeadaaGreatDoor
open Go Go.Sl Go.Sh
set_option maxRecDepth 100000
noncomputable def cIn (p:List Nat):Code:=sub (KT Tryz.f67) p
theorem in_ct (I:Imm) (n:Int) (lo:Int) (hi:Int):CtV Tryz.prog 67 #[vI n,vI lo,vI hi] I (.bool (inB n lo hi)):=by
 refine fr (args:=[_,_,_]) (N:=15) Tryz.func67 (fun F=>?_);show Run _ _ (cIn []) _ _ [(0,vI n),(1,vI lo),(2,vI hi)] _ _;refine rnm (rqr ?_);refine sp 1 [(6,.bool false)] (se (rq ?_));refine CD (fun a w=>SE 15 [(6,.bool ((cmp .leq lo n)&&(cmp .leq n hi)))] I F a w) ?_ ?_
 ·
  refine rr (sp 4 [(10,.bool (cmp .leq lo n))] ?_);refine BH 10 rfl (fun h1=>?_) (fun h1=>?_)
  ·
   have a0:=h1;have a0:=leq_t a0;refine sp 5 [(6,.bool (cmp .leq n hi))] (ee ?_);refine AN (fun a w hS hD hW=>⟨hS.sub (.consE 6 rfl (congrArg Value.bool (by simp only [h1,kk])) (.nil _)),hD,hW⟩)
  have a0:=h1;have a0:=leq_f a0;refine sp 5 [(6,.bool false)] (ee ?_);refine AN (fun a w hS hD hW=>⟨hS.sub (.consE 6 rfl (congrArg Value.bool (by simp only [h1,kk])) (.nil _)),hD,hW⟩)
 rintro a w ⟨hS,hD,hW⟩
 refine AX hS hD hW ?_;refine BJ (rt1 6 rfl (IR _) ?_);exact ⟨by simp [inB,cmp],rfl⟩
noncomputable def c_EqualInts_ct:=cod Tryz.f14
theorem KY (I:Imm) (a:Value) (xs:List Int) (b:Value) (ys:List Int) (a_f:AF I a xs) (b_f:AF I b ys):CtV Tryz.prog 14 #[a,b] I (.bool (decide (xs=ys))):=by
 obtain ⟨a0,a1,b1,b4,rfl,b2,b3,a7⟩:=id a_f;obtain ⟨a2,a3,b5,b8,rfl,b6,b7,a8⟩:=id b_f;refine fr (args:=[_,_]) (N:=26) Tryz.func14 (fun F=>?_);show Run _ _ (c_EqualInts_ct []) _ _ [(0,_),(1,_)] _ _;refine rnm (rqr ?_);refine sp 1 [(4,.bool false)] (se (rq (rqr (sp 5 [(10,.bool (!(cmp .eql (↑(xs.length)) (↑(ys.length)))))] (se (rc 10 rfl (fun h1=>?_) (fun h1=>?_)))))))
 ·
  have a4:=h1;have h1:=CI (CU h1);refine rqr (sp 1 [(4,.bool false)] (se (BJ (RP (rt1 4 rfl (IR _) ?_)))));exact ⟨by rw [Br (fun e=>h1 (by rw [e]))],rfl⟩
 have a4:=h1;have h1:=CL (CO h1);refine AH (NX (rq (rqr (sp 1 [(5,vI 0)] (se (rb 0 ?_))))));refine rl (fun mz a w=>∃ k:Nat,(k≤xs.length)∧(xs.length=ys.length)∧(xs.take k=ys.take k)∧SD 26 [(5,vI ↑k),(0,vS a0 xs.length a1),(1,vS a2 ys.length a3)] I F a w (mz=xs.length-k)) ?_ ?_
 ·intro a w hS hD hW;exact ⟨_,0,Ae _,by omega,rfl,hS.sub su,hD,hW,rfl⟩
 rintro mz a w ⟨k,hk,hl,ht,hS,hD,hW,rfl⟩
 refine AX hS hD hW ?_;clear hS hD hW a w;refine rq (rqr (sp 4 [(14,.bool (cmp .lss ↑k (↑(xs.length))))] (se (rc 14 rfl (fun h2=>?_) (fun h2=>?_)))))
 ·
  have a5:=h2;have h2:=BW h2;refine AH (NX (rq (rb 1 (rq ?_))));refine rd0 8 (ox 2 [(18,vI ↑k),(17,vS a0 xs.length a1)] ?_);refine AD (di 19 1 k a7.addr) ?_;refine AD (dl 20 (AY a7 k (by omega))) (ox 2 [(22,vI ↑k),(21,vS a2 ys.length a3)] ?_);refine AD (di 23 1 k a8.addr) ?_;refine AD (dl 24 (AY a8 k (by omega))) ?_;refine BE (sp 1 [(25,.bool (!(cmp .eql (xs.getD k 0) (ys.getD k 0))))] (se (rc 25 rfl (fun h3=>?_) (fun h3=>?_))))
  ·
   have a6:=h3;have h3:=CI (CU h3);refine rqr (sp 1 [(4,.bool false)] (se (BJ (RB (RP (RP (RB (RP (rt1 4 rfl (IR _) ?_)))))))));exact ⟨by rw [Br (getD_ne hl h3)],rfl⟩
  have a6:=h3;have h3:=CL (CO h3);refine AH (NB (NX (rr (sp 1 [(15,vI ↑k)] (sd (da 16 ↑k 1) (sp 1 [(5,vI (↑k+1))] (ee ?_)))))));refine AG (xs.length-(k+1)) (by omega) ?_;intro a w hS hD hW;exact ⟨k+1,by omega,hl,OI (d:=0) hl ht (by omega) h3,hS.sub su,hD,hW,rfl⟩
 have a5:=h2;have h2:=CC h2;refine BQ 0 (EP (EP (EB (NX (rqr (sp 1 [(4,.bool true)] (se (BJ (rt1 4 rfl (IR _) ?_)))))))));exact ⟨by rw [Bg (QU hl ht (by omega))],rfl⟩
noncomputable def QE:=cod Tryz.f108
theorem slicesEqual_ct (I:Imm) (a:Value) (xs:List Int) (b:Value) (ys:List Int) (a_f:AF I a xs) (b_f:AF I b ys):CtV Tryz.prog 108 #[a,b] I (.bool (decide (xs=ys))):=by
 obtain ⟨a0,a1,b1,b4,rfl,b2,b3,a7⟩:=id a_f;obtain ⟨a2,a3,b5,b8,rfl,b6,b7,a8⟩:=id b_f;refine fr (args:=[_,_]) (N:=26) Tryz.func108 (fun F=>?_);show Run _ _ (QE []) _ _ [(0,_),(1,_)] _ _;refine rnm (rqr ?_);refine sp 1 [(4,.bool false)] (se (rq (rqr (sp 5 [(10,.bool (!(cmp .eql (↑(xs.length)) (↑(ys.length)))))] (se (rc 10 rfl (fun h1=>?_) (fun h1=>?_)))))))
 ·
  have a4:=h1;have h1:=CI (CU h1);refine rqr (sp 1 [(4,.bool false)] (se (BJ (RP (rt1 4 rfl (IR _) ?_)))));exact ⟨by rw [Br (fun e=>h1 (by rw [e]))],rfl⟩
 have a4:=h1;have h1:=CL (CO h1);refine AH (NX (rq (rqr (sp 3 [(13,vI 0),(12,vI (↑(xs.length)))] (se (rb 0 ?_))))));refine rl (fun mz a w=>∃ k:Nat,(k≤xs.length)∧(xs.length=ys.length)∧(xs.take k=ys.take k)∧SD 26 [(13,vI ↑k),(0,vS a0 xs.length a1),(1,vS a2 ys.length a3),(12,vI (↑(xs.length)))] I F a w (mz=xs.length-k)) ?_ ?_
 ·intro a w hS hD hW;exact ⟨_,0,Ae _,by omega,rfl,hS.sub su,hD,hW,rfl⟩
 rintro mz a w ⟨k,hk,hl,ht,hS,hD,hW,rfl⟩
 refine AX hS hD hW ?_;clear hS hD hW a w;refine rqr (sp 1 [(14,.bool (cmp .lss ↑k (↑(xs.length))))] (se (rq (rc 14 rfl (fun h2=>?_) (fun h2=>?_)))))
 ·
  have a5:=h2;have h2:=BW h2;refine AH (NX (rq (rb 1 (rqr (sp 2 [(5,vI ↑k)] (se (rq ?_)))))));refine rd0 8 (ox 2 [(17,vI ↑k),(16,vS a0 xs.length a1)] ?_);refine AD (di 18 1 k a7.addr) ?_;refine AD (dl 19 (AY a7 k (by omega))) (ox 2 [(21,vI ↑k),(20,vS a2 ys.length a3)] ?_);refine AD (di 22 1 k a8.addr) ?_;refine AD (dl 23 (AY a8 k (by omega))) ?_;refine BE (sp 1 [(24,.bool (!(cmp .eql (xs.getD k 0) (ys.getD k 0))))] (se (rc 24 rfl (fun h3=>?_) (fun h3=>?_))))
  ·
   have a6:=h3;have h3:=CI (CU h3);refine rqr (sp 1 [(4,.bool false)] (se (BJ (RB (RP (RP (RB (RP (rt1 4 rfl (IR _) ?_)))))))));exact ⟨by rw [Br (getD_ne hl h3)],rfl⟩
  have a6:=h3;have h3:=CL (CO h3);refine AH (NB (NX (rr (sd (da 25 ↑k 1) (sp 1 [(13,vI (↑k+1))] (ee ?_))))));refine AG (xs.length-(k+1)) (by omega) ?_;intro a w hS hD hW;exact ⟨k+1,by omega,hl,OI (d:=0) hl ht (by omega) h3,hS.sub su,hD,hW,rfl⟩
 have a5:=h2;have h2:=CC h2;refine BQ 0 (EP (EP (EB (NX (rqr (sp 1 [(4,.bool true)] (se (BJ (rt1 4 rfl (IR _) ?_)))))))));exact ⟨by rw [Bg (QU hl ht (by omega))],rfl⟩
noncomputable def c_EqualRows_ct:=cod Tryz.f80
theorem EqualRows_ct (I:Imm) (a:Value) (xs:List (List Int)) (b:Value) (ys:List (List Int)) (a_f:IsRows I a xs) (b_f:IsRows I b ys):CtV Tryz.prog 80 #[a,b] I (.bool (decide (xs=ys))):=by
 obtain ⟨a4,a5,d3,d6,b4,rfl,d4,d5,b1,b5⟩:=id a_f;obtain ⟨a6,a7,d7,e0,b7,rfl,d8,d9,b2,b8⟩:=id b_f;refine fr (args:=[_,_]) (N:=27) Tryz.func80 (fun F=>?_);show Run _ _ (c_EqualRows_ct []) _ _ [(0,_),(1,_)] _ _;refine rnm (rqr ?_);refine sp 1 [(4,.bool false)] (se (rq (rqr (sp 5 [(10,.bool (!(cmp .eql (↑(xs.length)) (↑(ys.length)))))] (se (rc 10 rfl (fun h1=>?_) (fun h1=>?_)))))))
 ·
  have a8:=h1;have h1:=CI (CU h1);refine rqr (sp 1 [(4,.bool false)] (se (BJ (RP (rt1 4 rfl (IR _) ?_)))));exact ⟨by rw [Br (fun e=>h1 (by rw [e]))],rfl⟩
 have a8:=h1;have h1:=CL (CO h1);refine AH (NX (rq (rqr (sp 1 [(5,vI 0)] (se (rb 0 ?_))))));refine rl (fun mz a w=>∃ k:Nat,(k≤xs.length)∧(xs.length=ys.length)∧(xs.take k=ys.take k)∧SD 27 [(5,vI ↑k),(0,vS a4 xs.length a5),(1,vS a6 ys.length a7)] I F a w (mz=xs.length-k)) ?_ ?_
 ·intro a w hS hD hW;exact ⟨_,0,Ae _,by omega,rfl,hS.sub su,hD,hW,rfl⟩
 rintro mz a w ⟨k,hk,hl,ht,hS,hD,hW,rfl⟩
 refine AX hS hD hW ?_;clear hS hD hW a w;refine rq (rqr (sp 4 [(14,.bool (cmp .lss ↑k (↑(xs.length))))] (se (rc 14 rfl (fun h2=>?_) (fun h2=>?_)))))
 ·
  have a9:=h2;have h2:=BW h2;refine AH (NX (rq (rb 1 (rq ?_))));refine rd0 8 (ox 2 [(18,vI ↑k),(17,vS a4 xs.length a5)] ?_);refine AD (di 19 1 k b1.addr) ?_;have a0:=b5 k (by omega);obtain ⟨b9,c1,c0,c4,a2,c2,c3,c5⟩:=id a0;rw [a2] at a0;refine AD (CJ (dl 20 (JQ b1 k (by omega))) a2) (ox 2 [(22,vI ↑k),(21,vS a6 ys.length a7)] ?_);refine AD (di 23 1 k b2.addr) ?_;have a1:=b8 k (by omega);obtain ⟨c6,c8,c7,d1,a3,c9,d0,d2⟩:=id a1;rw [a3] at a1;refine AD (CJ (dl 24 (JQ b2 k (by omega))) a3) ?_;refine BE (sd (dc 25 (fun I' hI=>(KY I' _ _ _ _ (a0.mono hI) (a1.mono hI) :))) (sp 1 [(26,.bool (!(decide ((xs.getD k [])=(ys.getD k [])))))] (se (rc 26 rfl (fun h3=>?_) (fun h3=>?_)))))
  ·
   have b0:=h3;have h3:=JV (CU h3);refine rqr (sp 1 [(4,.bool false)] (se (BJ (RB (RP (RP (RB (RP (rt1 4 rfl (IR _) ?_)))))))));exact ⟨by rw [Br (getD_ne hl h3)],rfl⟩
  have b0:=h3;have h3:=KA (CO h3);refine AH (NB (NX (rr (sp 1 [(15,vI ↑k)] (sd (da 16 ↑k 1) (sp 1 [(5,vI (↑k+1))] (ee ?_)))))));refine AG (xs.length-(k+1)) (by omega) ?_;intro a w hS hD hW;exact ⟨k+1,by omega,hl,OI (d:=[]) hl ht (by omega) h3,hS.sub su,hD,hW,rfl⟩
 have a9:=h2;have h2:=CC h2;refine BQ 0 (EP (EP (EB (NX (rqr (sp 1 [(4,.bool true)] (se (BJ (rt1 4 rfl (IR _) ?_)))))))));exact ⟨by rw [Bg (QU hl ht (by omega))],rfl⟩
noncomputable def c_Seat_ct:=cod Tryz.f15
theorem Seat_ct (I:Imm) (a:Value) (xs:List Int) (n:Int) (a_f:AF I a xs):CtV Tryz.prog 15 #[a,vI n] I (vI (seat xs n)):=by
 obtain ⟨a0,a1,a6,a9,rfl,a7,a8,a4⟩:=id a_f;refine fr (args:=[_,_]) (N:=19) Tryz.func15 (fun F=>?_);show Run _ _ (c_Seat_ct []) _ _ [(0,_),(1,_)] _ _;refine rnm (rqr ?_);refine sp 1 [(4,vI 0)] (se (rq (rqr (sp 1 [(5,vI 0)] (se (rb 0 ?_))))));refine rl (fun mz a w=>∃ k:Nat,(k≤xs.length)∧(n∉xs.take k)∧SD 19 [(5,vI ↑k),(0,vS a0 xs.length a1),(1,vI n)] I F a w (mz=xs.length-k)) ?_ ?_
 ·intro a w hS hD hW;exact ⟨_,0,Ae _,by simp,hS.sub su,hD,hW,rfl⟩
 rintro mz a w ⟨k,hk,hn,hS,hD,hW,rfl⟩
 refine AX hS hD hW ?_;clear hS hD hW a w;refine rq (rqr (sp 4 [(9,.bool (cmp .lss ↑k (↑(xs.length))))] (se (rc 9 rfl (fun h1=>?_) (fun h1=>?_)))))
 ·
  have a2:=h1;have h1:=BW h1;refine AH (NX (rq (rb 1 (rqr (sp 2 [(13,vI ↑k),(12,vS a0 xs.length a1)] (sd (di 14 1 k a4.addr) (sd (dl 15 (AY a4 k (by omega))) (sp 2 [(17,.bool (cmp .eql (xs.getD k 0) n))] (se (rc 17 rfl (fun h2=>?_) (fun h2=>?_)))))))))))
  ·
   have a3:=h2;have h2:=CL h2;refine rqr (sp 2 [(4,vI ↑k)] (se (BJ (RB (RP (RP (RB (RP (rt1 4 rfl (IR _) ?_)))))))));exact ⟨by rw [seat_hit hn (by omega) h2],rfl⟩
  have a3:=h2;have h2:=CI h2;refine AH (NB (NX (rr (sp 1 [(10,vI ↑k)] (sd (da 11 ↑k 1) (sp 1 [(5,vI (↑k+1))] (ee ?_)))))));refine AG (xs.length-(k+1)) (by omega) ?_;intro a w hS hD hW;exact ⟨k+1,by omega,NV hn (by omega) (fun e=>h2 e),hS.sub su,hD,hW,rfl⟩
 have a2:=h1;have h1:=CC h1;refine BQ 0 (EP (EP (EB (NX (rqr (sp 1 [(4,vI (-1))] (se (BJ (rt1 4 rfl (IR _) ?_)))))))));exact ⟨by rw [seat_miss hn (by omega)],rfl⟩
noncomputable def c_Index_ct:=cod Tryz.f97
theorem Index_ct (I:Imm) (a:Value) (xs:List Int) (n:Int) (a_f:AF I a xs):CtV Tryz.prog 97 #[a,vI n] I (vI (seat xs n)):=by
 obtain ⟨a0,a1,a6,a9,rfl,a7,a8,a4⟩:=id a_f;refine fr (args:=[_,_]) (N:=19) Tryz.func97 (fun F=>?_);show Run _ _ (c_Index_ct []) _ _ [(0,_),(1,_)] _ _;refine rnm (rqr ?_);refine sp 1 [(4,vI 0)] (se (rq (rqr (sp 3 [(8,vI 0),(7,vI (↑(xs.length)))] (se (rb 0 ?_))))));refine rl (fun mz a w=>∃ k:Nat,(k≤xs.length)∧(n∉xs.take k)∧SD 19 [(8,vI ↑k),(0,vS a0 xs.length a1),(1,vI n),(7,vI (↑(xs.length)))] I F a w (mz=xs.length-k)) ?_ ?_
 ·intro a w hS hD hW;exact ⟨_,0,Ae _,by simp,hS.sub su,hD,hW,rfl⟩
 rintro mz a w ⟨k,hk,hn,hS,hD,hW,rfl⟩
 refine AX hS hD hW ?_;clear hS hD hW a w;refine rqr (sp 1 [(9,.bool (cmp .lss ↑k (↑(xs.length))))] (se (rq (rc 9 rfl (fun h1=>?_) (fun h1=>?_)))))
 ·
  have a2:=h1;have h1:=BW h1;refine AH (NX (rq (rb 1 (rqr (sp 2 [(5,vI ↑k)] (sn (sp 3 [(13,vI ↑k),(12,vS a0 xs.length a1),(11,vI n)] (sd (di 14 1 k a4.addr) (sd (dl 15 (AY a4 k (by omega))) (sp 1 [(16,.bool (cmp .eql n (xs.getD k 0)))] (se (rc 16 rfl (fun h2=>?_) (fun h2=>?_)))))))))))))
  ·
   have a3:=h2;have h2:=CL h2;refine rqr (sp 2 [(4,vI ↑k)] (se (BJ (RB (RP (RP (RB (RP (rt1 4 rfl (IR _) ?_)))))))));exact ⟨by rw [seat_hit hn (by omega) h2.symm],rfl⟩
  have a3:=h2;have h2:=CI h2;refine AH (NB (NX (rr (sd (da 18 ↑k 1) (sp 1 [(8,vI (↑k+1))] (ee ?_))))));refine AG (xs.length-(k+1)) (by omega) ?_;intro a w hS hD hW;exact ⟨k+1,by omega,NV hn (by omega) (fun e=>h2 e.symm),hS.sub su,hD,hW,rfl⟩
 have a2:=h1;have h1:=CC h1;refine BQ 0 (EP (EP (EB (NX (rqr (sp 1 [(4,vI (-1))] (se (BJ (rt1 4 rfl (IR _) ?_)))))))));exact ⟨by rw [seat_miss hn (by omega)],rfl⟩
noncomputable def c_Contains:=cod Tryz.f58
theorem DD (I:Imm) (a:Value) (xs:List Int) (n:Int) (a_f:AF I a xs):CtV Tryz.prog 58 #[a,vI n] I (.bool (decide (n∈xs))):=by
 obtain ⟨a0,a1,a3,a6,rfl,a4,a5,a7⟩:=id a_f;refine fr (args:=[_,_]) (N:=9) Tryz.func58 (fun F=>?_);show Run _ _ (c_Contains []) _ _ [(0,_),(1,_)] _ _;refine rnm (rqr ?_);refine sp 1 [(4,.bool false)] (sn (sp 2 [(6,vI n),(5,vS a0 xs.length a1)] (sd (dc 7 (fun I' hI=>(Index_ct I' _ _ n (a_f.mono hI) :))) (sp 2 [(4,.bool (cmp .geq (seat xs n) 0))] (se (BJ (rt1 4 rfl (IR _) ?_)))))));exact ⟨by rw [seat_neg],rfl⟩
noncomputable def c_CloneInts_ct:=cod Tryz.f26
theorem BR (I:Imm) (a:Value) (xs:List Int) (a_f:AF I a xs) (hl:xs.length≤1000000):Ct Tryz.prog 26 #[a] I ([]) (fun v I' M'=>∃ u:Value,∃ Ms:Seg,v=u∧M'=Ms∧Own 3 1 AU u xs Ms):=by
 obtain ⟨a0,a1,b2,b5,rfl,b3,b4,a6⟩:=id a_f;refine fr (args:=[_]) (N:=8) Tryz.func26 (fun F=>?_);show Run _ _ (c_CloneInts_ct []) _ _ [(0,_)] _ _;refine rnm (rqr ?_);let Z0:=vS a0 xs.length a1;refine sp 1 [(2,vN)] (se (rq (rqr (sp 1 [(3,Z0)] (sd (KZ (e:=3) (x:=(.tmp 3)) (y:=(.const vN)) (T:=22) (T':=22) (d:=4) (ty:=4) (gd:=none) (by kernel_rfl) rfl (by kernel_rfl) rfl rfl) (se (rc 4 rfl (fun h1=>?_) (fun h1=>?_))))))))
 ·
  have a2:=h1;refine rqr (sp 1 [(2,vN)] (se (BJ (RP ?_))));obtain rfl:=a6.nil h1;refine KQ (t:=2) ([]) (by kernel_rfl) rfl (TR _) (IR _) ?_;exact ⟨_,_,rfl,rfl,Own.nil _ _ _⟩
 have a2:=h1;refine AH (NX (rqr (sS (sbs 5 3 0 #[] (fun b1=>(sp 1 [(6,Z0)] ?_))))));have a7:Own 3 1 AU (vS (some ⟨b1,0,none⟩) 0 0) ([]:List Int) [(bX b1 #[] 3)]:=Own.lit rfl rfl;refine sS (sap (d:=7) 5 6 22 3 1 8 (vI 0) AU ([]:List Int) xs [(bX b1 #[] 3)] rfl rfl a7 (PR _) (BB _) a_f.src (fun v4 a4 a3=>?_));rw [NA] at a3;refine nm ?_;obtain ⟨a8,a9,rfl,b6⟩:=a3.shape;refine sp 1 [(2,vS a8 xs.length a9)] (se (BJ (EJ 2 a4 rfl (TA (TR _) _) (IR _) ?_)));exact ⟨_,_,rfl,rfl,a3⟩
noncomputable def c_CloneCars_ct:=cod Tryz.f104
theorem CloneCars_ct (I:Imm) (a:Value) (xs:List Car) (a_f:GL I a xs) (hl:xs.length≤1000000):Ct Tryz.prog 104 #[a] I ([]) (fun v I' M'=>∃ u:Value,∃ Ms:Seg,v=u∧M'=Ms∧Own 136 6 FE u xs Ms):=by
 obtain ⟨a0,a1,b2,b5,rfl,b3,b4,a6⟩:=id a_f;refine fr (args:=[_]) (N:=8) Tryz.func104 (fun F=>?_);show Run _ _ (c_CloneCars_ct []) _ _ [(0,_)] _ _;refine rnm (rqr ?_);let Z0:=vS a0 xs.length a1;refine sp 1 [(2,vN)] (se (rq (rqr (sp 1 [(3,Z0)] (sd (KZ (e:=136) (x:=(.tmp 3)) (y:=(.const vN)) (T:=100) (T':=100) (d:=4) (ty:=4) (gd:=none) (by kernel_rfl) rfl (by kernel_rfl) rfl rfl) (se (rc 4 rfl (fun h1=>?_) (fun h1=>?_))))))))
 ·
  have a2:=h1;refine rqr (sp 1 [(2,vN)] (se (BJ (RP ?_))));obtain rfl:=a6.nil h1;refine KQ (t:=2) ([]) (by kernel_rfl) rfl (TR _) (IR _) ?_;exact ⟨_,_,rfl,rfl,Own.nil _ _ _⟩
 have a2:=h1;refine AH (NX (rqr (sS (sbs 5 136 0 #[] (fun b1=>(sp 1 [(6,Z0)] ?_))))));have a7:Own 136 6 FE (vS (some ⟨b1,0,none⟩) 0 0) ([]:List Car) [(bX b1 #[] 136)]:=Own.lit rfl rfl;refine sS (sap (d:=7) 5 6 100 136 6 40 (.agg #[vI 0,vI 0,vI 0,vI 0,.bool false,.bool false]) FE ([]:List Car) xs [(bX b1 #[] 136)] rfl rfl a7 (PR _) (FG _) a_f.src (fun v4 a4 a3=>?_));rw [NA] at a3;refine nm ?_;obtain ⟨a8,a9,rfl,b6⟩:=a3.shape;refine sp 1 [(2,vS a8 xs.length a9)] (se (BJ (EJ 2 a4 rfl (TA (TR _) _) (IR _) ?_)));exact ⟨_,_,rfl,rfl,a3⟩
noncomputable def c_CopyInts:=cod Tryz.f88
theorem FS (I:Imm) (a:Value) (xs:List Int) (a_f:AF I a xs) (hl:xs.length≤1000000):Ct Tryz.prog 88 #[a] I ([]) (fun v I' M'=>∃ u:Value,∃ Ms:Seg,v=u∧M'=Ms∧Own 3 1 AU u xs Ms):=by
 obtain ⟨a1,a2,a9,b3,rfl,b0,b2,b4⟩:=id a_f;refine fr (args:=[_]) (N:=6) Tryz.func88 (fun F=>?_);show Run _ _ (c_CopyInts []) _ _ [(0,_)] _ _;refine rnm (rqr ?_);refine sp 1 [(2,vN)] (sn (sS (sbs 3 3 0 #[] (fun b1=>(sp 1 [(4,vS a1 xs.length a2)] ?_)))));have a5:Own 3 1 AU (vS (some ⟨b1,0,none⟩) 0 0) ([]:List Int) [(bX b1 #[] 3)]:=Own.lit rfl rfl;refine sS (sap (d:=5) 3 4 22 3 1 8 (vI 0) AU ([]:List Int) xs [(bX b1 #[] 3)] rfl rfl a5 (PR _) (BB _) a_f.src (fun v4 a3 a0=>?_));rw [NA] at a0;refine nm ?_;obtain ⟨a6,a7,rfl,b5⟩:=a0.shape;refine sp 1 [(2,vS a6 xs.length a7)] (se (BJ (EJ 2 a3 rfl (TA (TR _) _) (IR _) ?_)));exact ⟨_,_,rfl,rfl,a0⟩
noncomputable def c_next:=cod Tryz.f22
theorem next_ct (I:Imm) (p:Nat) (p_s:Int):Ct Tryz.prog 22 #[vP p 0] I ([(bG p p_s)]) (fun v I' M'=>∃ p_t:Int,∃ r:Int,v=.int .u64 r∧M'=[(bG p p_t)]∧(0≤r∧r≤18446744073709551615)):=by
 refine fr (args:=[_]) (N:=29) Tryz.func22 (fun F=>?_);show Run _ _ (c_next []) _ _ [(0,_)] _ _;refine rnm (rqr ?_);let Z0:List Value:=[.int .u64 (IntKind.u64.wrap (CR .add (IntKind.u64.wrap (CR .mul p_s 2862933555777941757)) 3037000493))];refine sp 1 [(2,.int .u64 0)] (sn (sp 4 [(7,vP p 0),(4,vP p 0)] (sd (dlb 8 0 0 p (.int .u64 p_s)) (sp 4 [(12,vP p 0),(10,.int .u64 (IntKind.u64.wrap (CR .add (IntKind.u64.wrap (CR .mul p_s 2862933555777941757)) 3037000493)))] (sS (ss 0 0 p Z0 Z0 (_::_) (cs:=[_]) rfl rfl (se (rq ?_))))))));refine rd0 9 (ox 3 [(15,vP p 0)] ?_);refine AD (dlb 16 0 0 p (.int .u64 (IntKind.u64.wrap (CR .add (IntKind.u64.wrap (CR .mul p_s 2862933555777941757)) 3037000493)))) (ox 3 [(19,vP p 0)] ?_);refine AD (dlb 20 0 0 p (.int .u64 (IntKind.u64.wrap (CR .add (IntKind.u64.wrap (CR .mul p_s 2862933555777941757)) 3037000493)))) ?_;refine AD (det_shr (x:=(.tmp 20)) (y:=(.const (.int .u64 31))) (T:=56) (T':=59) (d:=21) (ty:=56) (gd:=none) (by kernel_rfl) rfl rfl rfl (by omega)) ?_;refine BE (sp 2 [(3,.int .u64 (IntKind.u64.wrap (BitVec.ofInt IntKind.u64.bits (IntKind.u64.wrap (CR .add (IntKind.u64.wrap (CR .mul p_s 2862933555777941757)) 3037000493)) ^^^ BitVec.ofInt IntKind.u64.bits ((IntKind.u64.wrap (CR .add (IntKind.u64.wrap (CR .mul p_s 2862933555777941757)) 3037000493)).fdiv (2 ^ (min (31:Int).toNat IntKind.u64.bits)))).toNat))] (sn (sp 3 [(3,.int .u64 (IntKind.u64.wrap (CR .mul (IntKind.u64.wrap (BitVec.ofInt IntKind.u64.bits (IntKind.u64.wrap (CR .add (IntKind.u64.wrap (CR .mul p_s 2862933555777941757)) 3037000493)) ^^^ BitVec.ofInt IntKind.u64.bits ((IntKind.u64.wrap (CR .add (IntKind.u64.wrap (CR .mul p_s 2862933555777941757)) 3037000493)).fdiv (2 ^ (min (31:Int).toNat IntKind.u64.bits)))).toNat) 10723151780598845931)))] (sn (sp 2 [(26,.int .u64 (IntKind.u64.wrap (CR .mul (IntKind.u64.wrap (BitVec.ofInt IntKind.u64.bits (IntKind.u64.wrap (CR .add (IntKind.u64.wrap (CR .mul p_s 2862933555777941757)) 3037000493)) ^^^ BitVec.ofInt IntKind.u64.bits ((IntKind.u64.wrap (CR .add (IntKind.u64.wrap (CR .mul p_s 2862933555777941757)) 3037000493)).fdiv (2 ^ (min (31:Int).toNat IntKind.u64.bits)))).toNat) 10723151780598845931))),(25,.int .u64 (IntKind.u64.wrap (CR .mul (IntKind.u64.wrap (BitVec.ofInt IntKind.u64.bits (IntKind.u64.wrap (CR .add (IntKind.u64.wrap (CR .mul p_s 2862933555777941757)) 3037000493)) ^^^ BitVec.ofInt IntKind.u64.bits ((IntKind.u64.wrap (CR .add (IntKind.u64.wrap (CR .mul p_s 2862933555777941757)) 3037000493)).fdiv (2 ^ (min (31:Int).toNat IntKind.u64.bits)))).toNat) 10723151780598845931)))] (sd (det_shr (x:=(.tmp 26)) (y:=(.const (.int .u64 30))) (T:=56) (T':=59) (d:=27) (ty:=56) (gd:=none) (by kernel_rfl) rfl rfl rfl (by omega)) (sp 2 [(2,.int .u64 (IntKind.u64.wrap (BitVec.ofInt IntKind.u64.bits (IntKind.u64.wrap (CR .mul (IntKind.u64.wrap (BitVec.ofInt IntKind.u64.bits (IntKind.u64.wrap (CR .add (IntKind.u64.wrap (CR .mul p_s 2862933555777941757)) 3037000493)) ^^^ BitVec.ofInt IntKind.u64.bits ((IntKind.u64.wrap (CR .add (IntKind.u64.wrap (CR .mul p_s 2862933555777941757)) 3037000493)).fdiv (2 ^ (min (31:Int).toNat IntKind.u64.bits)))).toNat) 10723151780598845931)) ^^^ BitVec.ofInt IntKind.u64.bits ((IntKind.u64.wrap (CR .mul (IntKind.u64.wrap (BitVec.ofInt IntKind.u64.bits (IntKind.u64.wrap (CR .add (IntKind.u64.wrap (CR .mul p_s 2862933555777941757)) 3037000493)) ^^^ BitVec.ofInt IntKind.u64.bits ((IntKind.u64.wrap (CR .add (IntKind.u64.wrap (CR .mul p_s 2862933555777941757)) 3037000493)).fdiv (2 ^ (min (31:Int).toNat IntKind.u64.bits)))).toNat) 10723151780598845931)).fdiv (2 ^ (min (30:Int).toNat IntKind.u64.bits)))).toNat))] (se (BJ (EJ 2 ([(bX p #[.int .u64 (IntKind.u64.wrap (CR .add (IntKind.u64.wrap (CR .mul p_s 2862933555777941757)) 3037000493))] 58)]) rfl (TK _ (TR _)) (IR _) ?_))))))))));exact ⟨_,_,rfl,rfl,u64_range _⟩
noncomputable def c_Up:=cod Tryz.f6
theorem JU (I:Imm) (p:Nat) (p_s:Int) (most:Int) (hm:most≤1000000):Ct Tryz.prog 6 #[vP p 0,vI most] I ([(bG p p_s)]) (fun v I' M'=>∃ p_t:Int,∃ n:Nat,v=vI ↑n∧M'=[(bG p p_t)]∧(n=0∨(n:Int)≤most)):=by
 refine fr (args:=[_,_]) (N:=15) Tryz.func6 (fun F=>?_);show Run _ _ (c_Up []) _ _ [(0,_),(1,_)] _ _;refine rnm (rqr ?_);refine sp 1 [(4,vI 0)] (se (rq (rqr (sp 2 [(6,.bool (cmp .lss most 1))] (se (rc 6 rfl (fun h1=>?_) (fun h1=>?_)))))))
 ·
  have a0:=h1;have h1:=BW h1;refine rqr (sp 1 [(4,vI 0)] (se (BJ (RP (EJ 4 ([(bG p p_s)]) rfl (TK _ (TR _)) (IR _) ?_)))));exact ⟨_,0,rfl,rfl,.inl rfl⟩
 have a0:=h1;have h1:=CC h1;refine AH (NX (rqr (sp 1 [(7,vP p 0)] (sS (sc (some 8) (F:=(F)) (next_ct _ p p_s :) (.refl _) (fun a9 I1 a7 a1 a6=>?_))))));obtain ⟨a2,r7,a4,a3,a8⟩:=a6;rw [a4,a3];clear a4 a3;refine nm ?_;let Z0:=vI (IntKind.i64.wrap (((r7).fdiv (2 ^ (min (13:Int).toNat IntKind.u64.bits)))%(most+1)));refine sd (det_shr (x:=(.tmp 8)) (y:=(.const (.int .u64 13))) (T:=56) (T':=59) (d:=9) (ty:=56) (gd:=none) (by kernel_rfl) rfl rfl rfl (by omega)) (sp 1 [(10,vI most)] (sd (da 11 most 1) (sp 1 [(12,.int .u64 (IntKind.u64.wrap (most+1)))] (BG 12 rfl (show (.int .u64 (IntKind.u64.wrap (most+1)):Value)=.int .u64 (most+1) from congrArg (Value.int .u64) (IntWalk.u64_in _ (by omega))) (sd (det_rem (x:=(.tmp 9)) (y:=(.tmp 12)) (T:=56) (T':=56) (d:=13) (ty:=56) (gd:=none) (by kernel_rfl) rfl rfl rfl (by exact fdiv_nonneg (by omega) (by decide)) (by omega)) (sp 1 [(14,Z0)] ?_))))));obtain ⟨n,hn,a5⟩:=up_nat (x:=(r7).fdiv (2 ^ (min (13:Int).toNat IntKind.u64.bits))) h1 hm (fdiv_nonneg (by omega) (by decide));refine BG 14 rfl (show (Z0:Value)=vI ↑n from congrArg (Value.int .i64) hn) (sp 1 [(4,vI ↑n)] (se (BJ (EJ 4 ([(bG p a2)]) rfl (TK _ (TR _)) a1 ?_))));exact ⟨_,_,rfl,rfl,.inr a5⟩
noncomputable def c_From:=cod Tryz.f17
theorem GW (I:Imm) (p:Nat) (p_s:Int) (lo:Int) (hi:Int) (h1:0≤lo∧lo≤hi) (h2:hi≤1000000):Ct Tryz.prog 17 #[vP p 0,vI lo,vI hi] I ([(bG p p_s)]) (fun v I' M'=>∃ p_t:Int,∃ r:Int,v=vI r∧M'=[(bG p p_t)]∧(lo≤r∧r≤hi)):=by
 refine fr (args:=[_,_,_]) (N:=14) Tryz.func17 (fun F=>?_);show Run _ _ (c_From []) _ _ [(0,_),(1,_),(2,_)] _ _;refine rnm (rqr ?_);refine sp 1 [(6,vI 0)] (sn (sp 4 [(10,vI lo),(9,vI hi),(8,vP p 0),(7,vI lo)] (sd (dsb 11 hi lo) (sS (sc (some 12) (F:=(F)) (JU _ p p_s (hi-lo) (by omega) :) (.refl _) (fun a7 I1 a5 a0 a4=>?_))))));obtain ⟨a1,n7,a3,a2,a6⟩:=a4;rw [a3,a2];clear a3 a2;refine nm ?_;refine sd (da 13 lo ↑n7) (sp 1 [(6,vI (lo+↑n7))] (se (BJ (EJ 6 ([(bG p a1)]) rfl (TK _ (TR _)) a0 ?_))));exact ⟨_,_,rfl,rfl,by omega⟩
noncomputable def c_Chance:=cod Tryz.f18
theorem EL (I:Imm) (p:Nat) (p_s:Int) (n:Int) (m:Int) (h1:0≤m∧m≤1000000):Ct Tryz.prog 18 #[vP p 0,vI n,vI m] I ([(bG p p_s)]) (fun v I' M'=>∃ p_t:Int,∃ r:Bool,v=.bool r∧M'=[(bG p p_t)]):=by
 refine fr (args:=[_,_,_]) (N:=13) Tryz.func18 (fun F=>?_);show Run _ _ (c_Chance []) _ _ [(0,_),(1,_),(2,_)] _ _;refine rnm (rqr ?_);refine sp 1 [(6,.bool false)] (sn (sp 2 [(8,vI m),(7,vP p 0)] (sd (dsb 9 m 1) (sS (sc (some 10) (F:=(F)) (JU _ p p_s (m-1) (by omega) :) (.refl _) (fun a7 I1 a5 a0 a4=>?_))))));obtain ⟨a1,n7,a3,a2,a6⟩:=a4;rw [a3,a2];clear a3 a2;refine nm ?_;refine sp 3 [(6,.bool (cmp .lss ↑n7 n))] (se (BJ (EJ 6 ([(bG p a1)]) rfl (TK _ (TR _)) a0 ?_)));exact ⟨_,_,rfl,rfl⟩
noncomputable def c_One:=cod Tryz.f48
theorem One_ct (I:Imm) (p:Nat) (p_s:Int) (a:Value) (xs:List Int) (a_f:AF I a xs) (hx:0<xs.length∧xs.length≤1000000):Ct Tryz.prog 48 #[vP p 0,a] I ([(bG p p_s)]) (fun v I' M'=>∃ p_t:Int,∃ r:Int,v=vI r∧M'=[(bG p p_t)]∧(r∈xs)):=by
 obtain ⟨a4,a5,b1,b4,rfl,b2,b3,a1⟩:=id a_f;refine fr (args:=[_,_]) (N:=16) Tryz.func48 (fun F=>?_);show Run _ _ (c_One []) _ _ [(0,_),(1,_)] _ _;refine rnm (rqr ?_);refine sp 1 [(4,vI 0)] (se (rq (rqr (sp 3 [(7,.bool (cmp .eql (↑(xs.length)) 0))] (se (rc 7 rfl (fun h1=>?_) (fun h1=>?_)))))))
 ·
  have a2:=h1;have h1:=CL h1;refine rqr (sp 1 [(4,vI 0)] (se (BJ (RP (EJ 4 [] rfl (TC _ (TR _)) (IR _) ?_)))))
  exfalso;omega
 have a2:=h1;have h1:=CI h1;refine AH (NX (rqr (sp 4 [(11,vI (↑(xs.length))),(9,vP p 0),(8,vS a4 xs.length a5)] (sd (dsb 12 (↑(xs.length)) 1) (sS (sc (some 13) (F:=(F)) (JU _ p p_s ((↑(xs.length))-1) (by omega) :) (.refl _) (fun b6 I1 b0 a0 a9=>?_)))))));obtain ⟨a3,n7,a7,a6,b5⟩:=a9;rw [a7,a6];clear a7 a6;replace a1:=a1.mono a0;refine nm ?_;refine sd (di 14 1 n7 a1.addr) (sd (dl 15 (AY a1 n7 (by omega))) (sp 1 [(4,vI (xs.getD n7 0))] (se (BJ (EJ 4 ([(bG p a3)]) rfl (TK _ (TR _)) a0 ?_)))));exact ⟨_,_,rfl,rfl,AO (by omega)⟩
noncomputable def c_Some:=cod Tryz.f19
theorem Some_ct (I:Imm) (p:Nat) (p_s:Int) (n:Nat) (hn:n≤1000000):Ct Tryz.prog 19 #[vP p 0,vI ↑n] I ([(bG p p_s)]) (fun v I' M'=>∃ p_t:Int,∃ l:List Int,∃ u:Value,∃ Ms:Seg,v=u∧M'=[(bG p p_t)]++(Ms)∧(Asc l)∧(∀ x∈l,0≤x∧x<(n:Int))∧Own 3 1 AU u l Ms):=by
 refine fr (args:=[_,_]) (N:=19) Tryz.func19 (fun F=>?_);show Run _ _ (c_Some []) _ _ [(0,_),(1,_)] _ _;refine rnm (rqr ?_);refine sp 1 [(4,vN)] (sn (sp 1 [(5,vN)] (se (rq (rqr (sp 1 [(6,vI 0)] (se (rb 0 ?_))))))));refine rl (fun mz a w=>∃ J0:Imm,∃ k:Nat,∃ l:List Int,∃ s:Int,∃ a4:Value,∃ a0:Seg,(I.le J0)∧(k≤n)∧(l.length≤k)∧(Asc l)∧(∀ x∈l,0≤x∧x<(k:Int))∧(Own 3 1 AU a4 l a0)∧SD 19 [(5,a4),(6,vI ↑k),(0,vP p 0),(1,vI ↑n),(4,vN)] J0 ((bG p s)::(a0++F)) a w (mz=n-k)) ?_ ?_
 ·intro a w hS hD hW;exact ⟨_,I,0,[],p_s,(vN),[],IR _,Ae _,(Bj _),Asc.nil,(fun x hx=>by simp at hx),(Own.nil _ _ _),hS.sub su,hD,hW,rfl⟩
 rintro mz a w ⟨J0,k,l,s,a4,a0,hJ0,hk,c4,a6,b3,a3,hS,hD,hW,rfl⟩
 refine AX hS hD hW ?_;obtain ⟨a1,a2,rfl,b4⟩:=a3.shape;refine rq (rqr (sp 3 [(9,.bool (cmp .lss ↑k ↑n))] (se (rc 9 rfl (fun h1=>?_) (fun h1=>?_)))))
 ·
  have b5:=h1;have h1:=BW h1;refine AH (NX (rq (rb 1 (rqr (sp 1 [(12,vP p 0)] (sS (sc (some 13) (F:=(a0++F)) (EL _ p s 1 2 (by omega) :) (.refl _) (fun c6 I1 c5 a9 c1=>?_))))))));obtain ⟨a7,r7,b9,b8⟩:=c1;rw [b9,b8];clear b9 b8;refine nm (se ?_);refine rc 13 rfl (fun h2=>?_) (fun h2=>?_)
  ·
   have b6:=h2;refine rr (sp 2 [(15,vI ↑k),(14,vS a1 l.length a2)] (sS (sbs 16 3 1 #[vI ↑k] (fun c3=>(sS (sap (d:=17) 14 16 22 3 1 8 (vI 0) AU l [(↑k:Int)] a0 rfl rfl a3 (PU PM.symm) (BB _) (BP 0 rfl rfl) (fun c7 a8 b0=>(AM (M':=((bG p a7)::(a8++F))) (fun w h=>(h.perm (PW PM)).sub (TC _ (TR _))) ?_))))))));obtain ⟨b1,b2,rfl,c2⟩:=b0.shape;let Z0:=vS b1 (l++([(↑k:Int)])).length b2;refine sp 1 [(5,Z0)] (ee (NB (NX (rr (sp 1 [(10,vI ↑k)] (sd (da 11 ↑k 1) (sp 1 [(6,vI (↑k+1))] (ee ?_))))))));refine AG (n-(k+1)) (by omega) ?_;intro a w hS hD hW;exact ⟨I1,k+1,l++[(k:Int)],a7,Z0,a8,(IT hJ0 a9),by omega,by simp;omega,a6.snoc b3,below_snoc b3,b0,hS.sub su,hD,hW,rfl⟩
  have b6:=h2;refine AH (NB (NX (rr (sp 1 [(10,vI ↑k)] (sd (da 11 ↑k 1) (sp 1 [(6,vI (↑k+1))] (ee ?_)))))));refine AG (n-(k+1)) (by omega) ?_;intro a w hS hD hW;exact ⟨I1,k+1,l,a7,vS a1 l.length a2,a0,(IT hJ0 a9),by omega,by omega,a6,below_mono b3,a3,hS.sub su,hD,hW,rfl⟩
 have b5:=h1;have h1:=CC h1;refine BQ 0 (EP (EP (EB (NX (rqr (sp 2 [(4,vS a1 l.length a2)] (se (BJ (EJ 4 ([(bG p s)]++(a0)) rfl (by simp only [AA,NA,CA];exact (TK _ (TA (TR _) _))) hJ0 ?_)))))))));exact ⟨_,_,_,_,rfl,rfl,a6,(by have c0:k=n:=(by omega);exact c0▸b3),a3⟩
noncomputable def c_NewBag:=cod Tryz.f4
theorem NewBag_ct (I:Imm) (a:Value) (xs:List Int) (a_f:AF I a xs):Ct Tryz.prog 4 #[a] I ([]) (fun v I' M'=>∃ u:Nat,∃ us:Int,v=vP u 0∧M'=[(bG u us)]):=by
 obtain ⟨a0,a1,a5,a8,rfl,a6,a7,a3⟩:=id a_f;refine fr (args:=[_]) (N:=41) Tryz.func4 (fun F=>?_);show Run _ _ (c_NewBag []) _ _ [(0,_)] _ _;refine rnm (rqr ?_);refine sp 1 [(2,.pointer none)] (sn (sp 1 [(5,.agg #[.int .u64 11400714819323198485])] (sS (sb 6 58 #[.int .u64 11400714819323198485] (fun b1=>(sp 1 [(3,vP b1 0)] (se (rq (rqr (sp 1 [(4,vI 0)] (se (rb 0 ?_))))))))))));let Z0:=vS a0 xs.length a1;refine rl (fun mz a w=>∃ k:Nat,∃ s:Int,(k≤xs.length)∧SD 41 [(4,vI ↑k),(0,Z0),(2,.pointer none),(3,vP b1 0)] I ((bG b1 s)::F) a w (mz=xs.length-k)) ?_ ?_
 ·intro a w hS hD hW;exact ⟨_,0,11400714819323198485,Ae _,hS.sub su,hD,hW,rfl⟩
 rintro mz a w ⟨k,s,hk,hS,hD,hW,rfl⟩
 refine AX hS hD hW ?_;clear hS hD hW a w;refine rq (rqr (sp 4 [(10,.bool (cmp .lss ↑k (↑(xs.length))))] (se (rc 10 rfl (fun h1=>?_) (fun h1=>?_)))))
 ·
  have a2:=h1;have h1:=BW h1;refine AH (NX (rq (rb 1 (rq ?_))));refine rd0 12 (ox 4 [(16,vP b1 0),(13,vP b1 0)] ?_);refine AD (dlb 17 0 0 b1 (.int .u64 s)) (ox 2 [(19,vI ↑k),(18,Z0)] ?_);refine AD (di 20 1 k a3.addr) ?_;refine AD (dl 21 (AY a3 k (by omega))) (ox 3 [(24,.int .u64 (IntKind.u64.wrap (CR .mul (IntKind.u64.wrap (CR .add s (IntKind.u64.wrap (xs.getD k 0)))) 13787848793156543929)))] ?_);let Z1:List Value:=[.int .u64 (IntKind.u64.wrap (CR .mul (IntKind.u64.wrap (CR .add s (IntKind.u64.wrap (xs.getD k 0)))) 13787848793156543929))];refine BE (sp 2 [(26,vP b1 0)] (sS (ss 0 0 b1 Z1 Z1 (_::_) (cs:=[_]) rfl rfl (se ?_))));refine rd0 11 (ox 4 [(30,vP b1 0),(27,vP b1 0)] ?_);refine AD (dlb 31 0 0 b1 (.int .u64 (IntKind.u64.wrap (CR .mul (IntKind.u64.wrap (CR .add s (IntKind.u64.wrap (xs.getD k 0)))) 13787848793156543929)))) (ox 3 [(34,vP b1 0)] ?_);refine AD (dlb 35 0 0 b1 (.int .u64 (IntKind.u64.wrap (CR .mul (IntKind.u64.wrap (CR .add s (IntKind.u64.wrap (xs.getD k 0)))) 13787848793156543929)))) ?_;refine AD (det_shr (x:=(.tmp 35)) (y:=(.const (.int .u64 29))) (T:=56) (T':=59) (d:=36) (ty:=56) (gd:=none) (by kernel_rfl) rfl rfl rfl (by omega)) (ox 1 [(37,.int .u64 (IntKind.u64.wrap (BitVec.ofInt IntKind.u64.bits (IntKind.u64.wrap (CR .mul (IntKind.u64.wrap (CR .add s (IntKind.u64.wrap (xs.getD k 0)))) 13787848793156543929)) ^^^ BitVec.ofInt IntKind.u64.bits ((IntKind.u64.wrap (CR .mul (IntKind.u64.wrap (CR .add s (IntKind.u64.wrap (xs.getD k 0)))) 13787848793156543929)).fdiv (2 ^ (min (29:Int).toNat IntKind.u64.bits)))).toNat))] ?_);let Z2:List Value:=[.int .u64 (IntKind.u64.wrap (BitVec.ofInt IntKind.u64.bits (IntKind.u64.wrap (CR .mul (IntKind.u64.wrap (CR .add s (IntKind.u64.wrap (xs.getD k 0)))) 13787848793156543929)) ^^^ BitVec.ofInt IntKind.u64.bits ((IntKind.u64.wrap (CR .mul (IntKind.u64.wrap (CR .add s (IntKind.u64.wrap (xs.getD k 0)))) 13787848793156543929)).fdiv (2 ^ (min (29:Int).toNat IntKind.u64.bits)))).toNat)];refine BE (sp 2 [(39,vP b1 0)] (sS (ss 0 0 b1 Z2 Z2 (_::_) (cs:=[_]) rfl rfl (ee (NB (NX (rr (sp 1 [(11,vI ↑k)] (sd (da 12 ↑k 1) (sp 1 [(4,vI (↑k+1))] (ee ?_)))))))))));refine AG (xs.length-(k+1)) (by omega) ?_;intro a w hS hD hW;exact ⟨k+1,IntKind.u64.wrap (BitVec.ofInt IntKind.u64.bits (IntKind.u64.wrap (CR .mul (IntKind.u64.wrap (CR .add s (IntKind.u64.wrap (xs.getD k 0)))) 13787848793156543929)) ^^^ BitVec.ofInt IntKind.u64.bits ((IntKind.u64.wrap (CR .mul (IntKind.u64.wrap (CR .add s (IntKind.u64.wrap (xs.getD k 0)))) 13787848793156543929)).fdiv (2 ^ (min (29:Int).toNat IntKind.u64.bits)))).toNat,by omega,hS.sub su,hD,hW,rfl⟩
 have a2:=h1;have h1:=CC h1;refine BQ 0 (EP (EP (EB (NX (rqr (sp 2 [(2,vP b1 0)] (se (BJ (EJ 2 ([(bG b1 s)]) rfl (TK _ (TR _)) (IR _) ?_)))))))));exact ⟨_,_,rfl,rfl⟩
noncomputable def c_checkCoach:=cod Tryz.f66
theorem checkCoach_ct (I:Imm) (c:Car):CtV Tryz.prog 66 #[.agg #[vI c.len,vI c.wt,vI c.brk,vI c.grp,.bool c.pipe,.bool c.heat]] I (vI (EX c)):=by
 refine fr (args:=[_]) (N:=27) Tryz.func66 (fun F=>?_);show Run _ _ (c_checkCoach []) _ _ [(0,_)] _ _;refine rnm (rqr ?_);let Z0:=#[vI c.len,vI c.wt,vI c.brk,vI c.grp,.bool c.pipe,.bool c.heat];refine sS (sb 1 136 Z0 (fun b1=>(sp 1 [(2,vI 0)] (se (rq (rq ?_))))));refine CD (fun a w=>SE 27 [(2,vI 0),(26,.bool ((!(inB c.len 1 4))||((!(inB c.wt 1 60))||((!(inB c.brk 0 c.wt))||(!(inB c.grp 0 3))))))] I ((bX b1 Z0 136)::F) a w) ?_ ?_
 ·
  refine rr (sp 1 [(3,vP b1 0)] (sd (dlb 4 0 0 b1 (vI c.len)) (sd (dc 5 (fun I' hI=>(in_ct I' c.len 1 4 :))) (sp 2 [(7,.bool (!(inB c.len 1 4)))] ?_))));refine BH 7 rfl (fun h1=>?_) (fun h1=>?_)
  ·
   have a2:=h1;have a2:=CU a2;have a6:=inB_f a2;refine sp 19 [(26,.bool true)] (ee ?_);refine AN (fun a w hS hD hW=>⟨hS.sub (.cons 2 rfl (.consE 26 rfl (congrArg Value.bool (by simp only [h1,kk])) (.nil _))),hD,hW⟩)
  have a2:=h1;have a2:=CO a2;have a6:=JA a2;refine sp 1 [(8,vP b1 1)] (sd (dlb 9 0 1 b1 (vI c.wt)) (sd (dc 10 (fun I' hI=>(in_ct I' c.wt 1 60 :))) (sp 3 [(13,.bool (!(inB c.wt 1 60)))] ?_)));refine BH 13 rfl (fun h2=>?_) (fun h2=>?_)
  ·
   have a3:=h2;have a3:=CU a3;have a7:=inB_f a3;refine sp 13 [(26,.bool true)] (ee ?_);refine AN (fun a w hS hD hW=>⟨hS.sub (.cons 2 rfl (.consE 26 rfl (congrArg Value.bool (by simp only [h1,h2,kk])) (.nil _))),hD,hW⟩)
  have a3:=h2;have a3:=CO a3;have a7:=JA a3;refine sp 1 [(14,vP b1 2)] (sd (dlb 15 0 2 b1 (vI c.brk)) (sp 1 [(16,vP b1 1)] (sd (dlb 17 0 1 b1 (vI c.wt)) (sd (dc 18 (fun I' hI=>(in_ct I' c.brk 0 c.wt :))) (sp 3 [(21,.bool (!(inB c.brk 0 c.wt)))] ?_)))));refine BH 21 rfl (fun h3=>?_) (fun h3=>?_)
  ·
   have a4:=h3;have a4:=CU a4;have a8:=inB_f a4;refine sp 5 [(26,.bool true)] (ee ?_);refine AN (fun a w hS hD hW=>⟨hS.sub (.cons 2 rfl (.consE 26 rfl (congrArg Value.bool (by simp only [h1,h2,h3,kk])) (.nil _))),hD,hW⟩)
  have a4:=h3;have a4:=CO a4;have a8:=JA a4;refine sp 1 [(22,vP b1 3)] (sd (dlb 23 0 3 b1 (vI c.grp)) (sd (dc 24 (fun I' hI=>(in_ct I' c.grp 0 3 :))) (sp 2 [(26,.bool (!(inB c.grp 0 3)))] (ee ?_))));refine AN (fun a w hS hD hW=>⟨hS.sub (.cons 2 rfl (.consE 26 rfl (congrArg Value.bool (by simp only [h1,h2,h3,kk])) (.nil _))),hD,hW⟩)
 rintro a w ⟨hS,hD,hW⟩
 refine AX hS hD hW ?_;refine rc 26 rfl (fun h4=>?_) (fun h4=>?_)
 ·
  have b7:=h4;refine rqr (sp 1 [(2,vI 1)] (se (BJ (RP (EJ 2 [] rfl (TC _ (TR _)) (IR _) ?_)))));exact ⟨by rw [EX,nand4,h4];rfl,rfl⟩
 have b7:=h4;obtain ⟨a9,b6⟩:=or_f h4;have a9:=CO a9;have b5:=JA a9;obtain ⟨a5,b0⟩:=or_f b6;have a5:=CO a5;have b4:=JA a5;obtain ⟨a0,a1⟩:=or_f b0;have a0:=CO a0;have b2:=JA a0;have a1:=CO a1;have b3:=JA a1;refine AH (NX (rqr (sp 1 [(2,vI 0)] (se (BJ (EJ 2 [] rfl (TC _ (TR _)) (IR _) ?_))))));exact ⟨by rw [EX,nand4,h4];rfl,rfl⟩
noncomputable def c_long:=cod Tryz.f101
theorem long_ct (I:Imm) (a:Value) (t:List Int) (b:Value) (cs:List Car) (a_f:AF I a t) (b_f:GL I b cs) (ho:Ok cs t) (hs:Small cs):CtV Tryz.prog 101 #[a,b] I (vI (lenOf cs t)):=by
 obtain ⟨a0,a1,b1,b4,rfl,b2,b3,a5⟩:=id a_f;obtain ⟨a2,a3,a8,b0,rfl,b5,b6,a6⟩:=id b_f;refine fr (args:=[_,_]) (N:=23) Tryz.func101 (fun F=>?_);show Run _ _ (c_long []) _ _ [(0,_),(1,_)] _ _;refine rnm (rqr ?_);let Z0:=vI (↑(t.length));let Z1:=vS a0 t.length a1;refine sp 1 [(4,vI 0)] (sn (sp 1 [(5,vI 0)] (se (rq (rqr (sp 3 [(10,vI 0),(9,Z0),(8,Z1)] (se (rb 0 ?_))))))));let Z2:=vS a2 cs.length a3;refine rl (fun mz a w=>∃ k:Nat,(k≤t.length)∧SD 23 [(5,vI (lenOf cs (t.take k))),(10,vI ↑k),(1,Z2),(4,vI 0),(8,Z1),(9,Z0)] I F a w (mz=t.length-k)) ?_ ?_
 ·intro a w hS hD hW;exact ⟨_,0,Ae _,hS.sub su,hD,hW,rfl⟩
 rintro mz a w ⟨k,hk,hS,hD,hW,rfl⟩
 refine AX hS hD hW ?_;clear hS hD hW a w;refine rqr (sp 1 [(11,.bool (cmp .lss ↑k (↑(t.length))))] (se (rq (rc 11 rfl (fun h1=>?_) (fun h1=>?_)))))
 ·
  have a4:=h1;have h1:=BW h1;refine AH (NX (rq (rb 1 (rqr (sd (di 12 1 k a5.addr) (sd (dl 13 (AY a5 k (by omega))) (sp 1 [(7,vI (t.getD k 0))] (se (rr (sp 3 [(16,vI (t.getD k 0)),(15,Z2),(14,vI (lenOf cs (t.take k)))] ?_))))))))));have hc:=ho.at k (by omega);refine sd (diI 17 6 (t.getD k 0) a6.addr) (sp 1 [(18,.pointer (some ⟨a8,b0+((t.getD k 0:Int).toNat)*6,none⟩))] (sd (dl 19 (LX a6 ((t.getD k 0:Int).toNat) (by omega) 0 (by decide) (v:=vI ((cs.getD ((t.getD k 0:Int).toNat) BZ).len)) rfl)) (sd (da 20 (lenOf cs (t.take k)) ((cs.getD ((t.getD k 0:Int).toNat) BZ).len) (hr:=by have h1:=KN hs (t.take k);have h2:=hs.at (t.getD k 0);simp only [IE,LK] at h1 h2;omega)) (sp 1 [(5,vI ((lenOf cs (t.take k))+((cs.getD ((t.getD k 0:Int).toNat) BZ).len)))] (ee (NB (NX (rr (sd (da 21 ↑k 1) (sp 1 [(10,vI (↑k+1))] (ee ?_)))))))))));refine AG (t.length-(k+1)) (by omega) ?_;intro a w hS hD hW;exact ⟨k+1,by omega,hS.sub (.consE 5 rfl (congrArg (Value.int .i64) (lenOf_succ (by omega)).symm) su),hD,hW,rfl⟩
 have a4:=h1;have h1:=CC h1;refine BQ 0 (EP (EP (EB (NX (rqr (sp 2 [(4,vI (lenOf cs (t.take k)))] (se (BJ (rt1 4 rfl (IR _) ?_)))))))));exact ⟨by rw [HH (by omega)],rfl⟩
noncomputable def c_coupled:=cod Tryz.f106
theorem coupled_ct (I:Imm) (a:Value) (t:List Int) (b:Value) (cs:List Car) (j:Int) (a_f:AF I a t) (b_f:GL I b cs) (ho:Ok cs t):CtV Tryz.prog 106 #[a,b,vI j] I (.bool (DA cs t j)):=by
 obtain ⟨a5,a6,b3,b6,rfl,b4,b5,a3⟩:=id a_f;obtain ⟨a7,a8,a9,b0,rfl,b7,b8,a4⟩:=id b_f;refine fr (args:=[_,_,_]) (N:=43) Tryz.func106 (fun F=>?_);show Run _ _ (c_coupled []) _ _ [(0,_),(1,_),(2,_)] _ _;refine rnm (rqr ?_);refine sp 1 [(6,.bool false)] (se (rq ?_));refine CD (fun a w=>SE 43 [(6,.bool ((inB j 1 ((↑(t.length))-1))&&((cmp .gtr ((cs.getD ((t.getD ((j:Int).toNat) 0:Int).toNat) BZ).grp) 0)&&(cmp .eql ((cs.getD ((t.getD ((j:Int).toNat) 0:Int).toNat) BZ).grp) ((cs.getD ((t.getD ((j-1:Int).toNat) 0:Int).toNat) BZ).grp)))))] I F a w) ?_ ?_
 ·
  refine rd0 34 (ox 3 [(9,vI (↑(t.length))),(7,vI j)] ?_);refine AD (dsb 10 (↑(t.length)) 1) ?_;refine AD (dc 11 (fun I' hI=>(in_ct I' j 1 ((↑(t.length))-1) :))) (ox 1 [(12,.bool (inB j 1 ((↑(t.length))-1)))] ?_);refine EZ 12 (fun h1=>?_) (fun h1=>?_)
  ·
   have a1:=h1;have a2:=JA a1;let Z0:=vS a5 t.length a6;let Z1:=vS a7 cs.length a8;refine ox 3 [(15,vI j),(14,Z0),(13,Z1)] ?_;refine AD (diI 16 1 j a3.addr) ?_;refine AD (dl 17 (AY a3 ((j:Int).toNat) (by omega))) ?_;have hc:=ho.at j.toNat (by omega);refine AD (diI 18 6 (t.getD ((j:Int).toNat) 0) a4.addr) (ox 1 [(19,.pointer (some ⟨a9,b0+((t.getD ((j:Int).toNat) 0:Int).toNat)*6+3,none⟩))] ?_);let Z2:=vI ((cs.getD ((t.getD ((j:Int).toNat) 0:Int).toNat) BZ).grp);refine AD (dl 20 (LX a4 ((t.getD ((j:Int).toNat) 0:Int).toNat) (by omega) 3 (by decide) (v:=Z2) rfl)) (ox 3 [(23,.bool (cmp .gtr ((cs.getD ((t.getD ((j:Int).toNat) 0:Int).toNat) BZ).grp) 0))] ?_);refine EZ 23 (fun h2=>?_) (fun h2=>?_)
   ·
    have a0:=h2;have a0:=EH a0;refine ox 3 [(26,vI j),(25,Z0),(24,Z1)] ?_;refine AD (diI 27 1 j a3.addr) ?_;refine AD (dl 28 (AY a3 ((j:Int).toNat) (by omega))) ?_;have hc:=ho.at j.toNat (by omega);refine AD (diI 29 6 (t.getD ((j:Int).toNat) 0) a4.addr) (ox 1 [(30,.pointer (some ⟨a9,b0+((t.getD ((j:Int).toNat) 0:Int).toNat)*6+3,none⟩))] ?_);refine AD (dl 31 (LX a4 ((t.getD ((j:Int).toNat) 0:Int).toNat) (by omega) 3 (by decide) (v:=Z2) rfl)) (ox 3 [(34,vI j),(33,Z0),(32,Z1)] ?_);refine AD (dsb 35 j 1) ?_;refine AD (diI 36 1 (j-1) a3.addr) ?_;refine AD (dl 37 (AY a3 ((j-1:Int).toNat) (by omega))) ?_;have b9:=ho.at (j-1).toNat (by omega);refine AD (diI 38 6 (t.getD ((j-1:Int).toNat) 0) a4.addr) (ox 1 [(39,.pointer (some ⟨a9,b0+((t.getD ((j-1:Int).toNat) 0:Int).toNat)*6+3,none⟩))] ?_);refine AD (dl 40 (LX a4 ((t.getD ((j-1:Int).toNat) 0:Int).toNat) (by omega) 3 (by decide) (v:=vI ((cs.getD ((t.getD ((j-1:Int).toNat) 0:Int).toNat) BZ).grp)) rfl)) ?_;refine BE (sp 3 [(6,.bool (cmp .eql ((cs.getD ((t.getD ((j:Int).toNat) 0:Int).toNat) BZ).grp) ((cs.getD ((t.getD ((j-1:Int).toNat) 0:Int).toNat) BZ).grp)))] (ee ?_));refine AN (fun a w hS hD hW=>⟨hS.sub (.consE 6 rfl (congrArg Value.bool (by simp only [h1,h2,kk])) (.nil _)),hD,hW⟩)
   have a0:=h2;have a0:=FB a0;refine ox 17 [(40,undef),(31,undef)] ?_;refine BE (sp 3 [(6,.bool false)] (ee ?_));refine AN (fun a w hS hD hW=>⟨hS.sub (.consE 6 rfl (congrArg Value.bool (by simp only [h1,h2,kk])) (.nil _)),hD,hW⟩)
  have a1:=h1;have a2:=inB_f a1;refine ox 28 [(40,undef),(31,undef),(23,.bool false)] ?_;refine BE (sp 3 [(6,.bool false)] (ee ?_));refine AN (fun a w hS hD hW=>⟨hS.sub (.consE 6 rfl (congrArg Value.bool (by simp only [h1,kk])) (.nil _)),hD,hW⟩)
 rintro a w ⟨hS,hD,hW⟩
 refine AX hS hD hW ?_;clear hS hD hW a w;refine BJ (rt1 6 rfl (IR _) ?_);exact ⟨by simp only [DA,IE,cmp_gtr,DY,Bool.and_assoc];rfl,rfl⟩
noncomputable def c_checkGroups:=cod Tryz.f102
theorem checkGroups_ct (I:Imm) (y:Value) (Y:Yard) (y_f:IsYard I y Y) (ho:OkAll Y.cars Y.tracks):CtV Tryz.prog 102 #[y] I (vI (EY Y)):=by
 obtain ⟨y1,y2,y3,rfl,c6,d9,e1⟩:=id y_f;obtain ⟨a7,a8,d5,d7,rfl,f0,f1,c7⟩:=id c6;obtain ⟨b8,b9,f2,f5,rfl,f3,f4,f6⟩:=id d9;obtain ⟨a1,a2,f7,g0,e3,rfl,f8,f9,c8,e2⟩:=id e1;refine fr (args:=[_]) (N:=49) Tryz.func102 (fun F=>?_);show Run _ _ (c_checkGroups []) _ _ [(0,_)] _ _;refine rnm (rqr ?_);let Z0:=#[vS a7 Y.cars.length a8,vS b8 Y.room.length b9,vS a1 Y.tracks.length a2];let Z1:=vS a1 Y.tracks.length a2;let Z2:=vI (↑(Y.tracks.length));refine sS (sb 1 103 Z0 (fun b1=>(sp 1 [(2,vI 0)] (sn (sS (JG (d:=9) (T:=179) (ty:=179) (gd:=none) (by kernel_rfl) rfl (fun b3=>(sp 1 [(3,.map (some b3))] (se (rq (rqr (sp 1 [(10,vP b1 2)] (sd (dlb 11 1 2 b1 (Z1)) (sp 2 [(13,vI 0),(12,Z2)] (se (rb 0 ?_))))))))))))))));refine rl (fun mz a w=>∃ k:Nat,∃ c9:List Int,∃ b0:Array MapEntry,∃ b2:Nat,(k≤Y.tracks.length)∧(EY Y=goGs Y.cars (Y.tracks.drop k) c9)∧(MapIs encI b0 (FA c9))∧SD 49 [(13,vI ↑k),(1,vP b1 0),(3,.map (some b3)),(11,Z1),(12,Z2)] I ((b3,Obj.map b0 b2)::(bX b1 Z0 103)::F) a w (mz=Y.tracks.length-k)) ?_ ?_
 ·intro a w hS hD hW;exact ⟨_,0,[],#[],0,Ae _,rfl,(MapIs.nil _),hS.sub su,hD,hW,rfl⟩
 rintro mz a w ⟨k,c9,b0,b2,hk,hr,c0,hS,hD,hW,rfl⟩
 refine AX hS hD hW ?_;refine rqr (sp 1 [(14,.bool (cmp .lss ↑k (↑(Y.tracks.length))))] (se (rq (rc 14 rfl (fun h1=>?_) (fun h1=>?_)))))
 ·
  have d0:=h1;have h1:=BW h1;refine AH (NX (rq (rb 1 (rqr (sd (di 15 1 k c8.addr) ?_)))));have c1:=e2 k (by omega);obtain ⟨a5,a6,e6,e9,c4,e7,e8,c5⟩:=id c1;rw [c4] at c1;let Z3:=vS a5 (Y.tracks.getD k []).length a6;let Z4:=vI (↑((Y.tracks.getD k []).length));refine sd (CJ (dl 16 (JQ c8 k (by omega))) c4) (sp 1 [(5,Z3)] (sn (sp 3 [(19,vI 0),(18,Z4),(17,Z3)] (se (rb 2 ?_)))));refine rl (fun mz a w=>∃ j:Nat,∃ a0:List Int,∃ a3:Array MapEntry,∃ a9:Nat,(j≤(Y.tracks.getD k []).length)∧(EY Y=goG Y.cars (Y.tracks.getD k []) (goGs Y.cars (Y.tracks.drop (k+1))) j ((Y.tracks.getD k []).drop j) a0)∧(MapIs encI a3 (FA a0))∧SD 49 [(19,vI ↑j),(1,vP b1 0),(3,.map (some b3)),(5,Z3),(11,Z1),(12,Z2),(13,vI ↑k),(17,Z3),(18,Z4)] I ((b3,Obj.map a3 a9)::(bX b1 Z0 103)::F) a w (mz=(Y.tracks.getD k []).length-j)) ?_ ?_
  ·intro a w hS hD hW;exact ⟨_,0,c9,b0,b2,Ae _,hr.trans (goGs_step (by omega)),c0,hS.sub su,hD,hW,rfl⟩
  rintro mz a w ⟨j,a0,a3,a9,hj,d4,a4,hS,hD,hW,rfl⟩
  refine AX hS hD hW ?_;refine rqr (sp 1 [(20,.bool (cmp .lss ↑j (↑((Y.tracks.getD k []).length))))] (se (rq (rc 20 rfl (fun h2=>?_) (fun h2=>?_)))))
  ·
   have d1:=h2;have h2:=BW h2;let Z5:=vI ((Y.tracks.getD k []).getD j 0);let Z6:=vS a7 Y.cars.length a8;refine AH (NX (rq (rb 3 (rqr (sp 1 [(21,vI ↑j)] (sd (di 22 1 j c5.addr) (sd (dl 23 (AY c5 j (by omega))) (sp 2 [(7,Z5),(6,vI ↑j)] (sn (sp 1 [(24,vP b1 0)] (sd (dlb 25 1 0 b1 (Z6)) (sp 1 [(26,Z5)] ?_))))))))))));have hc:=(ho.at k (by omega)).at j (by omega);let Z7:=vI ((Y.cars.getD (((Y.tracks.getD k []).getD j 0:Int).toNat) BZ).grp);refine sd (diI 27 6 ((Y.tracks.getD k []).getD j 0) c7.addr) (sp 1 [(28,.pointer (some ⟨d5,d7+(((Y.tracks.getD k []).getD j 0:Int).toNat)*6+3,none⟩))] (sd (dl 29 (LX c7 (((Y.tracks.getD k []).getD j 0:Int).toNat) (by omega) 3 (by decide) (v:=Z7) rfl)) (sp 1 [(8,Z7)] (se (rq (rq ?_))))));refine CD (fun a w=>SE 49 [(1,vP b1 0),(3,.map (some b3)),(5,Z3),(8,Z7),(11,Z1),(12,Z2),(13,vI ↑k),(17,Z3),(18,Z4),(19,vI ↑j),(44,.bool ((cmp .gtr ((Y.cars.getD (((Y.tracks.getD k []).getD j 0:Int).toNat) BZ).grp) 0)&&((decide (((Y.cars.getD (((Y.tracks.getD k []).getD j 0:Int).toNat) BZ).grp:Int)∈a0))&&(!(DA Y.cars (Y.tracks.getD k []) ↑j)))))] I ((b3,Obj.map a3 a9)::(bX b1 Z0 103)::F) a w) ?_ ?_
   ·
    refine rr (sp 3 [(32,.bool (cmp .gtr ((Y.cars.getD (((Y.tracks.getD k []).getD j 0:Int).toNat) BZ).grp) 0))] ?_);refine BH 32 rfl (fun h3=>?_) (fun h3=>?_)
    ·
     have b4:=h3;have b4:=EH b4;refine sp 2 [(34,Z7),(33,.map (some b3))] (sd (LZ (x:=(.tmp 33)) (y:=(.tmp 34)) (T:=179) (kt:=3) (et:=4) (k:=((Y.cars.getD (((Y.tracks.getD k []).getD j 0:Int).toNat) BZ).grp:Int)) (kvs:=FA a0) (z:=.bool false) (d:=35) (ty:=4) (gd:=(some (2,true))) (by kernel_rfl) (by kernel_rfl) (by kernel_rfl) (NQ (ML (by kernel_rfl))) rfl rfl (by kernel_rfl) (.inl (An (i:=0) rfl)) a4 (KL _ _)) (sp 2 [(37,.bool (decide (((Y.cars.getD (((Y.tracks.getD k []).getD j 0:Int).toNat) BZ).grp:Int)∈a0)))] ?_));refine BH 37 rfl (fun h4=>?_) (fun h4=>?_)
     ·
      have b5:=h4;have b5:=KA b5;refine sp 2 [(39,vP b1 0),(38,Z3)] (sd (dlb 40 1 0 b1 (Z6)) (sp 1 [(41,vI ↑j)] (sd (dc 42 (fun I' hI=>(coupled_ct I' _ _ _ _ ↑j (c1.mono hI) (c6.mono hI) (by exact ho.at k (by omega)) :))) (sp 2 [(44,.bool (!(DA Y.cars (Y.tracks.getD k []) ↑j)))] (ee ?_)))));refine AN (fun a w hS hD hW=>⟨hS.sub (sun 10 (.consE 44 rfl (congrArg Value.bool (by simp only [h3,h4,kk])) (.nil _))),hD,hW⟩)
     have b5:=h4;have b5:=JV b5;refine sp 7 [(44,.bool false)] (ee ?_);refine AN (fun a w hS hD hW=>⟨hS.sub (sun 10 (.consE 44 rfl (congrArg Value.bool (by simp only [h3,h4,kk])) (.nil _))),hD,hW⟩)
    have b4:=h3;have b4:=FB b4;refine sp 12 [(44,.bool false)] (ee ?_);refine AN (fun a w hS hD hW=>⟨hS.sub (sun 10 (.consE 44 rfl (congrArg Value.bool (by simp only [h3,kk])) (.nil _))),hD,hW⟩)
   rintro a w ⟨hS,hD,hW⟩
   refine AX hS hD hW ?_;refine rc 44 rfl (fun h5=>?_) (fun h5=>?_)
   ·
    have d3:=h5;obtain ⟨c2,d2⟩:=and_t h5;have c2:=EH c2;obtain ⟨b6,b7⟩:=and_t d2;have b6:=KA b6;have b7:=CU b7;refine rqr (sp 1 [(2,vI 12)] (se (BJ (RP (RB (RP (RP (RB (RB (RP (RP (RB (RP (EJ 2 [] rfl (TC _ (TC _ (TR _))) (IR _) ?_))))))))))))));exact ⟨congrArg (Value.int .i64) (d4.trans (goG_hit (by omega) h5)).symm,rfl⟩
   have d3:=h5;refine AH (NX (rr (sp 2 [(46,Z7),(45,.map (some b3))] (sS (IK (x:=(.tmp 45)) (y:=(.tmp 46)) (u:=(.const (.bool true))) (T:=179) (kt:=3) (et:=4) (k:=((Y.cars.getD (((Y.tracks.getD k []).getD j 0:Int).toNat) BZ).grp:Int)) (kvs:=FA a0) 0 (ty:=0) (gd:=none) (by kernel_rfl) rfl (by kernel_rfl) (NQ (ML (by kernel_rfl))) rfl rfl rfl rfl a4 (fun e5 e4 c3=>?_))))));rw [LR] at c3;refine nm (ee (NB (NX (rr ?_))));refine sd (da 47 ↑j 1) (sp 1 [(19,vI (↑j+1))] (ee ?_));refine AG ((Y.tracks.getD k []).length-(j+1)) (by omega) ?_;intro a w hS hD hW;exact ⟨j+1,if ((Y.cars.getD (((Y.tracks.getD k []).getD j 0:Int).toNat) BZ).grp:Int)∈a0 then a0 else a0++[((Y.cars.getD (((Y.tracks.getD k []).getD j 0:Int).toNat) BZ).grp:Int)],e5,e4,by omega,d4.trans (goG_miss (by omega) h5),c3,hS.sub su,hD,hW,rfl⟩
  have d1:=h2;have h2:=CC h2;refine BQ 2 (EP (EP (EB (NB (NX (rr (sd (da 48 ↑k 1) (sp 1 [(13,vI (↑k+1))] (ee ?_)))))))));refine AG (Y.tracks.length-(k+1)) (by omega) ?_;intro a w hS hD hW;exact ⟨k+1,a0,a3,a9,by omega,d4.trans (goG_done (by omega)),a4,hS.sub su,hD,hW,rfl⟩
 have d0:=h1;have h1:=CC h1;refine BQ 0 (EP (EP (EB (NX (rqr (sp 1 [(2,vI 0)] (se (BJ (EJ 2 [] rfl (TC _ (TC _ (TR _))) (IR _) ?_)))))))));exact ⟨congrArg (Value.int .i64) (hr.trans (goGs_done (by omega))).symm,rfl⟩
noncomputable def c_checkTracks:=cod Tryz.f68
theorem checkTracks_ct (I:Imm) (y:Value) (Y:Yard) (y_f:IsYard I y Y) (hs:Small Y.cars):CtV Tryz.prog 68 #[y] I (vI (FN Y)):=by
 obtain ⟨y1,y2,y3,rfl,c1,c5,c7⟩:=id y_f;obtain ⟨a3,a4,e9,f2,rfl,f0,f1,f3⟩:=id c1;obtain ⟨a6,a7,f4,f7,rfl,f5,f6,c6⟩:=id c5;obtain ⟨a0,a1,f8,g1,e2,rfl,f9,g0,c8,e0⟩:=id c7;refine fr (args:=[_]) (N:=64) Tryz.func68 (fun F=>?_);show Run _ _ (c_checkTracks []) _ _ [(0,_)] _ _;refine rnm (rqr ?_);let Z0:=#[vS a3 Y.cars.length a4,vS a6 Y.room.length a7,vS a0 Y.tracks.length a1];let Z1:=vS a0 Y.tracks.length a1;let Z2:=vI (↑(Y.tracks.length));let Z3:=vS a6 Y.room.length a7;refine sS (sb 1 103 Z0 (fun b1=>(sp 1 [(2,vI 0)] (se (rq (rqr (sp 1 [(8,vP b1 2)] (sd (dlb 9 0 2 b1 (Z1)) (sp 2 [(11,vP b1 1),(10,Z2)] (sd (dlb 12 0 1 b1 (Z3)) (sp 2 [(14,.bool (!(cmp .eql (↑(Y.tracks.length)) (↑(Y.room.length)))))] (se (rc 14 rfl (fun h1=>?_) (fun h1=>?_))))))))))))))
 ·
  have c9:=h1;have h1:=CI (CU h1);refine rqr (sp 1 [(2,vI 2)] (se (BJ (RP (EJ 2 [] rfl (TC _ (TR _)) (IR _) ?_)))));exact ⟨congrArg (Value.int .i64) (by rw [FN,if_neg (by omega)]),rfl⟩
 have c9:=h1;have h1:=CL (CO h1);refine AH (NX (rqr (sS (JG (d:=15) (T:=179) (ty:=179) (gd:=none) (by kernel_rfl) rfl (fun b3=>(sp 1 [(3,.map (some b3))] (se (rq (rqr (sp 1 [(16,vP b1 2)] (sd (dlb 17 1 2 b1 (Z1)) (sp 2 [(19,vI 0),(18,Z2)] (se (rb 0 ?_))))))))))))));refine rl (fun mz a w=>∃ k:Nat,∃ b0:List Int,∃ a8:Array MapEntry,∃ b2:Nat,(k≤Y.tracks.length)∧(EU Y.cars (fun b0=>if b0.length<Y.cars.length then 7 else EY Y) Y.tracks Y.room []=EU Y.cars (fun b0=>if b0.length<Y.cars.length then 7 else EY Y) (Y.tracks.drop k) (Y.room.drop k) b0)∧(OkAll Y.cars (Y.tracks.take k))∧(MapIs encI a8 (FA b0))∧SD 64 [(19,vI ↑k),(1,vP b1 0),(3,.map (some b3)),(17,Z1),(18,Z2)] I ((b3,Obj.map a8 b2)::(bX b1 Z0 103)::F) a w (mz=Y.tracks.length-k)) ?_ ?_
 ·intro a w hS hD hW;exact ⟨_,0,[],#[],0,Ae _,rfl,OkAll.nil,(MapIs.nil _),hS.sub su,hD,hW,rfl⟩
 rintro mz a w ⟨k,b0,a8,b2,hk,hr,e1,b5,hS,hD,hW,rfl⟩
 refine AX hS hD hW ?_;refine rqr (sp 1 [(20,.bool (cmp .lss ↑k (↑(Y.tracks.length))))] (se (rq (rc 20 rfl (fun h2=>?_) (fun h2=>?_)))))
 ·
  have d0:=h2;have h2:=BW h2;refine AH (NX (rq (rb 1 (rqr (sp 1 [(21,vI ↑k)] (sd (di 22 1 k c8.addr) ?_))))));have c0:=e0 k (by omega);obtain ⟨b6,b7,e5,e8,c3,e6,e7,c4⟩:=id c0;rw [c3] at c0;let Z4:=vS b6 (Y.tracks.getD k []).length b7;let Z5:=vI (↑((Y.tracks.getD k []).length));refine sd (CJ (dl 23 (JQ c8 k (by omega))) c3) (sp 2 [(5,Z4),(4,vI ↑k)] (se (rq (rqr (sp 3 [(26,vI 0),(25,Z5),(24,Z4)] (se (rb 2 ?_)))))));refine rl (fun mz a w=>∃ j:Nat,∃ a2:List Int,∃ a9:Array MapEntry,∃ b4:Nat,(j≤(Y.tracks.getD k []).length)∧(EU Y.cars (fun b0=>if b0.length<Y.cars.length then 7 else EY Y) Y.tracks Y.room []=FQ Y.cars.length (fun met'=>if lenOf Y.cars (Y.tracks.getD k [])>Y.room.getD k 0 then 9 else EU Y.cars (fun b0=>if b0.length<Y.cars.length then 7 else EY Y) (Y.tracks.drop (k+1)) (Y.room.drop (k+1)) met') ((Y.tracks.getD k []).drop j) a2)∧(Ok Y.cars ((Y.tracks.getD k []).take j))∧(MapIs encI a9 (FA a2))∧SD 64 [(26,vI ↑j),(1,vP b1 0),(3,.map (some b3)),(4,vI ↑k),(5,Z4),(17,Z1),(18,Z2),(19,vI ↑k),(24,Z4),(25,Z5)] I ((b3,Obj.map a9 b4)::(bX b1 Z0 103)::F) a w (mz=(Y.tracks.getD k []).length-j)) ?_ ?_
  ·intro a w hS hD hW;exact ⟨_,0,b0,a8,b2,Ae _,hr.trans (goTracks_step (by omega)),Ok.nil,b5,hS.sub su,hD,hW,rfl⟩
  rintro mz a w ⟨j,a2,a9,b4,hj,c2,b9,a5,hS,hD,hW,rfl⟩
  refine AX hS hD hW ?_;refine rqr (sp 1 [(27,.bool (cmp .lss ↑j (↑((Y.tracks.getD k []).length))))] (se (rq (rc 27 rfl (fun h3=>?_) (fun h3=>?_)))))
  ·
   have d1:=h3;have h3:=BW h3;let Z6:=vI ((Y.tracks.getD k []).getD j 0);refine AH (NX (rq (rb 3 (rqr (sd (di 28 1 j c4.addr) (sd (dl 29 (AY c4 j (by omega))) (sp 1 [(7,Z6)] (se (rq (rb 4 (rqr (sp 2 [(32,vP b1 0),(31,Z6)] (sd (dlb 33 1 0 b1 (vS a3 Y.cars.length a4)) (sp 1 [(34,vI (↑(Y.cars.length)))] (sd (dsb 35 (↑(Y.cars.length)) 1) (sd (dc 36 (fun I' hI=>(in_ct I' ((Y.tracks.getD k []).getD j 0) 0 ((↑(Y.cars.length))-1) :))) (sp 2 [(30,.bool (!(inB ((Y.tracks.getD k []).getD j 0) 0 ((↑(Y.cars.length))-1))))] (se (rc 30 rfl (fun h4=>?_) (fun h4=>?_))))))))))))))))))))
   ·
    have d3:=h4;have h4:=CU h4;have d2:=inB_f h4;refine rqr (sp 1 [(2,vI 3)] (se (BJ (RB (RP (RB (RP (RP (RB (RP (RB (RP (RP (RB (RP (EJ 2 [] rfl (TC _ (TC _ (TR _))) (IR _) ?_))))))))))))))));exact ⟨congrArg (Value.int .i64) (by rw [FN,if_pos (by omega)];exact (c2.trans (goTrack_bad (by omega) h4)).symm),rfl⟩
   have d3:=h4;have h4:=CO h4;have d2:=JA h4;refine rqr (sp 2 [(40,Z6),(39,.map (some b3))] (sd (LZ (x:=(.tmp 39)) (y:=(.tmp 40)) (T:=179) (kt:=3) (et:=4) (k:=((Y.tracks.getD k []).getD j 0:Int)) (kvs:=FA a2) (z:=.bool false) (d:=41) (ty:=4) (gd:=none) (by kernel_rfl) rfl (by kernel_rfl) (NQ (ML (by kernel_rfl))) rfl rfl (by kernel_rfl) (.inl (An (i:=0) rfl)) a5 (KL _ _)) (sp 1 [(38,.bool (decide (((Y.tracks.getD k []).getD j 0:Int)∈a2)))] (se (rc 38 rfl (fun h5=>?_) (fun h5=>?_))))))
   ·
    have d4:=h5;have h5:=KA h5;refine rqr (sp 1 [(2,vI 4)] (se (BJ (RB (RP (RB (RP (RP (RB (RP (RB (RP (RP (RB (RP (EJ 2 [] rfl (TC _ (TC _ (TR _))) (IR _) ?_))))))))))))))));exact ⟨congrArg (Value.int .i64) (by rw [FN,if_pos (by omega)];exact (c2.trans (goTrack_twice (by omega) h4 h5)).symm),rfl⟩
   have d4:=h5;have h5:=JV h5;refine AH (NB (NX (rr (sp 2 [(43,Z6),(42,.map (some b3))] (sS (IK (x:=(.tmp 42)) (y:=(.tmp 43)) (u:=(.const (.bool true))) (T:=179) (kt:=3) (et:=4) (k:=((Y.tracks.getD k []).getD j 0:Int)) (kvs:=FA a2) 0 (ty:=0) (gd:=none) (by kernel_rfl) rfl (by kernel_rfl) (NQ (ML (by kernel_rfl))) rfl rfl rfl rfl a5 (fun e4 e3 b8=>?_)))))));rw [LR] at b8;rw [if_neg h5] at b8;refine nm (ee (NB (NX (rr ?_))));refine sd (da 44 ↑j 1) (sp 1 [(26,vI (↑j+1))] (ee ?_));refine AG ((Y.tracks.getD k []).length-(j+1)) (by omega) ?_;intro a w hS hD hW;exact ⟨j+1,a2++[((Y.tracks.getD k []).getD j 0:Int)],e4,e3,by omega,c2.trans (goTrack_next (by omega) h4 h5),b9.snoc (c:=0) (by omega) (by omega),b8,hS.sub su,hD,hW,rfl⟩
  have d1:=h3;have h3:=CC h3;refine BQ 2 (EP (EP (EB (NX (rq ?_)))));refine rd0 9 (ox 2 [(46,vP b1 0),(45,Z4)] ?_);refine AD (dlb 47 1 0 b1 (vS a3 Y.cars.length a4)) ?_;refine AD (dc 48 (fun I' hI=>(long_ct I' _ _ _ _ (c0.mono hI) (c1.mono hI) (by exact b9.all (by omega)) (by assumption) :))) (ox 1 [(49,vP b1 1)] ?_);refine AD (dlb 50 1 1 b1 (Z3)) (ox 1 [(51,vI ↑k)] ?_);refine AD (di 52 1 k c6.addr) ?_;refine AD (dl 53 (AY c6 k (by omega))) ?_;refine BE (sp 1 [(54,.bool (cmp .gtr (lenOf Y.cars (Y.tracks.getD k [])) (Y.room.getD k 0)))] (se (rc 54 rfl (fun h6=>?_) (fun h6=>?_))))
  ·
   have d5:=h6;have h6:=EH h6;refine rqr (sp 1 [(2,vI 9)] (se (BJ (RB (RP (RP (RB (RP (EJ 2 [] rfl (TC _ (TC _ (TR _))) (IR _) ?_)))))))));exact ⟨congrArg (Value.int .i64) (by rw [FN,if_pos (by omega)];exact (c2.trans ((PK (by omega)).trans (if_pos (by omega)))).symm),rfl⟩
  have d5:=h6;have h6:=FB h6;refine AH (NB (NX (rr (sd (da 55 ↑k 1) (sp 1 [(19,vI (↑k+1))] (ee ?_))))));refine AG (Y.tracks.length-(k+1)) (by omega) ?_;intro a w hS hD hW;exact ⟨k+1,a2,a9,b4,by omega,c2.trans ((PK (by omega)).trans (if_neg (by omega))),e1.snoc (by omega) (b9.all (by omega)),a5,hS.sub su,hD,hW,rfl⟩
 have d0:=h2;have h2:=CC h2;refine BQ 0 (EP (EP (EB (NX (rq (rqr (sp 1 [(56,.map (some b3))] (sd (CJ (det_len_map (x:=(.tmp 56)) (T:=179) (K:=3) (E:=4) (d:=57) (ty:=3) (gd:=none) (by kernel_rfl) rfl (by kernel_rfl) rfl (.inl (An (i:=0) rfl))) (congrArg (fun n:Nat=>Value.int .i64 ↑n) ((MapIs.size b5).trans (trues_length _)))) (sp 1 [(58,vP b1 0)] (sd (dlb 59 1 0 b1 (vS a3 Y.cars.length a4)) (sp 2 [(61,.bool (cmp .lss (↑(b0.length)) (↑(Y.cars.length))))] (se (rc 61 rfl (fun h7=>?_) (fun h7=>?_))))))))))))))
 ·
  have d6:=h7;have h7:=BW h7;refine rqr (sp 1 [(2,vI 7)] (se (BJ (RP (EJ 2 [] rfl (TC _ (TC _ (TR _))) (IR _) ?_)))));exact ⟨congrArg (Value.int .i64) (by rw [FN,if_pos (by omega)];exact (hr.trans ((NP (by omega)).trans (if_pos (by omega)))).symm),rfl⟩
 have d6:=h7;have h7:=CC h7;refine AH (NX (rqr (sd (dnb 62 1 0 b1 [vS a3 Y.cars.length a4,vS a6 Y.room.length a7,vS a0 Y.tracks.length a1]) ?_)));have ho:=e1.all (by omega);refine sd (dc 63 (fun I' hI=>(checkGroups_ct I' _ Y ((GH c1 c5 c7).mono hI) (by assumption) :))) (sp 1 [(2,vI (EY Y))] (se (BJ (EJ 2 [] rfl (TC _ (TC _ (TR _))) (IR _) ?_))));exact ⟨congrArg (Value.int .i64) (by rw [FN,if_pos (by omega)];exact (hr.trans ((NP (by omega)).trans (if_neg (by omega)))).symm),rfl⟩
noncomputable def c_Check:=cod Tryz.f35
theorem QO (I:Imm) (y:Value) (Y:Yard) (y_f:IsYard I y Y):CtV Tryz.prog 35 #[y] I (vI (BF Y)):=by
 obtain ⟨y1,y2,y3,rfl,a6,a8,b0⟩:=id y_f;obtain ⟨a2,a3,c6,c9,rfl,c7,c8,a7⟩:=id a6;obtain ⟨a0,a1,d0,d3,rfl,d1,d2,a9⟩:=id a8;obtain ⟨a4,a5,d4,d7,c5,rfl,d5,d6,d8,d9⟩:=id b0;refine fr (args:=[_]) (N:=48) Tryz.func35 (fun F=>?_);show Run _ _ (c_Check []) _ _ [(0,_)] _ _;refine rnm (rqr ?_);let Z0:=#[vS a2 Y.cars.length a3,vS a0 Y.room.length a1,vS a4 Y.tracks.length a5];let Z1:=vS a2 Y.cars.length a3;refine sS (sb 1 103 Z0 (fun b1=>(sp 1 [(2,vI 0)] (se (rq (rqr (sp 1 [(8,vP b1 0)] (sd (dlb 9 0 0 b1 (Z1)) (sp 2 [(11,.bool (cmp .gtr (↑(Y.cars.length)) 5))] (se (rc 11 rfl (fun h1=>?_) (fun h1=>?_))))))))))))
 ·
  have b2:=h1;have h1:=EH h1;refine rqr (sp 1 [(2,vI 6)] (se (BJ (RP (EJ 2 [] rfl (TC _ (TR _)) (IR _) ?_)))));exact ⟨congrArg (Value.int .i64) ((checkErr_many (by omega)).symm),rfl⟩
 have b2:=h1;have h1:=FB h1;let Z2:=vI (↑(Y.cars.length));refine AH (NX (rq (rqr (sp 1 [(12,vP b1 0)] (sd (dlb 13 0 0 b1 (Z1)) (sp 2 [(15,vI 0),(14,Z2)] (se (rb 0 ?_))))))));refine rl (fun mz a w=>∃ k:Nat,(k≤Y.cars.length)∧(∀ c∈Y.cars.take k,EX c=0)∧SD 48 [(15,vI ↑k),(1,vP b1 0),(13,Z1),(14,Z2)] I ((bX b1 Z0 103)::F) a w (mz=Y.cars.length-k)) ?_ ?_
 ·intro a w hS hD hW;exact ⟨_,0,Ae _,(fun c h=>by simp at h),hS.sub su,hD,hW,rfl⟩
 rintro mz a w ⟨k,hk,hc,hS,hD,hW,rfl⟩
 refine AX hS hD hW ?_;refine rqr (sp 1 [(16,.bool (cmp .lss ↑k (↑(Y.cars.length))))] (se (rq (rc 16 rfl (fun h2=>?_) (fun h2=>?_)))))
 ·
  have b4:=h2;have h2:=BW h2;let Z3:=[vI ((Y.cars.getD k BZ).len),vI ((Y.cars.getD k BZ).wt),vI ((Y.cars.getD k BZ).brk),vI ((Y.cars.getD k BZ).grp),.bool ((Y.cars.getD k BZ).pipe),.bool ((Y.cars.getD k BZ).heat)];let Z4:=vI (EX (Y.cars.getD k BZ));refine AH (NX (rq (rb 1 (rqr (sd (di 17 6 k a7.addr) (sd (dln 18 17 136 Z3 rfl (cars_getN a7 k (by omega))) (sS (sal 4 136 #[vI 0,vI 0,vI 0,vI 0,.bool false,.bool false] (fun b3=>(sS (ss 0 0 b3 Z3 Z3 (_::_::_) (cs:=[_,_,_,_,_,_]) rfl rfl (sn (sd (dnb 19 0 0 b3 Z3) (sd (dc 20 (fun I' hI=>(checkCoach_ct I' (Y.cars.getD k BZ) :))) (sp 1 [(5,Z4)] (sn (sp 2 [(22,.bool (!(cmp .eql (EX (Y.cars.getD k BZ)) 0)))] (se (rc 22 rfl (fun h3=>?_) (fun h3=>?_))))))))))))))))))))
  ·
   have b5:=h3;have h3:=CI (CU h3);refine rqr (sp 2 [(2,Z4)] (se (BJ (RB (RP (RP (RB (RP (EJ 2 [] rfl (TC _ (TC _ (TR _))) (IR _) ?_)))))))));exact ⟨congrArg (Value.int .i64) (checkErr_car (by omega) (by omega) h3),rfl⟩
  have b5:=h3;have h3:=CL (CO h3);refine AH (NB (NX (rr (sd (da 24 ↑k 1) (sp 1 [(15,vI (↑k+1))] (ee ?_))))));refine AG (Y.cars.length-(k+1)) (by omega) ?_;intro a w hS hD hW;exact ⟨k+1,by omega,all_snoc hc (by omega) h3,hS.sub su,hD,(hW.perm (PR _)).sub (TC _ (TR _)),rfl⟩
 have b4:=h2;have h2:=CC h2;let Z5:=vS a0 Y.room.length a1;refine BQ 0 (EP (EP (EB (NX (rq (rb 2 (rqr (sp 1 [(26,vP b1 1)] (sd (dlb 27 0 1 b1 (Z5)) (sp 3 [(25,.bool (cmp .eql (↑(Y.room.length)) 0))] (se (rc 25 rfl (fun h4=>?_) (fun h4=>?_)))))))))))))
 ·
  have b6:=h4;have h4:=CL h4;refine rqr (sp 1 [(2,vI 7)] (se (BJ (RB (RP (EJ 2 [] rfl (TC _ (TR _)) (IR _) ?_))))));exact ⟨congrArg (Value.int .i64) ((checkErr_few (by omega) (LW hc (by omega)) (by omega)).symm),rfl⟩
 have b6:=h4;have h4:=CI h4;refine rqr (sp 1 [(31,vP b1 1)] (sd (dlb 32 0 1 b1 (Z5)) (sp 3 [(30,.bool (cmp .gtr (↑(Y.room.length)) 3))] (se (rc 30 rfl (fun h5=>?_) (fun h5=>?_))))))
 ·
  have b7:=h5;have h5:=EH h5;refine rqr (sp 1 [(2,vI 6)] (se (BJ (RB (RP (EJ 2 [] rfl (TC _ (TR _)) (IR _) ?_))))));exact ⟨congrArg (Value.int .i64) ((checkErr_many2 (by omega) (LW hc (by omega)) (by omega)).symm),rfl⟩
 have b7:=h5;have h5:=FB h5;let Z6:=vI (↑(Y.room.length));refine AH (NB (NX (rq (rqr (sp 1 [(35,vP b1 1)] (sd (dlb 36 0 1 b1 (Z5)) (sp 2 [(38,vI 0),(37,Z6)] (se (rb 3 ?_)))))))));refine rl (fun mz a w=>∃ m:Nat,(m≤Y.room.length)∧(∀ c∈Y.room.take m,inB c 0 20=true)∧SD 48 [(38,vI ↑m),(1,vP b1 0),(36,Z5),(37,Z6)] I ((bX b1 Z0 103)::F) a w (mz=Y.room.length-m)) ?_ ?_
 ·intro a w hS hD hW;exact ⟨_,0,Ae _,(fun c h=>by simp at h),hS.sub su,hD,hW,rfl⟩
 rintro mz a w ⟨m,hm,c4,hS,hD,hW,rfl⟩
 refine AX hS hD hW ?_;refine rqr (sp 1 [(39,.bool (cmp .lss ↑m (↑(Y.room.length))))] (se (rq (rc 39 rfl (fun h6=>?_) (fun h6=>?_)))))
 ·
  have b8:=h6;have h6:=BW h6;let Z7:=vI (Y.room.getD m 0);refine AH (NX (rq (rb 4 (rqr (sd (di 40 1 m a9.addr) (sd (dl 41 (AY a9 m (by omega))) (sp 1 [(7,Z7)] (sn (sp 1 [(42,Z7)] (sd (dc 43 (fun I' hI=>(in_ct I' (Y.room.getD m 0) 0 20 :))) (sp 1 [(44,.bool (!(inB (Y.room.getD m 0) 0 20)))] (se (rc 44 rfl (fun h7=>?_) (fun h7=>?_))))))))))))))
  ·
   have c0:=h7;have h7:=CU h7;have b9:=inB_f h7;refine rqr (sp 1 [(2,vI 1)] (se (BJ (RB (RP (RP (RB (RP (EJ 2 [] rfl (TC _ (TR _)) (IR _) ?_)))))))));exact ⟨congrArg (Value.int .i64) ((checkErr_room (by omega) (LW hc (by omega)) (by omega) (by omega) (by omega) h7).symm),rfl⟩
  have c0:=h7;have h7:=CO h7;have b9:=JA h7;refine AH (NB (NX (rr (sd (da 45 ↑m 1) (sp 1 [(38,vI (↑m+1))] (ee ?_))))));refine AG (Y.room.length-(m+1)) (by omega) ?_;intro a w hS hD hW;exact ⟨m+1,by omega,all_snoc (d:=0) c4 (by omega) h7,hS.sub su,hD,hW,rfl⟩
 have b8:=h6;have h6:=CC h6;refine BQ 3 (EP (EP (EB (NX (rqr (sd (dnb 46 0 0 b1 [vS a2 Y.cars.length a3,vS a0 Y.room.length a1,vS a4 Y.tracks.length a5]) (sd (dc 47 (fun I' hI=>(checkTracks_ct I' _ Y ((GH a6 a8 b0).mono hI) (by exact small_of_ok (LW hc (by omega))) :))) (sp 1 [(2,vI (FN Y))] (se (BJ (EJ 2 [] rfl (TC _ (TR _)) (IR _) ?_)))))))))));exact ⟨congrArg (Value.int .i64) ((checkErr_tracks (by omega) (LW hc (by omega)) (by omega) (by omega) (LW c4 (by omega))).symm),rfl⟩
end Go.Proofs.YtmhdidbgjpeadaaGreatDoor
set_option maxRecDepth 100000
namespace Go.Proofs.YtmhdidbgjpeadaaGreatDoor
open Go.RowKit Go.Extern.Stop Go.Stop Go.Extern
theorem as_nil (t : Value) (w : World) :
    Calls Tryz.prog 105 #[.nilIface,t] w fun e w'=>e=.returned (.bool false)∧w'=w:=by
  go_enter Tryz.func105,Tryz.ntmps105
  go_wp2
  go_ret
  exact ⟨rfl,rfl⟩
theorem As.valueOf27 (t : Addr) (w : World) : (ReflectliteValue.unpack (.iface 190 (.pointer (some t)))).run Tryz.prog w
   =.ok (.agg #[.pointer (some ⟨1,190,none⟩),.pointer (some ⟨w.heap.size,0,none⟩),.int .u64 150]) (w.alloc (.cells #[.pointer (some t)] 190)):=by kernel_rfl
theorem As.type27 (a : Addr) (w : World) : (ReflectliteValue.methodAny (ReflectliteValue.valueError "reflectlite.Value.Type" 0) (fun t _ _ _ => ReflectliteType.toType t) #[.agg #[.pointer (some ⟨1, 190, none⟩), .pointer (some a), .int .u64 150]]).run Tryz.prog w
   =.ok (.iface 226 (.agg #[.pointer (some ⟨1,190,none⟩)])) w:=by kernel_rfl
theorem As.methodKind (h:Value) (w:World):(Go.method 389 226 (.agg #[h]) "Kind").run Tryz.prog w=.ok (174,h) w:=by kernel_rfl
theorem As.kind27 (w:World):((ReflectliteType.abiMethod fun t=>(fun a:Nat=>Value.int IntKind.u8 (a:Int)) <$> Rtype.kind t) #[.pointer (some ⟨1,190,none⟩)]).run Tryz.prog w=.ok (.int .u8 22) w:=by kernel_rfl
theorem As.kind25 (w:World):((ReflectliteType.abiMethod fun t=>(fun a:Nat=>Value.int IntKind.u8 (a:Int)) <$> Rtype.kind t) #[.pointer (some ⟨1,188,none⟩)]).run Tryz.prog w=.ok (.int .u8 25) w:=by kernel_rfl
theorem rlm (z : Sem Value) (f : TypeId → Addr → Nat → Nat → Sem Value) (v : Value) :
    ReflectliteValue.method z f #[v]=(do match ← ReflectliteValue.parts v with | none=>z | some (t,a,fl)=>f t a fl (fl%32)):=rfl
theorem As.parts27 (a:Addr) (w:World):(ReflectliteValue.parts (.agg #[.pointer (some ⟨1,190,none⟩),.pointer (some a),.int .u64 150])).run Tryz.prog w=.ok (some (190,a,150)) w:=by kernel_rfl
theorem As.isNil27 (a p : Addr) (W : World) (ha : W.cell? a = some (.pointer (some p))) :
    (ReflectliteValue.method (ReflectliteValue.valueError "reflectlite.Value.IsNil" 0) ReflectliteValue.isNil #[.agg #[.pointer (some ⟨1,190,none⟩),.pointer (some a),.int .u64 150]]).run Tryz.prog W=.ok (.bool false) W:=by
  rw [rlm]
  simp only [Sem.run_bind,As.parts27,Result.andThen]
  simp [ReflectliteValue.isNil,loadVar,isAgg,underlying,Tryz.underlying190,ha,Result.andThen]
theorem As.methodElem (h:Value) (w:World):(Go.method 389 226 (.agg #[h]) "Elem").run Tryz.prog w=.ok (185,.agg #[h]) w:=by kernel_rfl
theorem As.methodImplements (h:Value) (w:World):(Go.method 389 226 (.agg #[h]) "Implements").run Tryz.prog w=.ok (186,.agg #[h]) w:=by kernel_rfl
theorem As.methodAssignableTo (h:Value) (w:World):(Go.method 389 226 (.agg #[h]) "AssignableTo").run Tryz.prog w=.ok (183,.agg #[h]) w:=by kernel_rfl
theorem As.elem27 (w:World):(ReflectliteType.method ReflectliteType.elem #[.agg #[.pointer (some ⟨1,190,none⟩)]]).run Tryz.prog w=.ok (.iface 226 (.agg #[.pointer (some ⟨1,188,none⟩)])) w:=by kernel_rfl
theorem As.implements25 (w:World):(ReflectliteType.relation "Implements" ReflectliteType.implements_ #[.agg #[.pointer (some ⟨1,188,none⟩)],.iface 226 (.agg #[.pointer (some ⟨1,148,none⟩)])]).run Tryz.prog w=.ok (.bool true) w:=by kernel_rfl
theorem As.typeOf25 (v:Value) (w:World):(ReflectliteType.typeOf #[.iface 188 v]).run Tryz.prog w=.ok (.iface 226 (.agg #[.pointer (some ⟨1,188,none⟩)])) w:=by kernel_rfl
theorem As.assignable25 (w:World):(ReflectliteType.relation "AssignableTo" ReflectliteType.assignableTo #[.agg #[.pointer (some ⟨1,188,none⟩)],.iface 226 (.agg #[.pointer (some ⟨1,188,none⟩)])]).run Tryz.prog w=.ok (.bool true) w:=by kernel_rfl
theorem As.valueOf25 (e : Int) (w : World) : (ReflectliteValue.unpack (.iface 188 (.agg #[.int .i64 e]))).run Tryz.prog w
   =.ok (.agg #[.pointer (some ⟨1,188,none⟩),.pointer (some ⟨w.heap.size,0,none⟩),.int .u64 153]) (w.alloc (.cells #[.int .i64 e] 188)):=by kernel_rfl
theorem As.elemOf27 (w:World):(Rtype.elem? 190).run Tryz.prog w=.ok (some 188) w:=by kernel_rfl
theorem As.mk25 (p:Addr) (w:World):(ReflectliteValue.mk 188 p ReflectliteValue.flagAddr).run Tryz.prog w=.ok (.agg #[.pointer (some ⟨1,188,none⟩),.pointer (some p),.int .u64 409]) w:=by kernel_rfl
theorem As.elemV27 (a p : Addr) (W : World) (ha : W.cell? a = some (.pointer (some p))) :
    (ReflectliteValue.method (ReflectliteValue.valueError "reflectlite.Value.Elem" 0) ReflectliteValue.elem #[.agg #[.pointer (some ⟨1,190,none⟩),.pointer (some a),.int .u64 150]]).run Tryz.prog W
     =.ok (.agg #[.pointer (some ⟨1,188,none⟩),.pointer (some p),.int .u64 409]) W:=by
  rw [rlm]
  simp only [Sem.run_bind,As.parts27,Result.andThen]
  simp [ReflectliteValue.elem,loadVar,isAgg,underlying,Tryz.underlying190,ha,Result.andThen,As.elemOf27,As.mk25]
theorem rls (v x : Value) : ReflectliteValue.set #[v, x] = (do
    let (some (dst,a,fl),some (src,b,_)):=(← ReflectliteValue.parts v,← ReflectliteValue.parts x)
      | unsupported (.noEntry "extern/(internal/reflectlite.Value).Set.zeroValue")
    if fl/ReflectliteValue.flagAddr%2 == 0 then unsupported (.noEntry "extern/(internal/reflectlite.Value).Set.unaddressable")
    let val ← loadVar src b
    if ← Rtype.directlyAssignable dst src then storeVar dst a val
    else if ← Rtype.implements dst src then
      if (← Rtype.kind src) == 20 then
        match val with
        | .nilIface=>unsupported (.noEntry "extern/reflectlite: a nil value of one interface type handed on as a value of another")
        | _=>storeVar dst a val
      else storeVar dst a (.iface src val)
    else panicString ("reflectlite.Set: value of type "++(← Rtype.spelt src)++" is not assignable to type "++(← Rtype.spelt dst))
    pure (.tuple #[])):=rfl
theorem As.parts25a (a:Addr) (w:World):(ReflectliteValue.parts (.agg #[.pointer (some ⟨1,188,none⟩),.pointer (some a),.int .u64 409])).run Tryz.prog w=.ok (some (188,a,409)) w:=by kernel_rfl
theorem As.parts25 (a:Addr) (w:World):(ReflectliteValue.parts (.agg #[.pointer (some ⟨1,188,none⟩),.pointer (some a),.int .u64 153])).run Tryz.prog w=.ok (some (188,a,153)) w:=by kernel_rfl
theorem As.direct25 (w:World):(Rtype.directlyAssignable 188 188).run Tryz.prog w=.ok true w:=by kernel_rfl
theorem As.size25 (w:World):(sizeOf 188).run Tryz.prog w=.ok 1 w:=by kernel_rfl
theorem As.loadV (b:Addr) (e:Int) (W:World) (hb:W.cell? b=some (.int .i64 e)):(loadVar 188 b).run Tryz.prog W=.ok (.agg #[.int .i64 e]) W:=by
  have hs:=As.size25 W
  unfold loadVar
  rw [Sem.run_bind,show (isAgg 188).run Tryz.prog W=.ok true W from by kernel_rfl]
  show (do pure (Value.agg (← loadCells b (← sizeOf 188))):Sem Value).run Tryz.prog W=_
  rw [Sem.run_bind,hs]
  show (loadCells b 1 >>= fun x=>pure (Value.agg x)).run Tryz.prog W=_
  rw [Sem.run_bind]
  have hl:(loadCells b 1).run Tryz.prog W=.ok #[.int .i64 e] W:=by
    show (Sem.load Mode.plain (Addr.add b 0) Sem.pure >>= fun v=>loadCellsFrom b 1 0 (#[].push v)).run Tryz.prog W=_
    rw [Sem.run_bind]
    have hb':W.cell? (Addr.add b 0)=some (.int .i64 e):=by rw [show Addr.add b 0=b from by cases b;rfl];exact hb
    simp only [Sem.run,hb',Result.andThen]
    rfl
  rw [hl];rfl
theorem As.storeV (a:Addr) (e:Int) (old:Value) (W:World) (ht:W.cell? a=some old) (hf:W.frozen? a=false):(storeVar 188 a (.agg #[.int .i64 e])).run Tryz.prog W=.ok () (W.setCell a (.int .i64 e)):=by
  unfold storeVar
  rw [Sem.run_bind,As.size25]
  show (storeCells a [.int .i64 e]).run Tryz.prog W=_
  have ha:Addr.add a 0=a:=by cases a;rfl
  show (store (Addr.add a 0) (.int .i64 e) >>= fun _=>storeCells a [] 1).run Tryz.prog W=_
  rw [Sem.run_bind,ha,run_store Tryz.prog W a _ _ (by rfl)]
  simp only [ht,hf]
  rfl
theorem As.set25 (ta b : Addr) (e : Int) (old : Value) (W : World) (hb : W.cell? b = some (.int .i64 e)) (ht : W.cell? ta = some old) (hf : W.frozen? ta = false) :
    (ReflectliteValue.set #[.agg #[.pointer (some ⟨1,188,none⟩),.pointer (some ta),.int .u64 409],.agg #[.pointer (some ⟨1,188,none⟩),.pointer (some b),.int .u64 153]]).run Tryz.prog W
     =.ok (.tuple #[]) (W.setCell ta (.int .i64 e)):=by
  rw [rls]
  simp only [Sem.run_bind,As.parts25a,As.parts25,Result.andThen]
  simp [ReflectliteValue.flagAddr,As.loadV b e W hb,Result.andThen,As.direct25,As.storeV ta e old W ht hf]
set_option maxHeartbeats 4000000 in
theorem as_hit (e : Int) (t : Addr) (old : Value) (w : World) (hg : w.cell? ⟨0, 0, none⟩ = some (.iface 226 (.agg #[.pointer (some ⟨1, 148, none⟩)]))) (ht0 : w.cell? t = some old) (hf0 : w.frozen? t = false) :
    Calls Tryz.prog 105 #[.iface 188 (.agg #[.int .i64 e]),.iface 190 (.pointer (some t))] w fun ev w'=>ev=.returned (.bool true)∧w'=((((w.alloc (.cells #[.pointer (some t)] 190)).alloc (.cells #[.pointer (some ⟨1,190,none⟩),.pointer (some ⟨w.heap.size,0,none⟩),.int .u64 150] 212)).alloc (.cells #[.pointer (some ⟨1,190,none⟩),.pointer (some ⟨w.heap.size,0,none⟩),.int .u64 150] 212)).alloc (.cells #[.int .i64 e] 188)).setCell t (.int .i64 e):=by
  have h6:=@run_callFunc_extern Tryz.prog 129 _ (fun args=>ReflectliteValue.unpack (args.getD 0 (.tuple #[]))) Tryz.func129 (by kernel_rfl) (by kernel_rfl) (by kernel_rfl) (by kernel_rfl)
  have h7:=@run_callFunc_extern Tryz.prog 130 _ (ReflectliteValue.methodAny (ReflectliteValue.valueError "reflectlite.Value.Type" 0) (fun t _ _ _=>ReflectliteType.toType t)) Tryz.func130 (by kernel_rfl) (by kernel_rfl) (by kernel_rfl) (by kernel_rfl)
  have h8:=@run_callFunc_extern Tryz.prog 131 _ (ReflectliteValue.method (ReflectliteValue.valueError "reflectlite.Value.IsNil" 0) ReflectliteValue.isNil) Tryz.func131 (by kernel_rfl) (by kernel_rfl) (by kernel_rfl) (by kernel_rfl)
  have h27:=@run_callFunc_extern Tryz.prog 174 _ (ReflectliteType.abiMethod fun t=>do pure (.int .u8 (← Rtype.kind t))) Tryz.func174 (by kernel_rfl) (by kernel_rfl) (by kernel_rfl) (by kernel_rfl)
  have h37:=@run_callFunc_extern Tryz.prog 185 _ (ReflectliteType.method ReflectliteType.elem) Tryz.func185 (by kernel_rfl) (by kernel_rfl) (by kernel_rfl) (by kernel_rfl)
  have h38:=@run_callFunc_extern Tryz.prog 186 _ (ReflectliteType.relation "Implements" ReflectliteType.implements_) Tryz.func186 (by kernel_rfl) (by kernel_rfl) (by kernel_rfl) (by kernel_rfl)
  have h10:=@run_callFunc_extern Tryz.prog 137 _ ReflectliteType.typeOf Tryz.func137 (by kernel_rfl) (by kernel_rfl) (by kernel_rfl) (by kernel_rfl)
  have h35:=@run_callFunc_extern Tryz.prog 183 _ (ReflectliteType.relation "AssignableTo" ReflectliteType.assignableTo) Tryz.func183 (by kernel_rfl) (by kernel_rfl) (by kernel_rfl) (by kernel_rfl)
  have h11:=@run_callFunc_extern Tryz.prog 138 _ (ReflectliteValue.method (ReflectliteValue.valueError "reflectlite.Value.Elem" 0) ReflectliteValue.elem) Tryz.func138 (by kernel_rfl) (by kernel_rfl) (by kernel_rfl) (by kernel_rfl)
  have h12:=@run_callFunc_extern Tryz.prog 139 _ ReflectliteValue.set Tryz.func139 (by kernel_rfl) (by kernel_rfl) (by kernel_rfl) (by kernel_rfl)
  have tO:=As.typeOf25
  have mA:=As.methodAssignableTo
  have a25:=As.assignable25
  have v25:=As.valueOf25
  have f6:=As.valueOf27
  have f7:=As.type27
  have mK:=As.methodKind
  have mE:=As.methodElem
  have mI:=As.methodImplements
  have k27:=As.kind27
  have k25:=As.kind25
  have e27:=As.elem27
  have i25:=As.implements25
  have n8:=As.isNil27 ⟨w.heap.size,0,none⟩ t ((w.alloc (.cells #[.pointer (some t)] 190)).alloc (.cells #[.pointer (some ⟨1,190,none⟩),.pointer (some ⟨w.heap.size,0,none⟩),.int .u64 150] 212)) (by simp)
  have hlt:0<w.heap.size:=by
    rcases Nat.eq_zero_or_pos w.heap.size with h0 | h
    · simp [World.cell?,h0] at hg
    · exact h
  have hg2:((w.alloc (.cells #[.pointer (some t)] 190)).alloc (.cells #[.pointer (some ⟨1,190,none⟩),.pointer (some ⟨w.heap.size,0,none⟩),.int .u64 150] 212)).cell? ⟨0,0,none⟩=some (.iface 226 (.agg #[.pointer (some ⟨1,148,none⟩)])):=by
    rw [World.cell?_alloc_lt _ _ ⟨0,0,none⟩ (by simp),World.cell?_alloc_lt _ _ ⟨0,0,none⟩ hlt];exact hg
  have htl:t.block<w.heap.size:=by
    rcases Nat.lt_or_ge t.block w.heap.size with h | h
    · exact h
    · simp [World.cell?,Array.getElem?_eq_none h] at ht0
  have el:=As.elemV27 ⟨w.heap.size,0,none⟩ t (((w.alloc (.cells #[.pointer (some t)] 190)).alloc (.cells #[.pointer (some ⟨1,190,none⟩),.pointer (some ⟨w.heap.size,0,none⟩),.int .u64 150] 212)).alloc (.cells #[.pointer (some ⟨1,190,none⟩),.pointer (some ⟨w.heap.size,0,none⟩),.int .u64 150] 212)) (by rw [World.cell?_alloc_lt _ _ ⟨w.heap.size,0,none⟩ (by simp;omega)];simp)
  have st:=As.set25 t ⟨w.heap.size+1+1+1,0,none⟩ e old ((((w.alloc (.cells #[.pointer (some t)] 190)).alloc (.cells #[.pointer (some ⟨1,190,none⟩),.pointer (some ⟨w.heap.size,0,none⟩),.int .u64 150] 212)).alloc (.cells #[.pointer (some ⟨1,190,none⟩),.pointer (some ⟨w.heap.size,0,none⟩),.int .u64 150] 212)).alloc (.cells #[.int .i64 e] 188))
    (by rw [World.cell?_alloc_at _ _ _ _ (by simp)];rfl)
    (by rw [World.cell?_alloc_lt _ _ t (by simp;omega),World.cell?_alloc_lt _ _ t (by simp;omega),World.cell?_alloc_lt _ _ t (by simp;omega),World.cell?_alloc_lt _ _ t htl];exact ht0)
    (by rw [World.frozen?_alloc_old _ _ t (by simp;omega),World.frozen?_alloc_old _ _ t (by simp;omega),World.frozen?_alloc_old _ _ t (by simp;omega),World.frozen?_alloc_old _ _ t (Nat.ne_of_lt htl)];exact hf0)
  go_enter Tryz.func105,Tryz.ntmps105
  go_wp2
  refine wp_loop_rounds 1 ?_
  rw [rounds_succ]
  go_wp2
  go_ret
  exact ⟨rfl,rfl⟩
end Go.Proofs.YtmhdidbgjpeadaaGreatDoor

/- A part of the proof of the laws of this seat. -/
import Derived.Test.YtcaocbhbofejnaaGreatDoorProg
import Derived.WalkKit
import Derived.LaidEql
import Derived.Stop.Asserts
import Derived.RowKitTokens
import Derived.Test.YtcaocbhbofejnaaGreatDoorP1
import Derived.RangeFuncRecord
import Derived.RangeFuncLeaves
import Derived.Scope
set_option linter.unusedVariables false
set_option linter.unusedSimpArgs false
set_option maxRecDepth 100000
namespace Go.Proofs.YtcaocbhbofejnaaGreatDoor
open Go.RowKit Go.Extern.Stop Go.Stop Go.Extern
theorem as_nil (t : Value) (w : World) :
    Calls Tryz.prog 137 #[.nilIface,t] w fun e w'=>e=.returned (.bool false)∧w'=w:=by
  go_enter Tryz.func137,Tryz.ntmps137
  go_wp2
  go_ret
  exact ⟨rfl,rfl⟩
theorem As.valueOf27 (t : Addr) (w : World) : (ReflectliteValue.unpack (.iface 169 (.pointer (some t)))).run Tryz.prog w
   =.ok (.agg #[.pointer (some ⟨9,169,none⟩),.pointer (some ⟨w.heap.size,0,none⟩),.int .u64 150]) (w.alloc (.cells #[.pointer (some t)] 169)):=by kernel_rfl
theorem As.type27 (a : Addr) (w : World) : (ReflectliteValue.methodAny (ReflectliteValue.valueError "reflectlite.Value.Type" 0) (fun t _ _ _ => ReflectliteType.toType t) #[.agg #[.pointer (some ⟨9, 169, none⟩), .pointer (some a), .int .u64 150]]).run Tryz.prog w
   =.ok (.iface 208 (.agg #[.pointer (some ⟨9,169,none⟩)])) w:=by kernel_rfl
theorem As.methodKind (h:Value) (w:World):(Go.method 391 208 (.agg #[h]) "Kind").run Tryz.prog w=.ok (224,h) w:=by kernel_rfl
theorem As.kind27 (w:World):((ReflectliteType.abiMethod fun t=>(fun a:Nat=>Value.int IntKind.u8 (a:Int)) <$> Rtype.kind t) #[.pointer (some ⟨9,169,none⟩)]).run Tryz.prog w=.ok (.int .u8 22) w:=by kernel_rfl
theorem As.kind25 (w:World):((ReflectliteType.abiMethod fun t=>(fun a:Nat=>Value.int IntKind.u8 (a:Int)) <$> Rtype.kind t) #[.pointer (some ⟨9,167,none⟩)]).run Tryz.prog w=.ok (.int .u8 25) w:=by kernel_rfl
theorem rlm (z : Sem Value) (f : TypeId → Addr → Nat → Nat → Sem Value) (v : Value) :
    ReflectliteValue.method z f #[v]=(do match ← ReflectliteValue.parts v with | none=>z | some (t,a,fl)=>f t a fl (fl%32)):=rfl
theorem As.parts27 (a:Addr) (w:World):(ReflectliteValue.parts (.agg #[.pointer (some ⟨9,169,none⟩),.pointer (some a),.int .u64 150])).run Tryz.prog w=.ok (some (169,a,150)) w:=by kernel_rfl
theorem As.isNil27 (a p : Addr) (W : World) (ha : W.cell? a = some (.pointer (some p))) :
    (ReflectliteValue.method (ReflectliteValue.valueError "reflectlite.Value.IsNil" 0) ReflectliteValue.isNil #[.agg #[.pointer (some ⟨9,169,none⟩),.pointer (some a),.int .u64 150]]).run Tryz.prog W=.ok (.bool false) W:=by
  rw [rlm]
  simp only [Sem.run_bind,As.parts27,Result.andThen]
  simp [ReflectliteValue.isNil,loadVar,isAgg,underlying,Tryz.underlying169,ha,Result.andThen]
theorem As.methodElem (h:Value) (w:World):(Go.method 391 208 (.agg #[h]) "Elem").run Tryz.prog w=.ok (236,.agg #[h]) w:=by kernel_rfl
theorem As.methodImplements (h:Value) (w:World):(Go.method 391 208 (.agg #[h]) "Implements").run Tryz.prog w=.ok (237,.agg #[h]) w:=by kernel_rfl
theorem As.methodAssignableTo (h:Value) (w:World):(Go.method 391 208 (.agg #[h]) "AssignableTo").run Tryz.prog w=.ok (234,.agg #[h]) w:=by kernel_rfl
theorem As.elem27 (w:World):(ReflectliteType.method ReflectliteType.elem #[.agg #[.pointer (some ⟨9,169,none⟩)]]).run Tryz.prog w=.ok (.iface 208 (.agg #[.pointer (some ⟨9,167,none⟩)])) w:=by kernel_rfl
theorem As.implements25 (w:World):(ReflectliteType.relation "Implements" ReflectliteType.implements_ #[.agg #[.pointer (some ⟨9,167,none⟩)],.iface 208 (.agg #[.pointer (some ⟨9,126,none⟩)])]).run Tryz.prog w=.ok (.bool true) w:=by kernel_rfl
theorem As.typeOf25 (v:Value) (w:World):(ReflectliteType.typeOf #[.iface 167 v]).run Tryz.prog w=.ok (.iface 208 (.agg #[.pointer (some ⟨9,167,none⟩)])) w:=by kernel_rfl
theorem As.assignable25 (w:World):(ReflectliteType.relation "AssignableTo" ReflectliteType.assignableTo #[.agg #[.pointer (some ⟨9,167,none⟩)],.iface 208 (.agg #[.pointer (some ⟨9,167,none⟩)])]).run Tryz.prog w=.ok (.bool true) w:=by kernel_rfl
theorem As.valueOf25 (e : Int) (w : World) : (ReflectliteValue.unpack (.iface 167 (.agg #[.int .i64 e]))).run Tryz.prog w
   =.ok (.agg #[.pointer (some ⟨9,167,none⟩),.pointer (some ⟨w.heap.size,0,none⟩),.int .u64 153]) (w.alloc (.cells #[.int .i64 e] 167)):=by kernel_rfl
theorem As.elemOf27 (w:World):(Rtype.elem? 169).run Tryz.prog w=.ok (some 167) w:=by kernel_rfl
theorem As.mk25 (p:Addr) (w:World):(ReflectliteValue.mk 167 p ReflectliteValue.flagAddr).run Tryz.prog w=.ok (.agg #[.pointer (some ⟨9,167,none⟩),.pointer (some p),.int .u64 409]) w:=by kernel_rfl
theorem As.elemV27 (a p : Addr) (W : World) (ha : W.cell? a = some (.pointer (some p))) :
    (ReflectliteValue.method (ReflectliteValue.valueError "reflectlite.Value.Elem" 0) ReflectliteValue.elem #[.agg #[.pointer (some ⟨9,169,none⟩),.pointer (some a),.int .u64 150]]).run Tryz.prog W
     =.ok (.agg #[.pointer (some ⟨9,167,none⟩),.pointer (some p),.int .u64 409]) W:=by
  rw [rlm]
  simp only [Sem.run_bind,As.parts27,Result.andThen]
  simp [ReflectliteValue.elem,loadVar,isAgg,underlying,Tryz.underlying169,ha,Result.andThen,As.elemOf27,As.mk25]
theorem rls (v x : Value) : ReflectliteValue.set #[v, x] = (do
    let (some (dst,a,fl),some (src,b,_)):=(← ReflectliteValue.parts v,← ReflectliteValue.parts x)
      | unsupported (.noEntry "extern/(internal/reflectlite.Value).Set.zeroValue")
    if fl/ReflectliteValue.flagAddr%2 == 0 then unsupported (.noEntry "extern/(internal/reflectlite.Value).Set.unaddressable")
    let val ← loadVar src b
    if ← Rtype.directlyAssignable dst src then storeVar dst a val
    else if ← Rtype.implements dst src then
      if (← Rtype.kind src) == 20 then
        match val with
        | .nilIface=>unsupported (.noEntry "extern/reflectlite: a nil value of one interface type handed on as a value of another")
        | _=>storeVar dst a val
      else storeVar dst a (.iface src val)
    else panicString ("reflectlite.Set: value of type "++(← Rtype.spelt src)++" is not assignable to type "++(← Rtype.spelt dst))
    pure (.tuple #[])):=rfl
theorem As.parts25a (a:Addr) (w:World):(ReflectliteValue.parts (.agg #[.pointer (some ⟨9,167,none⟩),.pointer (some a),.int .u64 409])).run Tryz.prog w=.ok (some (167,a,409)) w:=by kernel_rfl
theorem As.parts25 (a:Addr) (w:World):(ReflectliteValue.parts (.agg #[.pointer (some ⟨9,167,none⟩),.pointer (some a),.int .u64 153])).run Tryz.prog w=.ok (some (167,a,153)) w:=by kernel_rfl
theorem As.direct25 (w:World):(Rtype.directlyAssignable 167 167).run Tryz.prog w=.ok true w:=by kernel_rfl
theorem As.size25 (w:World):(sizeOf 167).run Tryz.prog w=.ok 1 w:=by kernel_rfl
theorem As.loadV (b:Addr) (e:Int) (W:World) (hb:W.cell? b=some (.int .i64 e)):(loadVar 167 b).run Tryz.prog W=.ok (.agg #[.int .i64 e]) W:=by
  have hs:=As.size25 W
  unfold loadVar
  rw [Sem.run_bind,show (isAgg 167).run Tryz.prog W=.ok true W from by kernel_rfl]
  show (do pure (Value.agg (← loadCells b (← sizeOf 167))):Sem Value).run Tryz.prog W=_
  rw [Sem.run_bind,hs]
  show (loadCells b 1 >>= fun x=>pure (Value.agg x)).run Tryz.prog W=_
  rw [Sem.run_bind]
  have hl:(loadCells b 1).run Tryz.prog W=.ok #[.int .i64 e] W:=by
    show (Sem.load Mode.plain (Addr.add b 0) Sem.pure >>= fun v=>loadCellsFrom b 1 0 (#[].push v)).run Tryz.prog W=_
    rw [Sem.run_bind]
    have hb':W.cell? (Addr.add b 0)=some (.int .i64 e):=by rw [show Addr.add b 0=b from by cases b;rfl];exact hb
    simp only [Sem.run,hb',Result.andThen]
    rfl
  rw [hl];rfl
theorem As.storeV (a:Addr) (e:Int) (old:Value) (W:World) (ht:W.cell? a=some old) (hf:W.frozen? a=false):(storeVar 167 a (.agg #[.int .i64 e])).run Tryz.prog W=.ok () (W.setCell a (.int .i64 e)):=by
  unfold storeVar
  rw [Sem.run_bind,As.size25]
  show (storeCells a [.int .i64 e]).run Tryz.prog W=_
  have ha:Addr.add a 0=a:=by cases a;rfl
  show (store (Addr.add a 0) (.int .i64 e) >>= fun _=>storeCells a [] 1).run Tryz.prog W=_
  rw [Sem.run_bind,ha,run_store Tryz.prog W a _ _ (by rfl)]
  simp only [ht,hf]
  rfl
theorem As.set25 (ta b : Addr) (e : Int) (old : Value) (W : World) (hb : W.cell? b = some (.int .i64 e)) (ht : W.cell? ta = some old) (hf : W.frozen? ta = false) :
    (ReflectliteValue.set #[.agg #[.pointer (some ⟨9,167,none⟩),.pointer (some ta),.int .u64 409],.agg #[.pointer (some ⟨9,167,none⟩),.pointer (some b),.int .u64 153]]).run Tryz.prog W
     =.ok (.tuple #[]) (W.setCell ta (.int .i64 e)):=by
  rw [rls]
  simp only [Sem.run_bind,As.parts25a,As.parts25,Result.andThen]
  simp [ReflectliteValue.flagAddr,As.loadV b e W hb,Result.andThen,As.direct25,As.storeV ta e old W ht hf]
set_option maxHeartbeats 4000000 in
theorem as_hit (e : Int) (t : Addr) (old : Value) (w : World) (hg : w.cell? ⟨0, 0, none⟩ = some (.iface 208 (.agg #[.pointer (some ⟨9, 126, none⟩)]))) (ht0 : w.cell? t = some old) (hf0 : w.frozen? t = false) :
    Calls Tryz.prog 137 #[.iface 167 (.agg #[.int .i64 e]),.iface 169 (.pointer (some t))] w fun ev w'=>ev=.returned (.bool true)∧w'=((((w.alloc (.cells #[.pointer (some t)] 169)).alloc (.cells #[.pointer (some ⟨9,169,none⟩),.pointer (some ⟨w.heap.size,0,none⟩),.int .u64 150] 193)).alloc (.cells #[.pointer (some ⟨9,169,none⟩),.pointer (some ⟨w.heap.size,0,none⟩),.int .u64 150] 193)).alloc (.cells #[.int .i64 e] 167)).setCell t (.int .i64 e):=by
  have h6:=@run_callFunc_extern Tryz.prog 158 _ (fun args=>ReflectliteValue.unpack (args.getD 0 (.tuple #[]))) Tryz.func158 (by kernel_rfl) (by kernel_rfl) (by kernel_rfl) (by kernel_rfl)
  have h7:=@run_callFunc_extern Tryz.prog 159 _ (ReflectliteValue.methodAny (ReflectliteValue.valueError "reflectlite.Value.Type" 0) (fun t _ _ _=>ReflectliteType.toType t)) Tryz.func159 (by kernel_rfl) (by kernel_rfl) (by kernel_rfl) (by kernel_rfl)
  have h8:=@run_callFunc_extern Tryz.prog 160 _ (ReflectliteValue.method (ReflectliteValue.valueError "reflectlite.Value.IsNil" 0) ReflectliteValue.isNil) Tryz.func160 (by kernel_rfl) (by kernel_rfl) (by kernel_rfl) (by kernel_rfl)
  have h27:=@run_callFunc_extern Tryz.prog 224 _ (ReflectliteType.abiMethod fun t=>do pure (.int .u8 (← Rtype.kind t))) Tryz.func224 (by kernel_rfl) (by kernel_rfl) (by kernel_rfl) (by kernel_rfl)
  have h37:=@run_callFunc_extern Tryz.prog 236 _ (ReflectliteType.method ReflectliteType.elem) Tryz.func236 (by kernel_rfl) (by kernel_rfl) (by kernel_rfl) (by kernel_rfl)
  have h38:=@run_callFunc_extern Tryz.prog 237 _ (ReflectliteType.relation "Implements" ReflectliteType.implements_) Tryz.func237 (by kernel_rfl) (by kernel_rfl) (by kernel_rfl) (by kernel_rfl)
  have h10:=@run_callFunc_extern Tryz.prog 171 _ ReflectliteType.typeOf Tryz.func171 (by kernel_rfl) (by kernel_rfl) (by kernel_rfl) (by kernel_rfl)
  have h35:=@run_callFunc_extern Tryz.prog 234 _ (ReflectliteType.relation "AssignableTo" ReflectliteType.assignableTo) Tryz.func234 (by kernel_rfl) (by kernel_rfl) (by kernel_rfl) (by kernel_rfl)
  have h11:=@run_callFunc_extern Tryz.prog 172 _ (ReflectliteValue.method (ReflectliteValue.valueError "reflectlite.Value.Elem" 0) ReflectliteValue.elem) Tryz.func172 (by kernel_rfl) (by kernel_rfl) (by kernel_rfl) (by kernel_rfl)
  have h12:=@run_callFunc_extern Tryz.prog 173 _ ReflectliteValue.set Tryz.func173 (by kernel_rfl) (by kernel_rfl) (by kernel_rfl) (by kernel_rfl)
  have tO:=As.typeOf25
  have mA:=As.methodAssignableTo
  have a25:=As.assignable25
  have v25:=As.valueOf25
  have f6:=As.valueOf27
  have f7:=As.type27
  have mK:=As.methodKind
  have mE:=As.methodElem
  have mI:=As.methodImplements
  have k27:=As.kind27
  have k25:=As.kind25
  have e27:=As.elem27
  have i25:=As.implements25
  have n8:=As.isNil27 ⟨w.heap.size,0,none⟩ t ((w.alloc (.cells #[.pointer (some t)] 169)).alloc (.cells #[.pointer (some ⟨9,169,none⟩),.pointer (some ⟨w.heap.size,0,none⟩),.int .u64 150] 193)) (by simp)
  have hlt:0<w.heap.size:=by
    rcases Nat.eq_zero_or_pos w.heap.size with h0 | h
    · simp [World.cell?,h0] at hg
    · exact h
  have hg2:((w.alloc (.cells #[.pointer (some t)] 169)).alloc (.cells #[.pointer (some ⟨9,169,none⟩),.pointer (some ⟨w.heap.size,0,none⟩),.int .u64 150] 193)).cell? ⟨0,0,none⟩=some (.iface 208 (.agg #[.pointer (some ⟨9,126,none⟩)])):=by
    rw [World.cell?_alloc_lt _ _ ⟨0,0,none⟩ (by simp),World.cell?_alloc_lt _ _ ⟨0,0,none⟩ hlt];exact hg
  have htl:t.block<w.heap.size:=by
    rcases Nat.lt_or_ge t.block w.heap.size with h | h
    · exact h
    · simp [World.cell?,Array.getElem?_eq_none h] at ht0
  have el:=As.elemV27 ⟨w.heap.size,0,none⟩ t (((w.alloc (.cells #[.pointer (some t)] 169)).alloc (.cells #[.pointer (some ⟨9,169,none⟩),.pointer (some ⟨w.heap.size,0,none⟩),.int .u64 150] 193)).alloc (.cells #[.pointer (some ⟨9,169,none⟩),.pointer (some ⟨w.heap.size,0,none⟩),.int .u64 150] 193)) (by rw [World.cell?_alloc_lt _ _ ⟨w.heap.size,0,none⟩ (by simp;omega)];simp)
  have st:=As.set25 t ⟨w.heap.size+1+1+1,0,none⟩ e old ((((w.alloc (.cells #[.pointer (some t)] 169)).alloc (.cells #[.pointer (some ⟨9,169,none⟩),.pointer (some ⟨w.heap.size,0,none⟩),.int .u64 150] 193)).alloc (.cells #[.pointer (some ⟨9,169,none⟩),.pointer (some ⟨w.heap.size,0,none⟩),.int .u64 150] 193)).alloc (.cells #[.int .i64 e] 167))
    (by rw [World.cell?_alloc_at _ _ _ _ (by simp)];rfl)
    (by rw [World.cell?_alloc_lt _ _ t (by simp;omega),World.cell?_alloc_lt _ _ t (by simp;omega),World.cell?_alloc_lt _ _ t (by simp;omega),World.cell?_alloc_lt _ _ t htl];exact ht0)
    (by rw [World.frozen?_alloc_old _ _ t (by simp;omega),World.frozen?_alloc_old _ _ t (by simp;omega),World.frozen?_alloc_old _ _ t (by simp;omega),World.frozen?_alloc_old _ _ t (Nat.ne_of_lt htl)];exact hf0)
  go_enter Tryz.func137,Tryz.ntmps137
  go_wp2
  refine wp_loop_rounds 1 ?_
  rw [rounds_succ]
  go_wp2
  go_ret
  exact ⟨rfl,rfl⟩
end Go.Proofs.YtcaocbhbofejnaaGreatDoor
namespace Go.Sh
open Go Go.Sl
theorem goTrack_inv {n:Nat} {fin:List Int→Int}:∀ (t met:List Int),met.Nodup→DP n fin t met=0→(∀ c∈t,0≤c∧c<n)∧(met++t).Nodup∧fin (met++t)=0:=by
  intro t
  induction t with
  | nil=>intro met hn h;exact ⟨fun _ h=>by simp at h,by simpa using hn,by simpa [DP] using h⟩
  | cons c r ih=>
    intro met hn h;simp only [DP] at h
    split at h
    · rename_i h1
      split at h
      · cases h
      · rename_i h2
        have hn':(met++[c]).Nodup:=List.nodup_append.2 ⟨hn,by simp,fun a ha b hb=>by simp at hb;subst hb;intro e;subst e;exact h2 ha⟩;obtain ⟨g1,g2,g3⟩:=ih (met++[c]) hn' h;have:=inB_t h1;rw [List.append_assoc] at g2 g3;refine ⟨fun x hx=>?_,g2,g3⟩;rcases List.mem_cons.1 hx with e | hx
        · subst e;omega
        · exact g1 x hx
    · cases h
theorem goTracks_inv {cs : List Car} {fin : List Int → Int} : ∀ (ts : List (List Int)) (rm met : List Int), met.Nodup → CO cs fin ts rm met = 0 →
    OkAll cs ts∧(met++ts.flatten).Nodup∧fin (met++ts.flatten)=0∧∀ k,k<ts.length→lenOf cs (ts.getD k [])≤rm.getD k 0:=by
  intro ts
  induction ts with
  | nil=>intro rm met hn h;exact ⟨OkAll.nil,by simpa using hn,by simpa [CO] using h,fun k hk=>by simp at hk⟩
  | cons t r ih=>
    intro rm met hn h;simp only [CO] at h;obtain ⟨g1,g2,g3⟩:=goTrack_inv t met hn h
    split at g3
    · cases g3
    · rename_i hl
      obtain ⟨k1,k2,k3,k4⟩:=ih rm.tail (met++t) g2 g3;rw [List.append_assoc] at k2 k3;refine ⟨fun x hx=>?_,by simpa using k2,by simpa using k3,fun k hk=>?_⟩
      · rcases List.mem_cons.1 hx with e | hx
        · subst e;exact g1
        · exact k1 x hx
      · cases k with
        | zero=>
          simp only [List.getD_cons_zero];have:rm.headD 0=rm.getD 0 0:=by cases rm <;> rfl
          omega
        | succ k=>
          have:=k4 k (by simpa using hk);simp only [List.getD_cons_succ];have e:rm.tail.getD k 0=rm.getD (k+1) 0:=by cases rm <;> rfl
          omega
structure Fine (Y:Yard):Prop where
  cars:Y.cars.length≤5
  carOk:∀ c∈Y.cars,CW c=0
  room1:0<Y.room.length
  room3:Y.room.length≤3
  roomOk:∀ n∈Y.room,inB n 0 20=true
  len:Y.tracks.length=Y.room.length
  ok:OkAll Y.cars Y.tracks
  nodup:Y.tracks.flatten.Nodup
  fits:∀ k,k<Y.tracks.length→lenOf Y.cars (Y.tracks.getD k [])≤Y.room.getD k 0
  all:Y.cars.length≤Y.tracks.flatten.length
  groups:DH Y=0
theorem Valid.fine {Y:Yard} (h:Valid Y):Fine Y:=by
  unfold Valid checkErr at h
  split at h
  · cases h
  rename_i h1
  split at h
  · rename_i h2
    split at h
    · cases h
    rename_i h3
    split at h
    · cases h
    rename_i h4
    split at h
    · rename_i h5
      unfold EG at h
      split at h
      · rename_i h6
        obtain ⟨g1,g2,g3,g4⟩:=goTracks_inv _ _ [] (by simp) h;simp only [List.nil_append] at g2 g3
        split at g3
        · cases g3
        · rename_i h7
          exact ⟨by omega,fun c hc=>of_decide_eq_true (List.all_eq_true.1 h2 c hc),by omega,by omega,fun n hn=>List.all_eq_true.1 h5 n hn,h6,g1,g2,g4,by omega,g3⟩
      · cases h
    · cases h
  · cases h
theorem KK {l:List Int} {n:Nat} (hn:l.Nodup) (h:∀ c∈l,0≤c∧c<n):l.length≤n:=by
  have hs:l ⊆ (List.range n).map (fun k:Nat=>(k:Int)):=fun c hc=>by
    have:=h c hc;exact List.mem_map.2 ⟨c.toNat,List.mem_range.2 (by omega),by omega⟩
  have:=hn.length_le_of_subset hs
  simpa using this
theorem MC {cs:List Car} {ts:List (List Int)} (h:OkAll cs ts):Ok cs ts.flatten:=fun c hc=>by
  obtain ⟨t,ht,hc⟩:=List.mem_flatten.1 hc;exact h t ht c hc
theorem Fine.sum {Y:Yard} (h:Fine Y):Y.tracks.flatten.length≤5:=Nat.le_trans (KK h.nodup (MC h.ok)) h.cars
theorem Fine.good {Y:Yard} (h:Fine Y):GoodY Y:=⟨h.ok,NC h.carOk,h.len.symm,h.sum⟩
theorem Valid.good {Y:Yard} (h:Valid Y):GoodY Y:=h.fine.good
theorem Valid.lens {Y:Yard} (h:Valid Y):Y.cars.length≤1000000∧Y.room.length≤1000000∧Y.tracks.length≤1000000:=by
  have:=h.fine.cars;have:=h.fine.room3;have:=h.fine.len;omega
structure MayOk (Y:Yard) (s:Shift):Prop where
  frm:0≤s.frm∧s.frm<Y.tracks.length
  to:0≤s.to∧s.to<Y.tracks.length
  ne:s.frm≠s.to
  many:1≤s.many∧s.many≤(Y.tracks.getD s.frm.toNat []).length
  free:CE Y.cars (trk Y s.frm) (GA Y s)=false
  fits:lenOf Y.cars ((trk Y s.frm).drop (GA Y s).toNat)+lenOf Y.cars (trk Y s.to)≤Y.room.getD s.to.toNat 0
theorem mayOk {Y:Yard} {s:Shift} (h:CJ Y s=0):MayOk Y s:=by
  unfold CJ at h
  split at h
  · rename_i h1
    split at h
    · rename_i h2
      split at h
      · cases h
      rename_i h3
      split at h
      · cases h
      rename_i h4
      split at h
      · cases h
      rename_i h5
      split at h
      · cases h
      rename_i h6
      have:=inB_t h1;have:=inB_t h2;simp only [Bool.or_eq_true,not_or,Bool.not_eq_true,decide_eq_true_eq,Int.not_lt] at h6;exact ⟨by omega,by omega,h3,⟨by omega,by have:=h5;unfold trk at this;omega⟩,h6.1,h6.2⟩
    · cases h
  · cases h
theorem mayErr_ok {Y:Yard} {s:Shift} (h:CJ Y s=0):(0≤s.frm∧s.frm<Y.tracks.length)∧(0≤s.to∧s.to<Y.tracks.length)∧(0≤s.many∧s.many≤(Y.tracks.getD s.frm.toNat []).length):=by
  have:=mayOk h;exact ⟨this.frm,this.to,by have:=this.many;omega⟩
theorem okAll_set {cs:List Car} {ts:List (List Int)} (h:OkAll cs ts) (i:Nat) {x:List Int} (hx:Ok cs x):OkAll cs (ts.set i x):=fun t ht=>by
  rcases List.mem_or_eq_of_mem_set ht with ht | e
  · exact h t ht
  · subst e;exact hx
theorem OkAll.trk {Y:Yard} (h:OkAll Y.cars Y.tracks) {i:Int} (hi:0≤i∧i<Y.tracks.length):Ok Y.cars (trk Y i):=h.at i.toNat (by omega)
theorem GoodY.moved {Y:Yard} {s:Shift} (h:GoodY Y) (hm:CJ Y s=0):GoodY (moved Y s):=by
  have m:=mayOk hm;refine ⟨?_,h.small,by simp only [Go.Sh.moved,List.length_set];exact h.len,?_⟩
  · exact okAll_set (okAll_set h.ok _ ((h.ok.trk m.to).append ((h.ok.trk m.frm).drop _))) _ ((h.ok.trk m.frm).take _)
  · rw [(NQ m.frm m.to m.ne).length_eq];exact h.sum
theorem play_bad {Y:Yard} {l:List Shift} (h:checkErr Y≠0):CD Y l=(AP,checkErr Y):=if_neg h
theorem NU {Y:Yard} {l:List Shift} (h:Valid Y):CD Y l=HA Y l:=if_pos h
theorem playFrom_next {Y:Yard} {l:List Shift} {k:Nat} (hk:k<l.length) (h:CJ Y (l.getD k BB)=0):HA Y (l.drop k)=HA (moved Y (l.getD k BB)) (l.drop (k+1)):=by
  rw [BR (d:=BB) hk];simp only [HA];rw [if_pos h]
theorem PN {Y:Yard} {l:List Shift} {k:Nat} (hk:k<l.length) (h:CJ Y (l.getD k BB)≠0):HA Y (l.drop k)=(AP,CJ Y (l.getD k BB)):=by
  rw [BR (d:=BB) hk];simp only [HA];rw [if_neg h]
theorem NT {Y:Yard} {l:List Shift} {k:Nat} (hk:l.length≤k):HA Y (l.drop k)=(Y,0):=by rw [DA hk];rfl
theorem carOk_range {c:Car} (h:CW c=0):(1≤c.len∧c.len≤4)∧(1≤c.wt∧c.wt≤60)∧(0≤c.brk∧c.brk≤c.wt)∧(0≤c.grp∧c.grp≤3):=by
  rw [CW] at h
  split at h
  · rename_i hb
    simp only [Bool.and_eq_true] at hb;exact ⟨inB_t hb.1.1.1,inB_t hb.1.1.2,inB_t hb.1.2,inB_t hb.2⟩
  · cases h
end Go.Sh
namespace Go.Proofs.YtcaocbhbofejnaaGreatDoor
open Go Go.Sl Go.Sh
set_option maxRecDepth 100000
def KU (e:Int):Value:=if e=0 then .nilIface else .iface 167 (.agg #[vI e])
def Glob (I:Imm):Prop:=∃ cs T fz,I.blk 0=some (.cells cs T fz)∧cs[0]?=some (.iface 208 (.agg #[vP 9 126]))
theorem Glob.mono {I J:Imm} (h:Glob I) (le:I.le J):Glob J:=by
 obtain ⟨cs,T,fz,h1,h2⟩:=h;exact ⟨cs,T,fz,le.blk _ _ h1,h2⟩
theorem As_ct (I:Imm) (e:Int) (p:Nat) (p_s:Int) (hG:Glob I) (h0:p_s=0):Ct Tryz.prog 137 #[KU e,.iface 169 (vP p 0)] I [(bX p #[vI p_s] 167)]
  (fun v I' M'=>v=.bool (decide (e≠0))∧M'=[(bX p #[vI e] 167)]):=by
 subst h0;intro F w st
 by_cases he:e=0
 ·subst he;refine (as_nil _ w).mono fun ev w' ⟨h1,h2⟩=>?_
  subst h1 h2;exact ⟨_,I,_,rfl,IR I,⟨rfl,rfl⟩,st⟩
 have hE:KU e=.iface 167 (.agg #[vI e]):=if_neg he;have a0:(bX p #[vI 0] 167)∈[(bX p #[vI 0] 167)]++F:=by simp
 have hh:=st.mem _ _ a0;have hg:w.cell? ⟨0,0,none⟩=some (.iface 208 (.agg #[vP 9 126])):=by
  obtain ⟨cs,T,fz,h1,h2⟩:=hG;have:=st.imm _ _ h1;simp [World.cell?,this,h2]
 have ht:w.cell? ⟨p,0,none⟩=some (vI 0):=by simp [World.cell?,hh]
 have hf:w.frozen? ⟨p,0,none⟩=false:=by simp [World.frozen?,hh]
 rw [hE];refine (as_hit e ⟨p,0,none⟩ _ w hg ht hf).mono fun ev w' ⟨h1,h2⟩=>?_
 subst h1;have a1:=(((st.more (.cells #[vP p 0] 169)).more (.cells #[vP 9 169,.pointer (some ⟨w.heap.size,0,none⟩),.int .u64 150] 193)).more (.cells #[vP 9 169,.pointer (some ⟨w.heap.size,0,none⟩),.int .u64 150] 193)).more (.cells #[vI e] 167);refine ⟨_,I,_,rfl,IR I,⟨by simp [he],rfl⟩,?_⟩;subst h2;refine a1.put (i:=0) (r:=p) (o:=.cells #[vI e] 167 (0,0)) (o':=.cells #[vI 0] 167 (0,0)) rfl rfl rfl rfl ?_ (fun b hb=>Go.RowKit.Below.heap_setCell _ _ _ _ hb);have h4:=a1.mem _ _ a0;simp only [World.setCell,Array.getElem?_modify,if_true,h4,Option.map_some];simp
noncomputable def c_errnoOf (p:List Nat):Code:=sub (AU Tryz.f91) p
theorem errnoOf_ct (I:Imm) (e:Int) (hG:Glob I):CtV Tryz.prog 91 #[KU e] I (vI (e)):=by
 refine fr (args:=[_]) (N:=9) Tryz.func91 (fun F=>?_);show Run _ _ (c_errnoOf []) _ _ [(0,KU (e))] _ _;refine rnm (rqr ?_);refine sp 1 [(2,vI (0))] (sn (sS (sal 3 167 #[vI (0)] (fun b1=>(se (rq (rqr (sp 2 [(5,.iface 169 (vP b1 0)),(4,KU (e))] (sS (sc (some 6) (F:=(F)) (As_ct _ (e) (b1) (0) (by first | exact hG | exact hG.mono hI) (by rfl) :) (.refl _) (fun a6 I3 a5 a0 a4=>?_)))))))))));obtain ⟨a3,a2⟩:=a4;rw [a3,a2];clear a3 a2;refine nm (se ?_);refine rc 6 rfl (fun h1=>?_) (fun h1=>?_)
 ·
  have a1:=h1;have h1:=FT h1;refine rqr (sp 1 [(7,vP b1 0)] (sd (dlb 8 0 0 b1 (vI (e))) (sp 1 [(2,vI (e))] (se (BO ((RP (AE (t:=2) [] (by kernel_rfl) rfl (TC _ (TR _)) a0 ?_))))))));exact ⟨rfl,rfl⟩
 have a1:=h1;have h1:=GH h1;refine AH (NX (rqr (sp 1 [(2,vI (0))] (se (BO (AE (t:=2) [] (by kernel_rfl) rfl (TC _ (TR _)) a0 ?_))))));exact ⟨congrArg (Value.int .i64) (by omega),rfl⟩
noncomputable def c_back (p:List Nat):Code:=sub (AU Tryz.f108) p
theorem back_ct (I:Imm) (s:Shift):Ct Tryz.prog 108 #[.agg #[vI s.frm,vI s.to,vI s.many]] I ([]) (fun v I' M'=>v=.agg #[vI (CM s).frm,vI (CM s).to,vI (CM s).many]∧M'=[]):=by
 refine fr (args:=[_]) (N:=10) Tryz.func108 (fun F=>?_);show Run _ _ (c_back []) _ _ [(0,.agg #[vI (s.frm),vI (s.to),vI (s.many)])] _ _;refine rnm (rqr ?_);refine sS (sb 1 52 #[vI (s.frm),vI (s.to),vI (s.many)] (fun b1=>(sS (sal 2 52 #[vI (0),vI (0),vI (0)] (fun b3=>(sn (sp 1 [(3,vP b1 1)] (sd (dlb 4 1 1 b1 (vI (s.to))) (sp 1 [(5,vP b1 0)] (sd (dlb 6 1 0 b1 (vI (s.frm))) (sp 1 [(7,vP b1 2)] (sd (dlb 8 1 2 b1 (vI (s.many))) (sp 1 [(9,.agg #[vI (s.to),vI (s.frm),vI (s.many)])] (sS (ss 0 0 b3 [vI (s.to),vI (s.frm),vI (s.many)] [vI (s.to),vI (s.frm),vI (s.many)] (_::_::_) (cs:=[_,_,_]) rfl rfl (se (BO (JZ (t:=2) (T:=52) (n:=3) [] (by kernel_rfl) rfl (by kernel_rfl) rfl (BG (n:=3) (cs:=#[vI (s.to),vI (s.frm),vI (s.many)]) (b:=b3) (off:=0) (T:=52) (fz:=(0,0)) (vs:=[vI (s.to),vI (s.frm),vI (s.many)]) (by simp) rfl) (.inl ⟨by kernel_rfl,rfl⟩) (TC _ (TC _ (TR _))) (IR _) ?_))))))))))))))))));exact ⟨rfl,rfl⟩
noncomputable def c_copied (p:List Nat):Code:=sub (AU Tryz.f78) p
theorem LB (I:Imm) (y:Value) (Y:Yard) (y_f:IsYard I y Y) (h1:Y.cars.length≤1000000) (h2:Y.room.length≤1000000) (h3:Y.tracks.length≤1000000) (h4:∀ x∈Y.tracks,x.length≤1000000):Ct Tryz.prog 78 #[y] I ([]) (fun v I' M'=>∃ u_0:Value,∃ Ms_0:Seg,∃ u_1:Value,∃ Ms_1:Seg,∃ u_2:Value,∃ ws_2:List Value,∃ Ms_2:Seg,v=.agg #[u_0,u_1,u_2]∧M'=Ms_0++(Ms_1++(Ms_2))∧Own 56 6 CV u_0 ((Y).cars) Ms_0∧Own 3 1 BA u_1 ((Y).room) Ms_1∧Own 23 1 AO u_2 ws_2 Ms_2∧RowsV I' ws_2 ((Y).tracks)):=by
 obtain ⟨y1,y2,y3,l1,f5,d1,h0⟩:=id y_f;subst l1;obtain ⟨c5,c6,j7,k0,g7,j8,j9,k1⟩:=id f5;subst g7;obtain ⟨c2,c3,k2,k5,g8,k3,k4,k6⟩:=id d1;subst g8;obtain ⟨b6,b7,k7,l0,i7,g9,k8,k9,c0,c4⟩:=id h0;subst g9;refine fr (args:=[_]) (N:=32) Tryz.func78 (fun F=>?_);show Run _ _ (c_copied []) _ _ [(0,.agg #[vS c5 Y.cars.length c6,vS c2 Y.room.length c3,vS b6 Y.tracks.length b7])] _ _;refine rnm (rqr ?_);refine sS (sb 1 26 #[vS c5 Y.cars.length c6,vS c2 Y.room.length c3,vS b6 Y.tracks.length b7] (fun b1=>(sS (sal 2 26 #[vN,vN,vN] (fun b3=>(se (rq ?_)))))));refine rd 7 [(0,true),(1,true),(3,true),(4,true),(2,false),(6,true),(5,false)] ((bX b3 #[vN,vN,vN] 26)::(bX b1 #[vS c5 Y.cars.length c6,vS c2 Y.room.length c3,vS b6 Y.tracks.length b7] 26)::[]) (F) (ox 1 [(6,vP b1 0)] ?_);refine AB (dlb 7 1 0 b1 (vS c5 Y.cars.length c6)) (ox 1 [(9,vP b1 1)] ?_);refine AB (dlb 10 1 1 b1 (vS c2 Y.room.length c3)) ?_;refine CK (sc (some 8) (F:=((bX b3 #[vN,vN,vN] 26)::(bX b1 #[vS c5 Y.cars.length c6,vS c2 Y.room.length c3,vS b6 Y.tracks.length b7] 26)::F)) (CloneCars_ct _ _ _ f5 (by omega) :) (PR _) (fun j4 I5 j1 d0 i9=>?_));obtain ⟨l3,b2,h8,h7,e9⟩:=i9;rw [h8,h7];clear h8 h7;replace d1:=d1.mono d0;replace c0:=c0.mono d0;replace c4:=fun i hi=>(c4 i hi).mono d0
 obtain ⟨a4,a5,f2,i4⟩:=e9.shape;subst f2;refine AW (S':=((b2++F))) (PW PM) ?_;show OFP _ _ _ _ _ _ ((8,vS a4 Y.cars.length a5)::_) _ _;refine ox 1 [(12,vP b1 0)] ?_;refine CK (sc (some 11) (F:=((bX b3 #[vN,vN,vN] 26)::(bX b1 #[vS c5 Y.cars.length c6,vS c2 Y.room.length c3,vS b6 Y.tracks.length b7] 26)::(b2++F))) (GM _ _ _ d1 (by omega) :) (PR _) (fun j5 h5 j2 c8 g4=>?_));obtain ⟨l4,b8,e6,e3,f0⟩:=g4;rw [e6,e3];clear e6 e3;replace c0:=c0.mono c8;replace c4:=fun i hi=>(c4 i hi).mono c8
 obtain ⟨a7,a8,f3,i5⟩:=f0.shape;subst f3;refine AW (S':=((b8++(b2++F)))) (PW PM) ?_;show OFP _ _ _ _ _ _ ((11,vS a7 Y.room.length a8)::_) _ _;refine FB (nm (nm ?_));refine sS (ss 1 0 b1 [vS a4 Y.cars.length a5] [vS a4 Y.cars.length a5,vS c2 Y.room.length c3,vS b6 Y.tracks.length b7] (_::_::_) (cs:=[_,_,_]) rfl rfl (sp 1 [(13,vP b1 1)] (sS (ss 1 1 b1 [vS a7 Y.room.length a8] [vS a4 Y.cars.length a5,vS a7 Y.room.length a8,vS b6 Y.tracks.length b7] (_::_::_) (cs:=[_,_,_]) rfl rfl (sn (sp 1 [(14,vP b1 2)] (sd (dlb 15 1 2 b1 (vS b6 Y.tracks.length b7)) (sp 1 [(3,vS b6 Y.tracks.length b7)] (sn (sp 1 [(16,vP b1 2)] (sS (ss 1 2 b1 [vN] [vS a4 Y.cars.length a5,vS a7 Y.room.length a8,vN] (_::_::_) (cs:=[_,_,_]) rfl rfl (se (rq (rqr (sp 3 [(19,vI (0)),(18,vI (↑(Y.tracks.length))),(17,vS b6 Y.tracks.length b7)] (se (rb 0 ?_))))))))))))))))));refine rl (fun mz a w=>∃ J0:Imm,∃ k:Nat,∃ b5:Value,∃ a3:Seg,∃ a0:List Value,(h5.le J0)∧(k≤Y.tracks.length)∧(RowsV J0 a0 (Y.tracks.take k))∧(Own 23 1 AO b5 (a0) a3)∧Slots 32 [(19,vI ↑k),(1,vP b1 0),(2,vP b3 0),(17,vS b6 Y.tracks.length b7),(18,vI (↑(Y.tracks.length)))] a∧a.defers=[]∧St J0 ((bX b3 #[vN,vN,vN] 26)::(bX b1 #[vS a4 Y.cars.length a5,vS a7 Y.room.length a8,b5] 26)::(b8++(b2++(a3++F)))) w∧mz=Y.tracks.length-k) ?_ ?_
 ·intro a w hS hD hW;exact ⟨_,h5,0,(vN),[],[],IR _,Nat.zero_le _,(RowsV.nil _),(Own.nil _ _ _),hS.sub (.cons 19 rfl (.cons 1 rfl (.cons 2 rfl (.cons 17 rfl (.cons 18 rfl (.nil _)))))),hD,hW,rfl⟩
 rintro mz a w ⟨J0,k,b5,a3,a0,hJ0,hk,a6,b4,hS,hD,hW,rfl⟩
 refine AX hS hD hW ?_;clear hS hD hW a w;replace c0:=c0.mono hJ0;replace c4:=fun i hi=>(c4 i hi).mono hJ0
 obtain ⟨a1,a2,c1,e0⟩:=b4.shape;subst c1;have b9:=a6.1
 try simp only [LS,LA,LC,LN,LK] at b9
 refine rqr (sp 1 [(20,.bool (cmp .lss (↑k) (↑(Y.tracks.length))))] (se (rq (rc 20 rfl (fun h1=>?_) (fun h1=>?_)))))
 ·
  have g3:=h1;have h1:=BZ h1;refine AH (NX (rq (rb 1 (rqr (sd (di 21 1 (k) c0.addr) ?_)))));have c9:=c4 (k) (by omega);obtain ⟨d4,d5,h9,i2,d6,i0,i1,i3⟩:=id c9;rw [d6] at c9;refine sd (BL (dl 22 (CR c0 (k) (by omega))) d6) (sp 1 [(5,vS d4 (Y.tracks.getD (k) []).length d5)] (se ?_));refine rd 5 [(0,true),(1,true),(2,true),(3,false),(4,false)] ((bX b3 #[vN,vN,vN] 26)::(bX b1 #[vS a4 Y.cars.length a5,vS a7 Y.room.length a8,vS a1 a0.length a2] 26)::[]) ((b8++(b2++(a3++F)))) (ox 1 [(23,vP b1 2)] ?_);refine AB (dlb 24 1 2 b1 (vS a1 a0.length a2)) (ox 1 [(25,vS d4 (Y.tracks.getD (k) []).length d5)] ?_);refine CK (sc (some 26) (F:=((bX b3 #[vN,vN,vN] 26)::(bX b1 #[vS a4 Y.cars.length a5,vS a7 Y.room.length a8,vS a1 a0.length a2] 26)::(b8++(b2++(a3++F))))) (GM _ _ _ c9 (by exact h4 _ (AJ (by omega))) :) (PR _) (fun j6 l2 j3 d2 g5=>?_));obtain ⟨l5,e1,e7,e4,f1⟩:=g5;rw [e7,e4];clear e7 e4;replace a6:=a6.mono d2;obtain ⟨a9,b0,f4,i6⟩:=f1.shape;subst f4;refine AW (S':=((e1++(b8++(b2++(a3++F)))))) (PW PM) ?_;show OFP _ _ _ _ _ _ ((26,vS a9 ((Y.tracks.getD (k) [])).length b0)::_) _ _;refine CK (sbs 27 23 1 #[vS a9 ((Y.tracks.getD (k) [])).length b0] (fun h6=>?_));refine AW (S':=((bX h6 #[vS a9 ((Y.tracks.getD (k) [])).length b0] 23)::(e1++(b8++(b2++(a3++F)))))) ((PS _ _ _).trans (PC _ (PS _ _ _))) ?_;refine FB (nm (nm ?_));refine sfz (A:=((bX b3 #[vN,vN,vN] 26)::(bX b1 #[vS a4 Y.cars.length a5,vS a7 Y.room.length a8,vS a1 a0.length a2] 26)::(bX h6 #[vS a9 ((Y.tracks.getD (k) [])).length b0] 23)::(b8++(b2++(a3++F))))) 0 f1 (PU (PU (PM.symm))) (fun i8 d3 c7=>?_);replace a6:=a6.mono d3;obtain ⟨f6,f8,f7,g1,d7,f9,g0,g2⟩:=id c7;cases d7;refine sS (AN (d:=28) (x:=(.tmp 24)) (y:=(.tmp 27)) (T:=24) (T':=24) (E:=23) (E':=23) (sz:=1) (bs:=24) (z:=vN) (cell:=AO) (xs:=a0) (ys:=[(vS a9 ((Y.tracks.getD (k) [])).length b0:Value)]) (Ms:=a3) (ty:=24) (gd:=none) (by kernel_rfl) rfl (by kernel_rfl) (by kernel_rfl) (by kernel_rfl) (by kernel_rfl) (by kernel_rfl) (by decide) (by kernel_rfl) rfl rfl (b4) (PU (PU (PU (PV (PO _ _ _))))) (FD rfl) (CI 2 rfl rfl) (by first | omega | (have hq:=a6.1;simp only [LC,LN,LA,LK,LD] at hq ⊢;omega)) (fun l6 e2 e5=>(AR (M':=((bX b3 #[vN,vN,vN] 26)::(bX b1 #[vS a4 Y.cars.length a5,vS a7 Y.room.length a8,vS a1 a0.length a2] 26)::(e2++(b8++(b2++F))))) (fun w h=>(h.perm (((PA _ ((PC _ (PS _ _ _)).trans (PS _ _ _))).trans PM).trans (PC _ (PW PM)))).sub (TC _ (TR _))) ?_)));obtain ⟨d8,d9,g6,j0⟩:=e5.shape;subst g6;have e8:=(a6).snoc c7;refine sp 1 [(29,vP b1 2)] (sS (ss 1 2 b1 [vS d8 (a0++([(vS a9 ((Y.tracks.getD (k) [])).length b0:Value)])).length d9] [vS a4 Y.cars.length a5,vS a7 Y.room.length a8,vS d8 (a0++([(vS a9 ((Y.tracks.getD (k) [])).length b0:Value)])).length d9] (_::_::_) (cs:=[_,_,_]) rfl rfl (ee (NB (NX (rr (sd (da 30 (↑k) (1)) (sp 1 [(19,vI (↑k+1))] (ee ?_)))))))));refine AG (Y.tracks.length-(k+1)) (by omega) ?_;intro a w hS hD hW;exact ⟨i8,k+1,vS d8 (a0++([(vS a9 ((Y.tracks.getD (k) [])).length b0:Value)])).length d9,e2,a0++([(vS a9 ((Y.tracks.getD (k) [])).length b0:Value)]),(IT (IT hJ0 d2) d3),by omega,((CF (d:=[]) (xs:=Y.tracks) (k:=k) (by omega)).symm▸e8),e5,hS.sub (.consE 19 rfl rfl (.cons 1 rfl (.cons 2 rfl (.cons 17 rfl (.cons 18 rfl (.nil _)))))),hD,hW.perm (PC _ (PC _ ((PO _ _ _).trans (PA _ (PO _ _ _))))),rfl⟩
 have g3:=h1;have h1:=BX h1;refine CC 0 ((EP (EP (EB (NX (rqr (sd (dnb 31 1 0 b1 [vS a4 Y.cars.length a5,vS a7 Y.room.length a8,vS a1 a0.length a2]) (sS (ss 0 0 b3 [vS a4 Y.cars.length a5,vS a7 Y.room.length a8,vS a1 a0.length a2] [vS a4 Y.cars.length a5,vS a7 Y.room.length a8,vS a1 a0.length a2] (_::_::_) (cs:=[_,_,_]) rfl rfl (se (BO (ppm (M':=((b2++(b8++(a3++(bX b3 #[vS a4 Y.cars.length a5,vS a7 Y.room.length a8,vS a1 a0.length a2] 26)::(bX b1 #[vS a4 Y.cars.length a5,vS a7 Y.room.length a8,vS a1 a0.length a2] 26)::F))))) ((PU (PU (PO _ _ _))).trans (PA _ ((PU (PM.symm)).trans (PA _ (PU (PM.symm)))))) (JZ (t:=2) (T:=26) (n:=3) (b2++(b8++(a3))) (by kernel_rfl) rfl (by kernel_rfl) rfl (BG (n:=3) (cs:=#[vS a4 Y.cars.length a5,vS a7 Y.room.length a8,vS a1 a0.length a2]) (b:=b3) (off:=0) (T:=26) (fz:=(0,0)) (vs:=[vS a4 Y.cars.length a5,vS a7 Y.room.length a8,vS a1 a0.length a2]) (by simp) rfl) (.inl ⟨by kernel_rfl,rfl⟩) (by simp only [AA,NA,CA];exact (TA (TA (TA (TC _ (TC _ (TR _))) _) _) _)) (IT (IT d0 c8) hJ0) ?_)))))))))))));exact ⟨_,_,_,_,_,_,_,rfl,rfl,e9,f0,b4,((DT (xs:=Y.tracks) (k:=k) (by omega))▸a6)⟩
noncomputable def c_may (p:List Nat):Code:=sub (AU Tryz.f92) p
theorem may_ct (I:Imm) (y:Nat) (y_1 y_2 y_3:Value) (y_ws:List Value) (y_Ms:Seg) (Y:Yard) (s:Shift) (y_1f:EZ I y_1 Y.cars) (y_2f:BK I y_2 Y.room) (y_3h:Own 23 1 AO y_3 y_ws y_Ms) (y_3r:RowsV I y_ws Y.tracks) (ho:OkAll Y.cars Y.tracks) (hs:Small Y.cars) (hl:Y.room.length=Y.tracks.length) (hq:∀ t∈Y.tracks,t.length≤1000000):Ct Tryz.prog 92 #[vP y 0,.agg #[vI s.frm,vI s.to,vI s.many]] I ([(bX y #[y_1,y_2,y_3] 110)]++(y_Ms)) (fun v I' M'=>v=KU (CJ Y s)∧M'=[(bX y #[y_1,y_2,y_3] 110)]++(y_Ms)):=by
 have a7:=y_1f;obtain ⟨a2,a3,e4,e7,c6,e5,e6,e8⟩:=id a7;subst c6;have c8:=y_2f;obtain ⟨a5,a6,e9,f2,c7,f0,f1,b3⟩:=id c8;subst c7;obtain ⟨a0,a1,c9,f3⟩:=y_3h.shape;subst c9;have a4:=y_3r.1
 try simp only [LS,LA,LC,LN,LK] at a4
 refine fr (args:=[_,_]) (N:=120) Tryz.func92 (fun F=>?_);show Run _ _ (c_may []) _ _ [(0,vP y 0),(1,.agg #[vI (s.frm),vI (s.to),vI (s.many)])] _ _;refine rnm (rqr ?_);refine sS (sb 3 52 #[vI (s.frm),vI (s.to),vI (s.many)] (fun b1=>(sp 1 [(4,.nilIface)] (se (rq (rqr (sp 4 [(11,vP y 2)] (sd (dlb 12 1 2 y (vS a0 y_ws.length a1)) (sp 2 [(5,vI (↑(y_ws.length)))] (se (rb 0 (rq (rqr (sp 1 [(15,vP b1 0)] (sd (dlb 16 0 0 b1 (vI (s.frm))) (sp 1 [(17,vI (↑(y_ws.length)))] (sd (dsb 18 (↑(y_ws.length)) (1)) (sd (dc 19 (fun I' hI=>(OQ I' (s.frm) (0) ((↑(y_ws.length))-1) :))) (sp 2 [(14,.bool (!(inB s.frm 0 ((↑(y_ws.length))-1))))] (se (rc 14 rfl (fun h1=>?_) (fun h1=>?_))))))))))))))))))))))
 ·
  have b8:=h1;have h1:=CL h1;have d0:=LF h1;refine AH (NX ?_);refine run_re 14 rfl (congrArg Value.bool b8) (rct 14 rfl (rqr (sp 3 [(4,.iface 167 (.agg #[vI (3)]))] (se (BO ((RB (RP (ppm (M':=((bX y #[vS a2 Y.cars.length a3,vS a5 Y.room.length a6,vS a0 y_ws.length a1] 110)::(y_Ms++(bX b1 #[vI (s.frm),vI (s.to),vI (s.many)] 52)::F))) ((PS _ _ _).trans (PC _ (PM.symm))) (AE (t:=4) ([(bX y #[vS a2 Y.cars.length a3,vS a5 Y.room.length a6,vS a0 y_ws.length a1] 110)]++(y_Ms)) (by kernel_rfl) rfl (by simp only [AA,NA,CA];exact (TK _ (TA (TC _ (TR _)) _))) (IR _) ?_))))))))));exact ⟨(show KU 3=_ from congrArg KU (mayErr_1 a4 h1).symm),rfl⟩
 have b8:=h1;have h1:=BW h1;have d0:=inB_t h1;refine rr (sp 1 [(21,vP b1 1)] (sd (dlb 22 0 1 b1 (vI (s.to))) (sp 1 [(23,vI (↑(y_ws.length)))] (sd (dsb 24 (↑(y_ws.length)) (1)) (sd (dc 25 (fun I' hI=>(OQ I' (s.to) (0) ((↑(y_ws.length))-1) :))) (sp 2 [(14,.bool (!(inB s.to 0 ((↑(y_ws.length))-1))))] (se (rc 14 rfl (fun h2=>?_) (fun h2=>?_)))))))))
 ·
  have d2:=h2;have h2:=CL h2;have d1:=LF h2;refine rqr (sp 3 [(4,.iface 167 (.agg #[vI (3)]))] (se (BO ((RB (RP (ppm (M':=((bX y #[vS a2 Y.cars.length a3,vS a5 Y.room.length a6,vS a0 y_ws.length a1] 110)::(y_Ms++(bX b1 #[vI (s.frm),vI (s.to),vI (s.many)] 52)::F))) ((PS _ _ _).trans (PC _ (PM.symm))) (AE (t:=4) ([(bX y #[vS a2 Y.cars.length a3,vS a5 Y.room.length a6,vS a0 y_ws.length a1] 110)]++(y_Ms)) (by kernel_rfl) rfl (by simp only [AA,NA,CA];exact (TK _ (TA (TC _ (TR _)) _))) (IR _) ?_))))))));exact ⟨(show KU 3=_ from congrArg KU (mayErr_2 a4 h1 h2).symm),rfl⟩
 have d2:=h2;have h2:=BW h2;have d1:=inB_t h2;refine rqr (sp 1 [(30,vP b1 0)] (sd (dlb 31 0 0 b1 (vI (s.frm))) (sp 1 [(32,vP b1 1)] (sd (dlb 33 0 1 b1 (vI (s.to))) (sp 2 [(29,.bool (cmp .eql (s.frm) (s.to)))] (se (rc 29 rfl (fun h3=>?_) (fun h3=>?_))))))))
 ·
  have d3:=h3;have h3:=DF h3;refine rqr (sp 3 [(4,.iface 167 (.agg #[vI (4)]))] (se (BO ((RB (RP (ppm (M':=((bX y #[vS a2 Y.cars.length a3,vS a5 Y.room.length a6,vS a0 y_ws.length a1] 110)::(y_Ms++(bX b1 #[vI (s.frm),vI (s.to),vI (s.many)] 52)::F))) ((PS _ _ _).trans (PC _ (PM.symm))) (AE (t:=4) ([(bX y #[vS a2 Y.cars.length a3,vS a5 Y.room.length a6,vS a0 y_ws.length a1] 110)]++(y_Ms)) (by kernel_rfl) rfl (by simp only [AA,NA,CA];exact (TK _ (TA (TC _ (TR _)) _))) (IR _) ?_))))))));exact ⟨(show KU 4=_ from congrArg KU (mayErr_3 a4 h1 h2 h3).symm),rfl⟩
 have d3:=h3;have h3:=DE h3;refine rqr (sp 1 [(38,vP b1 2)] (sd (dlb 39 0 2 b1 (vI (s.many))) (sp 2 [(37,.bool (cmp .lss (s.many) (1)))] (se (rc 37 rfl (fun h4=>?_) (fun h4=>?_))))))
 ·
  have d4:=h4;have h4:=BZ h4;refine rqr (sp 3 [(4,.iface 167 (.agg #[vI (7)]))] (se (BO ((RB (RP (ppm (M':=((bX y #[vS a2 Y.cars.length a3,vS a5 Y.room.length a6,vS a0 y_ws.length a1] 110)::(y_Ms++(bX b1 #[vI (s.frm),vI (s.to),vI (s.many)] 52)::F))) ((PS _ _ _).trans (PC _ (PM.symm))) (AE (t:=4) ([(bX y #[vS a2 Y.cars.length a3,vS a5 Y.room.length a6,vS a0 y_ws.length a1] 110)]++(y_Ms)) (by kernel_rfl) rfl (by simp only [AA,NA,CA];exact (TK _ (TA (TC _ (TR _)) _))) (IR _) ?_))))))));exact ⟨(show KU 7=_ from congrArg KU (mayErr_4 a4 h1 h2 (by omega) (by omega)).symm),rfl⟩
 have d4:=h4;have h4:=BX h4;refine rq ?_;refine rd0 12 (ox 1 [(44,vP b1 2)] ?_);refine AB (dlb 45 0 2 b1 (vI (s.many))) (ox 4 [(49,vP y 2)] ?_);refine AB (dlb 50 1 2 y (vS a0 y_ws.length a1)) (ox 1 [(51,vP b1 0)] ?_);refine AB (dlb 52 0 0 b1 (vI (s.frm))) ?_;obtain ⟨i2,c0⟩:=y_3h.row undef;refine AB (diI 53 1 (s.frm) c0.addr) ?_;have c3:=y_3r.2 ((s.frm:Int).toNat) (by omega);obtain ⟨f6,f8,f7,g1,c2,f9,g0,g2⟩:=id c3;rw [c2] at c3;refine AB (BL (dl 54 (c0.get ((s.frm:Int).toNat) (by omega) 0 (by decide) _ _ (fun x hx=>by simp [hx]))) c2) (ox 1 [(55,vI (↑((Y.tracks.getD ((s.frm:Int).toNat) []).length)))] ?_);refine BT (sp 2 [(43,.bool (cmp .gtr (s.many) (↑((Y.tracks.getD ((s.frm:Int).toNat) []).length))))] (se (rc 43 rfl (fun h5=>?_) (fun h5=>?_))))
 ·
  have d5:=h5;have h5:=HU h5;refine rqr (sp 3 [(4,.iface 167 (.agg #[vI (6)]))] (se (BO ((RB (RP (ppm (M':=((bX y #[vS a2 Y.cars.length a3,vS a5 Y.room.length a6,vS a0 y_ws.length a1] 110)::(y_Ms++(bX b1 #[vI (s.frm),vI (s.to),vI (s.many)] 52)::F))) ((PS _ _ _).trans (PC _ (PM.symm))) (AE (t:=4) ([(bX y #[vS a2 Y.cars.length a3,vS a5 Y.room.length a6,vS a0 y_ws.length a1] 110)]++(y_Ms)) (by kernel_rfl) rfl (by simp only [AA,NA,CA];exact (TK _ (TA (TC _ (TR _)) _))) (IR _) ?_))))))));exact ⟨(show KU 6=_ from congrArg KU (mayErr_5 a4 h1 h2 (by omega) (by omega) h5).symm),rfl⟩
 have d5:=h5;have h5:=HG h5;refine AH (NB (NX (rq ?_)));refine rd0 7 (ox 4 [(62,vP y 2)] ?_);refine AB (dlb 63 1 2 y (vS a0 y_ws.length a1)) (ox 1 [(64,vP b1 0)] ?_);refine AB (dlb 65 0 0 b1 (vI (s.frm))) ?_;refine BT ?_;obtain ⟨i3,c1⟩:=y_3h.row undef;refine sd (diI 66 1 (s.frm) c1.addr) ?_;have a9:=y_3r.2 ((s.frm:Int).toNat) (by omega);obtain ⟨b5,b6,g3,g6,c4,g4,g5,g7⟩:=id a9;rw [c4] at a9;refine sd (BL (dl 67 (c1.get ((s.frm:Int).toNat) (by omega) 0 (by decide) _ _ (fun x hx=>by simp [hx]))) c4) (sp 1 [(6,vS b5 (Y.tracks.getD ((s.frm:Int).toNat) []).length b6)] (sn (sp 3 [(70,vP b1 2),(69,vI (↑((Y.tracks.getD ((s.frm:Int).toNat) []).length)))] (sd (dlb 71 0 2 b1 (vI (s.many))) (sd (dsb 72 (↑((Y.tracks.getD ((s.frm:Int).toNat) []).length)) (s.many)) (sp 1 [(7,vI ((↑((Y.tracks.getD ((s.frm:Int).toNat) []).length))-s.many))] (se (rq (rq ?_)))))))));refine DQ (fun a w=>Slots 120 [(4,.nilIface),(117,.bool ((CE Y.cars (Y.tracks.getD ((s.frm:Int).toNat) []) ((↑((Y.tracks.getD ((s.frm:Int).toNat) []).length))-s.many))||(cmp .gtr (((lenOf Y.cars ((Y.tracks.getD ((s.frm:Int).toNat) []).drop (((↑((Y.tracks.getD ((s.frm).toNat) []).length):Int)-s.many).toNat))))+((lenOf Y.cars (Y.tracks.getD ((s.to:Int).toNat) [])))) (Y.room.getD ((s.to:Int).toNat) 0))))] a∧a.defers=[]∧St I ((bX b1 #[vI (s.frm),vI (s.to),vI (s.many)] 52)::(bX y #[vS a2 Y.cars.length a3,vS a5 Y.room.length a6,vS a0 y_ws.length a1] 110)::(y_Ms++F)) w) ?_ ?_
 ·
  refine rd0 43 (ox 5 [(77,vP y 0),(73,vS b5 (Y.tracks.getD ((s.frm:Int).toNat) []).length b6)] ?_);refine AB (dlb 78 1 0 y (vS a2 Y.cars.length a3)) (ox 1 [(79,vI ((↑((Y.tracks.getD ((s.frm:Int).toNat) []).length))-s.many))] ?_)
  skip
  refine AB (dc 80 (fun I' hI=>(LZ I' _ _ _ _ ((↑((Y.tracks.getD ((s.frm:Int).toNat) []).length))-s.many) (a9.mono hI) (a7.mono hI) (by exact ho.at s.frm.toNat (by omega)) :))) (ox 1 [(81,.bool (CE Y.cars (Y.tracks.getD ((s.frm:Int).toNat) []) ((↑((Y.tracks.getD ((s.frm:Int).toNat) []).length))-s.many)))] ?_);refine JY 81 (fun h6=>?_) (fun h6=>?_)
  ·
   have d6:=h6;refine ox 34 [(115,undef),(106,undef)] ?_;refine BT (sp 2 [(117,.bool (true))] (ee ?_));refine AL (fun a w hS hD hW=>⟨hS.sub (.cons 4 rfl (.consE 117 rfl (congrArg Value.bool (by simp only [h6,kA,kB,kC,kD,kE,kF,kG,kH,kI,kJ])) (.nil _))),hD,hW⟩)
  have d6:=h6;refine ox 2 [(83,vI ((↑((Y.tracks.getD ((s.frm:Int).toNat) []).length))-s.many)),(82,vS b5 (Y.tracks.getD ((s.frm:Int).toNat) []).length b6)] ?_;have b7:=a9.cutLo (((↑((Y.tracks.getD ((s.frm).toNat) []).length):Int)-s.many).toNat) (by omega);obtain ⟨g8,h0,g9,i0,c5,h8,h9,i1⟩:=id b7;rw [c5] at b7;refine AB (BL (EA (x:=(.tmp 82)) (lo:=(some (.tmp 83))) (hi:=none) (T:=130) (e:=3) (sz:=1) (((↑((Y.tracks.getD ((s.frm).toNat) []).length):Int)-s.many).toNat) ((Y.tracks.getD ((s.frm:Int).toNat) []).length) (d:=84) (ty:=130) (gd:=(some (8,false))) (by kernel_rfl) (by kernel_rfl) (by kernel_rfl) (by kernel_rfl) rfl (.inr ⟨_,.i64,rfl,(MF rfl (by omega))⟩) (.inl ⟨rfl,rfl⟩) (by omega) (by omega)) c5) (ox 4 [(88,vP y 0)] ?_);refine AB (dlb 89 1 0 y (vS a2 Y.cars.length a3)) ?_;refine AB (dc 90 (fun I' hI=>(long_ct I' _ _ _ _ (b7.mono hI) (a7.mono hI) (by exact (ho.at s.frm.toNat (by omega)).drop _) (by assumption) :))) (ox 4 [(94,vP y 2)] ?_);refine AB (dlb 95 1 2 y (vS a0 y_ws.length a1)) (ox 1 [(96,vP b1 1)] ?_);refine AB (dlb 97 0 1 b1 (vI (s.to))) ?_;obtain ⟨f5,b0⟩:=y_3h.row undef;refine AB (diI 98 1 (s.to) b0.addr) ?_;have a8:=y_3r.2 ((s.to:Int).toNat) (by omega);obtain ⟨d7,d9,d8,e2,b2,e0,e1,e3⟩:=id a8;rw [b2] at a8;refine AB (BL (dl 99 (b0.get ((s.to:Int).toNat) (by omega) 0 (by decide) _ _ (fun x hx=>by simp [hx]))) b2) (ox 4 [(103,vP y 0)] ?_);refine AB (dlb 104 1 0 y (vS a2 Y.cars.length a3)) ?_;refine AB (dc 105 (fun I' hI=>(long_ct I' _ _ _ _ (a8.mono hI) (a7.mono hI) (by exact ho.at s.to.toNat (by omega)) (by assumption) :))) ?_;refine AB (da 106 ((lenOf Y.cars ((Y.tracks.getD ((s.frm:Int).toNat) []).drop (((↑((Y.tracks.getD ((s.frm).toNat) []).length):Int)-s.many).toNat)))) ((lenOf Y.cars (Y.tracks.getD ((s.to:Int).toNat) []))) (hr:=by have q1:=GI hs ((Y.tracks.getD s.frm.toNat []).drop ((↑((Y.tracks.getD ((s.frm).toNat) []).length):Int)-s.many).toNat);have q2:=GI hs (Y.tracks.getD s.to.toNat []);have q3:=hq _ (AJ (d:=[]) (xs:=Y.tracks) (k:=s.frm.toNat) (by omega));have q4:=hq _ (AJ (d:=[]) (xs:=Y.tracks) (k:=s.to.toNat) (by omega));simp only [LD] at q1;omega)) (ox 4 [(110,vP y 1)] ?_);refine AB (dlb 111 1 1 y (vS a5 Y.room.length a6)) (ox 1 [(112,vP b1 1)] ?_);refine AB (dlb 113 0 1 b1 (vI (s.to))) ?_;refine AB (diI 114 1 (s.to) b3.addr) ?_;refine AB (dl 115 (BH b3 ((s.to:Int).toNat) (by omega))) ?_;refine BT (sp 2 [(117,.bool (cmp .gtr (((lenOf Y.cars ((Y.tracks.getD ((s.frm:Int).toNat) []).drop (((↑((Y.tracks.getD ((s.frm).toNat) []).length):Int)-s.many).toNat))))+((lenOf Y.cars (Y.tracks.getD ((s.to:Int).toNat) [])))) (Y.room.getD ((s.to:Int).toNat) 0)))] (ee ?_));refine AL (fun a w hS hD hW=>⟨hS.sub (.cons 4 rfl (.consE 117 rfl (congrArg Value.bool (by simp only [h6,kA,kB,kC,kD,kE,kF,kG,kH,kI,kJ])) (.nil _))),hD,hW⟩)
 rintro a w ⟨hS,hD,hW⟩
 refine AX hS hD hW ?_;clear hS hD hW a w;refine rc 117 rfl (fun h7=>?_) (fun h7=>?_)
 ·
  have b4:=h7;refine rqr (sp 3 [(4,.iface 167 (.agg #[vI (9)]))] (se (BO ((RP (ppm (M':=((bX y #[vS a2 Y.cars.length a3,vS a5 Y.room.length a6,vS a0 y_ws.length a1] 110)::(y_Ms++(bX b1 #[vI (s.frm),vI (s.to),vI (s.many)] 52)::F))) ((PS _ _ _).trans (PC _ (PM.symm))) (AE (t:=4) ([(bX y #[vS a2 Y.cars.length a3,vS a5 Y.room.length a6,vS a0 y_ws.length a1] 110)]++(y_Ms)) (by kernel_rfl) rfl (by simp only [AA,NA,CA];exact (TK _ (TA (TC _ (TR _)) _))) (IR _) ?_)))))));exact ⟨(show KU 9=_ from congrArg KU (mayErr_6 a4 h1 h2 (by omega) (by omega) (Int.not_lt.2 h5) b4).symm),rfl⟩
 have b4:=h7;obtain ⟨f4,b9⟩:=or_f h7;have b9:=HG b9;refine AH (NX (rqr (sp 1 [(4,.nilIface)] (se (BO (ppm (M':=((bX y #[vS a2 Y.cars.length a3,vS a5 Y.room.length a6,vS a0 y_ws.length a1] 110)::(y_Ms++(bX b1 #[vI (s.frm),vI (s.to),vI (s.many)] 52)::F))) ((PS _ _ _).trans (PC _ (PM.symm))) (AE (t:=4) ([(bX y #[vS a2 Y.cars.length a3,vS a5 Y.room.length a6,vS a0 y_ws.length a1] 110)]++(y_Ms)) (by kernel_rfl) rfl (by simp only [AA,NA,CA];exact (TK _ (TA (TC _ (TR _)) _))) (IR _) ?_)))))));exact ⟨(show KU 0=_ from congrArg KU (mayErr_7 a4 h1 h2 (by omega) (by omega) (Int.not_lt.2 h5) b4).symm),rfl⟩
noncomputable def c_move (p:List Nat):Code:=sub (AU Tryz.f86) p
theorem move_ct (I:Imm) (y:Nat) (y_1 y_2 y_3:Value) (y_ws:List Value) (y_Ms:Seg) (Y:Yard) (s:Shift) (y_1f:EZ I y_1 Y.cars) (y_2f:BK I y_2 Y.room) (y_3h:Own 23 1 AO y_3 y_ws y_Ms) (y_3r:RowsV I y_ws Y.tracks) (hf:0≤s.frm∧s.frm<Y.tracks.length) (ht:0≤s.to∧s.to<Y.tracks.length) (hm:0≤s.many∧s.many≤(Y.tracks.getD s.frm.toNat []).length) (hq:∀ t∈Y.tracks,t.length≤1000000):Ct Tryz.prog 86 #[vP y 0,.agg #[vI s.frm,vI s.to,vI s.many]] I ([(bX y #[y_1,y_2,y_3] 110)]++(y_Ms)) (fun v I' M'=>∃ y_wt:List Value,∃ y_Mt:Seg,v=.tuple #[]∧M'=[(bX y #[y_1,y_2,y_3] 110)]++(y_Mt)∧Own 23 1 AO y_3 y_wt y_Mt∧RowsV I' y_wt (moved Y s).tracks):=by
 have f5:=y_1f;obtain ⟨a2,a3,i9,j2,f4,j0,j1,j3⟩:=id f5;subst f4;have f7:=y_2f;obtain ⟨a4,a5,j4,j7,f6,j5,j6,j8⟩:=id f7;subst f6;obtain ⟨a0,a1,f8,j9⟩:=y_3h.shape;subst f8;have b8:=y_3r.1
 try simp only [LS,LA,LC,LN,LK] at b8
 refine fr (args:=[_,_]) (N:=54) Tryz.func86 (fun F=>?_);show Run _ _ (c_move []) _ _ [(0,vP y 0),(1,.agg #[vI (s.frm),vI (s.to),vI (s.many)])] _ _;refine rnm (rqr ?_);refine sS (sb 3 52 #[vI (s.frm),vI (s.to),vI (s.many)] (fun b1=>(se (rq ?_))));refine rd0 7 (ox 4 [(9,vP y 2)] ?_);refine AB (dlb 10 1 2 y (vS a0 y_ws.length a1)) (ox 1 [(11,vP b1 0)] ?_);refine AB (dlb 12 0 0 b1 (vI (s.frm))) ?_;refine BT ?_;obtain ⟨n0,e3⟩:=y_3h.row undef;refine sd (diI 13 1 (s.frm) e3.addr) ?_;have a7:=y_3r.2 ((s.frm:Int).toNat) (by omega);obtain ⟨d4,d5,k3,k6,e7,k4,k5,k7⟩:=id a7;rw [e7] at a7;refine sd (BL (dl 14 (e3.get ((s.frm:Int).toNat) (by omega) 0 (by decide) _ _ (fun x hx=>by simp [hx]))) e7) (sp 1 [(4,vS d4 (Y.tracks.getD ((s.frm:Int).toNat) []).length d5)] (sn (sp 3 [(17,vP b1 2),(16,vI (↑((Y.tracks.getD ((s.frm:Int).toNat) []).length)))] (sd (dlb 18 0 2 b1 (vI (s.many))) (sd (dsb 19 (↑((Y.tracks.getD ((s.frm:Int).toNat) []).length)) (s.many)) (sp 1 [(5,vI ((↑((Y.tracks.getD ((s.frm:Int).toNat) []).length))-s.many))] (se (rq ?_))))))));refine rd 21 [(0,true),(1,true),(2,true),(3,true),(4,true),(5,true),(6,true),(7,true),(8,true),(9,true),(10,true),(11,true),(12,true),(13,true),(14,true),(15,true),(17,true),(18,true),(19,true),(16,false),(20,false)] ((bX b1 #[vI (s.frm),vI (s.to),vI (s.many)] 52)::(bX y #[vS a2 Y.cars.length a3,vS a4 Y.room.length a5,vS a0 y_ws.length a1] 110)::y_Ms) (F) (ox 4 [(23,vP y 2)] ?_);refine AB (dlb 24 1 2 y (vS a0 y_ws.length a1)) (ox 1 [(25,vP b1 1)] ?_);refine AB (dlb 26 0 1 b1 (vI (s.to))) (ox 4 [(30,vP y 2)] ?_);refine AB (dlb 31 1 2 y (vS a0 y_ws.length a1)) (ox 1 [(32,vP b1 1)] ?_);refine AB (dlb 33 0 1 b1 (vI (s.to))) ?_;obtain ⟨n1,e4⟩:=y_3h.row undef;refine AB (diI 34 1 (s.to) e4.addr) ?_;have d6:=y_3r.2 ((s.to:Int).toNat) (by omega);obtain ⟨k8,l0,k9,l3,e8,l1,l2,l4⟩:=id d6;rw [e8] at d6;refine AB (BL (dl 35 (e4.get ((s.to:Int).toNat) (by omega) 0 (by decide) _ _ (fun x hx=>by simp [hx]))) e8) (ox 2 [(38,vI ((↑((Y.tracks.getD ((s.frm:Int).toNat) []).length))-s.many)),(37,vS d4 (Y.tracks.getD ((s.frm:Int).toNat) []).length d5)] ?_);have b7:=a7.cutLo (((↑((Y.tracks.getD ((s.frm).toNat) []).length):Int)-s.many).toNat) (by omega);obtain ⟨l9,m1,m0,m4,e9,m2,m3,m5⟩:=id b7;rw [e9] at b7;refine AB (BL (EA (x:=(.tmp 37)) (lo:=(some (.tmp 38))) (hi:=none) (T:=23) (e:=3) (sz:=1) (((↑((Y.tracks.getD ((s.frm).toNat) []).length):Int)-s.many).toNat) ((Y.tracks.getD ((s.frm:Int).toNat) []).length) (d:=39) (ty:=23) (gd:=none) (by kernel_rfl) rfl (by kernel_rfl) (by kernel_rfl) rfl (.inr ⟨_,.i64,rfl,(MF rfl (by omega))⟩) (.inl ⟨rfl,rfl⟩) (by omega) (by omega)) e9) ?_;refine CK (sc (some 36) (F:=((bX b1 #[vI (s.frm),vI (s.to),vI (s.many)] 52)::(bX y #[vS a2 Y.cars.length a3,vS a4 Y.room.length a5,vS a0 y_ws.length a1] 110)::(y_Ms++F))) (GM _ _ _ d6 (by have h9:=hq _ (AJ (d:=[]) (xs:=Y.tracks) (k:=s.to.toNat) (by omega));omega) :) (PR _) (fun l7 m6 l5 a8 h6=>?_));obtain ⟨n2,b9,e1,d7,e5⟩:=h6;rw [e1,d7];clear e1 d7;replace y_3r:=y_3r.mono a8;replace a7:=a7.mono a8;replace b7:=b7.mono a8;obtain ⟨f0,f1,f2,i7⟩:=e5.shape;subst f2;refine AW (S':=((b9++F))) (PW (PW (PO _ _ _))) ?_;show OFP _ _ _ _ _ _ ((36,vS f0 ((Y.tracks.getD ((s.to:Int).toNat) [])).length f1)::_) _ _;refine CK (AN (d:=40) (x:=(.tmp 36)) (y:=(.tmp 39)) (T:=23) (T':=23) (E:=3) (E':=3) (sz:=1) (bs:=8) (z:=vI (0)) (cell:=BA) (xs:=(Y.tracks.getD ((s.to:Int).toNat) [])) (ys:=(Y.tracks.getD ((s.frm:Int).toNat) []).drop (((↑((Y.tracks.getD ((s.frm).toNat) []).length):Int)-s.many).toNat)) (Ms:=b9) (ty:=23) (gd:=none) (by kernel_rfl) rfl (by kernel_rfl) (by kernel_rfl) (by kernel_rfl) (by kernel_rfl) (by kernel_rfl) (by decide) (by kernel_rfl) rfl rfl (e5) (show List.Perm ((bX b1 #[vI (s.frm),vI (s.to),vI (s.many)] 52)::(bX y #[vS a2 Y.cars.length a3,vS a4 Y.room.length a5,vS a0 y_ws.length a1] 110)::(y_Ms++(b9++F))) ((b9++(bX b1 #[vI (s.frm),vI (s.to),vI (s.many)] 52)::(bX y #[vS a2 Y.cars.length a3,vS a4 Y.room.length a5,vS a0 y_ws.length a1] 110)::(y_Ms++F))) from (PU (PU (PO _ _ _)))) (CH _) b7.src (by first | omega | (have h9:=hq _ (AJ (d:=[]) (xs:=Y.tracks) (k:=s.to.toNat) (by omega));have d3:=hq _ (AJ (d:=[]) (xs:=Y.tracks) (k:=s.frm.toNat) (by omega));simp only [LD];omega)) (fun n4 f9 d9=>?_));refine AW (S':=((f9++F))) (PW (PW (PO _ _ _))) ?_;obtain ⟨d1,d2,h8,k2⟩:=d9.shape;subst h8;show OFP _ _ _ _ _ _ ((40,vS d1 (((Y.tracks.getD ((s.to:Int).toNat) []))++((Y.tracks.getD ((s.frm:Int).toNat) []).drop (((↑((Y.tracks.getD ((s.frm).toNat) []).length):Int)-s.many).toNat))).length d2)::_) _ _;refine FB (nm (nm ?_));obtain ⟨k0,c3⟩:=y_3h.row undef;refine sd (diI 41 1 (s.to) c3.addr) ?_;have h9:=hq _ (AJ (d:=[]) (xs:=Y.tracks) (k:=s.to.toNat) (by omega));have d3:=hq _ (AJ (d:=[]) (xs:=Y.tracks) (k:=s.frm.toNat) (by omega));have q5:(Y.tracks.getD s.to.toNat []++(Y.tracks.getD s.frm.toNat []).drop ((↑((Y.tracks.getD ((s.frm).toNat) []).length):Int)-s.many).toNat).length≤2000000:=by (simp only [LA,LD];omega)
 refine sfz (A:=((bX b1 #[vI (s.frm),vI (s.to),vI (s.many)] 52)::(bX y #[vS a2 Y.cars.length a3,vS a4 Y.room.length a5,vS a0 y_ws.length a1] 110)::(y_Ms++F))) 0 d9 (PU (PU (PO _ _ _))) (fun m7 b4 b2=>?_);replace y_3r:=y_3r.mono b4;replace a7:=a7.mono b4;obtain ⟨g1,g3,g2,g6,c9,g4,g5,g7⟩:=id b2;cases c9;refine sS (FA (T:=23) (x:=(.tmp 41)) (y:=(.tmp 40)) (rc:=fun i f=>AO ((y_ws).getD i undef) f) undef ((s.to:Int).toNat) 0 ((vS d1 (((Y.tracks.getD ((s.to:Int).toNat) []))++((Y.tracks.getD ((s.frm:Int).toNat) []).drop (((↑((Y.tracks.getD ((s.frm).toNat) []).length):Int)-s.many).toNat))).length d2:Value)) (ty:=0) (gd:=none) (by kernel_rfl) rfl y_3h c3 (by omega) (by decide) rfl rfl (by kernel_rfl) rfl rfl (by intro f hf;match f,hf with | 0,_=>rfl) (PU (PM.symm)) (fun c0 e0=>(pm (M':=((bX b1 #[vI (s.frm),vI (s.to),vI (s.many)] 52)::(bX y #[vS a2 Y.cars.length a3,vS a4 Y.room.length a5,vS a0 y_ws.length a1] 110)::(c0++F))) (PW PM) ?_)));have a6:=y_3r.set b2 ((s.to:Int).toNat);have a9:=a6.1
 try simp only [LS,LA,LC,LN,LK] at a9
 refine se ?_;refine rd 11 [(0,true),(1,true),(2,true),(3,true),(4,true),(5,true),(6,true),(7,true),(8,true),(9,true),(10,false)] ((bX b1 #[vI (s.frm),vI (s.to),vI (s.many)] 52)::(bX y #[vS a2 Y.cars.length a3,vS a4 Y.room.length a5,vS a0 y_ws.length a1] 110)::c0) (F) (ox 4 [(45,vP y 2)] ?_);refine AB (dlb 46 1 2 y (vS a0 y_ws.length a1)) (ox 1 [(47,vP b1 0)] ?_);refine AB (dlb 48 0 0 b1 (vI (s.frm))) (ox 2 [(50,vI ((↑((Y.tracks.getD ((s.frm:Int).toNat) []).length))-s.many)),(49,vS d4 (Y.tracks.getD ((s.frm:Int).toNat) []).length d5)] ?_);have b6:=a7.cutHi (((↑((Y.tracks.getD ((s.frm).toNat) []).length):Int)-s.many).toNat) (by omega);obtain ⟨i0,i2,i1,i5,c5,i3,i4,i6⟩:=id b6;rw [c5] at b6;refine AB (BL (EA (x:=(.tmp 49)) (lo:=none) (hi:=(some (.tmp 50))) (T:=23) (e:=3) (sz:=1) (0) (((↑((Y.tracks.getD ((s.frm).toNat) []).length):Int)-s.many).toNat) (d:=51) (ty:=23) (gd:=none) (by kernel_rfl) rfl (by kernel_rfl) (by kernel_rfl) rfl (.inl ⟨rfl,rfl⟩) (.inr ⟨_,.i64,rfl,(MF rfl (by omega))⟩) (by omega) (by omega)) c5) ?_;refine CK (sc (some 52) (F:=((bX b1 #[vI (s.frm),vI (s.to),vI (s.many)] 52)::(bX y #[vS a2 Y.cars.length a3,vS a4 Y.room.length a5,vS a0 y_ws.length a1] 110)::(c0++F))) (GM _ _ _ b6 (by have d3:=hq _ (AJ (d:=[]) (xs:=Y.tracks) (k:=s.frm.toNat) (by omega));simp only [LK];omega) :) (PR _) (fun l8 m8 l6 c1 h7=>?_));obtain ⟨n3,g0,e2,d8,e6⟩:=h7;rw [e2,d8];clear e2 d8;replace a6:=a6.mono c1;obtain ⟨c6,c7,f3,i8⟩:=e6.shape;subst f3;refine AW (S':=((g0++F))) (PW (PW (PO _ _ _))) ?_;show OFP _ _ _ _ _ _ ((52,vS c6 (((Y.tracks.getD ((s.frm:Int).toNat) []).take (((↑((Y.tracks.getD ((s.frm).toNat) []).length):Int)-s.many).toNat))).length c7)::_) _ _;refine FB (nm (nm ?_));obtain ⟨k1,b5⟩:=e0.row undef;simp only [LS] at b5;refine sd (diI 53 1 (s.frm) (fun _=>b5.addr (by omega)) (n:=y_ws.length)) ?_;have d3:=hq _ (AJ (d:=[]) (xs:=Y.tracks) (k:=s.frm.toNat) (by omega));have q6:((Y.tracks.getD s.frm.toNat []).take ((↑((Y.tracks.getD ((s.frm).toNat) []).length):Int)-s.many).toNat).length≤1000000:=by (simp only [LK];omega)
 refine sfz (A:=((bX b1 #[vI (s.frm),vI (s.to),vI (s.many)] 52)::(bX y #[vS a2 Y.cars.length a3,vS a4 Y.room.length a5,vS a0 y_ws.length a1] 110)::(c0++F))) 0 e6 (PU (PU (PO _ _ _))) (fun m9 c2 b3=>?_);replace a6:=a6.mono c2;obtain ⟨g8,h0,g9,h3,d0,h1,h2,h4⟩:=id b3;cases d0;refine sS (FA (T:=23) (x:=(.tmp 53)) (y:=(.tmp 52)) (rc:=fun i f=>AO ((y_ws.set ((s.to:Int).toNat) ((vS d1 (((Y.tracks.getD ((s.to:Int).toNat) []))++((Y.tracks.getD ((s.frm:Int).toNat) []).drop (((↑((Y.tracks.getD ((s.frm).toNat) []).length):Int)-s.many).toNat))).length d2:Value))).getD i undef) f) undef ((s.frm:Int).toNat) 0 ((vS c6 (((Y.tracks.getD ((s.frm:Int).toNat) []).take (((↑((Y.tracks.getD ((s.frm).toNat) []).length):Int)-s.many).toNat))).length c7:Value)) (ty:=0) (gd:=none) (by kernel_rfl) rfl e0 (by simpa only [LS] using b5) (by simp only [LS];omega) (by decide) rfl rfl (by kernel_rfl) rfl rfl (by intro f hf;match f,hf with | 0,_=>rfl) (PU (PM.symm)) (fun c8 h5=>(pm (M':=((bX b1 #[vI (s.frm),vI (s.to),vI (s.many)] 52)::(bX y #[vS a2 Y.cars.length a3,vS a4 Y.room.length a5,vS a0 y_ws.length a1] 110)::(c8++F))) (PW PM) ?_)));have c4:=a6.set b3 ((s.frm:Int).toNat);have b0:=c4.1
 try simp only [LS,LA,LC,LN,LK] at b0
 refine ee (ppm (M':=((bX y #[vS a2 Y.cars.length a3,vS a4 Y.room.length a5,vS a0 y_ws.length a1] 110)::(c8++(bX b1 #[vI (s.frm),vI (s.to),vI (s.many)] 52)::F))) ((PS _ _ _).trans (PC _ (PM.symm))) ?_);refine NV ([(bX y #[vS a2 Y.cars.length a3,vS a4 Y.room.length a5,vS a0 y_ws.length a1] 110)]++(c8)) (by kernel_rfl) (by simp only [AA,NA,CA];exact (TK _ (TA (TC _ (TR _)) _))) (IT (IT (IT a8 b4) c1) c2) ?_;exact ⟨_,_,rfl,rfl,h5,c4⟩
noncomputable def c_Play (p:List Nat):Code:=sub (AU Tryz.f33) p
theorem Play_ct (I:Imm) (y:Value) (Y:Yard) (a:Value) (l:List Shift) (y_f:IsYard I y Y) (a_f:NF I a l) (hG:Glob I):Ct Tryz.prog 33 #[y,a] I ([]) (fun v I' M'=>∃ u0:Value,v=.tuple #[u0,vI ((CD Y l).2)]∧M'=[]∧IsYard I' u0 ((CD Y l).1)):=by
 obtain ⟨y1,y2,y3,p0,f4,f5,f6⟩:=id y_f;subst p0;obtain ⟨b2,b4,n4,n7,l4,n5,n6,n8⟩:=id f4;subst l4;obtain ⟨b5,b6,n9,o2,l5,o0,o1,o3⟩:=id f5;subst l5;obtain ⟨b7,b8,o4,o7,m4,l6,o5,o6,o8,o9⟩:=id f6;subst l6;obtain ⟨h0,h4,p4,p7,m6,p5,p6,e1⟩:=id a_f;subst m6;refine fr (args:=[_,_]) (N:=43) Tryz.func33 (fun F=>?_);show Run _ _ (c_Play []) _ _ [(0,.agg #[vS b2 Y.cars.length b4,vS b5 Y.room.length b6,vS b7 Y.tracks.length b8]),(1,vS h0 l.length h4)] _ _;refine rnm (rqr ?_);refine sS (sb 2 26 #[vS b2 Y.cars.length b4,vS b5 Y.room.length b6,vS b7 Y.tracks.length b8] (fun b1=>(sS (sal 4 26 #[vN,vN,vN] (fun b3=>(sp 1 [(5,vI (0))] (se (rq (rqr (sd (dnb 11 1 0 b1 [vS b2 Y.cars.length b4,vS b5 Y.room.length b6,vS b7 Y.tracks.length b8]) (sd (dc 12 (fun I' hI=>(LX I' _ (Y) ((BS f4 f5 f6).mono hI) :))) (sp 1 [(6,vI ((checkErr Y)))] (sn (sp 2 [(14,.bool (!(cmp .eql ((checkErr Y)) (0))))] (se (rc 14 rfl (fun h1=>?_) (fun h1=>?_)))))))))))))))))
 ·
  have k4:=h1;have h1:=DE (CL h1);refine rqr (sp 2 [(16,vI ((checkErr Y))),(15,.agg #[vN,vN,vN])] (sS (ss 0 0 b3 [vN,vN,vN] [vN,vN,vN] (_::_::_) (cs:=[_,_,_]) rfl rfl (sp 1 [(5,vI ((checkErr Y)))] (se (BO ((RP (GO (t:=4) (u:=5) (T:=26) (n:=3) [] (by kernel_rfl) rfl (by kernel_rfl) rfl (BG (n:=3) (cs:=#[vN,vN,vN]) (b:=b3) (off:=0) (T:=26) (fz:=(0,0)) (vs:=[vN,vN,vN]) (by simp) rfl) (.inl ⟨by kernel_rfl,rfl⟩) rfl (TC _ (TC _ (TR _))) (IR _) ?_)))))))));exact ⟨_,(congrArg (fun n=>Value.tuple #[_,vI n]) (show checkErr Y=_ from (congrArg Prod.snd (play_bad h1)).symm)),rfl,((show AP=_ from (congrArg Prod.fst (play_bad h1)).symm)▸(BS (IsSl.nil _) (IsSl.nil _) (IsRows.nil _)))⟩
 have k4:=h1;have h1:=DF (BW h1);refine AH (NX (rqr (sd (dnb 17 1 0 b1 [vS b2 Y.cars.length b4,vS b5 Y.room.length b6,vS b7 Y.tracks.length b8]) ?_)));have hv:Valid Y:=by (show checkErr Y=0;omega)
 have l8:GoodY Y:=hv.good;have p9:=hv.lens;refine sS (sc (some 18) (LB _ _ (Y) (BS f4 f5 f6) (by omega) (by omega) (by omega) (by exact l8.le) :) (.refl _) (fun n1 I5 m8 e3 m7=>?_));obtain ⟨m1,d7,m2,c9,m3,c7,c0,m0,l9,g3,g4,g5,d5⟩:=m7;rw [m0,l9];clear m0 l9;replace e1:=e1.mono e3;replace hG:=hG.mono e3;obtain ⟨a4,a5,e4,g7⟩:=g3.shape;subst e4;obtain ⟨a6,a7,e5,g8⟩:=g4.shape;subst e5;obtain ⟨c5,c6,e6,g9⟩:=g5.shape;subst e6;have e0:=d5.1
 try simp only [LS,LA,LC,LN,LK] at e0
 refine AR (M':=((d7++(c9++(c0++(bX b3 #[vN,vN,vN] 26)::(bX b1 #[vS b2 Y.cars.length b4,vS b5 Y.room.length b6,vS b7 Y.tracks.length b8] 26)::F))))) (fun w h=>by simpa only [AA,CA,NA] using h) (pm (M':=((bX b3 #[vN,vN,vN] 26)::(bX b1 #[vS b2 Y.cars.length b4,vS b5 Y.room.length b6,vS b7 Y.tracks.length b8] 26)::(d7++(c9++(c0++F))))) (((PA _ ((PA _ PM).trans PM)).trans PM).trans (PC _ ((PA _ ((PA _ PM).trans PM)).trans PM))) (sfz (A:=((bX b3 #[vN,vN,vN] 26)::(bX b1 #[vS b2 Y.cars.length b4,vS b5 Y.room.length b6,vS b7 Y.tracks.length b8] 26)::(c9++(c0++F)))) AD g3 (PU (PM.symm)) (fun p1 c8 a8=>?_)));replace e1:=e1.mono c8;replace hG:=hG.mono c8;replace d5:=d5.mono c8;obtain ⟨i3,i5,i4,i8,f0,i6,i7,i9⟩:=id a8;cases f0;refine sfz (A:=((bX b3 #[vN,vN,vN] 26)::(bX b1 #[vS b2 Y.cars.length b4,vS b5 Y.room.length b6,vS b7 Y.tracks.length b8] 26)::(c0++F))) 0 g4 (PU (PM.symm)) (fun l7 c2 a9=>?_);replace e1:=e1.mono c2;replace hG:=hG.mono c2;replace d5:=d5.mono c2;replace a8:=a8.mono c2;obtain ⟨j0,j2,j1,j5,f1,j3,j4,j6⟩:=id a9;cases f1;refine sp 1 [(19,.agg #[vS a4 Y.cars.length a5,vS a6 Y.room.length a7,vS c5 c7.length c6])] (sS (sb 20 110 #[vS a4 Y.cars.length a5,vS a6 Y.room.length a7,vS c5 c7.length c6] (fun d2=>(sp 1 [(7,vP d2 0)] (se (rq (rqr (sp 3 [(23,vI (0)),(22,vI (↑(l.length))),(21,vS h0 l.length h4)] (se (rb 0 ?_))))))))));refine rl (fun mz a w=>∃ J0:Imm,∃ k:Nat,∃ ts:List (List Int),∃ c1:Value,∃ b0:Seg,∃ a2:List Value,(l7.le J0)∧(k≤l.length)∧(HA Y l=HA (⟨Y.cars,Y.room,ts⟩:Yard) (l.drop k))∧(GoodY (⟨Y.cars,Y.room,ts⟩:Yard))∧(RowsV J0 a2 (ts))∧(Own 23 1 AO c1 (a2) b0)∧Slots 43 [(23,vI ↑k),(4,vP b3 0),(7,vP d2 0),(21,vS h0 l.length h4),(22,vI (↑(l.length)))] a∧a.defers=[]∧St J0 ((bX d2 #[vS a4 Y.cars.length a5,vS a6 Y.room.length a7,c1] 110)::(bX b3 #[vN,vN,vN] 26)::(bX b1 #[vS b2 Y.cars.length b4,vS b5 Y.room.length b6,vS b7 Y.tracks.length b8] 26)::(b0++F)) w∧mz=l.length-k) ?_ ?_
 ·intro a w hS hD hW;exact ⟨_,l7,0,Y.tracks,vS c5 c7.length c6,c0,c7,IR _,Nat.zero_le _,rfl,l8,d5,g5,hS.sub (.cons 23 rfl (.cons 4 rfl (.cons 7 rfl (.cons 21 rfl (.cons 22 rfl (.nil _)))))),hD,hW,rfl⟩
 rintro mz a w ⟨J0,k,ts,c1,b0,a2,hJ0,hk,hr,hg,a3,b9,hS,hD,hW,rfl⟩
 refine AX hS hD hW ?_;clear hS hD hW a w;replace e1:=e1.mono hJ0;replace hG:=hG.mono hJ0;replace a8:=a8.mono hJ0;replace a9:=a9.mono hJ0;obtain ⟨a0,a1,d0,f3⟩:=b9.shape;subst d0;have c4:=a3.1
 try simp only [LS,LA,LC,LN,LK] at c4
 have p8:Y.room.length=ts.length:=hg.len;refine rqr (sp 1 [(24,.bool (cmp .lss (↑k) (↑(l.length))))] (se (rq (rc 24 rfl (fun h2=>?_) (fun h2=>?_)))))
 ·
  have k5:=h2;have h2:=BZ h2;refine AH (NX (rq (rb 1 (rqr (sd (di 25 3 (k) e1.addr) (sd (DS (x:=(.tmp 25)) (T:=52) (n:=3) (vs:=[vI ((l.getD (k) BB).frm),vI ((l.getD (k) BB).to),vI ((l.getD (k) BB).many)]) (d:=26) (ty:=52) (gd:=none) (by kernel_rfl) rfl (by kernel_rfl) (by kernel_rfl) rfl rfl (MZ e1 (k) (by omega))) (sS (sal 9 52 #[vI (0),vI (0),vI (0)] (fun e2=>(sS (ss 0 0 e2 [vI ((l.getD (k) BB).frm),vI ((l.getD (k) BB).to),vI ((l.getD (k) BB).many)] [vI ((l.getD (k) BB).frm),vI ((l.getD (k) BB).to),vI ((l.getD (k) BB).many)] (_::_::_::_::_) (cs:=[_,_,_]) rfl rfl (se (rq (rqr (sp 1 [(27,vP d2 0)] (sd (dnb 28 0 0 e2 [vI ((l.getD (k) BB).frm),vI ((l.getD (k) BB).to),vI ((l.getD (k) BB).many)]) (sS (sc (some 29) (F:=((bX e2 #[vI ((l.getD (k) BB).frm),vI ((l.getD (k) BB).to),vI ((l.getD (k) BB).many)] 52)::(bX b3 #[vN,vN,vN] 26)::(bX b1 #[vS b2 Y.cars.length b4,vS b5 Y.room.length b6,vS b7 Y.tracks.length b8] 26)::F)) (may_ct _ (d2) _ _ _ _ _ ((⟨Y.cars,Y.room,ts⟩:Yard)) (l.getD (k) BB) a8 a9 b9 a3 (by exact hg.ok) (by exact hg.small) (by exact hg.len) (by exact hg.le) :) ((PS _ _ _).trans (PC _ (PU (PU (PM.symm))))) (fun n2 p2 m9 c3 k8=>?_)))))))))))))))))));obtain ⟨g1,f9⟩:=k8;rw [g1,f9];clear g1 f9;replace hG:=hG.mono c3;replace a8:=a8.mono c3;replace a9:=a9.mono c3;replace a3:=a3.mono c3;refine AR (M':=((bX d2 #[vS a4 Y.cars.length a5,vS a6 Y.room.length a7,vS a0 a2.length a1] 110)::(b0++(bX e2 #[vI ((l.getD (k) BB).frm),vI ((l.getD (k) BB).to),vI ((l.getD (k) BB).many)] 52)::(bX b3 #[vN,vN,vN] 26)::(bX b1 #[vS b2 Y.cars.length b4,vS b5 Y.room.length b6,vS b7 Y.tracks.length b8] 26)::F))) (fun w h=>by simpa only [AA,CA,NA] using h) (pm (M':=((bX d2 #[vS a4 Y.cars.length a5,vS a6 Y.room.length a7,vS a0 a2.length a1] 110)::(bX e2 #[vI ((l.getD (k) BB).frm),vI ((l.getD (k) BB).to),vI ((l.getD (k) BB).many)] 52)::(bX b3 #[vN,vN,vN] 26)::(bX b1 #[vS b2 Y.cars.length b4,vS b5 Y.room.length b6,vS b7 Y.tracks.length b8] 26)::(b0++F))) (PC _ (PW (PW PM))) (sd (dc 30 (fun I' hI=>(errnoOf_ct I' ((CJ ((⟨Y.cars,Y.room,ts⟩:Yard)) (l.getD (k) BB))) (by first | exact hG | exact hG.mono hI) :))) (sp 1 [(10,vI ((((CJ ((⟨Y.cars,Y.room,ts⟩:Yard)) (l.getD (k) BB))))))] (sn (sp 2 [(32,.bool (!(cmp .eql ((((CJ ((⟨Y.cars,Y.room,ts⟩:Yard)) (l.getD (k) BB))))) (0))))] (se (rc 32 rfl (fun h3=>?_) (fun h3=>?_))))))))
  ·
   have k6:=h3;have h3:=DE (CL h3);refine rqr (sp 2 [(34,vI ((((CJ ((⟨Y.cars,Y.room,ts⟩:Yard)) (l.getD (k) BB)))))),(33,.agg #[vN,vN,vN])] (sS (ss 2 0 b3 [vN,vN,vN] [vN,vN,vN] (_::_::_::_::_) (cs:=[_,_,_]) rfl rfl (sp 1 [(5,vI ((((CJ ((⟨Y.cars,Y.room,ts⟩:Yard)) (l.getD (k) BB))))))] (se (BO ((RP (RB (RP (RP (RB (RP (GO (t:=4) (u:=5) (T:=26) (n:=3) [] (by kernel_rfl) rfl (by kernel_rfl) rfl (BG (n:=3) (cs:=#[vN,vN,vN]) (b:=b3) (off:=0) (T:=26) (fz:=(0,0)) (vs:=[vN,vN,vN]) (by simp) rfl) (.inl ⟨by kernel_rfl,rfl⟩) rfl (TC _ (TC _ (TC _ (TC _ (TT (TR _) (TB _ _)))))) (IT (IT (IT (IT e3 c8) c2) hJ0) c3) ?_))))))))))))));exact ⟨_,(congrArg (fun n=>Value.tuple #[_,vI n]) (show CJ _ _=_ from (congrArg Prod.snd ((NU hv).trans (hr.trans (PN (by omega) h3)))).symm)),rfl,((show AP=_ from (congrArg Prod.fst ((NU hv).trans (hr.trans (PN (by omega) h3)))).symm)▸(BS (IsSl.nil _) (IsSl.nil _) (IsRows.nil _)))⟩
  have k6:=h3;have h3:=DF (BW h3);refine AH (NX (rr (sp 1 [(35,vP d2 0)] (sd (dnb 36 1 0 e2 [vI ((l.getD (k) BB).frm),vI ((l.getD (k) BB).to),vI ((l.getD (k) BB).many)]) ?_))));have k7:=mayErr_ok h3;refine sS (sc (some 37) (F:=((bX e2 #[vI ((l.getD (k) BB).frm),vI ((l.getD (k) BB).to),vI ((l.getD (k) BB).many)] 52)::(bX b3 #[vN,vN,vN] 26)::(bX b1 #[vS b2 Y.cars.length b4,vS b5 Y.room.length b6,vS b7 Y.tracks.length b8] 26)::F)) (move_ct _ (d2) _ _ _ _ _ ((⟨Y.cars,Y.room,ts⟩:Yard)) (l.getD (k) BB) a8 a9 b9 a3 (by exact k7.1) (by exact k7.2.1) (by exact k7.2.2) (by exact hg.le) :) (PC _ (PU (PU (PM.symm)))) (fun n3 m5 n0 d3 k9=>?_));obtain ⟨f7,d1,g2,g0,e7,e8⟩:=k9;rw [g2,g0];clear g2 g0;replace a8:=a8.mono d3;replace a9:=a9.mono d3;replace a3:=a3.mono d3;obtain ⟨l0,l1,l2,l3⟩:=id e7.shape;have d6:=e8.1
  try simp only [LS,LA,LC,LN,LK] at d6
  refine AR (M':=((bX d2 #[vS a4 Y.cars.length a5,vS a6 Y.room.length a7,vS a0 a2.length a1] 110)::(d1++(bX e2 #[vI ((l.getD (k) BB).frm),vI ((l.getD (k) BB).to),vI ((l.getD (k) BB).many)] 52)::(bX b3 #[vN,vN,vN] 26)::(bX b1 #[vS b2 Y.cars.length b4,vS b5 Y.room.length b6,vS b7 Y.tracks.length b8] 26)::F))) (fun w h=>by simpa only [AA,CA,NA] using h) (pm (M':=((bX d2 #[vS a4 Y.cars.length a5,vS a6 Y.room.length a7,vS a0 a2.length a1] 110)::(bX e2 #[vI ((l.getD (k) BB).frm),vI ((l.getD (k) BB).to),vI ((l.getD (k) BB).many)] 52)::(bX b3 #[vN,vN,vN] 26)::(bX b1 #[vS b2 Y.cars.length b4,vS b5 Y.room.length b6,vS b7 Y.tracks.length b8] 26)::(d1++F))) (PC _ (PW (PW PM))) (ee (NB (NX (rr (sd (da 38 (↑k) (1)) (sp 1 [(23,vI (↑k+1))] (ee ?_))))))));refine AG (l.length-(k+1)) (by omega) ?_;intro a w hS hD hW;exact ⟨m5,k+1,(moved (⟨Y.cars,Y.room,ts⟩:Yard) (l.getD k BB)).tracks,vS a0 a2.length a1,d1,f7,(IT (IT hJ0 c3) d3),by omega,hr.trans (playFrom_next (by omega) h3),hg.moved h3,e8,e7,hS.sub (.consE 23 rfl rfl (.cons 4 rfl (.cons 7 rfl (.cons 21 rfl (.cons 22 rfl (.nil _)))))),hD,(hW.perm (PS _ _ _)).sub (TC _ (TR _)),rfl⟩
 have k5:=h2;have h2:=BX h2;refine CC 0 ((EP (EP (EB (NX (rqr (sfz (A:=((bX d2 #[vS a4 Y.cars.length a5,vS a6 Y.room.length a7,vS a0 a2.length a1] 110)::(bX b3 #[vN,vN,vN] 26)::(bX b1 #[vS b2 Y.cars.length b4,vS b5 Y.room.length b6,vS b7 Y.tracks.length b8] 26)::F)) undef b9 (PU (PU (PM.symm))) (fun p3 d4 d9=>?_))))))));replace a8:=a8.mono d4;replace a9:=a9.mono d4;replace a3:=a3.mono d4;obtain ⟨j7,j9,j8,k2,f2,k0,k1,k3⟩:=id d9;cases f2;have d8:=a3.isRows d9;have f8:=a3.1;obtain ⟨h5,h7,h6,i0,g6,e9,h8,h9,i1,i2⟩:=id d8
 injection e9 with fr55_e1 fr55_e2 fr55_e3;subst fr55_e1;subst fr55_e3
 refine sp 3 [(41,vP d2 0)] (sd (dnb 42 0 0 d2 [vS a4 Y.cars.length a5,vS a6 Y.room.length a7,vS a0 a2.length a1]) (sS (ss 1 0 b3 [vS a4 Y.cars.length a5,vS a6 Y.room.length a7,vS a0 a2.length a1] [vS a4 Y.cars.length a5,vS a6 Y.room.length a7,vS a0 a2.length a1] (_::_::_::_) (cs:=[_,_,_]) rfl rfl (sp 1 [(5,vI (0))] (se (BO (GO (t:=4) (u:=5) (T:=26) (n:=3) [] (by kernel_rfl) rfl (by kernel_rfl) rfl (BG (n:=3) (cs:=#[vS a4 Y.cars.length a5,vS a6 Y.room.length a7,vS a0 a2.length a1]) (b:=b3) (off:=0) (T:=26) (fz:=(0,0)) (vs:=[vS a4 Y.cars.length a5,vS a6 Y.room.length a7,vS a0 a2.length a1]) (by simp) rfl) (.inl ⟨by kernel_rfl,rfl⟩) rfl (TC _ (TC _ (TC _ (TR _)))) (IT (IT (IT (IT e3 c8) c2) hJ0) d4) ?_)))))));exact ⟨_,(congrArg (fun n=>Value.tuple #[_,vI n]) (show 0=_ from (congrArg Prod.snd ((NU hv).trans (hr.trans (NT (by omega))))).symm)),rfl,((show (⟨Y.cars,Y.room,ts⟩:Yard)=_ from (congrArg Prod.fst ((NU hv).trans (hr.trans (NT (by omega))))).symm)▸(BS a8 a9 d8))⟩
noncomputable def c_Draw (p:List Nat):Code:=sub (AU Tryz.f35) p
theorem Draw_ct (I:Imm) (y:Value) (Y:Yard) (s:Shift) (y_f:IsYard I y Y) (hG:Glob I):Ct Tryz.prog 35 #[y,.agg #[vI s.frm,vI s.to,vI s.many]] I ([]) (fun v I' M'=>∃ u0:Value,v=.tuple #[u0,vI ((CD Y [s]).2)]∧M'=[]∧IsYard I' u0 ((CD Y [s]).1)):=by
 obtain ⟨y1,y2,y3,i6,c4,c5,c6⟩:=id y_f;subst i6;obtain ⟨b2,b4,h0,h3,f9,h1,h2,h4⟩:=id c4;subst f9;obtain ⟨b6,b8,h5,h8,g0,h6,h7,h9⟩:=id c5;subst g0;obtain ⟨b9,c0,i0,i3,g5,g1,i1,i2,i4,i5⟩:=id c6;subst g1;refine fr (args:=[_,_]) (N:=12) Tryz.func35 (fun F=>?_);show Run _ _ (c_Draw []) _ _ [(0,.agg #[vS b2 Y.cars.length b4,vS b6 Y.room.length b8,vS b9 Y.tracks.length c0]),(1,.agg #[vI (s.frm),vI (s.to),vI (s.many)])] _ _;refine rnm (rqr ?_);refine sS (sb 2 26 #[vS b2 Y.cars.length b4,vS b6 Y.room.length b8,vS b9 Y.tracks.length c0] (fun b1=>(sS (sb 3 52 #[vI (s.frm),vI (s.to),vI (s.many)] (fun b3=>(sS (sal 4 26 #[vN,vN,vN] (fun b5=>(sp 1 [(5,vI (0))] (sn (sd (dnb 6 2 0 b1 [vS b2 Y.cars.length b4,vS b6 Y.room.length b8,vS b9 Y.tracks.length c0]) (sd (dnb 7 1 0 b3 [vI (s.frm),vI (s.to),vI (s.many)]) (sS (sbs 8 52 1 #[vI (s.frm),vI (s.to),vI (s.many)] (fun b7=>(pm (M':=((bX b5 #[vN,vN,vN] 26)::(bX b3 #[vI (s.frm),vI (s.to),vI (s.many)] 52)::(bX b1 #[vS b2 Y.cars.length b4,vS b6 Y.room.length b8,vS b9 Y.tracks.length c0] 26)::([(bX b7 #[vI (s.frm),vI (s.to),vI (s.many)] 52)]++F))) ((PS _ _ _).trans (PC _ ((PS _ _ _).trans (PC _ (PS _ _ _))))) ?_))))))))))))))));have g6:Own 52 3 DL (vS (some ⟨b7,0,none⟩) 1 1) ([s]:List Shift) [(bX b7 #[vI (s.frm),vI (s.to),vI (s.many)] 52)]:=Own.lit rfl rfl;refine sfz (A:=((bX b5 #[vN,vN,vN] 26)::(bX b3 #[vI (s.frm),vI (s.to),vI (s.many)] 52)::(bX b1 #[vS b2 Y.cars.length b4,vS b6 Y.room.length b8,vS b9 Y.tracks.length c0] 26)::F)) BB g6 (PU (PU (PM.symm))) (fun i7 a6 b0=>?_);replace c4:=c4.mono a6;replace c5:=c5.mono a6;replace c6:=c6.mono a6;replace hG:=hG.mono a6;obtain ⟨f0,f2,f1,f5,c7,f3,f4,f6⟩:=id b0;cases c7;refine sS (sc (some 9) (Play_ct _ _ (Y) _ _ (BS c4 c5 c6) b0 (by first | exact hG | exact hG.mono hI) :) (.refl _) (fun g8 i8 g7 d0 f7=>?_));obtain ⟨g9,d2,d1,f8⟩:=f7;rw [d2,d1];clear d2 d1;have c9:=f8;obtain ⟨g2,g3,g4,c8,a7,a8,a9⟩:=id c9;subst c8;obtain ⟨a0,a1,d4,d7,c1,d5,d6,d8⟩:=id a7;subst c1;obtain ⟨a2,a3,d9,e2,c2,e0,e1,e3⟩:=id a8;subst c2;obtain ⟨a4,a5,e4,e7,d3,c3,e5,e6,e8,e9⟩:=id a9;subst c3;refine nm ?_;refine sp 2 [(11,vI (((CD Y (([s]:List Shift))).2))),(10,.agg #[vS a0 (((CD Y (([s]:List Shift))).1).cars).length a1,vS a2 (((CD Y (([s]:List Shift))).1).room).length a3,vS a4 (((CD Y (([s]:List Shift))).1).tracks).length a5])] (sS (ss 0 0 b5 [vS a0 (((CD Y (([s]:List Shift))).1).cars).length a1,vS a2 (((CD Y (([s]:List Shift))).1).room).length a3,vS a4 (((CD Y (([s]:List Shift))).1).tracks).length a5] [vS a0 (((CD Y (([s]:List Shift))).1).cars).length a1,vS a2 (((CD Y (([s]:List Shift))).1).room).length a3,vS a4 (((CD Y (([s]:List Shift))).1).tracks).length a5] (_::_::_::_) (cs:=[_,_,_]) rfl rfl (sp 1 [(5,vI (((CD Y (([s]:List Shift))).2)))] (se (BO (GO (t:=4) (u:=5) (T:=26) (n:=3) [] (by kernel_rfl) rfl (by kernel_rfl) rfl (BG (n:=3) (cs:=#[vS a0 (((CD Y (([s]:List Shift))).1).cars).length a1,vS a2 (((CD Y (([s]:List Shift))).1).room).length a3,vS a4 (((CD Y (([s]:List Shift))).1).tracks).length a5]) (b:=b5) (off:=0) (T:=26) (fz:=(0,0)) (vs:=[vS a0 (((CD Y (([s]:List Shift))).1).cars).length a1,vS a2 (((CD Y (([s]:List Shift))).1).room).length a3,vS a4 (((CD Y (([s]:List Shift))).1).tracks).length a5]) (by simp) rfl) (.inl ⟨by kernel_rfl,rfl⟩) rfl (TC _ (TC _ (TC _ (TR _)))) (IT a6 d0) ?_))))));exact ⟨_,rfl,rfl,(BS a7 a8 a9)⟩
end Go.Proofs.YtcaocbhbofejnaaGreatDoor
namespace Go.Sl
open Go
inductive SK where
  | i (k:IntKind)
  | b
  | s
  deriving DecidableEq
def skV:Value→Option SK
  | .int k _=>some (.i k)
  | .bool _=>some .b
  | .string _=>some .s
  | _=>none
def scE:Value→Value→Bool
  | .int _ a,.int _ b=>a == b
  | .bool a,.bool b=>a == b
  | .string a,.string b=>a == b
  | _,_=>false
def FF (rec:TypeId→Option (Nat × List (Nat × SK))) (sz:Nat):List Field→Option (List (Nat × SK))
  | []=>some []
  | f::r=>if f.name="_" then none else match rec f.type,FF rec sz r with
    | some (sf,L),some M=>if f.offset+sf≤sz then some (L.map (fun x=>(f.offset+x.1,x.2))++M) else none
    | _,_=>none
def KV (P:Program):Nat→TypeId→Option (Nat × List (Nat × SK))
  | 0,_=>none
  | n+1,t=>
    match P.underlying t,DY P t with
    | some (.int k),some 1=>some (1,[(0,.i k)])
    | some .bool,some 1=>some (1,[(0,.b)])
    | some .string,some 1=>some (1,[(0,.s)])
    | some (.array len e),some sz=>match KV P n e with
      | some (se,L)=>if len*se=sz then some (sz,(List.range len).flatMap fun i=>L.map fun x=>(i*se+x.1,x.2)) else none
      | none=>none
    | some (.struct fs),some sz=>if P.stoodInHeld t then none else match FF (KV P n) sz fs.toList with
      | some L=>some (sz,L)
      | none=>none
    | _,_=>none
def okC (xs:Array Value) (L:List (Nat × SK)):Bool:=L.all fun x=>match xs[x.1]? with
  | some v=>decide (skV v=some x.2)
  | none=>false
def eqC (xs ys:Array Value) (L:List (Nat × SK)):Bool:=L.all fun x=>match xs[x.1]?,ys[x.1]? with
  | some a,some b=>scE a b
  | _,_=>false
def CellsOf (P:Program) (t:TypeId) (v:Value) (xs:Array Value):Prop:=(EI P t=some true∧v=.agg xs)∨(EI P t=some false∧xs=#[v])
section
variable {P:Program} {I:Imm} {M:Seg}
theorem flat_size {n:Nat} {t:TypeId} {sz:Nat} {L:List (Nat × SK)} (h:KV P n t=some (sz,L)):DY P t=some sz:=by
  cases n with
  | zero=>cases h
  | succ n=>
    unfold KV at h
    split at h
    · cases h;assumption
    · cases h;assumption
    · cases h;assumption
    · split at h
      · split at h
        · cases h;assumption
        · cases h
      · cases h
    · split at h
      · cases h
      · split at h
        · cases h;assumption
        · cases h
    · cases h
theorem flat_agg {n:Nat} {t:TypeId} {sz:Nat} {L:List (Nat × SK)} (h:KV P n t=some (sz,L)):EI P t=some true∨(EI P t=some false∧sz=1):=by
  cases n with
  | zero=>cases h
  | succ n=>
    unfold KV at h;unfold EI
    split at h <;> rename_i hu hs <;> first | (cases h;done) | (rw [hu];first | exact .inl rfl | (cases h;exact .inr ⟨rfl,rfl⟩))
theorem KC {n : Nat} {t : TypeId} {sz off : Nat} {L : List (Nat × SK)} {cs : Array Value} {Q : Value → Seg → Prop} (h : KV P n t = some (sz, L)) (hle : off + sz ≤ cs.size)
    (hq:∀ v,CellsOf P t v (cs.extract off (off+sz))→Q v M):wpL P (part t cs off) Q I M:=by
  unfold part;rcases flat_agg h with ha | ⟨ha,rfl⟩
  · rw [AC,LW ha]
    simp only [if_true];rw [AC,CX (flat_size h)];exact hq _ (.inl ⟨ha,rfl⟩)
  · rw [AC,LW ha]
    have hlt:off<cs.size:=by omega
    simp only [Bool.false_eq_true,if_false,Array.getElem?_eq_getElem hlt];refine hq _ (.inr ⟨ha,?_⟩)
    apply Array.ext
    · simp;omega
    · intro i h1 h2
      have:i=0:=by simp at h2;omega
      subst this;simp
theorem okC_map {xs : Array Value} {L : List (Nat × SK)} {off sz : Nat} (hle : off + sz ≤ xs.size) (hL : ∀ x ∈ L, x.1 < sz) :
    okC xs (L.map fun x=>(off+x.1,x.2))=okC (xs.extract off (off+sz)) L:=by
  induction L with
  | nil=>rfl
  | cons x L ih=>
    have hx:=hL x List.mem_cons_self;have ih':=ih (fun y hy=>hL y (List.mem_cons_of_mem _ hy));have e:(xs.extract off (off+sz))[x.1]?=xs[off+x.1]?:=by
      rw [Array.getElem?_extract];rw [if_pos (by omega)]
    simp only [okC,List.map_cons,List.all_cons,e] at ih' ⊢;rw [ih']
theorem eqC_map {xs ys : Array Value} {L : List (Nat × SK)} {off sz : Nat} (hx : off + sz ≤ xs.size) (hy : off + sz ≤ ys.size) (hL : ∀ x ∈ L, x.1 < sz) :
    eqC xs ys (L.map fun x=>(off+x.1,x.2))=eqC (xs.extract off (off+sz)) (ys.extract off (off+sz)) L:=by
  induction L with
  | nil=>rfl
  | cons x L ih=>
    have hx':=hL x List.mem_cons_self;have ih':=ih (fun y hy=>hL y (List.mem_cons_of_mem _ hy));have e:(xs.extract off (off+sz))[x.1]?=xs[off+x.1]?:=by
      rw [Array.getElem?_extract,if_pos (by omega)]
    have e':(ys.extract off (off+sz))[x.1]?=ys[off+x.1]?:=by
      rw [Array.getElem?_extract,if_pos (by omega)]
    simp only [eqC,List.map_cons,List.all_cons,e,e'] at ih' ⊢;rw [ih']
theorem okC_append {xs:Array Value} {A B:List (Nat × SK)}:okC xs (A++B)=(okC xs A&&okC xs B):=by simp [okC]
theorem eqC_append {xs ys:Array Value} {A B:List (Nat × SK)}:eqC xs ys (A++B)=(eqC xs ys A&&eqC xs ys B):=by simp [eqC]
theorem flat_lt:∀ (n:Nat) (t:TypeId) (sz:Nat) (L:List (Nat × SK)),KV P n t=some (sz,L)→∀ x∈L,x.1<sz:=by
  intro n
  induction n with
  | zero=>intro t sz L h;cases h
  | succ n ih=>
    intro t sz L h x hx;unfold KV at h
    split at h
    · cases h;simp at hx;subst hx;simp
    · cases h;simp at hx;subst hx;simp
    · cases h;simp at hx;subst hx;simp
    · rename_i len e sz' hu hs
      split at h
      · rename_i se Le he
        split at h
        · cases h
          obtain ⟨i,hi,hx⟩:=List.mem_flatMap.1 hx;obtain ⟨y,hy,rfl⟩:=List.mem_map.1 hx;have h1:=ih _ _ _ he y hy;have h2:=List.mem_range.1 hi;have:i*se+se≤len*se:=by rw [← Nat.succ_mul];exact Nat.mul_le_mul_right _ h2
          simp only;omega
        · cases h
      · cases h
    · split at h
      · cases h
      · split at h
        · rename_i fs sz' hu hs _ L' hf
          cases h;have key:∀ (fs:List Field) (L:List (Nat × SK)),FF (KV P n) sz fs=some L→∀ x∈L,x.1<sz:=by
            intro fs
            induction fs with
            | nil=>intro L hL x hx;simp only [FF,Option.some.injEq] at hL;subst hL;simp at hx
            | cons f fs ihf=>
              intro L hL x hx;simp only [FF] at hL
              split at hL
              · cases hL
              · split at hL
                · rename_i sf Lf Mf h1 h2
                  split at hL
                  · rename_i hle
                    cases hL;rcases List.mem_append.1 hx with hx | hx
                    · obtain ⟨y,hy,rfl⟩:=List.mem_map.1 hx
                      have:=ih _ _ _ h1 y hy;simp only;omega
                    · exact ihf _ h2 x hx
                  · cases hL
                · cases hL
          exact key _ _ hf x hx
        · cases h
    · cases h
theorem wpL_equalF : ∀ (n : Nat) (t : TypeId) (sz : Nat) (L : List (Nat × SK)), KV P n t = some (sz, L) → ∀ (d : Nat), n ≤ d → ∀ (v u : Value) (xs ys : Array Value), CellsOf P t v xs → CellsOf P t u ys → xs.size = sz → ys.size = sz →
    okC xs L=true→okC ys L=true→∀ (Q:Bool→Seg→Prop),Q (eqC xs ys L) M→wpL P (Op.equalIn d t v u) Q I M:=by
  intro n
  induction n with
  | zero=>intro t sz L h;cases h
  | succ n ih=>
    intro t sz L h d hd v u xs ys hv hu hxs hys okx oky Q hq;obtain ⟨d,rfl⟩:∃ d',d=d'+1:=⟨d-1,by omega⟩;have hfl:=h;unfold KV at h
    split at h
    · rename_i k hun hs
      cases h;have ha:EI P t=some false:=by unfold EI;rw [hun]
      rcases hv with ⟨hv,_⟩ | ⟨_,rfl⟩
      · rw [ha] at hv;cases hv
      rcases hu with ⟨hu,_⟩ | ⟨_,rfl⟩
      · rw [ha] at hu;cases hu
      have h1:skV v=some (.i k):=by simpa [okC] using okx
      have h2:skV u=some (.i k):=by simpa [okC] using oky
      cases v <;> simp [skV] at h1
      cases u <;> simp [skV] at h2
      subst h1;subst h2;unfold Op.equalIn;rw [AC,AF hun];simp only [if_true];simp [eqC,scE] at hq;exact hq
    · rename_i hun hs
      cases h;have ha:EI P t=some false:=by unfold EI;rw [hun]
      rcases hv with ⟨hv,_⟩ | ⟨_,rfl⟩
      · rw [ha] at hv;cases hv
      rcases hu with ⟨hu,_⟩ | ⟨_,rfl⟩
      · rw [ha] at hu;cases hu
      have h1:skV v=some .b:=by simpa [okC] using okx
      have h2:skV u=some .b:=by simpa [okC] using oky
      cases v <;> simp [skV] at h1
      cases u <;> simp [skV] at h2
      unfold Op.equalIn;rw [AC,AF hun];simp [eqC,scE] at hq;exact hq
    · rename_i hun hs
      cases h;have ha:EI P t=some false:=by unfold EI;rw [hun]
      rcases hv with ⟨hv,_⟩ | ⟨_,rfl⟩
      · rw [ha] at hv;cases hv
      rcases hu with ⟨hu,_⟩ | ⟨_,rfl⟩
      · rw [ha] at hu;cases hu
      have h1:skV v=some .s:=by simpa [okC] using okx
      have h2:skV u=some .s:=by simpa [okC] using oky
      cases v <;> simp [skV] at h1
      cases u <;> simp [skV] at h2
      unfold Op.equalIn;rw [AC,AF hun];simp [eqC,scE] at hq;exact hq
    · rename_i len e sz' hun hs
      split at h
      · rename_i se Le he
        split at h
        · rename_i hsz
          cases h;have ha:EI P t=some true:=by unfold EI;rw [hun]
          rcases hv with ⟨_,rfl⟩ | ⟨hv,_⟩
          case inr=>rw [ha] at hv;cases hv
          rcases hu with ⟨_,rfl⟩ | ⟨hu,_⟩
          case inr=>rw [ha] at hu;cases hu
          unfold Op.equalIn;rw [AC,AF hun];simp only;rw [AC,CX (flat_size he)]
          have key : ∀ (m j : Nat) (Q : Bool → Seg → Prop), j + m = len → okC xs ((List.range' j m).flatMap fun i => Le.map fun x => (i * se + x.1, x.2)) = true → okC ys ((List.range' j m).flatMap fun i => Le.map fun x => (i * se + x.1, x.2)) = true →
              Q (eqC xs ys ((List.range' j m).flatMap fun i=>Le.map fun x=>(i*se+x.1,x.2))) M→wpL P (do
                for i in List.range' j m do
                  if !(← Op.equalIn d e (← part e xs (i*se)) (← part e ys (i*se))) then return false
                pure true:Sem Bool) Q I M:=by
            intro m
            induction m with
            | zero=>intro j Q _ _ _ hq;simpa [eqC,DC] using hq
            | succ m ihm=>
              intro j Q hj ok1 ok2 hq;rw [List.range'_succ,List.flatMap_cons] at ok1 ok2 hq;rw [okC_append,Bool.and_eq_true] at ok1 ok2;rw [eqC_append] at hq;have hle:j*se+se≤len*se:=by rw [← Nat.succ_mul];exact Nat.mul_le_mul_right _ (by omega)
              have hlt:=flat_lt n e se Le he;rw [okC_map (sz:=se) (by omega) hlt] at ok1 ok2;rw [eqC_map (sz:=se) (by omega) (by omega) hlt] at hq;rw [List.range'_succ];have next:=fun hq=>ihm (j+1) Q (by omega) ok1.2 ok2.2 hq
              simp only [List.forIn_cons] at next ⊢;rw [AC,AC,AC];refine KC he (by omega) fun a ca=>?_
              rw [AC];refine KC he (by omega) fun b cb=>?_
              rw [AC];refine ih e se Le he d (by omega) a b _ _ ca cb (by simp;omega) (by simp;omega) ok1.1 ok2.1 _ ?_;cases hb:eqC (xs.extract (j*se) (j*se+se)) (ys.extract (j*se) (j*se+se)) Le with
              | false=>rw [hb] at hq;exact hq
              | true=>
                rw [hb,Bool.true_and] at hq;have:=next hq;rw [AC] at this;exact this
          rw [Std.Legacy.Range.forIn_eq_forIn_range'];have:=key len 0 Q (by omega) (by rwa [← List.range_eq_range']) (by rwa [← List.range_eq_range']) (by rwa [← List.range_eq_range'])
          simpa using this
        · cases h
      · cases h
    · rename_i fs sz' hun hs
      split at h
      · cases h
      · rename_i hst
        split at h
        · rename_i L' hf
          cases h;have ha:EI P t=some true:=by unfold EI;rw [hun]
          rcases hv with ⟨_,rfl⟩ | ⟨hv,_⟩
          case inr=>rw [ha] at hv;cases hv
          rcases hu with ⟨_,rfl⟩ | ⟨hu,_⟩
          case inr=>rw [ha] at hu;cases hu
          unfold Op.equalIn;rw [AC,AF hun];show wpL P (program >>= _) Q I M;rw [AC];show wpL P _ Q I M;simp only [hst,Bool.false_eq_true,if_false]
          have key : ∀ (fs : List Field) (L : List (Nat × SK)), FF (KV P n) sz fs = some L → okC xs L = true → okC ys L = true → Q (eqC xs ys L) M → wpL P (do
              for f in fs do
                if f.name≠"_" then
                  if !(← Op.equalIn d f.type (← part f.type xs f.offset) (← part f.type ys f.offset)) then return false
              pure true:Sem Bool) Q I M:=by
            intro fs
            induction fs with
            | nil=>intro L hL _ _ hq;simp only [FF,Option.some.injEq] at hL;subst hL;exact hq
            | cons f fs ihf=>
              intro L hL ok1 ok2 hq;simp only [FF] at hL
              split at hL
              · cases hL
              · rename_i hne
                split at hL
                · rename_i sf Lf Mf h1 h2
                  split at hL
                  · rename_i hle
                    cases hL;have hlt:=flat_lt n f.type sf Lf h1;rw [okC_append,okC_map (sz:=sf) (by omega) hlt,Bool.and_eq_true] at ok1 ok2;rw [eqC_append,eqC_map (sz:=sf) (by omega) (by omega) hlt] at hq;have next:=fun hq=>ihf Mf h2 ok1.2 ok2.2 hq
                    simp only [List.forIn_cons] at next ⊢;rw [AC,AC];simp only [ne_eq,hne,not_false_eq_true,if_true];rw [AC];refine KC h1 (by omega) fun a ca=>?_
                    rw [AC];refine KC h1 (by omega) fun b cb=>?_
                    rw [AC];refine ih f.type sf Lf h1 d (by omega) a b _ _ ca cb (by simp;omega) (by simp;omega) ok1.1 ok2.1 _ ?_;cases hb:eqC (xs.extract f.offset (f.offset+sf)) (ys.extract f.offset (f.offset+sf)) Lf with
                    | false=>rw [hb] at hq;exact hq
                    | true=>
                      rw [hb,Bool.true_and] at hq;have:=next hq;rw [AC] at this;exact this
                  · cases hL
                · cases hL
          have:=key fs.toList _ hf okx oky hq;simp only [Array.forIn_toList] at this;exact this
        · cases h
    · cases h
theorem wpL_checkF : ∀ (n : Nat) (t : TypeId) (sz : Nat) (L : List (Nat × SK)), KV P n t = some (sz, L) → ∀ (d : Nat), n ≤ d → ∀ (em : Bool) (v : Value) (xs : Array Value), CellsOf P t v xs → xs.size = sz →
    ∀ (Q:Unit→Seg→Prop),Q () M→wpL P (Instr.checkKey em d t v) Q I M:=by
  intro n
  induction n with
  | zero=>intro t sz L h;cases h
  | succ n ih=>
    intro t sz L h d hd em v xs hv hxs Q hq;obtain ⟨d,rfl⟩:∃ d',d=d'+1:=⟨d-1,by omega⟩;unfold KV at h
    split at h
    · rename_i k hun hs
      unfold Instr.checkKey;rw [AC,AF hun];exact hq
    · rename_i hun hs
      unfold Instr.checkKey;rw [AC,AF hun];exact hq
    · rename_i hun hs
      unfold Instr.checkKey;rw [AC,AF hun];exact hq
    · rename_i len e sz' hun hs
      split at h
      · rename_i se Le he
        split at h
        · rename_i hsz
          cases h;have ha:EI P t=some true:=by unfold EI;rw [hun]
          rcases hv with ⟨_,rfl⟩ | ⟨hv,_⟩
          case inr=>rw [ha] at hv;cases hv
          unfold Instr.checkKey;rw [AC,AF hun];simp only
          have key : ∀ (m j : Nat) (Q : Unit → Seg → Prop), j + m = len → Q () M → wpL P (do
                for i in List.range' j m do Instr.checkKey em d e (← part e xs (i*(← sizeOf e))):Sem Unit) Q I M:=by
            intro m
            induction m with
            | zero=>intro j Q _ hq;simpa [DC] using hq
            | succ m ihm=>
              intro j Q hj hq;have hle:j*se+se≤len*se:=by rw [← Nat.succ_mul];exact Nat.mul_le_mul_right _ (by omega)
              rw [List.range'_succ];have next:=ihm (j+1) Q (by omega) hq;simp only [List.forIn_cons] at next ⊢;rw [AC,AC,AC,CX (flat_size he),AC];refine KC he (by omega) fun a ca=>?_
              rw [AC];refine ih e se Le he d (by omega) em a _ ca (by simp;omega) _ ?_;rw [AC] at next;exact next
          rw [Std.Legacy.Range.forIn_eq_forIn_range'];have:=key len 0 Q (by omega) hq
          simpa using this
        · cases h
      · cases h
    · rename_i fs sz' hun hs
      split at h
      · cases h
      · split at h
        · rename_i L' hf
          cases h;have ha:EI P t=some true:=by unfold EI;rw [hun]
          rcases hv with ⟨_,rfl⟩ | ⟨hv,_⟩
          case inr=>rw [ha] at hv;cases hv
          unfold Instr.checkKey;rw [AC,AF hun];simp only
          have key : ∀ (fs : List Field) (L : List (Nat × SK)), FF (KV P n) sz fs = some L → Q () M → wpL P (do
              for f in fs do
                if f.name≠"_" then Instr.checkKey em d f.type (← part f.type xs f.offset):Sem Unit) Q I M:=by
            intro fs
            induction fs with
            | nil=>intro L hL hq;exact hq
            | cons f fs ihf=>
              intro L hL hq;simp only [FF] at hL
              split at hL
              · cases hL
              · rename_i hne
                split at hL
                · rename_i sf Lf Mf h1 h2
                  split at hL
                  · rename_i hle
                    have next:=ihf Mf h2 hq;simp only [List.forIn_cons] at next ⊢;simp only [ne_eq,hne,not_false_eq_true,if_true];rw [AC,AC,AC];refine KC h1 (by omega) fun a ca=>?_
                    rw [AC];refine ih f.type sf Lf h1 d (by omega) em a _ ca (by simp;omega) _ ?_;rw [AC] at next;exact next
                  · cases hL
                · cases hL
          have:=key fs.toList _ hf hq;simp only [Array.forIn_toList] at this;exact this
        · cases h
    · cases h
theorem keyOk_flat {κ : Type} [DecidableEq κ] {kt : TypeId} {n sz : Nat} {L : List (Nat × SK)} (hflat : KV P n kt = some (sz, L)) (hn : n ≤ 10000) (hagg : EI P kt = some true) (cells : κ → Array Value) (hsz : ∀ k, (cells k).size = sz)
    (hok:∀ k,okC (cells k) L=true) (heq:∀ a b,eqC (cells a) (cells b) L=decide (a=b)):KeyOk P kt (fun k=>.agg (cells k)) where
  inj:=fun a b e=>by
    simp only [Value.agg.injEq] at e;have h1:=heq a a;have h2:=heq a b;rw [← e,h1] at h2
    simpa using h2
  check:=fun em k Q I M hq=>wpL_checkF n kt sz L hflat 10000 hn em _ _ (.inl ⟨hagg,rfl⟩) (hsz k) Q hq
  find:=fun k es kvs Q I M hes hq=>by
    unfold Instr.findKey;obtain ⟨td,htd,hfn⟩:∃ td,P.underlying kt=some td∧∀ (x y:Value),Instr.sameNow td (.agg x.cells) y=none:=by
      unfold EI at hagg
      split at hagg
      · rename_i h;exact ⟨_,h,fun _ _=>rfl⟩
      · rename_i h;exact ⟨_,h,fun _ _=>rfl⟩
      · cases hagg
      · cases hagg
    rw [AC,AF htd]
    have ask : ∀ (es : List MapEntry) (kvs : List (κ × Value)) (i : Nat) (Q : Option (Nat × Value) → Seg → Prop), es.map (fun e => (e.key, e.val)) = kvs.map (entOf fun k => .agg (cells k)) → Q (HZ k kvs i) M →
        wpL P (Instr.findAsking kt (.agg (cells k)) es i) Q I M:=by
      intro es
      induction es with
      | nil=>
        intro kvs i Q h hq;cases kvs with
        | nil=>exact hq
        | cons x r=>simp at h
      | cons e es ih=>
        intro kvs i Q h hq;cases kvs with
        | nil=>simp at h
        | cons x r=>
          simp only [List.map_cons,List.cons.injEq,entOf,Prod.mk.injEq] at h;obtain ⟨⟨h1,h2⟩,h3⟩:=h;unfold Instr.findAsking;rw [AC];unfold Op.equal;rw [h1];refine wpL_equalF n kt sz L hflat _ (by show n≤10000;exact hn) _ _ _ _ (.inl ⟨hagg,rfl⟩) (.inl ⟨hagg,rfl⟩) (hsz _) (hsz _) (hok _) (hok _) _ ?_;rw [heq];simp only [HZ] at hq
          by_cases hx:x.1=k
          · rw [if_pos hx] at hq
            rw [if_pos (by simp [hx]),h2];exact hq
          · rw [if_neg hx] at hq
            rw [if_neg (by simpa using Ne.symm hx)];exact ih r (i+1) Q h3 hq
    cases es with
    | nil=>
      cases kvs with
      | nil=>exact hq
      | cons x r=>simp at hes
    | cons e es=>
      have h1:Instr.findNow td (.agg (cells k)) (e::es) 0=none:=by
        have:=hfn (.agg (cells k)) e.key;have h2:(Value.agg (cells k)).cells=cells k:=rfl;rw [h2] at this;simp only [Instr.findNow,this]
      simp only [h1];exact ask (e::es) kvs 0 Q hes hq
end
end Go.Sl
namespace Go.Sh
open Go Go.Sl
def mk3 (f t j:Nat):Shift:=⟨f,t,j⟩
def FW (Y:Yard) (f t k:Nat):List Shift:=((List.range' k ((Y.tracks.getD f []).length-k)).map fun j=>mk3 f t (j+1)).filter fun s=>decide (CJ Y s=0)
def IH (Y:Yard) (f t:Nat):List Shift:=(List.range' t (Y.tracks.length-t)).flatMap fun t=>FW Y f t 0
def JF (Y:Yard) (f:Nat):List Shift:=(List.range' f (Y.tracks.length-f)).flatMap fun f=>IH Y f 0
def draws (Y:Yard):List Shift:=JF Y 0
theorem FU {k n:Nat} (h:k<n):List.range' k (n-k)=k::List.range' (k+1) (n-(k+1)):=by
  have:n-k=(n-(k+1))+1:=by omega
  rw [this,List.range'_succ]
theorem KF {Y:Yard} {f t k:Nat} (h:k<(Y.tracks.getD f []).length) (hm:CJ Y (mk3 f t (k+1))=0):FW Y f t k=mk3 f t (k+1)::FW Y f t (k+1):=by
  unfold FW;rw [FU h];simp [hm]
theorem drawsFT_no {Y:Yard} {f t k:Nat} (h:k<(Y.tracks.getD f []).length) (hm:CJ Y (mk3 f t (k+1))≠0):FW Y f t k=FW Y f t (k+1):=by
  unfold FW;rw [FU h];simp [hm]
theorem PI {Y:Yard} {f t k:Nat} (h:(Y.tracks.getD f []).length≤k):FW Y f t k=[]:=by
  unfold FW;rw [show (Y.tracks.getD f []).length-k=0 by omega];rfl
theorem drawsF_step {Y:Yard} {f t:Nat} (h:t<Y.tracks.length):IH Y f t=FW Y f t 0++IH Y f (t+1):=by
  unfold IH;rw [FU h];simp
theorem drawsF_done {Y:Yard} {f t:Nat} (h:Y.tracks.length≤t):IH Y f t=[]:=by
  unfold IH;rw [show Y.tracks.length-t=0 by omega];rfl
theorem drawsY_step {Y:Yard} {f:Nat} (h:f<Y.tracks.length):JF Y f=IH Y f 0++JF Y (f+1):=by
  unfold JF;rw [FU h];simp
theorem drawsY_done {Y:Yard} {f:Nat} (h:Y.tracks.length≤f):JF Y f=[]:=by
  unfold JF;rw [show Y.tracks.length-f=0 by omega];rfl
theorem GY {Y:Yard} {s:Shift} (h:s∈draws Y):CJ Y s=0:=by
  simp only [draws,JF,IH,FW,List.mem_flatMap,List.mem_filter,decide_eq_true_eq] at h;obtain ⟨_,_,_,_,_,h⟩:=h;exact h
theorem flatMap_le {α β:Type} {f:α→List β} {c:Nat}:∀ (l:List α),(∀ x∈l,(f x).length≤c)→(l.flatMap f).length≤l.length*c:=by
  intro l
  induction l with
  | nil=>intro _;simp
  | cons x l ih=>
    intro h;rw [List.flatMap_cons,List.length_append,List.length_cons,Nat.succ_mul];have:=h x List.mem_cons_self;have:=ih fun y hy=>h y (List.mem_cons_of_mem _ hy)
    omega
theorem drawsFT_le {Y:Yard} (h:GoodY Y) (f t:Nat):(FW Y f t 0).length≤5:=by
  unfold FW;refine Nat.le_trans (List.length_filter_le _ _) ?_;rw [List.length_map,List.length_range',Nat.sub_zero]
  by_cases hf:f<Y.tracks.length
  · have:=DW (AJ (d:=[]) hf);have:=h.sum;omega
  · simp [List.getD,List.getElem?_eq_none (Nat.le_of_not_lt hf)]
theorem draws_le {Y:Yard} (h:GoodY Y) (h3:Y.tracks.length≤3):(draws Y).length≤45:=by
  have h1:∀ f,(IH Y f 0).length≤15:=fun f=>by
    have:=flatMap_le (f:=fun t=>FW Y f t 0) (c:=5) (List.range' 0 (Y.tracks.length-0)) fun t _=>drawsFT_le h f t
    rw [List.length_range'] at this;unfold IH;omega
  have:=flatMap_le (f:=fun f=>IH Y f 0) (c:=15) (List.range' 0 (Y.tracks.length-0)) fun f _=>h1 f
  rw [List.length_range'] at this;unfold draws JF;omega
theorem GoodY.draws {Y:Yard} (h:GoodY Y) (hv:Valid Y):(draws Y).length≤1000000:=by
  have:=draws_le h (by have:=hv.fine.room3;have:=hv.fine.len;omega);omega
def putP (p:List Int) (c i k:Nat):List Int:=(p.set (2*c) i).set (2*c+1) k
def goPT (i:Nat):Nat→List Int→List Int→List Int
  | _,[],p=>p
  | k,c::r,p=>goPT i (k+1) r (putP p c.toNat i k)
def goP:Nat→List (List Int)→List Int→List Int
  | _,[],p=>p
  | i,t::ts,p=>goP (i+1) ts (goPT i 0 t p)
def zero10:List Int:=[0,0,0,0,0,0,0,0,0,0]
abbrev Place:={ l:List Int // l.length=10 }
theorem HK (p:List Int) (c i k:Nat):(putP p c i k).length=p.length:=by simp [putP]
theorem goPT_length (i:Nat):∀ (t:List Int) (k:Nat) (p:List Int),(goPT i k t p).length=p.length:=by
  intro t
  induction t with
  | nil=>intro k p;rfl
  | cons c r ih=>intro k p;rw [goPT,ih,HK]
theorem goP_length:∀ (ts:List (List Int)) (i:Nat) (p:List Int),(goP i ts p).length=p.length:=by
  intro ts
  induction ts with
  | nil=>intro i p;rfl
  | cons t ts ih=>intro i p;rw [goP,ih,goPT_length]
def BC (Y:Yard):Place:=⟨goP 0 Y.tracks zero10,by rw [goP_length];rfl⟩
theorem goPT_step {i j:Nat} {t p:List Int} (h:j<t.length):goPT i j (t.drop j) p=goPT i (j+1) (t.drop (j+1)) (putP p (t.getD j 0).toNat i j):=by
  rw [BR (d:=0) h];rfl
theorem goPT_done {i j:Nat} {t p:List Int} (h:t.length≤j):goPT i j (t.drop j) p=p:=by rw [DA h];rfl
theorem goP_step {k:Nat} {ts:List (List Int)} {p:List Int} (h:k<ts.length):goP k (ts.drop k) p=goP (k+1) (ts.drop (k+1)) (goPT k 0 (ts.getD k []) p):=by
  rw [BR (d:=[]) h];rfl
theorem goP_done {k:Nat} {ts:List (List Int)} {p:List Int} (h:ts.length≤k):goP k (ts.drop k) p=p:=by rw [DA h];rfl
def at2 (p:List Int) (c:Nat):Int × Int:=(p.getD (2*c) 0,p.getD (2*c+1) 0)
theorem at2_put_same {p:List Int} {c i k:Nat} (h:2*c+1<p.length):at2 (putP p c i k) c=(↑i,↑k):=by
  simp only [at2,putP,List.getD,Prod.mk.injEq]
  constructor
  · rw [List.getElem?_set_ne (by omega),List.getElem?_set_self (by omega)];rfl
  · rw [List.getElem?_set_self (by rw [List.length_set];omega)];rfl
theorem at2_put_other {p:List Int} {c c' i k:Nat} (h:c≠c'):at2 (putP p c i k) c'=at2 p c':=by
  simp only [at2,putP,List.getD,Prod.mk.injEq]
  constructor
  · rw [List.getElem?_set_ne (by omega),List.getElem?_set_ne (by omega)]
  · rw [List.getElem?_set_ne (by omega),List.getElem?_set_ne (by omega)]
theorem goPT_other (i:Nat):∀ (t:List Int) (k:Nat) (p:List Int) (c:Nat),(∀ x∈t,0≤x)→(c:Int)∉t→at2 (goPT i k t p) c=at2 p c:=by
  intro t
  induction t with
  | nil=>intro k p c _ _;rfl
  | cons x r ih=>
    intro k p c hx hc;rw [goPT,ih _ _ _ (fun y hy=>hx y (List.mem_cons_of_mem _ hy)) (fun h=>hc (List.mem_cons_of_mem _ h))];refine at2_put_other fun e=>hc ?_
    have:=hx x List.mem_cons_self;rw [← e,Int.toNat_of_nonneg this];exact List.mem_cons_self
theorem goPT_hit (i:Nat):∀ (t:List Int) (k:Nat) (p:List Int) (j:Nat),(∀ x∈t,0≤x∧2*x+1<p.length)→t.Nodup→j<t.length→at2 (goPT i k t p) (t.getD j 0).toNat=(↑i,((k+j:Nat):Int)):=by
  intro t
  induction t with
  | nil=>intro k p j _ _ h;simp at h
  | cons x r ih=>
    intro k p j hx hn hj;have hn':=List.nodup_cons.1 hn;cases j with
    | zero=>
      rw [goPT,List.getD_cons_zero];have hx0:=hx x List.mem_cons_self;rw [goPT_other i r _ _ _ (fun y hy=>(hx y (List.mem_cons_of_mem _ hy)).1) (by rw [Int.toNat_of_nonneg hx0.1];exact hn'.1)];exact at2_put_same (by omega)
    | succ j=>
      rw [goPT,List.getD_cons_succ,ih _ _ _ (fun y hy=>by rw [HK];exact hx y (List.mem_cons_of_mem _ hy)) hn'.2 (by simpa using hj)];simp only [Prod.mk.injEq,true_and];omega
theorem goP_other:∀ (ts:List (List Int)) (i:Nat) (p:List Int) (c:Nat),(∀ x∈ts.flatten,0≤x)→(c:Int)∉ts.flatten→at2 (goP i ts p) c=at2 p c:=by
  intro ts
  induction ts with
  | nil=>intro i p c _ _;rfl
  | cons t ts ih=>
    intro i p c hx hc;simp only [List.flatten_cons,List.mem_append] at hx hc;rw [goP,ih _ _ _ (fun x h=>hx x (.inr h)) (fun h=>hc (.inr h)),goPT_other _ _ _ _ _ (fun x h=>hx x (.inl h)) (fun h=>hc (.inl h))]
theorem goP_hit : ∀ (ts : List (List Int)) (i : Nat) (p : List Int) (k j : Nat), (∀ x ∈ ts.flatten, 0 ≤ x ∧ 2 * x + 1 < p.length) → ts.flatten.Nodup → k < ts.length → j < (ts.getD k []).length →
    at2 (goP i ts p) ((ts.getD k []).getD j 0).toNat=(((i+k:Nat):Int),↑j):=by
  intro ts
  induction ts with
  | nil=>intro i p k j _ _ h;simp at h
  | cons t ts ih=>
    intro i p k j hx hn hk hj;simp only [List.flatten_cons,List.mem_append] at hx hn;have hn':=List.nodup_append.1 hn;cases k with
    | zero=>
      simp only [List.getD_cons_zero] at hj ⊢;have hmem:t.getD j 0∈t:=AJ hj;have h0:=hx _ (.inl hmem);rw [goP,goP_other _ _ _ _ (fun x h=>(hx x (.inr h)).1) (by rw [Int.toNat_of_nonneg h0.1];exact fun h=>hn'.2.2 _ hmem _ h rfl),goPT_hit _ _ _ _ _ (fun x h=>hx x (.inl h)) hn'.1 hj];simp
    | succ k=>
      simp only [List.getD_cons_succ] at hj ⊢;rw [goP,ih _ _ _ _ (fun x h=>by rw [goPT_length];exact hx x (.inr h)) hn'.2.1 (by simpa using hk) hj];simp only [Prod.mk.injEq,and_true];omega
structure Kin (A Y:Yard):Prop where
  cars:Y.cars=A.cars
  room:Y.room=A.room
  len:Y.tracks.length=A.tracks.length
  perm:Y.tracks.flatten.Perm A.tracks.flatten
theorem Kin.refl (A:Yard):Kin A A:=⟨rfl,rfl,rfl,List.Perm.refl _⟩
theorem Kin.trans {A B C:Yard} (h:Kin A B) (k:Kin B C):Kin A C:=⟨k.cars.trans h.cars,k.room.trans h.room,k.len.trans h.len,k.perm.trans h.perm⟩
theorem Kin.symm {A B:Yard} (h:Kin A B):Kin B A:=⟨h.cars.symm,h.room.symm,h.len.symm,h.perm.symm⟩
theorem kin_moved {Y:Yard} {s:Shift} (h:CJ Y s=0):Kin Y (moved Y s):=by
  have m:=mayOk h;exact ⟨rfl,rfl,by simp [moved],NQ m.frm m.to m.ne⟩
theorem Kin.moved {A Y:Yard} {s:Shift} (k:Kin A Y) (h:CJ Y s=0):Kin A (moved Y s):=k.trans (kin_moved h)
theorem flat_ok {A Y:Yard} (f:Fine A) (k:Kin A Y):∀ x∈Y.tracks.flatten,0≤x∧2*x+1<(zero10.length:Int):=fun x hx=>by
  have:=MC f.ok x (k.perm.mem_iff.1 hx);have h5:=f.cars;simp only [zero10,List.length_cons,List.length_nil];omega
theorem track_eq {A Y Z : Yard} (f : Fine A) (ky : Kin A Y) (kz : Kin A Z) (h : BC Y = BC Z) {k j : Nat} (hk : k < Y.tracks.length) (hj : j < (Y.tracks.getD k []).length) :
    j<(Z.tracks.getD k []).length∧(Z.tracks.getD k []).getD j 0=(Y.tracks.getD k []).getD j 0:=by
  have hny:Y.tracks.flatten.Nodup:=ky.perm.nodup_iff.2 f.nodup;have hnz:Z.tracks.flatten.Nodup:=kz.perm.nodup_iff.2 f.nodup;have h1:=goP_hit Y.tracks 0 zero10 k j (fun x hx=>flat_ok f ky x hx) hny hk hj
  generalize hc:(Y.tracks.getD k []).getD j 0=c at h1 ⊢
  have hcm:c∈Y.tracks.flatten:=List.mem_flatten.2 ⟨_,AJ (d:=[]) hk,hc▸AJ hj⟩;have hcz:c∈Z.tracks.flatten:=kz.perm.mem_iff.2 (ky.perm.mem_iff.1 hcm);obtain ⟨t,ht,hct⟩:=List.mem_flatten.1 hcz;obtain ⟨k',hk',e1⟩:=List.mem_iff_getElem.1 ht;obtain ⟨j',hj',e2⟩:=List.mem_iff_getElem.1 hct;have e1':Z.tracks.getD k' []=t:=by simp [List.getD,hk',e1]
  have e2':t.getD j' 0=c:=by simp [List.getD,hj',e2]
  have h2:=goP_hit Z.tracks 0 zero10 k' j' (fun x hx=>flat_ok f kz x hx) hnz hk' (by rw [e1'];exact hj');rw [e1',e2'] at h2;have hp:goP 0 Y.tracks zero10=goP 0 Z.tracks zero10:=congrArg Subtype.val h;rw [hp,h2] at h1;simp only [Prod.mk.injEq] at h1;have ek:k'=k:=by omega
  have ej:j'=j:=by omega
  subst ek;subst ej;rw [e1'];exact ⟨hj',e2'⟩
theorem list_eq {α:Type} {d:α} {a b:List α} (hl:a.length=b.length) (h:∀ j,j<a.length→a.getD j d=b.getD j d):a=b:=by
  apply List.ext_getElem hl
  intro i h1 h2;have:=h i h1
  simpa [List.getD,h1,h2] using this
theorem Kin.inj {A Y Z:Yard} (f:Fine A) (ky:Kin A Y) (kz:Kin A Z) (h:BC Y=BC Z):Y=Z:=by
  have hl:Y.tracks.length=Z.tracks.length:=ky.len.trans kz.len.symm;have ht:Y.tracks=Z.tracks:=by
    refine list_eq (d:=[]) hl fun k hk=>?_
    have h1:(Y.tracks.getD k []).length=(Z.tracks.getD k []).length:=by
      rcases Nat.lt_trichotomy (Y.tracks.getD k []).length (Z.tracks.getD k []).length with e | e | e
      · have:=(track_eq f kz ky h.symm (by omega) e).1;omega
      · exact e
      · have:=(track_eq f ky kz h hk e).1;omega
    exact list_eq (d:=0) h1 fun j hj=>((track_eq f ky kz h hk hj).2).symm
  rcases Y with ⟨a,b,c⟩;rcases Z with ⟨a',b',c'⟩
  have h1:=ky.cars;have h2:=kz.cars;have h3:=ky.room;have h4:=kz.room;simp only at h1 h2 h3 h4 ht;rw [h1,h2,h3,h4,ht]
abbrev Met:=List (Place × Nat)
def KW (p:Place):Met→Option Nat
  | []=>none
  | x::r=>if x.1=p then some x.2 else KW p r
def updM (p:Place) (n:Nat):Met→Met
  | []=>[(p,n)]
  | x::r=>if x.1=p then (p,n)::r else x::updM p n r
theorem getM_upd (p q:Place) (n:Nat) (m:Met):KW q (updM p n m)=if p=q then some n else KW q m:=by
  induction m with
  | nil=>by_cases h:p=q <;> simp [updM,KW,h]
  | cons x r ih=>
    simp only [updM]
    by_cases h:x.1=p
    · rw [if_pos h]
      simp only [KW]
      by_cases h2:p=q
      · rw [if_pos h2,if_pos h2]
      · rw [if_neg h2,if_neg h2,if_neg (by rw [h];exact h2)]
    · rw [if_neg h]
      simp only [KW]
      by_cases h3:x.1=q
      · rw [if_pos h3,if_neg (by rw [← h3];exact fun e=>h e.symm),if_pos h3]
      · rw [if_neg h3,ih,if_neg h3]
def metV (m:Met):List (Place × Value):=m.map fun x=>(x.1,.int .i64 (x.2:Int))
theorem metV_get (p:Place) (m:Met):QB p (metV m)=(KW p m).map fun n=>Value.int .i64 (n:Int):=by
  induction m with
  | nil=>rfl
  | cons x r ih=>
    simp only [metV,List.map_cons,QB,KW] at ih ⊢
    split
    · rfl
    · exact ih
theorem metV_upd (p:Place) (n:Nat) (m:Met):upd p (.int .i64 (n:Int)) (metV m)=metV (updM p n m):=by
  induction m with
  | nil=>rfl
  | cons x r ih=>
    simp only [metV,List.map_cons,upd,updM] at ih ⊢
    split
    · rfl
    · rw [ih];rfl
def GQ (f:Shift→Met→Option (List Shift) × Met):List Shift→Met→Option (List Shift) × Met
  | [],met=>(none,met)
  | s::r,met=>match f s met with
    | (some l,met')=>(some (s::l),met')
    | (none,met')=>GQ f r met'
def stopped (o:Option Nat) (d:Nat):Bool:=match o with | some n=>decide (d≤n) | none=>false
def AM (goal:Yard→Bool):Nat→Yard→Met→Option (List Shift) × Met
  | 0,Y,met=>if goal Y then (some [],met) else (none,met)
  | d+1,Y,met=>if goal Y then (some [],met) else if stopped (KW (BC Y) met) (d+1) then (none,met) else GQ (fun s met=>AM goal d (moved Y s) met) (draws Y) (updM (BC Y) (d+1) met)
def plain (goal:Yard→Bool):Nat→Yard→Option (List Shift)
  | 0,Y=>if goal Y then some [] else none
  | d+1,Y=>if goal Y then some [] else (draws Y).findSome? fun s=>(plain goal d (moved Y s)).map (s::·)
theorem plain_goal {goal:Yard→Bool} {Y:Yard} (h:goal Y=true) (d:Nat):plain goal d Y=some []:=by
  cases d <;> simp [plain,h]
theorem plain_down {goal:Yard→Bool} {d:Nat} {Y:Yard} (h:plain goal (d+1) Y=none) {s:Shift} (hs:s∈draws Y):plain goal d (moved Y s)=none:=by
  simp only [plain] at h
  split at h
  · cases h
  · have:=List.findSome?_eq_none_iff.1 h s hs
    simpa using this
def MetInv (A:Yard) (goal:Yard→Bool) (met:Met) (d:Nat):Prop:=
  ∀ Y,Kin A Y→∀ n,KW (BC Y) met=some n→(∀ m,m<n→plain goal m Y=none)∧(n≤d→plain goal n Y=none)
theorem tryAll_ok {A : Yard} {goal : Yard → Bool} {d : Nat} {Y : Yard} (f : Fine A) (kY : Kin A Y)
    (ih:∀ Y met,Kin A Y→MetInv A goal met d→(∀ m,m<d→plain goal m Y=none)→(AM goal d Y met).1=plain goal d Y∧((AM goal d Y met).1=none→MetInv A goal (AM goal d Y met).2 d∧∀ p n,KW p (AM goal d Y met).2=some n→KW p met=some n∨n≤d)) :
    ∀ (ss:List Shift) (met:Met),(∀ s∈ss,s∈draws Y)→MetInv A goal met d→(∀ m,m<d+1→plain goal m Y=none) →
      (GQ (fun s met=>AM goal d (moved Y s) met) ss met).1=(ss.findSome? fun s=>(plain goal d (moved Y s)).map (s::·)) ∧
      ((GQ (fun s met=>AM goal d (moved Y s) met) ss met).1=none→MetInv A goal (GQ (fun s met=>AM goal d (moved Y s) met) ss met).2 d ∧
        ∀ p n,KW p (GQ (fun s met=>AM goal d (moved Y s) met) ss met).2=some n→KW p met=some n∨n≤d):=by
  intro ss
  induction ss with
  | nil=>intro met _ hi _;exact ⟨rfl,fun _=>⟨hi,fun p n h=>.inl h⟩⟩
  | cons s r ihr=>
    intro met hs hi hp;have hsd:=hs s List.mem_cons_self;obtain ⟨h1,h2⟩:=ih (moved Y s) met (kY.moved (GY hsd)) hi (fun m hm=>plain_down (hp (m+1) (by omega)) hsd);simp only [GQ,List.findSome?_cons];rw [← h1];cases hr:AM goal d (moved Y s) met with
    | mk o met'=>
      rw [hr] at h2;cases o with
      | some l=>exact ⟨rfl,fun h=>by cases h⟩
      | none=>
        obtain ⟨h3,h4⟩:=h2 rfl;obtain ⟨h5,h6⟩:=ihr met' (fun x hx=>hs x (List.mem_cons_of_mem _ hx)) h3 hp;refine ⟨h5,fun h=>?_⟩;obtain ⟨h7,h8⟩:=h6 h;refine ⟨h7,fun p n hn=>?_⟩;rcases h8 p n hn with h | h
        · exact h4 p n h
        · exact .inr h
theorem searchM_ok {A : Yard} {goal : Yard → Bool} (f : Fine A) : ∀ (d : Nat) (Y : Yard) (met : Met), Kin A Y → MetInv A goal met d → (∀ m, m < d → plain goal m Y = none) →
    (AM goal d Y met).1=plain goal d Y∧((AM goal d Y met).1=none→MetInv A goal (AM goal d Y met).2 d∧∀ p n,KW p (AM goal d Y met).2=some n→KW p met=some n∨n≤d):=by
  intro d
  induction d with
  | zero=>
    intro Y met kY hi hp;simp only [AM,plain]
    split
    · exact ⟨rfl,fun h=>by cases h⟩
    · exact ⟨rfl,fun _=>⟨hi,fun p n h=>.inl h⟩⟩
  | succ d ih=>
    intro Y met kY hi hp;simp only [AM]
    split
    · rename_i hg
      rw [plain_goal hg];exact ⟨rfl,fun h=>by cases h⟩
    rename_i hg
    split
    · rename_i hst
      cases hgm:KW (BC Y) met with
      | none=>rw [hgm] at hst;cases hst
      | some n=>
        rw [hgm] at hst;have hn:d+1≤n:=of_decide_eq_true hst;obtain ⟨h1,h2⟩:=hi Y kY n hgm;have:plain goal (d+1) Y=none:=by
          rcases Nat.lt_or_ge (d+1) n with h | h
          · exact h1 _ h
          · have e:n=d+1:=by omega
            subst e;exact h2 (Nat.le_refl _)
        exact ⟨this.symm,fun _=>⟨hi,fun p n h=>.inl h⟩⟩
    · have hi2 : MetInv A goal (updM (BC Y) (d + 1) met) d := fun Z kZ n hn => by
        rw [getM_upd] at hn
        split at hn
        · rename_i he
          cases hn;have e:=Kin.inj f kY kZ he;subst e;exact ⟨hp,fun h=>by omega⟩
        · obtain ⟨h1,h2⟩:=hi Z kZ n hn
          exact ⟨h1,fun h=>h2 (by omega)⟩
      obtain ⟨h1,h2⟩:=tryAll_ok f kY ih (draws Y) (updM (BC Y) (d+1) met) (fun s h=>h) hi2 hp;have e1:plain goal (d+1) Y=(draws Y).findSome? fun s=>(plain goal d (moved Y s)).map (s::·):=by simp only [plain,if_neg hg]
      rw [h1,← e1];refine ⟨rfl,fun hnone=>?_⟩;obtain ⟨h3,h4⟩:=h2 (by rw [h1,← e1];exact hnone);refine ⟨fun Z kZ n hn=>?_,fun p n hn=>?_⟩
      · obtain ⟨g1,g2⟩:=h3 Z kZ n hn
        refine ⟨g1,fun hle=>?_⟩;rcases h4 _ n hn with h | h
        · rw [getM_upd] at h
          split at h
          · rename_i he
            cases h;have e:=Kin.inj f kY kZ he;subst e;exact hnone
          · exact (hi Z kZ n h).2 hle
        · exact g2 h
      · rcases h4 p n hn with h | h
        · rw [getM_upd] at h
          split at h
          · cases h;exact .inr (Nat.le_refl _)
          · exact .inl h
        · exact .inr (by omega)
def CZ (goal:Yard→Bool) (Y:Yard):Option (List Shift):=(List.range 5).findSome? fun d=>plain goal d Y
def GrpFrom (cs:List Car) (ts:List (List Int)) (met:List Int):Prop:=
  ∀ i k,i<ts.length→k<(ts.getD i []).length→0<grp cs ((ts.getD i []).getD k 0) →
    (grp cs ((ts.getD i []).getD k 0)∈met∨∃ c∈(ts.take i).flatten++(ts.getD i []).take k,grp cs c=grp cs ((ts.getD i []).getD k 0))→CE cs (ts.getD i []) ↑k=true
theorem GrpFrom.congr {cs:List Car} {ts:List (List Int)} {m m':List Int} (h:∀ g,g∈m↔g∈m') (hg:GrpFrom cs ts m):GrpFrom cs ts m':=fun i k hi hk h0 hm=>
  hg i k hi hk h0 (hm.elim (fun x=>.inl ((h _).2 x)) .inr)
theorem GrpFrom.cons {cs : List Car} {t : List Int} {ts : List (List Int)} {met : List Int} :
    GrpFrom cs (t::ts) met↔(∀ k,k<t.length→0<grp cs (t.getD k 0)→(grp cs (t.getD k 0)∈met∨∃ c∈t.take k,grp cs c=grp cs (t.getD k 0))→CE cs t ↑k=true)∧GrpFrom cs ts (met++t.map (grp cs)):=by
  constructor
  · intro h
    refine ⟨fun k hk h0 hm=>h 0 k (by simp) hk h0 (by simpa using hm),fun i k hi hk h0 hm=>?_⟩;refine h (i+1) k (by simpa using hi) (by simpa using hk) (by simpa using h0) ?_;simp only [List.getD_cons_succ,List.take_succ_cons,List.flatten_cons];rcases hm with hm | ⟨c,hc,e⟩
    · rcases List.mem_append.1 hm with hm | hm
      · exact .inl hm
      · obtain ⟨c,hc,e⟩:=List.mem_map.1 hm
        exact .inr ⟨c,by simp [hc],e⟩
    · refine .inr ⟨c,?_,e⟩
      rw [List.append_assoc];exact List.mem_append_right _ hc
  · rintro ⟨h1,h2⟩ i k hi hk h0 hm
    cases i with
    | zero=>exact h1 k (by simpa using hk) (by simpa using h0) (by simpa using hm)
    | succ i=>
      simp only [List.getD_cons_succ,List.take_succ_cons,List.flatten_cons] at hk h0 hm ⊢;refine h2 i k (by simpa using hi) hk h0 ?_;rcases hm with hm | ⟨c,hc,e⟩
      · exact .inl (List.mem_append_left _ hm)
      · rw [List.append_assoc] at hc
        rcases List.mem_append.1 hc with hc | hc
        · exact .inl (List.mem_append_right _ (List.mem_map.2 ⟨c,hc,e⟩))
        · exact .inr ⟨c,hc,e⟩
theorem goG_iff {cs : List Car} {ts : List (List Int)} {t : List Int} (ih : ∀ met, goGs cs ts met = 0 ↔ GrpFrom cs ts met) : ∀ (m k : Nat) (met : List Int), k + m = t.length →
    (goG cs t (goGs cs ts) k (t.drop k) met=0 ↔
      (∀ j,k≤j→j<t.length→0<grp cs (t.getD j 0)→(grp cs (t.getD j 0)∈met∨∃ i,k≤i∧i<j∧grp cs (t.getD i 0)=grp cs (t.getD j 0))→CE cs t ↑j=true)∧GrpFrom cs ts (met++(t.drop k).map (grp cs))):=by
  intro m
  induction m with
  | zero=>
    intro k met hk;rw [goG_done (by omega),DA (by omega),ih];simp only [List.map_nil,List.append_nil];exact ⟨fun h=>⟨fun j h1 h2=>by omega,h⟩,fun h=>h.2⟩
  | succ m ihm=>
    intro k met hk;have hlt:k<t.length:=by omega
    by_cases hb:(decide (0<grp cs (t.getD k 0))&&(decide (grp cs (t.getD k 0)∈met)&&!(CE cs t ↑k)))=true
    · rw [goG_hit hlt hb]
      simp only [Bool.and_eq_true,decide_eq_true_eq,Bool.not_eq_true'] at hb
      constructor
      · intro h;cases h
      · rintro ⟨h,_⟩
        have:=h k (Nat.le_refl _) hlt hb.1 (.inl hb.2.1);rw [this] at hb;cases hb.2.2
    · have hb':=Bool.eq_false_iff.2 hb
      rw [goG_miss hlt hb',ihm (k+1) _ (by omega)];have hmem:∀ g,g∈(if grp cs (t.getD k 0)∈met then met else met++[grp cs (t.getD k 0)])↔(g∈met∨g=grp cs (t.getD k 0)):=fun g=>by
        split
        · rename_i h
          exact ⟨.inl,fun h2=>h2.elim id (fun e=>e▸h)⟩
        · simp
      constructor
      · rintro ⟨h1,h2⟩
        refine ⟨fun j hj1 hj2 h0 hm=>?_,h2.congr fun g=>?_⟩
        · rcases Nat.lt_or_ge k j with hkj | hkj
          · refine h1 j hkj hj2 h0 ?_
            rcases hm with hm | ⟨i,hi1,hi2,e⟩
            · exact .inl ((hmem _).2 (.inl hm))
            · rcases Nat.lt_or_ge k i with hki | hki
              · exact .inr ⟨i,hki,hi2,e⟩
              · have:i=k:=by omega
                subst this;exact .inl ((hmem _).2 (.inr e.symm))
          · have:j=k:=by omega
            subst this;rcases hm with hm | ⟨i,hi1,hi2,_⟩
            · simp only [Bool.and_eq_true,decide_eq_true_eq,Bool.not_eq_true',not_and,Bool.not_eq_false] at hb
              exact hb h0 hm
            · omega
        · rw [BR (d:=0) hlt,List.map_cons,List.mem_append,List.mem_append,hmem,List.mem_cons]
          constructor
          · rintro ((h | h) | h)
            · exact .inl h
            · exact .inr (.inl h)
            · exact .inr (.inr h)
          · rintro (h | h | h)
            · exact .inl (.inl h)
            · exact .inl (.inr h)
            · exact .inr h
      · rintro ⟨h1,h2⟩
        refine ⟨fun j hj1 hj2 h0 hm=>?_,h2.congr fun g=>?_⟩
        · refine h1 j (by omega) hj2 h0 ?_
          rcases hm with hm | ⟨i,hi1,hi2,e⟩
          · rcases (hmem _).1 hm with hm | hm
            · exact .inl hm
            · exact .inr ⟨k,Nat.le_refl _,by omega,hm.symm⟩
          · exact .inr ⟨i,by omega,hi2,e⟩
        · rw [BR (d:=0) hlt,List.map_cons,List.mem_append,List.mem_append,hmem,List.mem_cons]
          constructor
          · rintro (h | h | h)
            · exact .inl (.inl h)
            · exact .inl (.inr h)
            · exact .inr h
          · rintro ((h | h) | h)
            · exact .inl h
            · exact .inr (.inl h)
            · exact .inr (.inr h)
theorem goGs_iff {cs:List Car}:∀ (ts:List (List Int)) (met:List Int),goGs cs ts met=0↔GrpFrom cs ts met:=by
  intro ts
  induction ts with
  | nil=>intro met;exact ⟨fun _ i k hi=>by simp at hi,fun _=>rfl⟩
  | cons t ts ih=>
    intro met;have h:=goG_iff (cs:=cs) (ts:=ts) (t:=t) ih t.length 0 met (by omega);rw [List.drop_zero] at h;show goG cs t (goGs cs ts) 0 t met=0↔_;rw [h,GrpFrom.cons];refine and_congr (forall_congr' fun k=>?_) Iff.rfl;refine ⟨fun h hk h0 hm=>h (Nat.zero_le _) hk h0 ?_,fun h _ hk h0 hm=>h hk h0 ?_⟩
    · rcases hm with hm | ⟨c,hc,e⟩
      · exact .inl hm
      · obtain ⟨i,hi,he⟩:=List.mem_iff_getElem.1 hc
        have hi':i<k:=by rw [List.length_take] at hi;omega
        refine .inr ⟨i,Nat.zero_le _,hi',?_⟩;rw [← e,← he];simp only [List.getElem_take,List.getD];rw [List.getElem?_eq_getElem (by omega)];rfl
    · rcases hm with hm | ⟨i,_,hi,e⟩
      · exact .inl hm
      · refine .inr ⟨t.getD i 0,?_,e⟩
        have:(t.take k).getD i 0=t.getD i 0:=by simp [List.getD,List.getElem?_take,hi]
        rw [← this];exact AJ (by rw [List.length_take];omega)
theorem goTrack_of {n:Nat} {fin:List Int→Int}:∀ (t met:List Int),(∀ c∈t,0≤c∧c<n)→(met++t).Nodup→DP n fin t met=fin (met++t):=by
  intro t
  induction t with
  | nil=>intro met _ _;simp [DP]
  | cons c r ih=>
    intro met h hn;have hc:=h c List.mem_cons_self;have hnm:c∉met:=fun hm=>by
      have:=(List.nodup_append.1 hn).2.2 c hm c List.mem_cons_self;exact this rfl
    simp only [DP];rw [if_pos (by simp [inB];omega),if_neg hnm,ih _ (fun x hx=>h x (List.mem_cons_of_mem _ hx)) (by simpa using hn)];simp
theorem goTracks_of {cs : List Car} {fin : List Int → Int} : ∀ (ts : List (List Int)) (rm met : List Int), OkAll cs ts → (met ++ ts.flatten).Nodup → (∀ k, k < ts.length → lenOf cs (ts.getD k []) ≤ rm.getD k 0) →
    CO cs fin ts rm met=fin (met++ts.flatten):=by
  intro ts
  induction ts with
  | nil=>intro rm met _ _ _;simp [CO]
  | cons t r ih=>
    intro rm met h hn hl;simp only [CO];rw [List.flatten_cons,← List.append_assoc] at hn;rw [goTrack_of t met (h t List.mem_cons_self) (List.nodup_append.1 hn).1];have h0:=hl 0 (by simp);have e0:rm.headD 0=rm.getD 0 0:=by cases rm <;> rfl
    rw [List.getD_cons_zero] at h0;rw [if_neg (by omega),ih rm.tail (met++t) (fun x hx=>h x (List.mem_cons_of_mem _ hx)) hn fun k hk=>?_]
    · simp
    · have:=hl (k+1) (by simpa using hk)
      simp only [List.getD_cons_succ] at this;have e:rm.tail.getD k 0=rm.getD (k+1) 0:=by cases rm <;> rfl
      omega
theorem Fine.valid {Y:Yard} (f:Fine Y):Valid Y:=by
  unfold Valid checkErr;rw [if_neg (by have:=f.cars;omega),if_pos (List.all_eq_true.2 fun c hc=>decide_eq_true (f.carOk c hc)),if_neg (by have:=f.room1;omega),if_neg (by have:=f.room3;omega),if_pos (List.all_eq_true.2 f.roomOk)];unfold EG;rw [if_pos f.len,goTracks_of Y.tracks Y.room [] f.ok (by simpa using f.nodup) f.fits];rw [if_neg (by have:=f.all;simp only [List.nil_append];omega)];exact f.groups
theorem groups_iff {Y:Yard}:DH Y=0↔GrpFrom Y.cars Y.tracks []:=goGs_iff _ _
def visit (s:List Place × List Yard) (z:Yard):List Place × List Yard:=if BC z∈s.1 then s else (s.1++[BC z],s.2++[z])
def nexts (x:Yard):List Yard:=(draws x).map (moved x)
def visitAll:List Yard→List Place × List Yard→List Place × List Yard
  | [],s=>s
  | z::r,s=>visitAll r (visit s z)
def roundM (now:List Yard) (met:List Place):List Place × List Yard:=visitAll (now.flatMap nexts) (met,[])
def PP:Nat→List Place→List Yard→List Place
  | 0,met,_=>met
  | d+1,met,now=>PP d (roundM now met).1 (roundM now met).2
def reach (Y:Yard) (d:Nat):Int:=((PP d [BC Y] [Y]).length:Int)
theorem LV (a b:List Yard) (s:List Place × List Yard):visitAll (a++b) s=visitAll b (visitAll a s):=by
  induction a generalizing s with
  | nil=>rfl
  | cons x a ih=>exact ih _
theorem kin_tracks {A Y Z:Yard} (ky:Kin A Y) (kz:Kin A Z) (h:Y.tracks=Z.tracks):Y=Z:=by
  rcases Y with ⟨a,b,c⟩;rcases Z with ⟨a',b',c'⟩
  have h1:=ky.cars;have h2:=kz.cars;have h3:=ky.room;have h4:=kz.room;simp only at h1 h2 h3 h4 h;rw [h1,h2,h3,h4,h]
theorem nexts_kin {A x:Yard} (k:Kin A x):∀ y∈nexts x,Kin A y:=fun y hy=>by
  obtain ⟨s,hs,rfl⟩:=List.mem_map.1 hy;exact k.moved (GY hs)
theorem flat_kin {A:Yard} {now:List Yard} (h:∀ y∈now,Kin A y):∀ y∈now.flatMap nexts,Kin A y:=fun y hy=>by
  obtain ⟨x,hx,hy⟩:=List.mem_flatMap.1 hy;exact nexts_kin (h x hx) y hy
def FE (x:Int):List Int→List (List Int)
  | []=>[[x]]
  | y::r=>(x::y::r)::(FE x r).map (y::·)
def perms:List Int→List (List Int)
  | []=>[[]]
  | x::r=>(perms r).flatMap (FE x)
theorem mem_insertAll {x:Int}:∀ (a b:List Int),a++x::b∈FE x (a++b):=by
  intro a
  induction a with
  | nil=>intro b;cases b <;> simp [FE]
  | cons y a ih=>intro b;simp only [List.cons_append,FE];exact List.mem_cons_of_mem _ (List.mem_map_of_mem (ih b))
theorem mem_perms:∀ {l m:List Int},m.Perm l→m∈perms l:=by
  intro l
  induction l with
  | nil=>intro m h;rw [List.perm_nil.1 h];simp [perms]
  | cons x l ih=>
    intro m h;obtain ⟨a,b,rfl⟩:=List.append_of_mem (h.mem_iff.2 List.mem_cons_self);have:(a++b).Perm l:=(List.perm_cons x).1 (List.perm_middle.symm.trans h);exact List.mem_flatMap.2 ⟨a++b,ih this,mem_insertAll a b⟩
theorem QC (x:Int) (l:List Int):(FE x l).length=l.length+1:=by
  induction l with
  | nil=>rfl
  | cons y l ih=>simp [FE,ih]
theorem insertAll_perm {x:Int}:∀ {l m:List Int},m∈FE x l→m.Perm (x::l):=by
  intro l
  induction l with
  | nil=>intro m h;simp [FE] at h;subst h;exact List.Perm.refl _
  | cons y l ih=>
    intro m h;simp only [FE,List.mem_cons,List.mem_map] at h;rcases h with rfl | ⟨m',h,rfl⟩
    · exact List.Perm.refl _
    · exact (List.Perm.cons y (ih h)).trans (List.Perm.swap x y l)
theorem perms_perm:∀ {l m:List Int},m∈perms l→m.Perm l:=by
  intro l
  induction l with
  | nil=>intro m h;simp [perms] at h;subst h;exact List.Perm.refl _
  | cons x l ih=>
    intro m h;obtain ⟨m',h1,h2⟩:=List.mem_flatMap.1 h;exact (insertAll_perm h2).trans (List.Perm.cons x (ih h1))
def fact:Nat→Nat
  | 0=>1
  | n+1=>(n+1)*fact n
theorem perms_length:∀ (l:List Int),(perms l).length=fact l.length:=by
  intro l
  induction l with
  | nil=>rfl
  | cons x l ih=>
    simp only [perms,List.length_flatMap];have e:∀ m∈perms l,(FE x m).length=l.length+1:=fun m hm=>by rw [QC,(perms_perm hm).length_eq]
    have:((perms l).map fun m=>(FE x m).length)=(perms l).map fun _=>l.length+1:=List.map_congr_left e
    rw [this,List.map_const',List.sum_replicate_nat,ih,List.length_cons,fact,Nat.mul_comm]
def cut3 (n:Nat) (l:List Int) (a b:Nat):List (List Int):=if n=1 then [l] else if n=2 then [l.take a,l.drop a] else [l.take a,(l.drop a).take b,(l.drop a).drop b]
theorem cut3_of {ts:List (List Int)} (h:1≤ts.length∧ts.length≤3):ts=cut3 ts.length ts.flatten (ts.getD 0 []).length (ts.getD 1 []).length:=by
  match ts,h with
  | [a],_=>simp [cut3]
  | [a,b],_=>simp [cut3]
  | [a,b,c],_=>simp [cut3]
def allCuts (n m:Nat) (l:List Int):List (List (List Int)):=(perms l).flatMap fun p=>(List.range (m+1)).flatMap fun a=>(List.range (m+1)).map fun b=>cut3 n p a b
theorem allCuts_length (n m:Nat) (l:List Int):(allCuts n m l).length=fact l.length*((m+1)*(m+1)):=by
  simp only [allCuts,List.length_flatMap,List.length_map,List.length_range,List.map_const',List.sum_replicate_nat];rw [perms_length]
theorem kin_mem {A Y:Yard} (f:Fine A) (k:Kin A Y) {m:Nat} (hm:A.tracks.flatten.length≤m):Y.tracks∈allCuts A.tracks.length m A.tracks.flatten:=by
  have hl:1≤Y.tracks.length∧Y.tracks.length≤3:=by rw [k.len,f.len];have:=f.room1;have:=f.room3;omega
  have e:=cut3_of hl;have hb:∀ i,(Y.tracks.getD i []).length≤m:=fun i=>by
    by_cases hi:i<Y.tracks.length
    · have:=DW (AJ (d:=[]) hi)
      have:=k.perm.length_eq;omega
    · simp [List.getD,List.getElem?_eq_none (Nat.le_of_not_lt hi)]
  rw [e,k.len];refine List.mem_flatMap.2 ⟨_,mem_perms k.perm,List.mem_flatMap.2 ⟨_,List.mem_range.2 (Nat.lt_succ_of_le (hb 0)),List.mem_map.2 ⟨_,List.mem_range.2 (Nat.lt_succ_of_le (hb 1)),rfl⟩⟩⟩
end Go.Sh
namespace Go
variable {P:Program} {F:Fence} {n:Nat} {Q:Exit→Act→World→Prop} {a:Act} {w:World}
theorem HL {b:Frame} {k:List Item} {cs:List Frame} {c:Code}:step P (lone (b.atR a (.code (.scope c)::k)) cs w)=.next (lone (b.atR a (.code c::.inScope c::k)) cs w):=
  step_lone_go (by simp [stepG,stepG.exec,Frame.atR])
theorem stepR_inScope {b:Frame} {k:List Item} {cs:List Frame} {c:Code}:step P (lone (b.atR a (.inScope c::k)) cs w)=.next (lone (b.atR a k) cs w):=
  step_lone_go (by simp [stepG,stepG.exec,Frame.atR])
theorem wpIn_scope {c:Code} (h:c.wpIn F n P (Exit.noGoto Q) a w):(Code.scope c).wpIn F n P Q a w:=by
  intro b k cs hro hb hr;have h0:(lone (b.atR a (.code (.scope c)::k)) cs w).fenced P F:=fenced_calm hb hr rfl;obtain ⟨e,a₁,w₁,hq,harr⟩:=h b (.inScope c::k) cs hro hb hr;cases e with
  | normal=>exact ⟨.normal,a₁,w₁,hq,.head h0 HL (StepsIn.trans harr (.one (fenced_calm hb hr rfl) stepR_inScope))⟩
  | exit id=>
    have hx:exitTo id (.inScope c::k)=exitTo id k:=by simp [exitTo]
    exact ⟨.exit id,a₁,w₁,hq,fun k' hk=>.head h0 HL (harr.1 k' (by rw [hx];exact hk)),fun hr' hk=>let ⟨k₁,h1,h2⟩:=harr.2 hr' (by rw [hx];exact hk);⟨k₁,h1,.head h0 HL h2⟩⟩
  | goto l=>exact hq.elim
  | ret=>exact ⟨_,a₁,w₁,hq,.of_steps (.one h0 HL) harr⟩
  | panic ch=>exact ⟨_,a₁,w₁,hq,.of_steps (.one h0 HL) harr⟩
  | outgrown=>exact ⟨_,a₁,w₁,hq,.of_steps (.one h0 HL) harr⟩
end Go
namespace Go.Sl
open Go
theorem run_scope {ρ:Option Nat} {P:Program} {N:Nat} {Q:Exit→Act→World→Prop} {ds:List Deferred} {l:Sl} {I:Imm} {M:Seg} {c x:Code} (hc:c=.scope x) (h:Run (ρ:=ρ) P N x (Exit.noGoto Q) ds l I M):Run (ρ:=ρ) P N c Q ds l I M:=by
  subst hc;exact fun a w hS hD hW=>wpIn_scope (h a w hS hD hW)
theorem IB {N:Nat} {Q:Exit→Act→World→Prop} {ds:List Deferred} {l:Sl} {I:Imm} {M:Seg} (h:Pst N Q .ret ds l I M):Pst N (Exit.noGoto Q) .ret ds l I M:=h
theorem HC {α : Type} {E : TypeId} {sz : Nat} {cell : α → Nat → Value} {ρ : Option Nat} {P : Program} {N : Nat} {c : Code} {Q : Exit → Act → World → Prop} {ds : List Deferred} {l : Sl} {I : Imm} {M A B Ms : Seg} {v : Value} {xs : List α} (dflt : α)
    (h:Own E sz cell v xs Ms) (hl:xs.length≤140737488355328) (hM:M.Perm (Ms++A)) (hA:A.Perm B)
    (next:∀ J,I.le J→IsSl sz cell dflt J v xs→Run (ρ:=ρ) P N c Q ds l J B):Run (ρ:=ρ) P N c Q ds l I M:=St.own_freeze dflt h hl hM hA next
theorem rn_mem {ρ:Option Nat} {P:Program} {N:Nat} {Q:Exit→Act→World→Prop} {ds:List Deferred} {l:Sl} {I:Imm} {M M':Seg} {c:Code} (s:∀ w,St I M w→St I M' w) (next:Run (ρ:=ρ) P N c Q ds l I M'):Run (ρ:=ρ) P N c Q ds l I M:=HY s next
theorem MG {ρ : Option Nat} {P : Program} {N : Nat} {Q : Exit → Act → World → Prop} {ds : List Deferred} {l : Sl} {I : Imm} {M M0 : Seg} {c : Code} {b : Nat} {o : Obj} (hM : M.Perm ((b, o) :: M0))
    (next:∀ J,I.le J→J.blk b=some o→Run (ρ:=ρ) P N c Q ds l J M0):Run (ρ:=ρ) P N c Q ds l I M:=fun a w hS hD hW=>
  have st:=hW.perm hM
  next (I.add b o) (Imm.le_add (st.disj b o List.mem_cons_self)) (Imm.add_same I b o) a w hS hD st.freeze
theorem HE {ρ : Option Nat} {P : Program} {N : Nat} {ops : Array Oper} {i : Nat} {Q : Exit → Act → World → Prop} {ds : List Deferred} {l : Sl} {I : Imm} {M M0 : Seg} {b : Nat} {o : Obj} (hM : M.Perm ((b, o) :: M0))
    (next:∀ J,I.le J→J.blk b=some o→Seq (ρ:=ρ) P N ops Q ds i l J M0):Seq (ρ:=ρ) P N ops Q ds i l I M:=fun a w hS hD hW=>
  have st:=hW.perm hM
  next (I.add b o) (Imm.le_add (st.disj b o List.mem_cons_self)) (Imm.add_same I b o) a w hS hD st.freeze
theorem OY {I:Imm} {M:Seg} {b off n:Nat} {cs:Array Value} {T:TypeId} {fz:Nat × Nat} {vs:List Value} (h:I.blk b=some (Obj.cells cs T fz)) (hv:(cs.toList.drop off).take n=vs):SeesN I M b off vs:=fun k v hk=>by
  refine ⟨rfl,cs,T,fz,.inr h,?_⟩;rw [← hv,List.getElem?_take] at hk
  split at hk
  · rw [List.getElem?_drop] at hk;simpa using hk
  · cases hk
theorem BE {I:Imm} {M:Seg} {b off:Nat} {cs:Array Value} {T:TypeId} {fz:Nat × Nat} {v:Value} (h:I.blk b=some (Obj.cells cs T fz)) (hc:cs[off]?=some v):Sees I M ⟨b,off,none⟩ v:=⟨rfl,cs,T,fz,.inr h,hc⟩
section
variable {P:Program} {N:Nat} {ops:Array Oper} {i:Nat} {l:Sl} {I:Imm} {R M:Seg} {ty:TypeId} {gd:Option (Nat × Bool)} {K:Sl→Imm→Seg→Prop} {d:Nat}
theorem LE {x : Operand} {T S : TypeId} {b n : Nat} {cs : Array Value} {fz : Nat × Nat} (hop : GL ops N i = some (some d, .load T x, ty, gd)) (hg : FR ops l gd = some true) (hT : EI P T = some true) (hsz : DY P T = some n) (hn : cs.size = n)
    (hx:CU l x=some (.pointer (some ⟨b,0,none⟩))) (hs:Holds I R b (.cells cs S fz)):Det P N ops i l I R d (.agg cs):=by
  have h:=DS (P:=P) (I:=I) (R:=R) (n:=n) (vs:=cs.toList) (b:=b) (off:=0) hop hg hT hsz hx (by simpa using hn) (fun k v hk=>⟨rfl,cs,S,fz,hs,by simpa using hk⟩)
  simpa using h
theorem pst_retW {fn : Func} {I₀ : Imm} {post : Value → Imm → Seg → Prop} {F : Seg} {t : Nat} {T S : TypeId} {b n : Nat} {cs : Array Value} {fz : Nat × Nat} (M' : Seg) (hr : fn.results = #[.cell t T]) (ht : EJ t l = some (.pointer (some ⟨b, 0, none⟩))) (hT : EI P T = some true) (hsz : DY P T = some n) (hn : cs.size = n)
    (hs:Holds I M b (.cells cs S fz)) (hsub:(M'++F).Sublist M) (hle:I₀.le I) (hp:post (.agg cs) I M'):Pst N (RetQ P fn I₀ post F) .ret [] l I M:=
  JZ (T:=T) (n:=n) (b:=b) (off:=0) (vs:=cs.toList) M' hr ht hsz (by simpa using hn) (fun k v hk=>⟨rfl,cs,S,fz,hs,by simpa using hk⟩) (.inl ⟨hT,by simp⟩) hsub hle hp
theorem setRow_all:∀ (vs A B:List Value),vs.length=B.length→(IX (A++B).toArray A.length vs).toList=A++vs:=by
  intro vs A B h;have:=OB vs A B (by omega);rw [this,List.drop_of_length_le (by omega),List.append_nil]
theorem OZ {T S : TypeId} {x y : Operand} {v : Value} {cs vs : Array Value} {b n : Nat} {M' : Seg} (k : Nat) (hop : GL ops N i = some (none, .store T x y, ty, gd)) (hg : FR ops l gd = some true)
    (hx:CU l x=some (.pointer (some ⟨b,0,none⟩))) (hy:CU l y=some v) (hsz:DY P T=some n) (hvs:v.cells=vs) (hn:vs.size=n) (hone:∀ u∈vs.toList,FC u=true)
    (hk:M[k]?=some (b,Obj.cells cs S (0,0))) (hcs:cs.size=n) (hM:M.set k (b,Obj.cells vs S (0,0))=M')
    (h:K l I M'):Stp P N ops i l I M K:=by
  refine stp_store (cs:=cs.toList) (cs':=vs.toList) (vs:=vs.toList) (off:=0) (S:=S) (M':=M') k hop hg hx hy hsz (by rw [hvs]) (by simpa using hn) (List.all_eq_true.2 hone) (by simpa using hk) (by simp;omega) ?_ (by simpa using hM) h;have:=setRow_all vs.toList [] cs.toList (by simp;omega)
  simpa using this
end
abbrev RQ (I:Imm) (post:Value→Imm→Seg→Prop) (F:Seg):Ending→World→Prop:=fun e w'=>∃ v I' M',e=.returned v∧I.le I'∧post v I' M'∧St I' (M'++F) w'
def Yt (P:Program) (L:Nat) (args:Array Value) (I:Imm) (pre:Seg) (post:Value→Imm→Seg→Prop):Prop:=
  ∀ F w,St I (pre++F) w→∃ f tmps assign body,(Instr.yield L args).run P w=.ok (.round L f tmps assign body) w∧RoundIn (fen none) 0 P L f tmps assign body w (RQ I post F)
def IterCt {α:Type} (P:Program) (gf:FuncId) (cv:List Value) (enc:α→List Value) (seq:List α) (R:Imm→Seg→Prop) (I0:Imm):Prop:=
  ∀ (L:Nat) (Cl Sp:List α→Imm→Seg→Prop),(∀ xs I J M,I.le J→Cl xs I M→Cl xs J M) →
    (∀ xs x I Mr M,(xs++[x]) <+: seq→I0.le I→R I Mr→Cl xs I M→Yt P L (enc x).toArray I (Mr++M) (fun v I' M'=>(v=.bool true∧∃ Mr' M2,M'=Mr'++M2∧R I' Mr'∧Cl (xs++[x]) I' M2)∨(v=.bool false∧Sp (xs++[x]) I' M'))) →
    ∀ I Mr M,I0.le I→R I Mr→Cl [] I M→Ct P gf (.func (.yield L) #[] #[]::cv).toArray I (Mr++M) (fun _ I' M'=>(∃ Mr' M2,M'=Mr'++M2∧R I' Mr'∧Cl seq I' M2)∨(∃ xs,Sp xs I' M'))
section
variable {ρ:Option Nat} {P:Program} {N:Nat} {ops:Array Oper} {i:Nat} {l:Sl} {I:Imm} {R M:Seg} {ty:TypeId} {gd:Option (Nat × Bool)} {K:Sl→Imm→Seg→Prop} {Q:Exit→Act→World→Prop} {ds:List Deferred}
theorem yield_run {f : Operand} {L : Nat} {args : Array Operand} {tys : Array TypeId} {vals : List Value} {ρ : Operand → Value} {w : World} (hf : ρ f = .func (.yield L) #[] #[]) (hvals : args.toList.map ρ = vals) :
    (MJ ρ (.call { callee:=.value f,args,argTypes:=tys }) ty).run P w=(Instr.yield L vals.toArray).run P w:=by
  have e:args.map ρ=vals.toArray:=by apply Array.ext';simp [hvals]
  show (do let d ← resolve ρ { callee:=.value f,args,argTypes:=tys } ty;invoke d.target d.args:Sem Next).run P w=_;unfold resolve;simp only [e,hf,Deferred.ofValue];show (Instr.yield L (#[]++vals.toArray)).run P w=_;simp
theorem stp_yield {d : Option Tmp} {f : Operand} {L : Nat} {args : Array Operand} {tys : Array TypeId} {vals : List Value} {pre F : Seg} {post : Value → Imm → Seg → Prop}
    (hop:GL ops N i=some (d,.call { callee:=.value f,args,argTypes:=tys },ty,gd)) (hg:FR ops l gd=some true) (hf:CU l f=some (.func (.yield L) #[] #[])) (hv:OU l args.toList=some vals)
    (yt:Yt P L vals.toArray I pre post) (hM:M.Perm (pre++F))
    (h:∀ v I' M',I.le I'→post v I' M'→K (ups d v l) I' (M'++F)):Stp P N ops i l I M K:=by
  obtain ⟨o,ho,rfl,he,rfl,rfl,hN,hs⟩:=IP hop;obtain ⟨h1,h2⟩:=IU hv;refine ⟨o,ho,hN,hs,hg,?_,fun w st=>?_⟩
  · rw [he]
    intro x hx;simp only [Op.operands,Call.operands] at hx;rcases Array.mem_append.1 hx with hx | hx
    · simp at hx;subst hx;exact EV hf
    · exact h1 x (by simpa using hx)
  · rw [II,he,yield_run (BN hf) h2]
    obtain ⟨f',tmps,assign,body,hy,hr⟩:=yt F w (st.perm hM);rw [hy];refine RoundIn.mono hr fun e w' ⟨v,I',M',hv',hle,hp,st'⟩=>?_
    exact ⟨v,hv',I',M'++F,hle,st',h v I' M' hle hp⟩
def mark (D:Nat):Deferred:={ target:=.collected D,args:=#[] }
def RoundQ (I:Imm) (post:Option Code→Imm→Seg→Prop) (F:Seg):Exit→Act→World→Prop
  | .normal,_,w=>∃ I' M',I.le I'∧post none I' M'∧St I' (M'++F) w
  | .ret,_,w=>∃ I' M',I.le I'∧post (some .ret) I' M'∧St I' (M'++F) w
  | .exit id,_,w=>∃ I' M',I.le I'∧post (some (.exit id)) I' M'∧St I' (M'++F) w
  | .goto t,_,w=>∃ I' M',I.le I'∧post (some (.goto t)) I' M'∧St I' (M'++F) w
  | _,_,_=>False
def putAll:List (Tmp × Value)→Sl→Sl
  | [],l=>l
  | (t,v)::r,l=>putAll r ((t,v)::l)
theorem slots_fold {N : Nat} {dfs : List Deferred} : ∀ (xs : List (Tmp × Value)) (l : Sl) (tm : Array Value), Slots N l { tmps := tm, defers := dfs } → (∀ x ∈ xs, x.1 < N) →
    Slots N (putAll xs l) { tmps:=xs.foldl (fun t (x:Tmp × Value)=>t.setIfInBounds x.1 x.2) tm,defers:=dfs }:=by
  intro xs
  induction xs with
  | nil=>intro l tm h _;exact h
  | cons x xs ih=>
    intro l tm h hN;obtain ⟨t,v⟩:=x;exact ih _ _ (h.put (hN (t,v) List.mem_cons_self) v) (fun y hy=>hN y (List.mem_cons_of_mem _ hy))
theorem St.putObj {I:Imm} {M:Seg} {w:World} {r:Nat} {o o':Obj} (h:St I ((r,o)::M) w):St I ((r,o')::M) (w.putObj r o'):=by
  have hh:w.heap[r]?=some o:=h.mem r o List.mem_cons_self;have hl:r<w.heap.size:=(Array.getElem?_eq_some_iff.1 hh).1;exact h.put (i:=0) (o:=o') (o':=o) (w':=w.putObj r o') rfl rfl rfl rfl (World.putObj_heap_same hl) (fun b hb=>World.putObj_heap_other hb)
theorem perm3 {A B C:Seg} {x y:Nat × Obj}:((A++(x::y::B))++C).Perm (x::(A++(B++(y::C)))):=by
  rw [List.append_assoc];refine List.perm_middle.trans (.cons x (List.Perm.append_left A ?_));exact List.perm_middle.symm
theorem perm4 {A C:Seg} {x y:Nat × Obj}:(A++(x::y::C)).Perm (x::(A++(y::C))):=List.perm_middle
theorem NZ {α : Type} {c : Code} {g : Operand} {ps : Array Tmp} {assign body : Code} {gf : FuncId} {cv : List Value} {enc : α → List Value} {seq : List α} {R : Imm → Seg → Prop} {Mr M0 F0 : Seg}
    (Cl:List α→Imm→Seg→Prop) (Sp:Code→List α→Imm→Seg→Prop) (sl:α→Nat→Sl) (mm:α→Nat→Seg)
    (hc:c=.rangeFunc g ps assign body) (hg:CU l g=some (.func (.func gf) #[] cv.toArray)) (hcall:GF P gf=true) (hps:∀ x,(enc x).length=ps.size) (hpN:ps.all (fun t=>Nat.blt t N)=true)
    (it:IterCt P gf cv enc seq R I)
    (hmono:∀ xs I J M,I.le J→Cl xs I M→Cl xs J M)
    (hM:M.Perm (Mr++(M0++F0))) (hr:R I Mr) (h0:Cl [] I M0)
    (hassign:∀ L x I1 M1,Run (ρ:=some L) P N assign (Exit.then (fun a w=>∃ k,Slots N (sl x k) a∧a.defers=[]∧St I1 (mm x k++M1) w) (fun _ _ _=>False)) [] (putAll (ps.toList.zip (enc x)) l) I1 M1)
    (hbody:∀ L x k xs I1 Mr1 M1 F1,(xs++[x]) <+: seq→I.le I1→R I1 Mr1→Cl xs I1 M1 →
      Run (ρ:=some L) P N body (RoundQ I1 (fun o I' M'=>match o with | none=>∃ Mr' M2,M'=Mr'++M2∧R I' Mr'∧Cl (xs++[x]) I' M2 | some c=>Sp c (xs++[x]) I' M') F1) [] (sl x k) I1 (mm x k++(Mr1++(M1++F1))))
    (hdone:∀ D I' Mr' M',I.le I'→R I' Mr'→Cl seq I' M'→Pst N Q .normal (mark D::ds) l I' ((D,.deferred (some []))::(Mr'++(M'++F0))))
    (hstop:∀ D c xs I' M',I.le I'→Sp c xs I' M'→Run (ρ:=none) P N c Q (mark D::ds) l I' ((D,.deferred (some []))::(M'++F0))) :
    Run (ρ:=none) P N c Q ds l I M:=by
  subst hc;intro a w hS hD hW;refine wpIn_rangeFunc fun fn _=>?_
  obtain ⟨rec,hrec⟩:∃ rec:LoopState→Option Code→Loop,rec=fun st pe=>{ state:=st,pending:=pe,fn,tmps:=a.tmps,params:=ps,assign,body,defers:=w.heap.size }:=⟨_,rfl⟩
  have hW2:St I ((w.heap.size+1,.loop (rec .ready none))::(w.heap.size,.deferred (some []))::(Mr++(M0++F0))) ((w.alloc (.deferred (some []))).alloc (.loop (rec .ready none))):=by
    have h1:=(hW.perm hM).new (.deferred (some []));have h2:=h1.new (.loop (rec .ready none));have e:(w.heap.push (Obj.deferred (some []))).size=w.heap.size+1:=by simp
    rw [e] at h2;exact h2
  generalize hw1:((w.alloc (.deferred (some []))).alloc (.loop (rec .ready none)))=w1 at hW2
  refine ⟨w.heap.size+1,[mark w.heap.size],w1,{ target:=.fn (.func gf) cv.toArray,args:=#[.func (.yield (w.heap.size+1)) #[] #[]] },w1,gf,(.func (.yield (w.heap.size+1)) #[] #[]::cv).toArray,w1,?_,?_,fun _ _=>trivial,?_,fun h=>by simp [fen,Fence.wide] at h,?_⟩
  · rw [← hw1,hrec];exact run_enterLoop_outer _ _ _ _ _
  · unfold resolve
    simp only [eval_of hS hg,Deferred.ofValue];simp [Act.eval,pure,Sem.run]
  · show (callFunc gf (#[Value.func (.yield (w.heap.size+1)) #[] #[]]++cv.toArray)).run P w1=_
    rw [KY hcall];simp
  · refine callsIn_fen.2 ?_
    clear hw1 hW
    generalize w.heap.size+1=L at hW2 hrec ⊢
    generalize w.heap.size=D at hW2 hrec ⊢
    have hit:=it L (fun xs I M=>∃ M0,M=(L,.loop (rec .ready none))::(D,.deferred (some []))::M0∧Cl xs I M0)
      (fun xs I M=>∃ c M0,M=(L,.loop (rec .done (some c)))::(D,.deferred (some []))::M0∧Sp c xs I M0)
      (fun xs I J M le ⟨M0,e,h⟩=>⟨M0,e,hmono xs I J M0 le h⟩) ?_ I Mr ((L,.loop (rec .ready none))::(D,.deferred (some []))::M0) (Imm.le.refl I) hr ⟨M0,rfl,h0⟩
    · refine (hit F0 w1 (hW2.perm ?_)).mono ?_
      · rw [List.append_assoc]
        exact ((List.perm_middle (l₁:=Mr)).trans (.cons _ (List.perm_middle (l₁:=Mr)))).symm
      · rintro e w' ⟨v,I',M',rfl,hle,hp,st⟩
        rcases hp with ⟨Mr',M2,rfl,hR,M3,rfl,hcl⟩ | ⟨xs,c,M3,rfl,hsp⟩
        · have st2 := st.perm (show ((Mr' ++ ((L, Obj.loop (rec .ready none)) :: (D, .deferred (some [])) :: M3)) ++ F0).Perm ((L, Obj.loop (rec .ready none)) :: (D, .deferred (some [])) :: (Mr' ++ (M3 ++ F0))) by
            rw [List.append_assoc]
            exact (List.perm_middle (l₁:=Mr')).trans (.cons _ (List.perm_middle (l₁:=Mr'))))
          have hl:=st2.mem _ _ List.mem_cons_self;refine ⟨none,_,by have:=run_endLoop (P:=P) hl (by rw [hrec];simp);rw [hrec] at this;exact this,?_⟩;refine hdone D I' Mr' M3 hle hR hcl _ _ ⟨hS.size,hS.get⟩ (by show [mark D]++a.defers=_;rw [hD];rfl) ?_;exact (St.putObj st2).drop
        · have hl:=st.mem (L) (.loop (rec .done (some c))) (by simp)
          refine ⟨some c,_,by have:=run_endLoop (P:=P) hl (by rw [hrec];simp);rw [hrec] at this;exact this,?_⟩;refine hstop D c xs I' M3 hle hsp _ _ ⟨hS.size,hS.get⟩ (by show [mark D]++a.defers=_;rw [hD];rfl) ?_;exact (St.putObj (M:=(D,Obj.deferred (some []))::(M3++F0)) st).drop
    · rintro xs x I1 Mr1 M1' hpre hle hR ⟨M1,rfl,hcl⟩ F1 w2 st
      have hl:=st.mem L (.loop (rec .ready none)) (by simp);have hy:=run_yield (P:=P) (args:=(enc x).toArray) hl (by rw [hrec];simpa using hps x);rw [hrec] at hy;refine ⟨_,_,assign,body,hy,roundIn_of_wpIn (F:=fen none) trivial ?_⟩;have hfold:((ps.zip (enc x).toArray).foldl (fun tmps (t,a)=>tmps.setIfInBounds t a) a.tmps)=(ps.toList.zip (enc x)).foldl (fun t (x:Tmp × Value)=>t.setIfInBounds x.1 x.2) a.tmps:=by
        rw [← Array.foldl_toList];simp
      simp only;rw [hfold];refine wpIn_mono (hassign L x I1 _ _ w2 (slots_fold (ps.toList.zip (enc x)) l a.tmps ⟨hS.size,hS.get⟩ ?_) rfl st) ?_
      · intro y hy'
        have:=(List.of_mem_zip (show (y.1,y.2)∈ps.toList.zip (enc x) from hy')).1;have h3:=Array.all_eq_true'.1 hpN y.1 (by simpa using this);exact Nat.le_of_ble_eq_true h3
      · rintro e a1 w3 hq
        cases e with
        | normal=>
          obtain ⟨k,hS3,hD3,st3⟩:=hq;have st4:St I1 ((L,.loop (rec .ready none))::(mm x k++(Mr1++(M1++((D,.deferred (some []))::F1))))) w3:=st3.perm ((List.Perm.append_left (mm x k) perm3).trans List.perm_middle);have hl3:=st4.mem L (.loop (rec .ready none)) List.mem_cons_self;refine ⟨_,run_beginRound hl3 (by rw [hrec]),?_⟩;have st5:St I1 (mm x k++(Mr1++(M1++((L,.loop { rec .ready none with state:=.busy })::(D,.deferred (some []))::F1)))) (w3.putObj L (.loop { rec .ready none with state:=.busy })):=by
            refine (St.putObj st4).perm ?_;refine (List.perm_middle (l₁:=mm x k)).symm.trans (List.Perm.append_left (mm x k) ?_);have:=(perm3 (A:=Mr1) (B:=M1) (C:=F1) (x:=(L,Obj.loop { rec .ready none with state:=.busy })) (y:=(D,Obj.deferred (some [])))).symm;refine this.trans ?_;rw [List.append_assoc];refine List.Perm.append_left Mr1 ?_;show ((L,Obj.loop { rec .ready none with state:=.busy })::(D,.deferred (some []))::(M1++F1)).Perm _;exact ((List.perm_middle (l₁:=M1)).trans (.cons _ (List.perm_middle (l₁:=M1)))).symm
          refine wpIn_mono (hbody L x k xs I1 Mr1 M1 _ hpre hle hR hcl a1 _ hS3 hD3 st5) ?_
          have fin : ∀ (jump : Option Code) (I' : Imm) (M' : Seg) (w6 : World), St I' (M' ++ ((L, .loop { rec .ready none with state := .busy }) :: (D, .deferred (some [])) :: F1)) w6 →
              (Instr.endRound L jump).run P w6=.ok (.bool jump.isNone) (w6.putObj L (.loop (rec (if jump.isNone then .ready else .done) jump))) ∧
              St I' ((L,.loop (rec (if jump.isNone then .ready else .done) jump))::(M'++((D,.deferred (some []))::F1))) (w6.putObj L (.loop (rec (if jump.isNone then .ready else .done) jump))):=fun jump I' M' w6 st6=>by
            have st7:=st6.perm perm4;have hl7:=st7.mem _ _ List.mem_cons_self;have:=run_endRound (P:=P) jump hl7;rw [hrec] at this ⊢;exact ⟨this,by rw [hrec] at st7;exact St.putObj st7⟩
          rintro e a6 w6 hq6
          have stop : ∀ (c : Code), (∃ I' M', I1.le I' ∧ Sp c (xs ++ [x]) I' M' ∧ St I' (M' ++ ((L, .loop { rec .ready none with state := .busy }) :: (D, .deferred (some [])) :: F1)) w6) →
              ∃ v w',(Instr.endRound L (some c)).run P w6=.ok v w'∧RQ I1 (fun v I' M'=>(v=.bool true∧∃ Mr' M2,M'=Mr'++M2∧R I' Mr'∧∃ M0,M2=(L,.loop (rec .ready none))::(D,.deferred (some []))::M0∧Cl (xs++[x]) I' M0) ∨
                (v=.bool false∧∃ c M0,M'=(L,.loop (rec .done (some c)))::(D,.deferred (some []))::M0∧Sp c (xs++[x]) I' M0)) F1 (.returned v) w':=by
            rintro c ⟨I',M',hle',hp,st6⟩
            obtain ⟨h1,h2⟩:=fin (some c) I' M' w6 st6;exact ⟨_,_,h1,_,I',_,rfl,hle',.inr ⟨rfl,c,M',rfl,hp⟩,h2.perm (.cons _ List.perm_middle)⟩
          cases e with
          | normal=>
            obtain ⟨I',M',hle',⟨Mr',M2,rfl,hR',hcl'⟩,st6⟩:=hq6;obtain ⟨h1,h2⟩:=fin none I' _ w6 st6;refine ⟨_,_,h1,_,I',_,rfl,hle',.inl ⟨rfl,Mr',_,rfl,hR',M2,rfl,hcl'⟩,h2.perm ?_⟩;rw [List.append_assoc];exact perm3.symm
          | ret=>exact stop .ret hq6
          | exit id=>exact stop (.exit id) hq6
          | goto t=>exact stop (.goto t) hq6
          | panic ch=>exact hq6.elim
          | outgrown=>exact hq6.elim
        | exit id=>exact hq.elim
        | goto t=>exact hq.elim
        | ret=>exact hq.elim
        | panic ch=>exact hq.elim
        | outgrown=>exact hq.elim
def isNI:Value→Option Bool
  | .nilIface=>some true
  | .iface _ _=>some false
  | _=>none
def tyIface (P:Program) (t:TypeId):Bool:=match P.underlying t with | some (.interface _)=>true | _=>false
theorem MN {x:Operand} {T T':TypeId} {v:Value} {b:Bool} {d:Nat} (hop:GL ops N i=some (some d,.binOp .eql T x (.const .nilIface) T',ty,gd)) (hg:FR ops l gd=some true) (hT:tyIface P T=true) (hx:CU l x=some v) (hb:isNI v=some b):Det P N ops i l I R d (.bool b):=
  EM hop hg (GW hx rfl) fun I' M'=>by
    show wpL P ((do eqGuard .eql T x (.const .nilIface) (rho l x) .nilIface;binOp .eql T (rho l x) .nilIface) >>= fun x=>pure (Next.value x)) _ I' M';rw [BN hx];refine DM ?_;obtain ⟨ms,hms⟩:∃ ms,P.underlying T=some (.interface ms):=by
      unfold tyIface at hT
      split at hT
      · rename_i ms h;exact ⟨ms,h⟩
      · cases hT
    have e1:eqGuard .eql T x (.const .nilIface) v .nilIface=pure ():=by
      cases v <;> simp [isNI] at hb <;> simp [eqGuard]
    rw [e1];show wpL P (binOp .eql T v .nilIface) _ I' M';cases v <;> simp [isNI] at hb <;> subst hb
    all_goals
      first
        | show wpL P (Op.equalIn 10000 T .nilIface .nilIface >>= fun b=>pure (Value.bool b)) _ I' M'
        | show wpL P (Op.equalIn 10000 T (.iface _ _) .nilIface >>= fun b=>pure (Value.bool b)) _ I' M'
      rw [AC];unfold Op.equalIn;rw [AC,AF hms];exact ⟨rfl,rfl⟩
def Hk (K:Sl→Imm→Seg→Prop) (l:Sl) (I:Imm) (M:Seg):Prop:=∀ w,St I M w→∃ J M',I.le J∧St J M' w∧K l J M'
theorem hk_done {K:Sl→Imm→Seg→Prop} {l:Sl} {I:Imm} {M:Seg} (h:K l I M):Hk K l I M:=fun _ st=>⟨I,M,Imm.le.refl I,st,h⟩
theorem hk_mem {K:Sl→Imm→Seg→Prop} {l:Sl} {I:Imm} {M M':Seg} (s:∀ w,St I M w→St I M' w) (next:Hk K l I M'):Hk K l I M:=fun w st=>next w (s w st)
theorem IJ {α : Type} {E : TypeId} {sz : Nat} {cell : α → Nat → Value} {K : Sl → Imm → Seg → Prop} {l : Sl} {I : Imm} {M A B Ms : Seg} {v : Value} {xs : List α} (dflt : α)
    (h:Own E sz cell v xs Ms) (hl:xs.length≤140737488355328) (hM:M.Perm (Ms++A)) (hA:A.Perm B) (next:∀ J,I.le J→IsSl sz cell dflt J v xs→Hk K l J B):Hk K l I M:=fun w st=>by
  obtain ⟨J,h1,h2,h3⟩:=h.freeze dflt hl (st.perm hM);obtain ⟨J2,M',g1,g2,g3⟩:=next J h1 h2 w (h3.perm hA);exact ⟨J2,M',h1.trans g1,g2,g3⟩
theorem stp_hk {K:Sl→Imm→Seg→Prop} (h:Stp P N ops i l I M (Hk K)):Stp P N ops i l I M K:=by
  obtain ⟨o,h1,h2,h3,h4,h5,h6⟩:=h;refine ⟨o,h1,h2,h3,h4,h5,fun w st=>(h6 w st).mono fun v w' ⟨I',M',g1,g2,g3⟩=>?_⟩;obtain ⟨J,M2,k1,k2,k3⟩:=g3 w' g2;exact ⟨J,M2,g1.trans k1,k2,k3⟩
theorem QJ {S : Seg} {Kfin : Sl → Imm → Seg → Prop} {rest : List (Nat × Bool)}
    (h:Stp P N ops i l I (R++S) (Hk fun l' I' M'=>∃ S',M'.Perm (R++S')∧OFP P N ops R Kfin rest l' I' S')):OFP P N ops R Kfin ((i,false)::rest) l I S:=stp_hk h
theorem pst_round {I₀:Imm} {post:Option Code→Imm→Seg→Prop} {F M':Seg} (hle:I₀.le I) (hp:post none I M') (hs:(M'++F).Sublist M):Pst N (RoundQ I₀ post F) .normal [] l I M:=fun _ _ _ _ hW=>⟨I,M',hle,hp,hW.sub hs⟩
theorem pst_round_ret {I₀:Imm} {post:Option Code→Imm→Seg→Prop} {F M':Seg} (hle:I₀.le I) (hp:post (some .ret) I M') (hs:(M'++F).Sublist M):Pst N (RoundQ I₀ post F) .ret [] l I M:=fun _ _ _ _ hW=>⟨I,M',hle,hp,hW.sub hs⟩
def RetQM (P:Program) (fn:Func) (I:Imm) (post:Value→Imm→Seg→Prop) (F:Seg):Exit→Act→World→Prop:=
  bodyPostM (fen none) 0 P fn (RQ I post F)
theorem OO {f : FuncId} {fn : Func} {args : List Value} {pre : Seg} {post : Value → Imm → Seg → Prop} (hf : P.funcs[f]? = some fn) (hb : fn.body.isSome = true)
    (hN:fn.ntmps=N) (hle:args.length≤N)
    (h:∀ F,Run (ρ:=none) P N (AU fn) (RetQM P fn I post F) [] (JC 0 args) I (pre++F)):Ct P f args.toArray I pre post:=by
  intro F w st;have hbody:fn.body=some (AU fn):=by
    cases hx:fn.body with
    | none=>rw [hx] at hb;cases hb
    | some c=>simp [AU,hx]
  refine callsIn_fen.1 (callsIn_of_wp_marks (F:=fen none) (n:=0) hf hbody trivial (h F _ w ⟨?_,fun t v hv=>?_⟩ rfl st))
  · simp;omega
  obtain ⟨_,h2⟩:=KJ args 0 t v hv;rw [Nat.sub_zero] at h2;have hlt:t<args.length:=(List.getElem?_eq_some_iff.1 h2).1;rw [Array.getElem?_append_left (by simpa using hlt)]
  simpa using h2
def CtD (P:Program) (f:FuncId) (args:Array Value) (I:Imm) (pre:Seg) (post:Value→Imm→Seg→Prop):Prop:=
  ∀ F w u,St I (pre++F) w→CallsDIn (fen none) 0 P f args u w fun e u' w'=>u'=u∧RQ I post F e w'
theorem fnD_of_run {f : FuncId} {fn : Func} {args : List Value} {pre : Seg} {post : Value → Imm → Seg → Prop} (hf : P.funcs[f]? = some fn) (hb : fn.body.isSome = true)
    (hN:fn.ntmps=N) (hle:args.length≤N)
    (h:∀ F,Run (ρ:=none) P N (AU fn) (RetQ P fn I post F) [] (JC 0 args) I (pre++F)):CtD P f args.toArray I pre post:=by
  intro F w u st;have hbody:fn.body=some (AU fn):=by
    cases hx:fn.body with
    | none=>rw [hx] at hb;cases hb
    | some c=>simp [AU,hx]
  refine callsDIn_of_wp hf hbody trivial (h F _ w ⟨?_,fun t v hv=>?_⟩ rfl st)
  · simp;omega
  obtain ⟨_,h2⟩:=KJ args 0 t v hv;rw [Nat.sub_zero] at h2;have hlt:t<args.length:=(List.getElem?_eq_some_iff.1 h2).1;rw [Array.getElem?_append_left (by simpa using hlt)]
  simpa using h2
section
variable {fn:Func} {I₀:Imm} {post:Value→Imm→Seg→Prop} {F:Seg}
def blocksOf (Ds:List Nat):Seg:=Ds.map fun D=>(D,.deferred (some []))
theorem leaves_marks {R : Ending → World → Prop} {tm : Array Value} : ∀ (Ds : List Nat) (w : World) (M : Seg), St I (blocksOf Ds ++ M) w → (∀ w', St I M w' → ∃ v, (results fn tm).run P w' = .ok v w' ∧ R (.returned v) w') →
    LeavesInM (fen none) 0 P fn tm R (Ds.map mark) .returning w:=by
  intro Ds
  induction Ds with
  | nil=>intro w M st h;exact h w st
  | cons D Ds ih=>
    intro w M st h;have hh:=st.mem D (.deferred (some [])) (by simp [blocksOf]);exact ⟨by simp,.inl ⟨D,_,rfl,run_takeDeferred hh,ih _ M (St.putObj (M:=blocksOf Ds++M) st).drop h⟩⟩
theorem HS (Ds:List Nat) {e:Exit} (he:e=.ret∨e=.normal) (hM:M.Perm (blocksOf Ds++R)) (h:Pst N (RetQ P fn I₀ post F) e [] l I R):Pst N (RetQM P fn I₀ post F) e (Ds.map mark) l I M:=fun a w hS hD hW=>by
  have key:LeavesInM (fen none) 0 P fn a.tmps (RQ I₀ post F) a.defers .returning w:=by
    rw [hD];refine leaves_marks Ds w R (hW.perm hM) fun w' st=>?_
    have:=h { tmps:=a.tmps,defers:=[] } w' ⟨hS.size,hS.get⟩ rfl st;rcases he with rfl | rfl
    · exact this.2
    · exact this.2
  rcases he with rfl | rfl
  · exact key
  · exact key
theorem pst_deferred {fid : FuncId} {vals cv : List Value} {pre F1 : Seg} {post1 : Value → Imm → Seg → Prop} (hcall : GF P fid = true) (ct : CtD P fid (vals ++ cv).toArray I pre post1) (hM : M.Perm (pre ++ F1))
    (next:∀ v I' M',I.le I'→post1 v I' M'→Pst N (RetQM P fn I₀ post F) .ret ds l I' (M'++F1)):Pst N (RetQM P fn I₀ post F) .ret ({ target:=.fn (.func fid) cv.toArray,args:=vals.toArray }::ds) l I M:=fun a w hS hD hW=>by
  show LeavesInM (fen none) 0 P fn a.tmps (RQ I₀ post F) a.defers .returning w;rw [hD];refine ⟨by simp,.inr ⟨fun h=>by simp [fen,Fence.wide] at h,.func fid,cv.toArray,fid,(vals++cv).toArray,rfl,?_,fun _ _=>trivial,?_⟩⟩
  · show (callFunc fid (vals.toArray++cv.toArray)).run P w=_
    rw [KY hcall];simp
  · refine (ct F1 w .returning (hW.perm hM)).mono ?_
    rintro e u' w' ⟨rfl,v,I',M',rfl,hle,hp,st⟩
    exact next v I' M' hle hp { tmps:=a.tmps,defers:=ds } w' ⟨hS.size,hS.get⟩ rfl st
end
def deferAt (ops:Array Oper) (i:Nat):Option (Call × TypeId × Option (Nat × Bool)):=
  match ops[i]? with
  | some o=>match o.op,o.dst with
    | .defer c,none=>some (c,o.type,o.guard)
    | _,_=>none
  | none=>none
theorem seq_defer {f : Operand} {fid : FuncId} {args : Array Operand} {tys : Array TypeId} {vals cv : List Value} (hop : deferAt ops i = some ({ callee := .value f, args, argTypes := tys }, ty, none)) (hf : CU l f = some (.func (.func fid) #[] cv.toArray)) (hv : OU l args.toList = some vals)
    (next:Seq (ρ:=none) P N ops Q ({ target:=.fn (.func fid) cv.toArray,args:=vals.toArray }::ds) (i+1) l I M):Seq (ρ:=none) P N ops Q ds i l I M:=by
  obtain ⟨h1,h2⟩:=IU hv;unfold deferAt at hop;cases ho:ops[i]? with
  | none=>rw [ho] at hop;cases hop
  | some o=>
    rw [ho] at hop;simp only at hop
    split at hop
    · rename_i c hc hdst
      simp only [Option.some.injEq,Prod.mk.injEq] at hop;obtain ⟨rfl,rfl,hgd⟩:=hop;intro a w hS hD hW;have hlt:i<ops.size:=(Array.getElem?_eq_some_iff.1 ho).1;rw [OV hlt];simp only [wpOpsIn,ho];have hw:Region.wanted o (yielded ops a.tmps)=true:=by simp [Region.wanted,hgd]
      rw [if_pos hw];refine ⟨fun _ _=>trivial,?_⟩;have hargs:args.map a.eval=vals.toArray:=by
        apply Array.ext'
        simp only [Array.toList_map];rw [← h2];refine List.map_congr_left fun x hx=>?_
        obtain ⟨v,hv'⟩:=h1 x hx;rw [eval_of hS hv',BN hv']
      have hrun:(o.semAt (fen none).round a.eval).run P w=.ok (.defer { target:=.fn (.func fid) cv.toArray,args:=vals.toArray }) w:=by
        show (Oper.semAt none a.eval o).run P w=_;rw [Oper.semAt_none,II,hc];show (do pure (Next.defer (← resolve a.eval { callee:=.value f,args,argTypes:=tys } o.type)):Sem Next).run P w=_;unfold resolve;simp only [hargs,eval_of hS hf,Deferred.ofValue];simp [Sem.run_bind,Result.andThen]
      rw [hrun];show wpOpsIn (fen none) 0 P ops Q _ ({ a with defers:=_::a.defers }.put o.dst undef) w;rw [hdst];exact next _ w ⟨hS.size,hS.get⟩ (by rw [← hD];rfl) hW
    · cases hop
end
end Go.Sl
namespace Go.Sh
open Go Go.Sl
def BJ (p:List Int):Array Value:=(p.map encI).toArray
def encP (p:Place):Value:=.agg (BJ p.val)
theorem FN (p:Place):(BJ p.val).size=10:=by simp [BJ,p.property]
theorem MX (p:List Int):∀ u∈(BJ p).toList,FC u=true:=fun u hu=>by
  simp only [BJ,List.toList_toArray,List.mem_map] at hu;obtain ⟨x,_,rfl⟩:=hu;rfl
def flatP:List (Nat × SK):=(List.range 10).map fun i=>(i,.i .i64)
theorem okC_pl (p:Place):okC (BJ p.val) flatP=true:=by
  rw [okC,List.all_eq_true];intro x hx;obtain ⟨i,hi,rfl⟩:=List.mem_map.1 hx;have hi:=List.mem_range.1 hi;have:i<p.val.length:=by rw [p.property];exact hi
  simp [BJ,this,encI,skV]
theorem eqC_pl (a b:Place):eqC (BJ a.val) (BJ b.val) flatP=decide (a=b):=by
  have key:eqC (BJ a.val) (BJ b.val) flatP=true↔a=b:=by
    constructor
    · intro h
      rw [eqC,List.all_eq_true] at h
      apply Subtype.ext
      refine List.ext_getElem (by rw [a.property,b.property]) fun i h1 h2=>?_
      have:=h (i,.i .i64) (List.mem_map.2 ⟨i,List.mem_range.2 (by rw [← a.property];exact h1),rfl⟩)
      simpa [BJ,h1,h2,encI,scE] using this
    · rintro rfl
      rw [eqC,List.all_eq_true];intro x hx;obtain ⟨i,hi,rfl⟩:=List.mem_map.1 hx;have hi:=List.mem_range.1 hi;have:i<a.val.length:=by rw [a.property];exact hi
      simp [BJ,this,encI,scE]
  by_cases h:a=b
  · rw [decide_eq_true h];exact key.2 h
  · rw [decide_eq_false h]
    cases h2:eqC (BJ a.val) (BJ b.val) flatP with
    | false=>rfl
    | true=>exact absurd (key.1 h2) h
theorem IL {P:Program} {kt:TypeId} (h:KV P 4 kt=some (10,flatP)) (hagg:EI P kt=some true):KeyOk P kt encP:=
  keyOk_flat h (by decide) hagg (fun p:Place=>BJ p.val) FN okC_pl eqC_pl
theorem setRow_put (p:List Int) (c i k:Nat) (h:2*c+1<p.length):(IX (BJ p) (0+c*2) [.int .i64 i,.int .i64 k]).toList=(BJ (putP p c i k)).toList:=by
  simp only [IX,BJ,putP];rw [show 0+c*2=2*c by omega];simp [List.map_set,encI]
section
variable {P:Program} {N:Nat} {ops:Array Oper} {i:Nat} {l:Sl} {I:Imm} {R M:Seg} {ty:TypeId} {gd:Option (Nat × Bool)} {K:Sl→Imm→Seg→Prop} {d:Nat}
theorem stp_storePl {T S : TypeId} {x y : Operand} {p : List Int} {b c i' k' : Nat} {M' : Seg} (k : Nat) (hop : GL ops N i = some (none, .store T x y, ty, gd)) (hg : FR ops l gd = some true)
    (hx:CU l x=some (.pointer (some ⟨b,0+c*2,none⟩))) (hy:CU l y=some (.agg #[.int .i64 i',.int .i64 k'])) (hsz:DY P T=some 2)
    (hk:M[k]?=some (b,Obj.cells (BJ p) S (0,0))) (hc:2*c+1<p.length) (hM:M.set k (b,Obj.cells (BJ (putP p c i' k')) S (0,0))=M')
    (h:K l I M'):Stp P N ops i l I M K:=by
  refine stp_store (cs:=(BJ p).toList) (cs':=(BJ (putP p c i' k')).toList) (vs:=[.int .i64 i',.int .i64 k']) (off:=0+c*2) (S:=S) (M':=M') k hop hg hx hy hsz rfl rfl rfl (by simpa using hk) ?_ ?_ (by simpa using hM) h
  · simp only [List.length_cons,List.length_nil,Array.length_toList,BJ,List.size_toArray,List.length_map];omega
  · have:=setRow_put p c i' k' hc
    simpa using this
end
def YardR (E T:TypeId) (y:Nat) (v1 v2 v3:Value) (Y:Yard):Imm→Seg→Prop:=fun I Mr=>
  ∃ ws Ms,Mr=(y,Obj.cells #[v1,v2,v3] T (0,0))::Ms∧EZ I v1 Y.cars∧BK I v2 Y.room∧Own E 1 AO v3 ws Ms∧RowsV I ws Y.tracks
theorem JQ (Y:Yard):(BC Y).val.length=10:=(BC Y).property
theorem metV_getD (p:Place) (m:Met):(QB p (metV m)).getD (.int .i64 0)=.int .i64 ((KW p m).getD 0:Nat):=by
  rw [metV_get];cases KW p m <;> rfl
theorem metV_isSome (p:Place) (m:Met):(QB p (metV m)).isSome=(KW p m).isSome:=by
  rw [metV_get];cases KW p m <;> rfl
theorem YardR.mono {E T:TypeId} {y:Nat} {v1 v2 v3:Value} {Y:Yard} {I J:Imm} {M:Seg} (h:YardR E T y v1 v2 v3 Y I M) (le:I.le J):YardR E T y v1 v2 v3 Y J M:=by
  obtain ⟨ws,Ms,h1,h2,h3,h4,h5⟩:=h;exact ⟨ws,Ms,h1,h2.mono le,h3.mono le,h4,h5.mono le⟩
def EL (ps:List (Yard→Bool)) (Y:Yard):Bool:=ps.all fun p=>p Y
def LJ:Yard→Bool:=fun _=>false
def GoalsOk (P:Program) (E T:TypeId) (I:Imm) (A:Yard) (gs:List Value) (ps:List (Yard→Bool)):Prop:=
  gs.length=ps.length∧∀ i,i<gs.length→∃ fid cv,gs.getD i undef=.func (.func fid) #[] (List.toArray cv)∧GF P fid=true ∧
    ∀ J y v1 v2 v3 Y ws Ms,I.le J→Kin A Y→EZ J v1 Y.cars→BK J v2 Y.room→Own E 1 AO v3 ws Ms→RowsV J ws Y.tracks→(∀ j,j<i→(ps.getD j LJ) Y=true) →
      Ct P fid (.pointer (some ⟨y,0,none⟩)::cv).toArray J ((y,Obj.cells #[v1,v2,v3] T (0,0))::Ms) (fun v I' M'=>v=.bool ((ps.getD i LJ) Y)∧M'=(y,Obj.cells #[v1,v2,v3] T (0,0))::Ms)
theorem GoalsOk.mono {P:Program} {E T:TypeId} {I J:Imm} {A:Yard} {gs:List Value} {ps:List (Yard→Bool)} (h:GoalsOk P E T I A gs ps) (le:I.le J):GoalsOk P E T J A gs ps:=
  ⟨h.1,fun i hi=>by
    obtain ⟨fid,cv,e,hc,hct⟩:=h.2 i hi
    exact ⟨fid,cv,e,hc,fun K y v1 v2 v3 Y ws Ms hle=>hct K y v1 v2 v3 Y ws Ms (le.trans hle)⟩⟩
theorem allP_done {ps:List (Yard→Bool)} {Y:Yard} (h:∀ j,j<ps.length→(ps.getD j LJ) Y=true):EL ps Y=true:=by
  rw [EL,List.all_eq_true];intro p hp;obtain ⟨i,hi,rfl⟩:=List.mem_iff_getElem.1 hp;have:=h i hi
  simpa [List.getD,hi] using this
theorem allP_miss {ps:List (Yard→Bool)} {Y:Yard} {k:Nat} (hk:k<ps.length) (h:(ps.getD k LJ) Y=false):EL ps Y=false:=by
  rw [EL,List.all_eq_false];refine ⟨ps.getD k LJ,AJ hk,by simp [h]⟩
theorem before_snoc {ps:List (Yard→Bool)} {Y:Yard} {k:Nat} (h:∀ j,j<k→(ps.getD j LJ) Y=true) (hk:(ps.getD k LJ) Y=true):∀ j,j<k+1→(ps.getD j LJ) Y=true:=fun j hj=>by
  rcases Nat.lt_or_ge j k with h1 | h1
  · exact h j h1
  · have:j=k:=by omega
    subst this;exact hk
def DB (order:List Int) (Y:Yard):Bool:=decide (Y.tracks.getD 0 []=order)
theorem Kin.good {A Y:Yard} (f:Fine A) (k:Kin A Y):GoodY Y:=by
  refine ⟨fun t ht c hc=>?_,by rw [k.cars];exact f.good.small,by rw [k.room,k.len];exact f.good.len,by rw [k.perm.length_eq];exact f.good.sum⟩;rw [k.cars];exact MC f.ok c (k.perm.mem_iff.1 (List.mem_flatten.2 ⟨t,ht,hc⟩))
theorem Kin.len3 {A Y:Yard} (f:Fine A) (k:Kin A Y):Y.tracks.length≤3:=by rw [k.len,f.len];exact f.room3
theorem Kin.cars5 {A Y:Yard} (f:Fine A) (k:Kin A Y):Y.cars.length≤5:=by rw [k.cars];exact f.cars
theorem Kin.pos {A Y:Yard} (f:Fine A) (k:Kin A Y):0<Y.tracks.length:=by rw [k.len,f.len];exact f.room1
theorem back_ok {Y : Yard} {s : Shift} (h : CJ Y s = 0) : (0 ≤ (CM s).frm ∧ (CM s).frm < (moved Y s).tracks.length) ∧ (0 ≤ (CM s).to ∧ (CM s).to < (moved Y s).tracks.length) ∧
    (0≤(CM s).many∧(CM s).many≤((moved Y s).tracks.getD (CM s).frm.toNat []).length):=by
  have m:=mayOk h;have hf:=m.frm;have ht:=m.to;have hne:=m.ne;have hm:=m.many;have hne':s.frm.toNat≠s.to.toNat:=by omega
  refine ⟨by simpa [CM,moved] using ht,by simpa [CM,moved] using hf,by simp only [CM];omega,?_⟩;simp only [CM,moved,List.getD];rw [List.getElem?_set_ne hne',List.getElem?_set_self (by omega)];simp only [Option.getD_some,List.length_append,List.length_drop,GA,trk];simp only [List.getD] at hm ⊢;omega
theorem none_of {α:Type} {o:Option α} (h:o.isSome=false):o=none:=by cases o <;> first | rfl | cases h
theorem some_of {α:Type} {o:Option α} (h:o.isSome=true):∃ l,o=some l:=by cases o <;> first | cases h;done | exact ⟨_,rfl⟩
theorem MI {xs ds:List Shift} {s:Shift} (h:xs++[s] <+: ds):ds.drop xs.length=s::ds.drop (xs++[s]).length:=by
  obtain ⟨r,rfl⟩:=h;simp
theorem NP {xs ds:List Shift} {s:Shift} (h:xs++[s] <+: ds):s∈ds:=h.subset (by simp)
theorem try_next {f:Shift→Met→Option (List Shift) × Met} {ds xs:List Shift} {s:Shift} {m:Met} (h:xs++[s] <+: ds) (hf:(f s m).1=none):GQ f (ds.drop xs.length) m=GQ f (ds.drop (xs++[s]).length) (f s m).2:=by
  rw [MI h];simp only [GQ];cases hr:f s m with
  | mk o m'=>rw [hr] at hf;simp only at hf;subst hf;rfl
theorem try_hit {f:Shift→Met→Option (List Shift) × Met} {ds xs:List Shift} {s:Shift} {m:Met} {l:List Shift} (h:xs++[s] <+: ds) (hf:(f s m).1=some l):GQ f (ds.drop xs.length) m=(some (s::l),(f s m).2):=by
  rw [MI h];simp only [GQ];cases hr:f s m with
  | mk o m'=>rw [hr] at hf;simp only at hf;subst hf;rfl
theorem try_done {f:Shift→Met→Option (List Shift) × Met} {ds:List Shift} {m:Met}:GQ f (ds.drop ds.length) m=(none,m):=by
  rw [DA (Nat.le_refl _)];rfl
theorem search_goal {g:Yard→Bool} {d:Nat} {Y:Yard} {m:Met} (h:g Y=true):AM g d Y m=(some [],m):=by
  cases d <;> simp [AM,h]
theorem search_zero {g:Yard→Bool} {Y:Yard} {m:Met} (h:g Y=false):AM g 0 Y m=(none,m):=by simp [AM,h]
theorem search_stop {g:Yard→Bool} {d:Nat} {Y:Yard} {m:Met} (h:g Y=false) (hd:d=0∨(KW (BC Y) m).isSome=true∧d≤(KW (BC Y) m).getD 0):AM g d Y m=(none,m):=by
  cases d with
  | zero=>exact search_zero h
  | succ d=>
    rcases hd with hd | ⟨h1,h2⟩
    · cases hd
    · simp only [AM,h,Bool.false_eq_true,if_false]
      rw [if_pos];cases hg:KW (BC Y) m with
      | none=>rw [hg] at h1;cases h1
      | some n=>rw [hg] at h2;simpa [stopped] using h2
theorem search_go {g : Yard → Bool} {d : Nat} {Y : Yard} {m : Met} (h : g Y = false) (hd : ¬ ((KW (BC Y) m).isSome = true ∧ d + 1 ≤ (KW (BC Y) m).getD 0)) :
    AM g (d+1) Y m=GQ (fun s met=>AM g d (moved Y s) met) ((draws Y).drop ([]:List Shift).length) (updM (BC Y) (d+1) m):=by
  simp only [AM,h,Bool.false_eq_true,if_false,List.length_nil,List.drop_zero];rw [if_neg];cases hg:KW (BC Y) m with
  | none=>simp [stopped]
  | some n=>
    rw [hg] at hd
    simpa [stopped] using hd
theorem tryAll_len {f:Shift→Met→Option (List Shift) × Met} {d:Nat} (h:∀ s m,((f s m).1.getD []).length≤d):∀ (ss:List Shift) (m:Met),((GQ f ss m).1.getD []).length≤d+1:=by
  intro ss
  induction ss with
  | nil=>intro m;simp [GQ]
  | cons s r ih=>
    intro m;simp only [GQ];have:=h s m;cases hr:f s m with
    | mk o m'=>
      rw [hr] at this;cases o with
      | none=>exact ih m'
      | some l=>simpa using this
theorem search_len (g:Yard→Bool):∀ (d:Nat) (Y:Yard) (m:Met),((AM g d Y m).1.getD []).length≤d:=by
  intro d
  induction d with
  | zero=>intro Y m;simp only [AM];split <;> simp
  | succ d ih=>
    intro Y m;simp only [AM]
    split
    · simp
    · split
      · simp
      · exact tryAll_len (fun s m=>ih _ m) _ _
def stopB (d:Nat) (o:Option Nat):Bool:=(cmp .eql (↑d) (0))||(o.isSome&&cmp .geq (↑(o.getD 0)) (↑d))
theorem search_stop2 {g:Yard→Bool} {d:Nat} {Y:Yard} {m:Met} (h:g Y=false) (hb:stopB d (KW (BC Y) m)=true):AM g d Y m=(none,m):=by
  refine search_stop h ?_;unfold stopB at hb;rcases or_t hb with h1 | h1
  · exact .inl (by have:=DF h1;omega)
  · obtain ⟨h2,h3⟩:=and_t h1
    exact .inr ⟨h2,by have:=geq_t h3;omega⟩
theorem search_go_of {d:Nat} {o:Option Nat} (hb:stopB d o=false):d≠0∧¬ (o.isSome=true∧d≤o.getD 0):=by
  unfold stopB at hb;obtain ⟨h1,h2⟩:=or_f hb;refine ⟨by have:=DE h1;omega,fun ⟨h3,h4⟩=>?_⟩;rw [h3,Bool.true_and] at h2;have:=geq_f h2;omega
theorem search_go2 {g : Yard → Bool} {d e : Nat} {Y : Yard} {m : Met} (h : g Y = false) (hde : d = e + 1) (hd : ¬ ((KW (BC Y) m).isSome = true ∧ d ≤ (KW (BC Y) m).getD 0)) :
    AM g d Y m=GQ (fun s met=>AM g e (moved Y s) met) ((draws Y).drop ([]:List Shift).length) (updM (BC Y) (e+1) m):=by
  subst hde;exact search_go h hd
theorem PQ {Y:Yard} (f:Fine Y) {g:Yard→Bool} {d:Nat} (h:∀ m,m<d→plain g m Y=none):(AM g d Y []).1=plain g d Y:=
  (searchM_ok f d Y [] (Kin.refl Y) (fun Z _ n hn=>by cases hn) h).1
theorem findSome_at {α β:Type} {f:α→Option β}:∀ (l:List α) (i:Nat) (hi:i<l.length),(∀ j (hj:j<i),f (l[j]'(by omega))=none)→(f l[i]).isSome=true→l.findSome? f=f l[i]:=by
  intro l
  induction l with
  | nil=>intro i hi;simp at hi
  | cons x l ih=>
    intro i hi h hs;cases i with
    | zero=>
      simp only [List.getElem_cons_zero] at hs ⊢;rw [List.findSome?_cons];cases hf:f x with
      | none=>rw [hf] at hs;cases hs
      | some y=>rfl
    | succ i=>
      have h0:=h 0 (by omega);simp only [List.getElem_cons_zero] at h0;rw [List.findSome?_cons,h0];simp only [List.getElem_cons_succ] at hs ⊢;exact ih i (by simpa using hi) (fun j hj=>by have:=h (j+1) (by omega);simpa using this) hs
theorem fewest_hit {g:Yard→Bool} {Y:Yard} {d:Nat} (hd:d<5) (h:∀ m,m<d→plain g m Y=none) (hp:(plain g d Y).isSome=true):CZ g Y=plain g d Y:=by
  have:=findSome_at (f:=fun d=>plain g d Y) (List.range 5) d (by simpa using hd) (fun j hj=>by simpa using h j hj) (by simpa using hp);rw [CZ,this];simp
theorem fewest_none {g:Yard→Bool} {Y:Yard} (h:∀ m,m<5→plain g m Y=none):CZ g Y=none:=by
  rw [CZ,List.findSome?_eq_none_iff];intro d hd;exact h d (List.mem_range.1 hd)
theorem below_next {g:Yard→Bool} {Y:Yard} {d:Nat} (h:∀ m,m<d→plain g m Y=none) (hd:plain g d Y=none):∀ m,m<d+1→plain g m Y=none:=fun m hm=>by
  rcases Nat.lt_or_ge m d with h1 | h1
  · exact h m h1
  · have:m=d:=by omega
    subst this;exact hd
def JO {α:Type} (o:Option α):Int:=if o.isSome then 0 else 11
theorem errOf_some {α:Type} {o:Option α} (h:o.isSome=true):JO o=0:=by simp [JO,h]
theorem errOf_is {α:Type} {o:Option α} (h:JO o=0):o.isSome=true:=by
  unfold JO at h;split at h
  · assumption
  · cases h
theorem errOf_not {α:Type} {o:Option α} (h:JO o≠0):o.isSome=false:=by
  cases hs:o.isSome with
  | false=>rfl
  | true=>exact absurd (by simp [JO,hs]) h
theorem errOf_none {α:Type} {o:Option α} (h:o=none):JO o=11:=by simp [JO,h]
def goO (n:Nat):List Int→List Int→Int
  | _,[]=>0
  | pre,c::r=>if inB c 0 (↑n-1) then (if c∈pre then 4 else goO n (pre++[c]) r) else 3
def DU (Y:Yard) (order:List Int):Int:=if checkErr Y=0 then goO Y.cars.length [] order else checkErr Y
theorem orderErr_bad {Y:Yard} {o:List Int} (h:checkErr Y≠0):DU Y o=checkErr Y:=if_neg h
theorem orderErr_ok {Y:Yard} {o:List Int} (h:checkErr Y=0):DU Y o=goO Y.cars.length (o.take 0) (o.drop 0):=if_pos h
theorem goO_unknown {n k:Nat} {o:List Int} (hk:k<o.length) (h:inB (o.getD k 0) 0 (↑n-1)=false):goO n (o.take k) (o.drop k)=3:=by
  rw [BR (d:=0) hk];simp only [goO];rw [if_neg (by rw [h];simp)]
theorem goO_twice {n k:Nat} {o:List Int} (hk:k<o.length) (h:inB (o.getD k 0) 0 (↑n-1)=true) (hm:o.getD k 0∈o.take k):goO n (o.take k) (o.drop k)=4:=by
  rw [BR (d:=0) hk];simp only [goO];rw [if_pos h,if_pos hm]
theorem goO_next {n k:Nat} {o:List Int} (hk:k<o.length) (h:inB (o.getD k 0) 0 (↑n-1)=true) (hm:¬ o.getD k 0∈o.take k):goO n (o.take k) (o.drop k)=goO n (o.take (k+1)) (o.drop (k+1)):=by
  rw [BR (d:=0) hk,CF (d:=0) hk];simp only [goO];rw [if_pos h,if_neg hm]
theorem goO_done {n k:Nat} {o:List Int} (hk:o.length≤k):goO n (o.take k) (o.drop k)=0:=by rw [DA hk];rfl
def DG (Y:Yard) (order:List Int):List Shift × Int:=
  if DU Y order=0 then ((CZ (EL [DB order]) Y).getD [],JO (CZ (EL [DB order]) Y)) else ([],DU Y order)
theorem MQ {Y:Yard} {o:List Int} (h:DU Y o≠0):DG Y o=([],DU Y o):=if_neg h
theorem fewestE_ok {Y:Yard} {o:List Int} (h:DU Y o=0):DG Y o=((CZ (EL [DB o]) Y).getD [],JO (CZ (EL [DB o]) Y)):=if_pos h
theorem MK {Y:Yard} {o:List Int} (h:DU Y o=0):Valid Y:=by
  unfold DU at h
  split at h
  · assumption
  · exact h
theorem Asc.nodup {l:List Int} (h:Asc l):l.Nodup:=h.imp fun hab=>by omega
def wide (Y:Yard) (i:Nat):Yard:=⟨Y.cars,Y.room.set i 20,Y.tracks⟩
theorem wide_fine {Y:Yard} (f:Fine Y) (i:Nat):Fine (wide Y i):=by
  refine ⟨f.cars,f.carOk,by simpa [wide] using f.room1,by simpa [wide] using f.room3,fun n hn=>?_,by simpa [wide] using f.len,f.ok,f.nodup,fun k hk=>?_,f.all,f.groups⟩
  · rcases List.mem_or_eq_of_mem_set hn with h | e
    · exact f.roomOk n h
    · subst e;rfl
  · have h1:=f.fits k hk
    have hk':k<Y.room.length:=by rw [← f.len];exact hk
    have h2:=inB_t (f.roomOk _ (AJ (d:=0) hk'));simp only [wide,List.getD] at h1 h2 ⊢
    by_cases e:i=k
    · subst e
      rw [List.getElem?_set_self hk'];simp only [Option.getD_some];omega
    · rw [List.getElem?_set_ne e];exact h1
def DI (Y:Yard) (o:List Int) (i:Nat):List Int:=((List.range' i (Y.room.length-i)).filter fun i=>(CZ (EL [DB o]) (wide Y i)).isSome).map fun i:Nat=>(i:Int)
theorem lacks_yes {Y:Yard} {o:List Int} {i:Nat} (hi:i<Y.room.length) (h:(CZ (EL [DB o]) (wide Y i)).isSome=true):DI Y o i=(i:Int)::DI Y o (i+1):=by
  unfold DI;rw [FU hi];simp [h]
theorem lacks_no {Y:Yard} {o:List Int} {i:Nat} (hi:i<Y.room.length) (h:(CZ (EL [DB o]) (wide Y i)).isSome=false):DI Y o i=DI Y o (i+1):=by
  unfold DI;rw [FU hi];simp [h]
theorem lacks_done {Y:Yard} {o:List Int} {i:Nat} (hi:Y.room.length≤i):DI Y o i=[]:=by
  unfold DI;rw [show Y.room.length-i=0 by omega];rfl
theorem lacks_le (Y:Yard) (o:List Int) (i:Nat):(DI Y o i).length≤Y.room.length:=by
  unfold DI;rw [List.length_map];refine Nat.le_trans (List.length_filter_le _ _) ?_;rw [List.length_range'];omega
def GX (Y:Yard) (o:List Int):List Int × Int:=if (DG Y o).2=11 then (if (DI Y o 1).length=0 then ([],11) else (DI Y o 1,0)) else ([],(DG Y o).2)
theorem lacksE_bad {Y:Yard} {o:List Int} (h:(DG Y o).2≠11):GX Y o=([],(DG Y o).2):=if_neg h
theorem lacksE_none {Y:Yard} {o:List Int} (h:(DG Y o).2=11) (h2:(DI Y o 1).length=0):GX Y o=([],11):=(if_pos h).trans (if_pos h2)
theorem lacksE_some {Y:Yard} {o:List Int} (h:(DG Y o).2=11) (h2:(DI Y o 1).length≠0):GX Y o=(DI Y o 1,0):=(if_pos h).trans (if_neg h2)
theorem goTrack_11 {n:Nat} {fin:List Int→Int} (hf:∀ m,fin m≠11):∀ (t met:List Int),DP n fin t met≠11:=by
  intro t
  induction t with
  | nil=>intro met;exact hf met
  | cons c r ih=>intro met;simp only [DP];split <;> first | (split <;> first | decide | exact ih _) | decide
theorem goG_11 {cs:List Car} {t:List Int} {fin:List Int→Int} (hf:∀ m,fin m≠11):∀ (l:List Int) (k:Nat) (met:List Int),goG cs t fin k l met≠11:=by
  intro l
  induction l with
  | nil=>intro k met;exact hf met
  | cons c r ih=>intro k met;simp only [goG];split <;> first | decide | exact ih _ _
theorem goGs_11 {cs:List Car}:∀ (ts:List (List Int)) (met:List Int),goGs cs ts met≠11:=by
  intro ts
  induction ts with
  | nil=>intro met;simp [goGs]
  | cons t r ih=>intro met;exact goG_11 ih _ _ _
theorem goTracks_11 {cs:List Car} {fin:List Int→Int} (hf:∀ m,fin m≠11):∀ (ts:List (List Int)) (rm met:List Int),CO cs fin ts rm met≠11:=by
  intro ts
  induction ts with
  | nil=>intro rm met;exact hf met
  | cons t r ih=>intro rm met;simp only [CO];exact goTrack_11 (fun m=>by split <;> first | decide | exact ih _ _) _ _
theorem checkErr_11 (Y:Yard):checkErr Y≠11:=by
  have h:∀ m:List Int,(if m.length<Y.cars.length then 7 else DH Y)≠11:=fun m=>by split <;> first | decide | exact goGs_11 _ _
  unfold checkErr EG
  split
  · decide
  · split
    · split
      · decide
      · split
        · decide
        · split
          · split
            · exact goTracks_11 h _ _ _
            · decide
          · decide
    · decide
theorem goO_11 {n:Nat}:∀ (o pre:List Int),goO n pre o≠11:=by
  intro o
  induction o with
  | nil=>intro p;simp [goO]
  | cons c r ih=>intro p;simp only [goO];split <;> first | (split <;> first | decide | exact ih _) | decide
theorem fewest_11 {Y:Yard} {o:List Int} (h:(DG Y o).2=11):DU Y o=0:=by
  by_cases h0:DU Y o=0
  · exact h0
  · rw [MQ h0] at h
    exfalso
    simp only [DU] at h
    split at h
    · exact goO_11 _ _ h
    · exact checkErr_11 Y h
theorem moved_back {Y:Yard} {s:Shift} (h:CJ Y s=0):moved (moved Y s) (CM s)=Y:=by
  have m:=mayOk h;have hf:=m.frm;have ht:=m.to;have hne:=m.ne;have hm:=m.many;have hne':s.to.toNat≠s.frm.toNat:=by omega
  rcases Y with ⟨cs,rm,ts⟩
  simp only at hf ht hm;unfold moved CM;simp only [Yard.mk.injEq,true_and]
  generalize hA:ts.getD s.frm.toNat []=A at hm
  generalize hB:ts.getD s.to.toNat []=B
  have hA2:trk ⟨cs,rm,ts⟩ s.frm=A:=hA;have hB2:trk ⟨cs,rm,ts⟩ s.to=B:=hB;have hn:(GA ⟨cs,rm,ts⟩ s).toNat=A.length-s.many.toNat:=by simp only [GA,hA2];omega
  rw [hA2,hB2,hn];have g1:∀ (X Z:List Int),trk ⟨cs,rm,(ts.set s.to.toNat X).set s.frm.toNat Z⟩ s.to=X:=fun X Z=>by
    simp only [trk,List.getD];rw [List.getElem?_set_ne (Ne.symm hne'),List.getElem?_set_self (by omega)];rfl
  have g2:∀ (X Z:List Int),trk ⟨cs,rm,(ts.set s.to.toNat X).set s.frm.toNat Z⟩ s.frm=Z:=fun X Z=>by
    simp only [trk,List.getD];rw [List.getElem?_set_self (by rw [List.length_set];omega)];rfl
  have hc:(GA ⟨cs,rm,(ts.set s.to.toNat (B++A.drop (A.length-s.many.toNat))).set s.frm.toNat (A.take (A.length-s.many.toNat))⟩ ⟨s.to,s.frm,s.many⟩).toNat=B.length:=by
    simp only [GA,g1,List.length_append,List.length_drop];omega
  rw [g1,g2,hc];simp only [List.drop_left,List.take_left,List.take_append_drop];refine list_eq (d:=[]) (by simp) fun j hj=>?_
  simp only [List.length_set] at hj;simp only [List.getD]
  by_cases h1:s.to.toNat=j
  · subst h1
    rw [List.getElem?_set_self (by simpa using hj)];simp only [List.getD] at hB
    simpa using hB.symm
  · rw [List.getElem?_set_ne h1]
    by_cases h2:s.frm.toNat=j
    · subst h2
      rw [List.getElem?_set_self (by simpa using hj)];simp only [List.getD] at hA
      simpa using hA.symm
    · rw [List.getElem?_set_ne h2,List.getElem?_set_ne h2,List.getElem?_set_ne h1]
def encS (s:Shift):List Value:=[.agg #[.int .i64 s.frm,.int .i64 s.to,.int .i64 s.many]]
end Go.Sh

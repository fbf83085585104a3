/-
  Part 21 of the proof of what several laws share.
-/
import Derived.WalkKit
import Derived.LaidEql
import Derived.Stop.Asserts
import Derived.RowKitTokens
import Derived.Test.YtkgeoekcnlgfnaaGreatDoorKf1
import Derived.Test.YtkgeoekcnlgfnaaGreatDoorKf2
import Derived.Test.YtkgeoekcnlgfnaaGreatDoorKf3
import Derived.Test.YtkgeoekcnlgfnaaGreatDoorKf4
import Derived.Test.YtkgeoekcnlgfnaaGreatDoorKf5
import Derived.Test.YtkgeoekcnlgfnaaGreatDoorKf6
import Derived.Test.YtkgeoekcnlgfnaaGreatDoorKf13
import Derived.Test.YtkgeoekcnlgfnaaGreatDoorKf14
import Derived.Test.YtkgeoekcnlgfnaaGreatDoorKf15
import Derived.Test.YtkgeoekcnlgfnaaGreatDoorKf16
import Derived.Test.YtkgeoekcnlgfnaaGreatDoorKf17
import Derived.Test.YtkgeoekcnlgfnaaGreatDoorKf18
import Derived.Test.YtkgeoekcnlgfnaaGreatDoorKf19
import Derived.Test.YtkgeoekcnlgfnaaGreatDoorKf20
set_option linter.unusedVariables false
set_option linter.unusedSimpArgs false
section
namespace Go.Proofs.TryzA
open Go.RowKit Go.Extern.Stop Go.Stop Go.Extern Go
theorem valueOfT (t:Addr) (w:World):(ReflectliteValue.unpack (.iface 184 (.pointer (some t)))).run Tryz.prog w
  = .ok (.agg #[.pointer (some ⟨1,184,none⟩), .pointer (some ⟨w.heap.size,0,none⟩), .int .u64 150]) (w.alloc (.cells #[.pointer (some t)] 184)):=by kernel_rfl
theorem typeT (a:Addr) (w:World):(ReflectliteValue.methodAny (ReflectliteValue.valueError "reflectlite.Value.Type" 0) (fun t _ _ _=>ReflectliteType.toType t) #[.agg #[.pointer (some ⟨1,184,none⟩), .pointer (some a), .int .u64 150]]).run Tryz.prog w
  = .ok (.iface 230 (.agg #[.pointer (some ⟨1,184,none⟩)])) w:=by kernel_rfl
theorem methodKind (h:Value) (w:World):(Go.method 379 230 (.agg #[h]) "Kind").run Tryz.prog w = .ok (170,h) w:=by kernel_rfl
theorem kindT (w:World):((ReflectliteType.abiMethod fun t=>(fun a:Nat=>Value.int IntKind.u8 (a:Int)) <$> Rtype.kind t) #[.pointer (some ⟨1,184,none⟩)]).run Tryz.prog w = .ok (.int .u8 22) w:=by kernel_rfl
theorem kindE (w:World):((ReflectliteType.abiMethod fun t=>(fun a:Nat=>Value.int IntKind.u8 (a:Int)) <$> Rtype.kind t) #[.pointer (some ⟨1,36,none⟩)]).run Tryz.prog w = .ok (.int .u8 2) w:=by kernel_rfl
theorem rlm (z:Sem Value) (f:TypeId → Addr → Nat → Nat → Sem Value) (v:Value) :
  ReflectliteValue.method z f #[v]=(do match ← ReflectliteValue.parts v with | none=>z | some (t,a,fl)=>f t a fl (fl % 32)):=rfl
theorem partsT (a:Addr) (w:World):(ReflectliteValue.parts (.agg #[.pointer (some ⟨1,184,none⟩), .pointer (some a), .int .u64 150])).run Tryz.prog w = .ok (some (184,a,150)) w:=by kernel_rfl
theorem isNilT (a p:Addr) (W:World) (ha:W.cell? a=some (.pointer (some p))) :
  (ReflectliteValue.method (ReflectliteValue.valueError "reflectlite.Value.IsNil" 0) ReflectliteValue.isNil #[.agg #[.pointer (some ⟨1,184,none⟩), .pointer (some a), .int .u64 150]]).run Tryz.prog W = .ok (.bool false) W:=by
 rw [rlm]
 simp only [Sem.run_bind,partsT,Result.andThen]
 simp [ReflectliteValue.isNil,loadVar,isAgg,underlying,Tryz.underlying184,ha,Result.andThen]
theorem methodElem (h:Value) (w:World):(Go.method 379 230 (.agg #[h]) "Elem").run Tryz.prog w = .ok (184, .agg #[h]) w:=by kernel_rfl
theorem methodImplements (h:Value) (w:World):(Go.method 379 230 (.agg #[h]) "Implements").run Tryz.prog w = .ok (185, .agg #[h]) w:=by kernel_rfl
theorem methodAssignableTo (h:Value) (w:World):(Go.method 379 230 (.agg #[h]) "AssignableTo").run Tryz.prog w = .ok (182, .agg #[h]) w:=by kernel_rfl
theorem elemT (w:World):(ReflectliteType.method ReflectliteType.elem #[.agg #[.pointer (some ⟨1,184,none⟩)]]).run Tryz.prog w = .ok (.iface 230 (.agg #[.pointer (some ⟨1,36,none⟩)])) w:=by kernel_rfl
theorem implementsE (w:World):(ReflectliteType.relation "Implements" ReflectliteType.implements_ #[.agg #[.pointer (some ⟨1,36,none⟩)], .iface 230 (.agg #[.pointer (some ⟨1,153,none⟩)])]).run Tryz.prog w = .ok (.bool true) w:=by kernel_rfl
theorem typeOfE (v:Value) (w:World):(ReflectliteType.typeOf #[.iface 36 v]).run Tryz.prog w = .ok (.iface 230 (.agg #[.pointer (some ⟨1,36,none⟩)])) w:=by kernel_rfl
theorem typeOfW (v:Value) (w:World):(ReflectliteType.typeOf #[.iface 179 v]).run Tryz.prog w = .ok (.iface 230 (.agg #[.pointer (some ⟨1,179,none⟩)])) w:=by kernel_rfl
theorem assignableE (w:World):(ReflectliteType.relation "AssignableTo" ReflectliteType.assignableTo #[.agg #[.pointer (some ⟨1,36,none⟩)], .iface 230 (.agg #[.pointer (some ⟨1,36,none⟩)])]).run Tryz.prog w = .ok (.bool true) w:=by kernel_rfl
theorem assignableW (w:World):(ReflectliteType.relation "AssignableTo" ReflectliteType.assignableTo #[.agg #[.pointer (some ⟨1,179,none⟩)], .iface 230 (.agg #[.pointer (some ⟨1,36,none⟩)])]).run Tryz.prog w = .ok (.bool false) w:=by kernel_rfl
theorem valueOfE (n:Int) (w:World):(ReflectliteValue.unpack (.iface 36 (.int .i64 n))).run Tryz.prog w
  = .ok (.agg #[.pointer (some ⟨1,36,none⟩), .pointer (some ⟨w.heap.size,0,none⟩), .int .u64 130]) (w.alloc (.cells #[.int .i64 n] 36)):=by kernel_rfl
theorem elemOfT (w:World):(Rtype.elem? 184).run Tryz.prog w = .ok (some 36) w:=by kernel_rfl
theorem mkE (p:Addr) (w:World):(ReflectliteValue.mk 36 p ReflectliteValue.flagAddr).run Tryz.prog w = .ok (.agg #[.pointer (some ⟨1,36,none⟩), .pointer (some p), .int .u64 386]) w:=by kernel_rfl
theorem elemVT (a p:Addr) (W:World) (ha:W.cell? a=some (.pointer (some p))) :
  (ReflectliteValue.method (ReflectliteValue.valueError "reflectlite.Value.Elem" 0) ReflectliteValue.elem #[.agg #[.pointer (some ⟨1,184,none⟩), .pointer (some a), .int .u64 150]]).run Tryz.prog W
   = .ok (.agg #[.pointer (some ⟨1,36,none⟩), .pointer (some p), .int .u64 386]) W:=by
 rw [rlm]
 simp only [Sem.run_bind,partsT,Result.andThen]
 simp [ReflectliteValue.elem,loadVar,isAgg,underlying,Tryz.underlying184,ha,Result.andThen,elemOfT,mkE]
theorem rls (v x:Value):ReflectliteValue.set #[v,x]=(do
  let (some (dst,a,fl),some (src,b,_)):=(← ReflectliteValue.parts v, ← ReflectliteValue.parts x)
   | unsupported (.noEntry "extern/(internal/reflectlite.Value).Set.zeroValue")
  if fl / ReflectliteValue.flagAddr % 2 == 0 then unsupported (.noEntry "extern/(internal/reflectlite.Value).Set.unaddressable")
  let val ← loadVar src b
  if ← Rtype.directlyAssignable dst src then storeVar dst a val
  else if ← Rtype.implements dst src then
   if (← Rtype.kind src) == 20 then
    match val with
    | .nilIface=>unsupported (.noEntry "extern/reflectlite: a nil value of one interface type handed on as a value of another")
    | _=>storeVar dst a val
   else storeVar dst a (.iface src val)
  else panicString ("reflectlite.Set: value of type " ++ (← Rtype.spelt src) ++ " is not assignable to type " ++ (← Rtype.spelt dst))
  pure (.tuple #[])):=rfl
theorem partsEa (a:Addr) (w:World):(ReflectliteValue.parts (.agg #[.pointer (some ⟨1,36,none⟩), .pointer (some a), .int .u64 386])).run Tryz.prog w = .ok (some (36,a,386)) w:=by kernel_rfl
theorem partsE (a:Addr) (w:World):(ReflectliteValue.parts (.agg #[.pointer (some ⟨1,36,none⟩), .pointer (some a), .int .u64 130])).run Tryz.prog w = .ok (some (36,a,130)) w:=by kernel_rfl
theorem directE (w:World):(Rtype.directlyAssignable 36 36).run Tryz.prog w = .ok true w:=by kernel_rfl
theorem setE (ta b:Addr) (n:Int) (old:Value) (W:World) (hb:W.cell? b=some (.int .i64 n)) (ht:W.cell? ta=some old) (hf:W.frozen? ta=false) :
  (ReflectliteValue.set #[.agg #[.pointer (some ⟨1,36,none⟩), .pointer (some ta), .int .u64 386], .agg #[.pointer (some ⟨1,36,none⟩), .pointer (some b), .int .u64 130]]).run Tryz.prog W
   = .ok (.tuple #[]) (W.setCell ta (.int .i64 n)):=by
 rw [rls]
 simp only [Sem.run_bind,partsEa,partsE,Result.andThen]
 simp [ReflectliteValue.flagAddr,loadVar,isAgg,underlying,Tryz.underlying36,hb,Result.andThen,directE,storeVar,Value.cells,storeCells,Addr.add]
 rw [run_store Tryz.prog W ta _ _ (by rfl)]
 simp [ht,hf]
end Go.Proofs.TryzA
end

section
namespace Go.Proofs.TryzA
open Go.RowKit Go.Extern.Stop Go.Stop Go.Extern Go
set_option maxHeartbeats 4000000 in
theorem as_no (n:Int) (t a:Addr) (old:Value) (w:World) (ha:w.cell? a=some (.pointer (some t))) (ht0:w.cell? t=some old) (hf0:w.frozen? t=false) :
  Calls Tryz.prog 138 #[.iface 36 (.int .i64 n), .iface 184 (.pointer (some t)), .agg #[.pointer (some ⟨1,184,none⟩), .pointer (some a), .int .u64 150], .iface 230 (.agg #[.pointer (some ⟨1,36,none⟩)])] w
   fun ev w'=>ev = .returned (.bool true)∧w'=((w.alloc (.cells #[.pointer (some ⟨1,184,none⟩), .pointer (some a), .int .u64 150] 201)).alloc (.cells #[.int .i64 n] 36)).setCell t (.int .i64 n):=by
 have h52 := @run_callFunc_extern Tryz.prog 135 _ (fun args=>ReflectliteValue.unpack (args.getD 0 (.tuple #[]))) Tryz.func135 (by kernel_rfl) (by kernel_rfl) (by kernel_rfl) (by kernel_rfl)
 have h62 := @run_callFunc_extern Tryz.prog 149 _ ReflectliteType.typeOf Tryz.func149 (by kernel_rfl) (by kernel_rfl) (by kernel_rfl) (by kernel_rfl)
 have h90 := @run_callFunc_extern Tryz.prog 182 _ (ReflectliteType.relation "AssignableTo" ReflectliteType.assignableTo) Tryz.func182 (by kernel_rfl) (by kernel_rfl) (by kernel_rfl) (by kernel_rfl)
 have h63 := @run_callFunc_extern Tryz.prog 150 _ (ReflectliteValue.method (ReflectliteValue.valueError "reflectlite.Value.Elem" 0) ReflectliteValue.elem) Tryz.func150 (by kernel_rfl) (by kernel_rfl) (by kernel_rfl) (by kernel_rfl)
 have h64 := @run_callFunc_extern Tryz.prog 151 _ ReflectliteValue.set Tryz.func151 (by kernel_rfl) (by kernel_rfl) (by kernel_rfl) (by kernel_rfl)
 have tO:=typeOfE
 have mA:=methodAssignableTo
 have aE:=assignableE
 have vE:=valueOfE
 have hal:a.block<w.heap.size:=by
  rcases Nat.lt_or_ge a.block w.heap.size with h | h
  ·exact h
  ·simp [World.cell?,Array.getElem?_eq_none h] at ha
 have htl:t.block<w.heap.size:=by
  rcases Nat.lt_or_ge t.block w.heap.size with h | h
  ·exact h
  ·simp [World.cell?,Array.getElem?_eq_none h] at ht0
 have el:=elemVT a t (w.alloc (.cells #[.pointer (some ⟨1,184,none⟩), .pointer (some a), .int .u64 150] 201)) (by rw [World.cell?_alloc_lt _ _ a hal]; exact ha)
 have st:=setE t ⟨w.heap.size+1,0,none⟩ n old ((w.alloc (.cells #[.pointer (some ⟨1,184,none⟩), .pointer (some a), .int .u64 150] 201)).alloc (.cells #[.int .i64 n] 36))
  (by rw [World.cell?_alloc_at _ _ _ _ (by simp)]; rfl)
  (by rw [World.cell?_alloc_lt _ _ t (by simp; omega),World.cell?_alloc_lt _ _ t htl]; exact ht0)
  (by rw [World.frozen?_alloc_old _ _ t (by simp; omega),World.frozen?_alloc_old _ _ t (Nat.ne_of_lt htl)]; exact hf0)
 go_enter Tryz.func138,Tryz.ntmps138
 go_wp2
 refine wp_loop_rounds 1 ?_
 rw [rounds_succ]
 go_wp2
 go_ret
 exact ⟨rfl,rfl⟩
end Go.Proofs.TryzA
end

section
namespace Go.Proofs.TryzA
open Go.RowKit Go.Extern.Stop Go.Stop Go.Extern Go
theorem methodUnwrap (v:Value) (w:World):(Go.method 379 179 v "Unwrap").run Tryz.prog w = .ok (177,v) w:=by kernel_rfl
theorem noAs (v:Value) (xT:TypeId) (w:World):(Instr.typeAssert (.iface 179 v) xT 235 true).run Tryz.prog w = .ok (.tuple #[.nilIface, .bool false]) w:=run_typeAssert_lacksB Tryz.underlying235 (by kernel_rfl) (by kernel_rfl) v xT w
theorem noOne (v:Value) (xT:TypeId) (w:World):(Instr.typeAssert (.iface 179 v) xT 238 true).run Tryz.prog w = .ok (.tuple #[.nilIface, .bool false]) w:=run_typeAssert_lacksB Tryz.underlying238 (by kernel_rfl) (by kernel_rfl) v xT w
theorem isMany (v:Value) (xT:TypeId) (w:World):(Instr.typeAssert (.iface 179 v) xT 240 true).run Tryz.prog w = .ok (.tuple #[.iface 179 v, .bool true]) w:=run_typeAssert_hasB Tryz.underlying240 (by kernel_rfl) v xT w
set_option maxHeartbeats 4000000 in
set_option maxRecDepth 10000 in
theorem as_wr (o:Int) (i:Value) (hi:i = .nilIface ∨ ∃ t v,i = .iface t v) (t a:Addr) (old:Value) (w:World) (ha:w.cell? a=some (.pointer (some t))) (ht0:w.cell? t=some old) (hf0:w.frozen? t=false) :
  Calls Tryz.prog 138 #[.iface 179 (.agg #[.int .i64 o,i]), .iface 184 (.pointer (some t)), .agg #[.pointer (some ⟨1,184,none⟩), .pointer (some a), .int .u64 150], .iface 230 (.agg #[.pointer (some ⟨1,36,none⟩)])] w
   fun ev w'=>ev = .returned (.bool true)∧w'=(((((w.alloc (.cells #[.pointer (some ⟨1,184,none⟩), .pointer (some a), .int .u64 150] 201)).alloc (.cells #[.int .i64 o,i] 179)).alloc (.cells #[.iface 36 (.int .i64 o),i] 153)).alloc (.cells #[.pointer (some ⟨1,184,none⟩), .pointer (some a), .int .u64 150] 201)).alloc (.cells #[.int .i64 o] 36)).setCell t (.int .i64 o):=by
 have h62 := @run_callFunc_extern Tryz.prog 149 _ ReflectliteType.typeOf Tryz.func149 (by kernel_rfl) (by kernel_rfl) (by kernel_rfl) (by kernel_rfl)
 have h90 := @run_callFunc_extern Tryz.prog 182 _ (ReflectliteType.relation "AssignableTo" ReflectliteType.assignableTo) Tryz.func182 (by kernel_rfl) (by kernel_rfl) (by kernel_rfl) (by kernel_rfl)
 have tO:=typeOfW
 have mA:=methodAssignableTo
 have mU:=methodUnwrap
 have aW:=assignableW
 have t1:=noAs
 have t2:=noOne
 have t3:=isMany
 have hal:a.block<w.heap.size:=by
  rcases Nat.lt_or_ge a.block w.heap.size with h | h
  ·exact h
  ·simp [World.cell?,Array.getElem?_eq_none h] at ha
 have htl:t.block<w.heap.size:=by
  rcases Nat.lt_or_ge t.block w.heap.size with h | h
  ·exact h
  ·simp [World.cell?,Array.getElem?_eq_none h] at ht0
 have hA : ∀ i:Value,(((w.alloc (.cells #[.pointer (some ⟨1,184,none⟩), .pointer (some a), .int .u64 150] 201)).alloc (.cells #[.int .i64 o,i] 179)).alloc (.cells #[.iface 36 (.int .i64 o),i] 153)).cell? a=some (.pointer (some t)):=fun i=>by
  rw [World.cell?_alloc_lt _ _ a (by simp; omega),World.cell?_alloc_lt _ _ a (by simp; omega),World.cell?_alloc_lt _ _ a hal]; exact ha
 have hT : ∀ i:Value,(((w.alloc (.cells #[.pointer (some ⟨1,184,none⟩), .pointer (some a), .int .u64 150] 201)).alloc (.cells #[.int .i64 o,i] 179)).alloc (.cells #[.iface 36 (.int .i64 o),i] 153)).cell? t=some old:=fun i=>by
  rw [World.cell?_alloc_lt _ _ t (by simp; omega),World.cell?_alloc_lt _ _ t (by simp; omega),World.cell?_alloc_lt _ _ t htl]; exact ht0
 have hF : ∀ i:Value,(((w.alloc (.cells #[.pointer (some ⟨1,184,none⟩), .pointer (some a), .int .u64 150] 201)).alloc (.cells #[.int .i64 o,i] 179)).alloc (.cells #[.iface 36 (.int .i64 o),i] 153)).frozen? t=false:=fun i=>by
  rw [World.frozen?_alloc_old _ _ t (by simp; omega),World.frozen?_alloc_old _ _ t (by simp; omega),World.frozen?_alloc_old _ _ t (Nat.ne_of_lt htl)]; exact hf0
 go_enter Tryz.func138,Tryz.ntmps138
 go_wp2
 refine wp_loop_rounds 1 ?_
 rw [rounds_succ]
 rcases hi with rfl | ⟨ti,vi,rfl⟩
 ·go_wp2
  refine wp_loop_rounds 1 ?_
  rw [rounds_succ]
  go_wp2_with (go_at_call 138; refine (as_no o t a old _ (hA (.nilIface)) (hT (.nilIface)) (hF (.nilIface))).mono ?_; rintro e w' ⟨rfl,rfl⟩)
  go_ret
  exact ⟨rfl,rfl⟩
 ·go_wp2
  refine wp_loop_rounds 1 ?_
  rw [rounds_succ]
  go_wp2_with (go_at_call 138; refine (as_no o t a old _ (hA (.iface ti vi)) (hT (.iface ti vi)) (hF (.iface ti vi))).mono ?_; rintro e w' ⟨rfl,rfl⟩)
  go_ret
  exact ⟨rfl,rfl⟩
end Go.Proofs.TryzA
end

section
namespace Go.Proofs.TryzA
open Go.RowKit Go.Extern.Stop Go.Stop Go.Extern Go
theorem As_nil (t:Value) (w:World):Calls Tryz.prog 123 #[.nilIface,t] w fun e w'=>e = .returned (.bool false)∧w'=w:=by
 go_enter Tryz.func123,Tryz.ntmps123
 go_wp2
 go_ret
 exact ⟨rfl,rfl⟩
def W1 (w:World) (t:Addr):World:=(w.alloc (.cells #[.pointer (some t)] 184)).alloc (.cells #[.pointer (some ⟨1,184,none⟩), .pointer (some ⟨w.heap.size,0,none⟩), .int .u64 150] 201)
set_option maxHeartbeats 4000000 in
theorem As_any (ty:TypeId) (v:Value) (t:Addr) (old:Value) (w:World) (R:Ending → World → Prop) (hg:w.cell? ⟨0,0,none⟩=some (.iface 230 (.agg #[.pointer (some ⟨1,153,none⟩)]))) (ht0:w.cell? t=some old) (hf0:w.frozen? t=false)
  (hR:Calls Tryz.prog 138 #[.iface ty v, .iface 184 (.pointer (some t)), .agg #[.pointer (some ⟨1,184,none⟩), .pointer (some ⟨w.heap.size,0,none⟩), .int .u64 150], .iface 230 (.agg #[.pointer (some ⟨1,36,none⟩)])] (W1 w t) fun ev w'=>ev = .returned (.bool true)∧R (.returned (.bool true)) w') :
  Calls Tryz.prog 123 #[.iface ty v, .iface 184 (.pointer (some t))] w R:=by
 have h52 := @run_callFunc_extern Tryz.prog 135 _ (fun args=>ReflectliteValue.unpack (args.getD 0 (.tuple #[]))) Tryz.func135 (by kernel_rfl) (by kernel_rfl) (by kernel_rfl) (by kernel_rfl)
 have h53 := @run_callFunc_extern Tryz.prog 136 _ (ReflectliteValue.methodAny (ReflectliteValue.valueError "reflectlite.Value.Type" 0) (fun t _ _ _=>ReflectliteType.toType t)) Tryz.func136 (by kernel_rfl) (by kernel_rfl) (by kernel_rfl) (by kernel_rfl)
 have h54 := @run_callFunc_extern Tryz.prog 137 _ (ReflectliteValue.method (ReflectliteValue.valueError "reflectlite.Value.IsNil" 0) ReflectliteValue.isNil) Tryz.func137 (by kernel_rfl) (by kernel_rfl) (by kernel_rfl) (by kernel_rfl)
 have h80 := @run_callFunc_extern Tryz.prog 170 _ (ReflectliteType.abiMethod fun t=>do pure (.int .u8 (← Rtype.kind t))) Tryz.func170 (by kernel_rfl) (by kernel_rfl) (by kernel_rfl) (by kernel_rfl)
 have h92 := @run_callFunc_extern Tryz.prog 184 _ (ReflectliteType.method ReflectliteType.elem) Tryz.func184 (by kernel_rfl) (by kernel_rfl) (by kernel_rfl) (by kernel_rfl)
 have h93 := @run_callFunc_extern Tryz.prog 185 _ (ReflectliteType.relation "Implements" ReflectliteType.implements_) Tryz.func185 (by kernel_rfl) (by kernel_rfl) (by kernel_rfl) (by kernel_rfl)
 have f6:=valueOfT
 have f7:=typeT
 have mK:=methodKind
 have mE:=methodElem
 have mI:=methodImplements
 have k27:=kindT
 have k25:=kindE
 have e27:=elemT
 have i25:=implementsE
 have n8:=isNilT ⟨w.heap.size,0,none⟩ t (W1 w t) (by simp [W1])
 have hlt:0<w.heap.size:=by
  rcases Nat.eq_zero_or_pos w.heap.size with h0 | h
  ·simp [World.cell?,h0] at hg
  ·exact h
 have hg2:(W1 w t).cell? ⟨0,0,none⟩=some (.iface 230 (.agg #[.pointer (some ⟨1,153,none⟩)])):=by
  unfold W1
  rw [World.cell?_alloc_lt _ _ ⟨0,0,none⟩ (by simp),World.cell?_alloc_lt _ _ ⟨0,0,none⟩ hlt]; exact hg
 unfold W1 at n8 hg2 hR
 go_enter Tryz.func123,Tryz.ntmps123
 go_wp2_with (go_at_call 138; refine hR.mono ?_; rintro e w' ⟨rfl,hr⟩)
 exact hr
end Go.Proofs.TryzA
end

section
namespace Go.Kx
open Go
theorem step_al {w0 w:World} {L0 L:Mem} (h:Step w0 L0 w L) (cs:Array Value) (t:TypeId):Step w0 L0 (w.alloc (.cells cs t)) L :=
 Step.left (B:=[⟨some (w.heap.size,0),cs.toList⟩]) (Step.perm (Step.frame (A:=[]) h (Step.alloc w cs t (0,0) (.inr rfl))) (by simpa using List.perm_append_comm (l₁:=[(⟨some (w.heap.size,0),cs.toList⟩:Ent)]) (l₂:=L)))
theorem step_set1 {w0 w:World} {L0:Mem} {A:Adr} {u:Value} (v:Value) (h:Step w0 L0 w [⟨A,[u]⟩]):Step w0 L0 (w.setCell (loc A 0) v) [⟨A,[v]⟩]:=by
 have h1:=Step.frame (A:=[⟨A,[u]⟩]) (R:=[]) (by simpa using h) (Step.set (i:=0) v h.ok (by simp))
 simpa using h1
theorem vE_form (e:Er):vE e = .nilIface ∨ ∃ t v,vE e = .iface t v:=by
 cases e
 ·exact .inl rfl
 ·exact .inr ⟨_,_,rfl⟩
 ·exact .inr ⟨_,_,rfl⟩
end Go.Kx
namespace Go.Proofs
open Go Go.Kx
theorem As_does (b o:Nat) (e:Er) (old:Int):Does Tryz.prog 123 [vE e,Value.iface 184 (ptr (some (b,o)) 0)] [⟨some (b,o),[vi old]⟩] [⟨some (0,0),[hdE]⟩] (Γ:=Unit) (fun _=>vb (!(Er.isNil e))) (fun _=>[⟨some (b,o),[vi (Er.tell e old)]⟩]):=by
 intro w hmem hro hd
 have hg:w.cell? ⟨0,0,none⟩=some hdE:=(hro ⟨some (0,0),[hdE]⟩ (List.mem_singleton.2 rfl)).2 0 hdE rfl
 have ht:=((hmem.1 _ (List.mem_singleton.2 rfl)).2 0 (vi old) rfl)
 have hlt:(loc (some (b,o)) 0).block<w.heap.size:=block_lt ht.1
 have hs:Step w [⟨some (b,o),[vi old]⟩] w [⟨some (b,o),[vi old]⟩]:=Step.refl hmem
 have ha1:(TryzA.W1 w (loc (some (b,o)) 0)).cell? ⟨w.heap.size,0,none⟩=some (.pointer (some (loc (some (b,o)) 0))):=by
  unfold TryzA.W1
  rw [World.cell?_alloc_lt _ _ ⟨w.heap.size,0,none⟩ (by simp)]; simp
 have ht1:(TryzA.W1 w (loc (some (b,o)) 0)).cell? (loc (some (b,o)) 0)=some (vi old):=by
  unfold TryzA.W1
  rw [World.cell?_alloc_lt _ _ _ (by simp; omega),World.cell?_alloc_lt _ _ _ hlt]; exact ht.1
 have hf1:(TryzA.W1 w (loc (some (b,o)) 0)).frozen? (loc (some (b,o)) 0)=false:=by
  unfold TryzA.W1
  rw [World.frozen?_alloc_old _ _ _ (by simp; omega),World.frozen?_alloc_old _ _ _ (Nat.ne_of_lt hlt)]; exact ht.2
 cases e with
 | nil=>exact (TryzA.As_nil _ w).mono fun e w' ⟨h1,h2⟩=>⟨(),h1,by subst h2; exact hs⟩
 | no n =>
  refine TryzA.As_any _ _ (loc (some (b,o)) 0) (vi old) w _ hg ht.1 ht.2 ?_
  refine (TryzA.as_no n (loc (some (b,o)) 0) ⟨w.heap.size,0,none⟩ (vi old) _ ha1 ht1 hf1).mono fun e w' ⟨h1,h2⟩=>⟨h1,(),rfl,?_⟩
  subst h2
  exact step_set1 _ (step_al (step_al (step_al (step_al hs _ _) _ _) _ _) _ _)
 | wr n i =>
  refine TryzA.As_any _ _ (loc (some (b,o)) 0) (vi old) w _ hg ht.1 ht.2 ?_
  refine (TryzA.as_wr n (vE i) (vE_form i) (loc (some (b,o)) 0) ⟨w.heap.size,0,none⟩ (vi old) _ ha1 ht1 hf1).mono fun e w' ⟨h1,h2⟩=>⟨h1,(),rfl,?_⟩
  subst h2
  exact step_set1 _ (step_al (step_al (step_al (step_al (step_al (step_al (step_al hs _ _) _ _) _ _) _ _) _ _) _ _) _ _)
end Go.Proofs
end

section
namespace Go.Proofs
open Go Go.Kx
open TryzI Tryz
def errors_As (err:Er) (old:Int):Option (Bool × Int) :=
 some (!(Er.isNil err),Er.tell err old)
set_option maxHeartbeats 4000000 in
set_option maxRecDepth 20000 in
theorem F123_calls (bt:Nat) (ot:Nat) (err:Er) (old:Int) (r:Bool × Int) (H:errors_As err old=some r) :
  Does Tryz.prog 123 [vE err,Value.iface 184 (ptr (some (bt,ot)) 0)] [⟨some (bt,ot),[vi old]⟩] [⟨some (0,0),[hdE]⟩] (Γ:=Unit) (fun g=>vb r.1) (fun g=>[⟨some (bt,ot),[vi r.2]⟩]):=by
 obtain rfl:=sj H
 exact As_does bt ot err old
end Go.Proofs
end

section
namespace Go.Proofs
open Go Go.Kx
open TryzI Tryz
def ticket_told (err:Er):Option (Int) :=
 (if (!(Er.isNil err))=true then ((errors_As err 0).bind fun (r_1:Bool × Int)=>(some (r_1.1,r_1.2))) else (some (false,0))).bind fun (j1:Bool × Int)=>(if j1.1=true then (some j1.2) else (some 0))
set_option maxHeartbeats 4000000 in
set_option maxRecDepth 20000 in
theorem F103_calls (err:Er) (r:Int) (H:ticket_told err=some r) :
  Does Tryz.prog 103 [vE err] [] [⟨some (0,0),[hdE]⟩] (Γ:=Unit) (fun g=>vi r) (fun g=>[]):=by
 intro w hmem hro hd
 refine calls_of (N:=12) (m0:=[(0,vE err)]) func103 rfl ntmps103 (argM_ok [vE err]) rfl hmem hro hd ?_
 unfold ticket_told at H
 refine TC_seq (TC_region (TVa ?_))
 refine TL_nil (TX_next (TC_seq (TC_region (TLe (E_allocP [(1,[vi 0])] inf36 zer36 ⟨rfl,trivial⟩) (fun b1=>?_)))))
 refine TL_nil (TX_next (TC_seq (TC_seq (TC_region (TVm ?_)))))
 refine TLv (V_bin rfl rfl (fun w=>neqE w err underlying153)) ?_
 refine TVm ?_
 obtain ⟨j1,Hj,H⟩:=bind_elim H
 refine TL_join (Γ:=Unit) (fun gj1=>[(3,ptr (some (b1,0)) 0),(10,vb j1.1)]) (fun gj1=>[⟨some (b1,0),[vi j1.2]⟩]) ?_ ?_
 ·intro gj1
  refine TX_next (TCb H (fun hc H=>?_) (fun hc H=>?_))
  ·refine TC_seq (TC_region (TLv (V_load rfl (.o 0) rfl isAgg36) ?_))
   refine TVa ?_
   refine TL_nil (TX_next (TC_ret (TX_then_ret ?_)))
   obtain rfl:=sj H
   exact TX1
  ·refine TC_skip (TX_next (TC_seq (TC_region (TVa ?_))))
   refine TL_nil (TX_next (TC_ret ?_))
   obtain rfl:=sj H
   exact TX1
 ·intro hJ
  replace H:=Hj
  refine TFb (d:=6) H (fun hc H=>?_) (fun hc H=>?_)
  ·refine TLw (V_move rfl) ?_
   refine TLw (V_mkI rfl underlying184 rfl rfl) ?_
   obtain ⟨r_1,hr_1,H⟩:=bind_elim H
   refine TLu (E_call (Γ:=Unit) (val:=fun g=>vb r_1.1) (mem:=fun g=>[⟨some (b1,0),[vi r_1.2]⟩]) (vs:=[vE err,Value.iface 184 (ptr (some (b1,0)) 0)]) (Lin:=[⟨some (b1,0),[vi 0]⟩]) (Ro:=[⟨some (0,0),[hdE]⟩]) (is:=[0]) rfl call123 (F123_calls b1 0 err 0 r_1 hr_1) rfl ⟨.r 0,trivial⟩) (fun g_1=>?_)
   refine TVt ?_
   refine TL_nil ?_
   obtain rfl:=sj H
   exact TXj [0] (hJ ())
  ·refine TLs ?_
   refine TLs ?_
   refine TLs ?_
   refine TVf ?_
   refine TL_nil ?_
   obtain rfl:=sj H
   exact TXj [0] (hJ ())
end Go.Proofs
end

section
namespace Go.Proofs
open Go Go.Kx
open TryzI Tryz
def ticket_Open (key:Str) (s_:Str):Option (Int × Str × Int × Int × Int) :=
 if ((key).length:Int) ≠ 32 then (some (0,([]:Str),0,0,2000)) else ((ticket_open key s_).bind fun (r_1:Int × Str × Int × Int × Er)=>((ticket_told r_1.2.2.2.2).bind fun (r_2:Int)=>(some (r_1.1,r_1.2.1,r_1.2.2.1,r_1.2.2.2.1,r_2))))
set_option maxHeartbeats 4000000 in
set_option maxRecDepth 20000 in
theorem F84_calls (key:Str) (s_:Str) (r:Int × Str × Int × Int × Int) (H:ticket_Open key s_=some r) :
  Does Tryz.prog 84 [vs key,vs s_] [] [⟨some (0,0),[hdE]⟩] (Γ:=Unit) (fun g=>Value.tuple [aG [(1,[vi r.1]),(1,[vs r.2.1]),(1,[vi r.2.2.1]),(1,[vi r.2.2.2.1])],vi r.2.2.2.2].toArray) (fun g=>[]):=by
 intro w hmem hro hd
 refine calls_of (N:=21) (m0:=[(0,vs key),(1,vs s_)]) func84 rfl ntmps84 (argM_ok [vs key,vs s_]) rfl hmem hro hd ?_
 unfold ticket_Open at H
 refine TC_seq (TC_region (TLe (E_allocP [(1,[vi 0]),(1,[vs ([]:Str)]),(1,[vi 0]),(1,[vi 0])] inf66 zer66 ⟨rfl,rfl,rfl,rfl,trivial⟩) (fun b1=>?_)))
 refine TVa ?_
 refine TL_nil (TX_next (TC_seq (TC_seq (TC_region (TVm ?_)))))
 refine TLv (V_len_str rfl underlying9) ?_
 refine TLv (V_bin rfl rfl (fun w=>neqI w ((key).length:Int) 32)) ?_
 refine TL_nil (TX_next (TCd H (fun hc H=>?_) (fun hc H=>?_)))
 ·refine TC_seq (TC_region (TLv (V_buildStruct (pv:=[]) (pl:=[(0,1),(1,1),(2,1),(3,1)]) rfl rfl underlying66 inf66 places66 zer66 (cs:=flat [(1,[vi 0]),(1,[vs ([]:Str)]),(1,[vi 0]),(1,[vi 0])]) (by kernel_rfl)) ?_))
  refine TLn (E_sp (b:=b1) (o:=0) [0,0,0,0] [(1,[vi 0]),(1,[vs ([]:Str)]),(1,[vi 0]),(1,[vi 0])] [(1,[vi 0]),(1,[vs ([]:Str)]),(1,[vi 0]),(1,[vi 0])] rfl inf66 ⟨rfl,rfl,rfl,rfl,trivial⟩ ⟨rfl,rfl,rfl,rfl,trivial⟩ ⟨(OneC.cons rfl OneC.nil),(OneC.cons rfl OneC.nil),(OneC.cons rfl OneC.nil),(OneC.cons rfl OneC.nil),trivial⟩) (fun _=>?_)
  refine TVa ?_
  refine TL_nil (TX_next (TC_ret (TX_then_ret ?_)))
  obtain rfl:=sj H
  exact TXr (vs:=[_,_]) rfl ⟨(Res_agg (n:=4) (cs:=flat [(1,[vi 0]),(1,[vs ([]:Str)]),(1,[vi 0]),(1,[vi 0])]) rfl (by simp) (SrcEnts (b:=b1) [(1,[vi 0]),(1,[vs ([]:Str)]),(1,[vi 0]),(1,[vi 0])] 0 ⟨rfl,rfl,rfl,rfl,trivial⟩ (AllSrc.all (M:=ents b1 0 [(1,[vi 0]),(1,[vs ([]:Str)]),(1,[vi 0]),(1,[vi 0])]) ⟨Src.own (j:=0) rfl,Src.own (j:=1) rfl,Src.own (j:=2) rfl,Src.own (j:=3) rfl,trivial⟩)) isAgg66 inf66 rfl (by simp [flat])),rfl,trivial⟩
 ·refine TC_skip (TX_next (TC_seq (TC_region (TVm ?_))))
  refine TVm ?_
  obtain ⟨r_1,hr_1,H⟩:=bind_elim H
  refine TLe (E_c0 (F102_calls key s_ r_1 hr_1) call102 .z) (fun g_1=>?_)
  refine TVm ?_
  refine TLv V_ex ?_
  refine TLv V_ex ?_
  refine TLe (E_allocP [(1,[vi 0]),(1,[vs ([]:Str)]),(1,[vi 0]),(1,[vi 0])] inf66 zer66 ⟨rfl,rfl,rfl,rfl,trivial⟩) (fun b2=>?_)
  refine TLn (E_sp (b:=b2) (o:=0) [0,0,0,0] [(1,[vi 0]),(1,[vs ([]:Str)]),(1,[vi 0]),(1,[vi 0])] [(1,[vi r_1.1]),(1,[vs r_1.2.1]),(1,[vi r_1.2.2.1]),(1,[vi r_1.2.2.2.1])] rfl inf66 ⟨rfl,rfl,rfl,rfl,trivial⟩ ⟨rfl,rfl,rfl,rfl,trivial⟩ ⟨(OneC.cons rfl OneC.nil),(OneC.cons rfl OneC.nil),(OneC.cons rfl OneC.nil),(OneC.cons rfl OneC.nil),trivial⟩) (fun _=>?_)
  refine TVa ?_
  refine TL_nil (TX_next (TC_seq ?_))
  obtain ⟨r_2,hr_2,H⟩:=bind_elim H
  refine TA_begin [] 5 (by kernel_rfl) (N:=5) rfl ?_
  refine TA_mix (is:=[]) (done':=dn 5 7) [itV 0 18 (aG [(1,[vi r_1.1]),(1,[vs r_1.2.1]),(1,[vi r_1.2.2.1]),(1,[vi r_1.2.2.2.1])]) [],itV 1 19 (vE r_1.2.2.2.2) [],itV 2 20 (vi r_2) [1]] [] 2 (by kernel_rfl) (QP.then QP.body) (by kernel_rfl) rfl (.v rfl (V_loadAgg (n:=4) (cs:=flat [(1,[vi r_1.1]),(1,[vs r_1.2.1]),(1,[vi r_1.2.2.1]),(1,[vi r_1.2.2.2.1])]) rfl (by simp) (SrcEnts (b:=b2) [(1,[vi r_1.1]),(1,[vs r_1.2.1]),(1,[vi r_1.2.2.1]),(1,[vi r_1.2.2.2.1])] 0 ⟨rfl,rfl,rfl,rfl,trivial⟩ (AllSrc.all (M:=ents b2 0 [(1,[vi r_1.1]),(1,[vs r_1.2.1]),(1,[vi r_1.2.2.1]),(1,[vi r_1.2.2.2.1])]) ⟨Src.own (j:=0) rfl,Src.own (j:=1) rfl,Src.own (j:=2) rfl,Src.own (j:=3) rfl,trivial⟩)) isAgg66 inf66 rfl (flat_len ⟨rfl,rfl,rfl,rfl,trivial⟩ rfl)) (.v rfl (V_move rfl) (.e rfl (E_cu (F103_calls r_1.2.2.2.2 r_2 hr_2) call103 ⟨.r 0,trivial⟩) .nil))) .nil (by kernel_rfl) rfl (fun γ=>?_)
  refine TA_cut [(20,vi r_2),(18,aG [(1,[vi r_1.1]),(1,[vs r_1.2.1]),(1,[vi r_1.2.2.1]),(1,[vi r_1.2.2.2.1])]),(5,vi 0),(4,ptr (some (b1,0)) 0)] [⟨some (b2,0),[vi r_1.1]⟩,⟨some (b2,1),[vs r_1.2.1]⟩,⟨some (b2,2),[vi r_1.2.2.1]⟩,⟨some (b2,3),[vi r_1.2.2.2.1]⟩,⟨some (b1,0),[vi 0]⟩,⟨some (b1,1),[vs ([]:Str)]⟩,⟨some (b1,2),[vi 0]⟩,⟨some (b1,3),[vi 0]⟩] ⟨rfl,rfl,rfl,rfl,trivial⟩ rfl ?_
  refine TA_all (rs:=[3]) (by kernel_rfl) rfl ?_
  refine ⟨?_,trivial⟩
  refine TO_n (is:=[]) (done':=dn 5 15) rfl rfl rfl (by kernel_rfl) (E_sp (b:=b1) (o:=0) [4,4,4,4] [(1,[vi 0]),(1,[vs ([]:Str)]),(1,[vi 0]),(1,[vi 0])] [(1,[vi r_1.1]),(1,[vs r_1.2.1]),(1,[vi r_1.2.2.1]),(1,[vi r_1.2.2.2.1])] rfl inf66 ⟨rfl,rfl,rfl,rfl,trivial⟩ ⟨rfl,rfl,rfl,rfl,trivial⟩ ⟨(OneC.cons rfl OneC.nil),(OneC.cons rfl OneC.nil),(OneC.cons rfl OneC.nil),(OneC.cons rfl OneC.nil),trivial⟩) (fun _ _=>rfl) (fun _=>?_)
  refine TA_all (rs:=[4]) (by kernel_rfl) rfl ?_
  refine ⟨?_,trivial⟩
  refine TO_v (is:=[]) (done':=dn 5 31) rfl rfl rfl rfl (by kernel_rfl) (V_assign rfl) (fun _=>rfl) ?_
  refine TA_done (by kernel_rfl) ?_ 0
  refine TX_next (TC_ret ?_)
  obtain rfl:=sj H
  exact TXr (vs:=[_,_]) rfl ⟨(Res_agg (n:=4) (cs:=flat [(1,[vi r_1.1]),(1,[vs r_1.2.1]),(1,[vi r_1.2.2.1]),(1,[vi r_1.2.2.2.1])]) rfl (by simp) (SrcEnts (b:=b1) [(1,[vi r_1.1]),(1,[vs r_1.2.1]),(1,[vi r_1.2.2.1]),(1,[vi r_1.2.2.2.1])] 0 ⟨rfl,rfl,rfl,rfl,trivial⟩ (AllSrc.all (M:=ents b1 0 [(1,[vi r_1.1]),(1,[vs r_1.2.1]),(1,[vi r_1.2.2.1]),(1,[vi r_1.2.2.2.1])]) ⟨Src.own (j:=0) rfl,Src.own (j:=1) rfl,Src.own (j:=2) rfl,Src.own (j:=3) rfl,trivial⟩)) isAgg66 inf66 rfl (by simp [flat])),rfl,trivial⟩
end Go.Proofs
end

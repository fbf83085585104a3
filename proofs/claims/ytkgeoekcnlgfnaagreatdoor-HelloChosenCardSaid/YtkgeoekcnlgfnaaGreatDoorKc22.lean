/-
  Part 22 of the proof of what several laws share.
-/
import Derived.Test.YtkgeoekcnlgfnaaGreatDoorKc1
import Derived.Test.YtkgeoekcnlgfnaaGreatDoorKc2
import Derived.Test.YtkgeoekcnlgfnaaGreatDoorKc3
import Derived.Test.YtkgeoekcnlgfnaaGreatDoorKc4
import Derived.Test.YtkgeoekcnlgfnaaGreatDoorKc5
import Derived.Test.YtkgeoekcnlgfnaaGreatDoorKc6
import Derived.Test.YtkgeoekcnlgfnaaGreatDoorKc7
import Derived.Test.YtkgeoekcnlgfnaaGreatDoorKc14
import Derived.Test.YtkgeoekcnlgfnaaGreatDoorKc15
import Derived.Test.YtkgeoekcnlgfnaaGreatDoorKc16
import Derived.Test.YtkgeoekcnlgfnaaGreatDoorKc17
import Derived.Test.YtkgeoekcnlgfnaaGreatDoorKc18
import Derived.Test.YtkgeoekcnlgfnaaGreatDoorKc19
import Derived.Test.YtkgeoekcnlgfnaaGreatDoorKc20
import Derived.Test.YtkgeoekcnlgfnaaGreatDoorKc21
set_option linter.unusedVariables false
set_option linter.unusedSimpArgs false
section
namespace Go.Proofs.TryzA
open Go.RowKit Go.Extern.Stop Go.Stop Go.Extern Go
theorem methodUnwrap (v:Value) (w:World):(Go.method 379 179 v "Unwrap").run Tryz.prog w = .ok (177,v) w:=by kernel_rfl
theorem noAs (v:Value) (xT:TypeId) (w:World):(Instr.typeAssert (.iface 179 v) xT 235 true).run Tryz.prog w = .ok (.tuple #[.nilIface, .bool false]) w:=run_typeAssert_lacksB Tryz.underlying235 (by kernel_rfl) (by kernel_rfl) v xT w
theorem noOne (v:Value) (xT:TypeId) (w:World):(Instr.typeAssert (.iface 179 v) xT 238 true).run Tryz.prog w = .ok (.tuple #[.nilIface, .bool false]) w:=run_typeAssert_lacksB Tryz.underlying238 (by kernel_rfl) (by kernel_rfl) v xT w
theorem isMany (v:Value) (xT:TypeId) (w:World):(Instr.typeAssert (.iface 179 v) xT 240 true).run Tryz.prog w = .ok (.tuple #[.iface 179 v, .bool true]) w:=run_typeAssert_hasB Tryz.underlying240 (by kernel_rfl) v xT w
set_option maxHeartbeats 4000000 in
set_option maxRecDepth 10000 in
theorem as_wr (o:Int) (i:Value) (hi:i = .nilIface ∨ ∃ t v,i = .iface t v) (t a:Addr) (old:Value) (w:World) (ha:w.cell? a=some (.pointer (some t))) (ht0:w.cell? t=some old) (hf0:w.frozen? t=false) :
  Calls Tryz.prog 138 #[.iface 179 (.agg #[.int .i64 o,i]), .iface 184 (.pointer (some t)), .agg #[.pointer (some ⟨1,184,none⟩), .pointer (some a), .int .u64 150], .iface 230 (.agg #[.pointer (some ⟨1,36,none⟩)])] w
   fun ev w'=>ev = .returned (.bool true)∧w'=(((((w.alloc (.cells #[.pointer (some ⟨1,184,none⟩), .pointer (some a), .int .u64 150] 201)).alloc (.cells #[.int .i64 o,i] 179)).alloc (.cells #[.iface 36 (.int .i64 o),i] 153)).alloc (.cells #[.pointer (some ⟨1,184,none⟩), .pointer (some a), .int .u64 150] 201)).alloc (.cells #[.int .i64 o] 36)).setCell t (.int .i64 o):=by
 have h62 := @run_callFunc_extern Tryz.prog 149 _ ReflectliteType.typeOf Tryz.func149 (by kernel_rfl) (by kernel_rfl) (by kernel_rfl) (by kernel_rfl)
 have h90 := @run_callFunc_extern Tryz.prog 182 _ (ReflectliteType.relation "AssignableTo" ReflectliteType.assignableTo) Tryz.func182 (by kernel_rfl) (by kernel_rfl) (by kernel_rfl) (by kernel_rfl)
 have tO:=typeOfW
 have mA:=methodAssignableTo
 have mU:=methodUnwrap
 have aW:=assignableW
 have t1:=noAs
 have t2:=noOne
 have t3:=isMany
 have hal:a.block<w.heap.size:=by
  rcases Nat.lt_or_ge a.block w.heap.size with h | h
  ·exact h
  ·simp [World.cell?,Array.getElem?_eq_none h] at ha
 have htl:t.block<w.heap.size:=by
  rcases Nat.lt_or_ge t.block w.heap.size with h | h
  ·exact h
  ·simp [World.cell?,Array.getElem?_eq_none h] at ht0
 have hA : ∀ i:Value,(((w.alloc (.cells #[.pointer (some ⟨1,184,none⟩), .pointer (some a), .int .u64 150] 201)).alloc (.cells #[.int .i64 o,i] 179)).alloc (.cells #[.iface 36 (.int .i64 o),i] 153)).cell? a=some (.pointer (some t)):=fun i=>by
  rw [World.cell?_alloc_lt _ _ a (by simp; omega),World.cell?_alloc_lt _ _ a (by simp; omega),World.cell?_alloc_lt _ _ a hal]; exact ha
 have hT : ∀ i:Value,(((w.alloc (.cells #[.pointer (some ⟨1,184,none⟩), .pointer (some a), .int .u64 150] 201)).alloc (.cells #[.int .i64 o,i] 179)).alloc (.cells #[.iface 36 (.int .i64 o),i] 153)).cell? t=some old:=fun i=>by
  rw [World.cell?_alloc_lt _ _ t (by simp; omega),World.cell?_alloc_lt _ _ t (by simp; omega),World.cell?_alloc_lt _ _ t htl]; exact ht0
 have hF : ∀ i:Value,(((w.alloc (.cells #[.pointer (some ⟨1,184,none⟩), .pointer (some a), .int .u64 150] 201)).alloc (.cells #[.int .i64 o,i] 179)).alloc (.cells #[.iface 36 (.int .i64 o),i] 153)).frozen? t=false:=fun i=>by
  rw [World.frozen?_alloc_old _ _ t (by simp; omega),World.frozen?_alloc_old _ _ t (by simp; omega),World.frozen?_alloc_old _ _ t (Nat.ne_of_lt htl)]; exact hf0
 go_enter Tryz.func138,Tryz.ntmps138
 go_wp2
 refine wp_loop_rounds 1 ?_
 rw [rounds_succ]
 rcases hi with rfl | ⟨ti,vi,rfl⟩
 ·go_wp2
  refine wp_loop_rounds 1 ?_
  rw [rounds_succ]
  go_wp2_with (go_at_call 138; refine (as_no o t a old _ (hA (.nilIface)) (hT (.nilIface)) (hF (.nilIface))).mono ?_; rintro e w' ⟨rfl,rfl⟩)
  go_ret
  exact ⟨rfl,rfl⟩
 ·go_wp2
  refine wp_loop_rounds 1 ?_
  rw [rounds_succ]
  go_wp2_with (go_at_call 138; refine (as_no o t a old _ (hA (.iface ti vi)) (hT (.iface ti vi)) (hF (.iface ti vi))).mono ?_; rintro e w' ⟨rfl,rfl⟩)
  go_ret
  exact ⟨rfl,rfl⟩
end Go.Proofs.TryzA
end

section
namespace Go.Proofs.TryzA
open Go.RowKit Go.Extern.Stop Go.Stop Go.Extern Go
theorem As_nil (t:Value) (w:World):Calls Tryz.prog 123 #[.nilIface,t] w fun e w'=>e = .returned (.bool false)∧w'=w:=by
 go_enter Tryz.func123,Tryz.ntmps123
 go_wp2
 go_ret
 exact ⟨rfl,rfl⟩
def W1 (w:World) (t:Addr):World:=(w.alloc (.cells #[.pointer (some t)] 184)).alloc (.cells #[.pointer (some ⟨1,184,none⟩), .pointer (some ⟨w.heap.size,0,none⟩), .int .u64 150] 201)
set_option maxHeartbeats 4000000 in
theorem As_any (ty:TypeId) (v:Value) (t:Addr) (old:Value) (w:World) (R:Ending → World → Prop) (hg:w.cell? ⟨0,0,none⟩=some (.iface 230 (.agg #[.pointer (some ⟨1,153,none⟩)]))) (ht0:w.cell? t=some old) (hf0:w.frozen? t=false)
  (hR:Calls Tryz.prog 138 #[.iface ty v, .iface 184 (.pointer (some t)), .agg #[.pointer (some ⟨1,184,none⟩), .pointer (some ⟨w.heap.size,0,none⟩), .int .u64 150], .iface 230 (.agg #[.pointer (some ⟨1,36,none⟩)])] (W1 w t) fun ev w'=>ev = .returned (.bool true)∧R (.returned (.bool true)) w') :
  Calls Tryz.prog 123 #[.iface ty v, .iface 184 (.pointer (some t))] w R:=by
 have h52 := @run_callFunc_extern Tryz.prog 135 _ (fun args=>ReflectliteValue.unpack (args.getD 0 (.tuple #[]))) Tryz.func135 (by kernel_rfl) (by kernel_rfl) (by kernel_rfl) (by kernel_rfl)
 have h53 := @run_callFunc_extern Tryz.prog 136 _ (ReflectliteValue.methodAny (ReflectliteValue.valueError "reflectlite.Value.Type" 0) (fun t _ _ _=>ReflectliteType.toType t)) Tryz.func136 (by kernel_rfl) (by kernel_rfl) (by kernel_rfl) (by kernel_rfl)
 have h54 := @run_callFunc_extern Tryz.prog 137 _ (ReflectliteValue.method (ReflectliteValue.valueError "reflectlite.Value.IsNil" 0) ReflectliteValue.isNil) Tryz.func137 (by kernel_rfl) (by kernel_rfl) (by kernel_rfl) (by kernel_rfl)
 have h80 := @run_callFunc_extern Tryz.prog 170 _ (ReflectliteType.abiMethod fun t=>do pure (.int .u8 (← Rtype.kind t))) Tryz.func170 (by kernel_rfl) (by kernel_rfl) (by kernel_rfl) (by kernel_rfl)
 have h92 := @run_callFunc_extern Tryz.prog 184 _ (ReflectliteType.method ReflectliteType.elem) Tryz.func184 (by kernel_rfl) (by kernel_rfl) (by kernel_rfl) (by kernel_rfl)
 have h93 := @run_callFunc_extern Tryz.prog 185 _ (ReflectliteType.relation "Implements" ReflectliteType.implements_) Tryz.func185 (by kernel_rfl) (by kernel_rfl) (by kernel_rfl) (by kernel_rfl)
 have f6:=valueOfT
 have f7:=typeT
 have mK:=methodKind
 have mE:=methodElem
 have mI:=methodImplements
 have k27:=kindT
 have k25:=kindE
 have e27:=elemT
 have i25:=implementsE
 have n8:=isNilT ⟨w.heap.size,0,none⟩ t (W1 w t) (by simp [W1])
 have hlt:0<w.heap.size:=by
  rcases Nat.eq_zero_or_pos w.heap.size with h0 | h
  ·simp [World.cell?,h0] at hg
  ·exact h
 have hg2:(W1 w t).cell? ⟨0,0,none⟩=some (.iface 230 (.agg #[.pointer (some ⟨1,153,none⟩)])):=by
  unfold W1
  rw [World.cell?_alloc_lt _ _ ⟨0,0,none⟩ (by simp),World.cell?_alloc_lt _ _ ⟨0,0,none⟩ hlt]; exact hg
 unfold W1 at n8 hg2 hR
 go_enter Tryz.func123,Tryz.ntmps123
 go_wp2_with (go_at_call 138; refine hR.mono ?_; rintro e w' ⟨rfl,hr⟩)
 exact hr
end Go.Proofs.TryzA
end

section
namespace Go.Kx
open Go
theorem step_al {w0 w:World} {L0 L:Mem} (h:Step w0 L0 w L) (cs:Array Value) (t:TypeId):Step w0 L0 (w.alloc (.cells cs t)) L :=
 Step.left (B:=[⟨some (w.heap.size,0),cs.toList⟩]) (Step.perm (Step.frame (A:=[]) h (Step.alloc w cs t (0,0) (.inr rfl))) (by simpa using List.perm_append_comm (l₁:=[(⟨some (w.heap.size,0),cs.toList⟩:Ent)]) (l₂:=L)))
theorem step_set1 {w0 w:World} {L0:Mem} {A:Adr} {u:Value} (v:Value) (h:Step w0 L0 w [⟨A,[u]⟩]):Step w0 L0 (w.setCell (loc A 0) v) [⟨A,[v]⟩]:=by
 have h1:=Step.frame (A:=[⟨A,[u]⟩]) (R:=[]) (by simpa using h) (Step.set (i:=0) v h.ok (by simp))
 simpa using h1
theorem vE_form (e:Er):vE e = .nilIface ∨ ∃ t v,vE e = .iface t v:=by
 cases e
 ·exact .inl rfl
 ·exact .inr ⟨_,_,rfl⟩
 ·exact .inr ⟨_,_,rfl⟩
end Go.Kx
namespace Go.Proofs
open Go Go.Kx
theorem As_does (b o:Nat) (e:Er) (old:Int):Does Tryz.prog 123 [vE e,Value.iface 184 (ptr (some (b,o)) 0)] [⟨some (b,o),[vi old]⟩] [⟨some (0,0),[hdE]⟩] (Γ:=Unit) (fun _=>vb (!(Er.isNil e))) (fun _=>[⟨some (b,o),[vi (Er.tell e old)]⟩]):=by
 intro w hmem hro hd
 have hg:w.cell? ⟨0,0,none⟩=some hdE:=(hro ⟨some (0,0),[hdE]⟩ (List.mem_singleton.2 rfl)).2 0 hdE rfl
 have ht:=((hmem.1 _ (List.mem_singleton.2 rfl)).2 0 (vi old) rfl)
 have hlt:(loc (some (b,o)) 0).block<w.heap.size:=block_lt ht.1
 have hs:Step w [⟨some (b,o),[vi old]⟩] w [⟨some (b,o),[vi old]⟩]:=Step.refl hmem
 have ha1:(TryzA.W1 w (loc (some (b,o)) 0)).cell? ⟨w.heap.size,0,none⟩=some (.pointer (some (loc (some (b,o)) 0))):=by
  unfold TryzA.W1
  rw [World.cell?_alloc_lt _ _ ⟨w.heap.size,0,none⟩ (by simp)]; simp
 have ht1:(TryzA.W1 w (loc (some (b,o)) 0)).cell? (loc (some (b,o)) 0)=some (vi old):=by
  unfold TryzA.W1
  rw [World.cell?_alloc_lt _ _ _ (by simp; omega),World.cell?_alloc_lt _ _ _ hlt]; exact ht.1
 have hf1:(TryzA.W1 w (loc (some (b,o)) 0)).frozen? (loc (some (b,o)) 0)=false:=by
  unfold TryzA.W1
  rw [World.frozen?_alloc_old _ _ _ (by simp; omega),World.frozen?_alloc_old _ _ _ (Nat.ne_of_lt hlt)]; exact ht.2
 cases e with
 | nil=>exact (TryzA.As_nil _ w).mono fun e w' ⟨h1,h2⟩=>⟨(),h1,by subst h2; exact hs⟩
 | no n =>
  refine TryzA.As_any _ _ (loc (some (b,o)) 0) (vi old) w _ hg ht.1 ht.2 ?_
  refine (TryzA.as_no n (loc (some (b,o)) 0) ⟨w.heap.size,0,none⟩ (vi old) _ ha1 ht1 hf1).mono fun e w' ⟨h1,h2⟩=>⟨h1,(),rfl,?_⟩
  subst h2
  exact step_set1 _ (step_al (step_al (step_al (step_al hs _ _) _ _) _ _) _ _)
 | wr n i =>
  refine TryzA.As_any _ _ (loc (some (b,o)) 0) (vi old) w _ hg ht.1 ht.2 ?_
  refine (TryzA.as_wr n (vE i) (vE_form i) (loc (some (b,o)) 0) ⟨w.heap.size,0,none⟩ (vi old) _ ha1 ht1 hf1).mono fun e w' ⟨h1,h2⟩=>⟨h1,(),rfl,?_⟩
  subst h2
  exact step_set1 _ (step_al (step_al (step_al (step_al (step_al (step_al (step_al hs _ _) _ _) _ _) _ _) _ _) _ _) _ _)
end Go.Proofs
end

section
namespace Go.Proofs
open Go Go.Kx
open TryzI Tryz
def errors_As (err:Er) (old:Int):Option (Bool × Int) :=
 some (!(Er.isNil err),Er.tell err old)
set_option maxHeartbeats 4000000 in
set_option maxRecDepth 20000 in
theorem F123_calls (bt:Nat) (ot:Nat) (err:Er) (old:Int) (r:Bool × Int) (H:errors_As err old=some r) :
  Does Tryz.prog 123 [vE err,Value.iface 184 (ptr (some (bt,ot)) 0)] [⟨some (bt,ot),[vi old]⟩] [⟨some (0,0),[hdE]⟩] (Γ:=Unit) (fun g=>vb r.1) (fun g=>[⟨some (bt,ot),[vi r.2]⟩]):=by
 obtain rfl:=sj H
 exact As_does bt ot err old
end Go.Proofs
end

section
namespace Go.Proofs
open Go Go.Kx
open TryzI Tryz
def ticket_told (err:Er):Option (Int) :=
 (if (!(Er.isNil err))=true then ((errors_As err 0).bind fun (r_1:Bool × Int)=>(some (r_1.1,r_1.2))) else (some (false,0))).bind fun (j1:Bool × Int)=>(if j1.1=true then (some j1.2) else (some 0))
set_option maxHeartbeats 4000000 in
set_option maxRecDepth 20000 in
theorem F103_calls (err:Er) (r:Int) (H:ticket_told err=some r) :
  Does Tryz.prog 103 [vE err] [] [⟨some (0,0),[hdE]⟩] (Γ:=Unit) (fun g=>vi r) (fun g=>[]):=by
 intro w hmem hro hd
 refine calls_of (N:=12) (m0:=[(0,vE err)]) func103 rfl ntmps103 (argM_ok [vE err]) rfl hmem hro hd ?_
 unfold ticket_told at H
 refine TC_seq (TC_region (TVa ?_))
 refine TL_nil (TX_next (TC_seq (TC_region (TLe (E_allocP [(1,[vi 0])] inf36 zer36 ⟨rfl,trivial⟩) (fun b1=>?_)))))
 refine TL_nil (TX_next (TC_seq (TC_seq (TC_region (TVm ?_)))))
 refine TLv (V_bin rfl rfl (fun w=>neqE w err underlying153)) ?_
 refine TVm ?_
 obtain ⟨j1,Hj,H⟩:=bind_elim H
 refine TL_join (Γ:=Unit) (fun gj1=>[(3,ptr (some (b1,0)) 0),(10,vb j1.1)]) (fun gj1=>[⟨some (b1,0),[vi j1.2]⟩]) ?_ ?_
 ·intro gj1
  refine TX_next (TCb H (fun hc H=>?_) (fun hc H=>?_))
  ·refine TC_seq (TC_region (TLv (V_load rfl (.o 0) rfl isAgg36) ?_))
   refine TVa ?_
   refine TL_nil (TX_next (TC_ret (TX_then_ret ?_)))
   obtain rfl:=sj H
   exact TX1
  ·refine TC_skip (TX_next (TC_seq (TC_region (TVa ?_))))
   refine TL_nil (TX_next (TC_ret ?_))
   obtain rfl:=sj H
   exact TX1
 ·intro hJ
  replace H:=Hj
  refine TFb (d:=6) H (fun hc H=>?_) (fun hc H=>?_)
  ·refine TLw (V_move rfl) ?_
   refine TLw (V_mkI rfl underlying184 rfl rfl) ?_
   obtain ⟨r_1,hr_1,H⟩:=bind_elim H
   refine TLu (E_call (Γ:=Unit) (val:=fun g=>vb r_1.1) (mem:=fun g=>[⟨some (b1,0),[vi r_1.2]⟩]) (vs:=[vE err,Value.iface 184 (ptr (some (b1,0)) 0)]) (Lin:=[⟨some (b1,0),[vi 0]⟩]) (Ro:=[⟨some (0,0),[hdE]⟩]) (is:=[0]) rfl call123 (F123_calls b1 0 err 0 r_1 hr_1) rfl ⟨.r 0,trivial⟩) (fun g_1=>?_)
   refine TVt ?_
   refine TL_nil ?_
   obtain rfl:=sj H
   exact TXj [0] (hJ ())
  ·refine TLs ?_
   refine TLs ?_
   refine TLs ?_
   refine TVf ?_
   refine TL_nil ?_
   obtain rfl:=sj H
   exact TXj [0] (hJ ())
end Go.Proofs
end

section
namespace Go.Proofs
open Go Go.Kx
open TryzI Tryz
def ticket_Open (key:Str) (s_:Str):Option (Int × Str × Int × Int × Int) :=
 if ((key).length:Int) ≠ 32 then (some (0,([]:Str),0,0,2000)) else ((ticket_open key s_).bind fun (r_1:Int × Str × Int × Int × Er)=>((ticket_told r_1.2.2.2.2).bind fun (r_2:Int)=>(some (r_1.1,r_1.2.1,r_1.2.2.1,r_1.2.2.2.1,r_2))))
set_option maxHeartbeats 4000000 in
set_option maxRecDepth 20000 in
theorem F84_calls (key:Str) (s_:Str) (r:Int × Str × Int × Int × Int) (H:ticket_Open key s_=some r) :
  Does Tryz.prog 84 [vs key,vs s_] [] [⟨some (0,0),[hdE]⟩] (Γ:=Unit) (fun g=>Value.tuple [aG [(1,[vi r.1]),(1,[vs r.2.1]),(1,[vi r.2.2.1]),(1,[vi r.2.2.2.1])],vi r.2.2.2.2].toArray) (fun g=>[]):=by
 intro w hmem hro hd
 refine calls_of (N:=21) (m0:=[(0,vs key),(1,vs s_)]) func84 rfl ntmps84 (argM_ok [vs key,vs s_]) rfl hmem hro hd ?_
 unfold ticket_Open at H
 refine TC_seq (TC_region (TLe (E_ap inf66 zer66) (fun b1=>?_)))
 refine TVa ?_
 refine TL_nil (TX_next (TC_seq (TC_seq (TC_region (TVm ?_)))))
 refine TLv (V_len_str rfl underlying9) ?_
 refine TLv (V_bin rfl rfl (fun w=>neqI w ((key).length:Int) 32)) ?_
 refine TL_nil (TX_next (TCd H (fun hc H=>?_) (fun hc H=>?_)))
 ·refine TC_seq (TC_region (TLv (V_buildStruct (pv:=[]) (pl:=[(0,1),(1,1),(2,1),(3,1)]) rfl rfl underlying66 inf66 places66 zer66 (cs:=flat [(1,[vi 0]),(1,[vs ([]:Str)]),(1,[vi 0]),(1,[vi 0])]) (by kernel_rfl)) ?_))
  refine TLn (E_sq (b:=b1) (o:=0) [0,0,0,0] [(1,_),(1,_),(1,_),(1,_)] rfl inf66) (fun _=>?_)
  refine TVa ?_
  refine TL_nil (TX_next (TC_ret (TX_then_ret ?_)))
  obtain rfl:=sj H
  exact TXr (vs:=[_,_]) rfl ⟨(Res_lp (b:=b1) (o:=0) (n:=4) (ps:=[(1,_),(1,_),(1,_),(1,_)]) ⟨.o 0, .o 1, .o 2, .o 3,trivial⟩ isAgg66 inf66),rfl,trivial⟩
 ·refine TC_skip (TX_next (TC_seq (TC_region (TVm ?_))))
  refine TVm ?_
  obtain ⟨r_1,hr_1,H⟩:=bind_elim H
  refine TLe (E_c0 (F102_calls key s_ r_1 hr_1) call102 .z) (fun g_1=>?_)
  refine TVm ?_
  refine TLv V_ex ?_
  refine TLv V_ex ?_
  refine TLe (E_ap inf66 zer66) (fun b2=>?_)
  refine TLn (E_sq (b:=b2) (o:=0) [0,0,0,0] [(1,_),(1,_),(1,_),(1,_)] rfl inf66) (fun _=>?_)
  refine TVa ?_
  refine TL_nil (TX_next (TC_seq ?_))
  obtain ⟨r_2,hr_2,H⟩:=bind_elim H
  refine TA_begin [] 5 (by kernel_rfl) (N:=5) rfl ?_
  refine TA_mix (is:=[]) (done':=dn 5 7) [itV 0 18 (aG [(1,[vi r_1.1]),(1,[vs r_1.2.1]),(1,[vi r_1.2.2.1]),(1,[vi r_1.2.2.2.1])]) [],itV 1 19 (vE r_1.2.2.2.2) [],itV 2 20 (vi r_2) [1]] [] 2 (by kernel_rfl) (QP.then QP.body) (by kernel_rfl) rfl (.v rfl (V_lp (b:=b2) (o:=0) (n:=4) (ps:=[(1,_),(1,_),(1,_),(1,_)]) ⟨.o 0, .o 1, .o 2, .o 3,trivial⟩ isAgg66 inf66) (.v rfl (V_move rfl) (.e rfl (E_cu (F103_calls r_1.2.2.2.2 r_2 hr_2) call103 ⟨.r 0,trivial⟩) .nil))) .nil (by kernel_rfl) rfl (fun γ=>?_)
  refine TA_cut [(20,vi r_2),(18,aG [(1,[vi r_1.1]),(1,[vs r_1.2.1]),(1,[vi r_1.2.2.1]),(1,[vi r_1.2.2.2.1])]),(5,vi 0),(4,ptr (some (b1,0)) 0)] [⟨some (b2,0),[vi r_1.1]⟩,⟨some (b2,1),[vs r_1.2.1]⟩,⟨some (b2,2),[vi r_1.2.2.1]⟩,⟨some (b2,3),[vi r_1.2.2.2.1]⟩,⟨some (b1,0),[vi 0]⟩,⟨some (b1,1),[vs ([]:Str)]⟩,⟨some (b1,2),[vi 0]⟩,⟨some (b1,3),[vi 0]⟩] ⟨rfl,rfl,rfl,rfl,trivial⟩ rfl ?_
  refine TA_all (rs:=[3]) (by kernel_rfl) rfl ?_
  refine ⟨?_,trivial⟩
  refine TO_n (is:=[]) (done':=dn 5 15) rfl rfl rfl (by kernel_rfl) (E_sq (b:=b1) (o:=0) [4,4,4,4] [(1,_),(1,_),(1,_),(1,_)] rfl inf66) (fun _ _=>rfl) (fun _=>?_)
  refine TA_all (rs:=[4]) (by kernel_rfl) rfl ?_
  refine ⟨?_,trivial⟩
  refine TO_v (is:=[]) (done':=dn 5 31) rfl rfl rfl rfl (by kernel_rfl) (V_assign rfl) (fun _=>rfl) ?_
  refine TA_done (by kernel_rfl) ?_ 0
  refine TX_next (TC_ret ?_)
  obtain rfl:=sj H
  exact TXr (vs:=[_,_]) rfl ⟨(Res_lp (b:=b1) (o:=0) (n:=4) (ps:=[(1,_),(1,_),(1,_),(1,_)]) ⟨.o 0, .o 1, .o 2, .o 3,trivial⟩ isAgg66 inf66),rfl,trivial⟩
end Go.Proofs
end

section
namespace Go.Proofs
open Go Go.Kx
open TryzI Tryz
def hello_Opened (c_Server:Bool) (c_Suites:List (Int)) (c_Groups:List (Int)) (c_Chain:List (Str)) (c_Key:Str) (c_Roots:List (Str)) (c_Name:Str) (c_Tickets:Int) (c_Seal:Str) (c_Psk:List (Str × Str × Int × Int × Int × Int)) (c_Tape:Str) (c_Clock:Int) (c_Pad:Int) (c_Limit:Int) (c_Ring:Int) (m_Kind:Int) (m_Random:Str) (m_Session:Str) (m_Suites:List (Int)) (m_Name:Str) (m_Versions:List (Int)) (m_Groups:List (Int)) (m_Schemes:List (Int)) (m_Modes:List (Int)) (m_Shares:List (Int × Str)) (m_Identities:List (Str × Int)) (m_Binders:List (Str)) (m_Psk:Int) (m_Others:List (Int)) (m_Certs:List (Str)) (m_Scheme:Int) (m_Data:Str) (m_Life:Int) (m_Add:Int) (m_Nonce:Str) (m_Update:Int) (suite:Int):Option (Int × Str × Int × Int × Bool) :=
 (if ((m_Identities).length:Int)=0 then (some true) else ((slices_Contains___int_int_ m_Modes 1).bind fun (r_2:Bool)=>(some (!r_2)))).bind fun (j1:Bool)=>(if j1=true then (some (0,([]:Str),0,0,false)) else (if 0≤(0:Int)∧(0:Int)<((m_Identities).length:Int) then ((ticket_Open c_Seal ((lg m_Identities 0).1)).bind fun (r_1:Int × Str × Int × Int × Int)=>(if r_1.2.2.2.2=0 then (if r_1.1=suite then (if r_1.2.2.1≤c_Clock then (ltt (decide ((w64 (c_Clock - r_1.2.2.1))≤604800)) fun (x1:Bool)=>(some (r_1.1,r_1.2.1,r_1.2.2.1,r_1.2.2.2.1,x1))) else (some (r_1.1,r_1.2.1,r_1.2.2.1,r_1.2.2.2.1,false))) else (some (r_1.1,r_1.2.1,r_1.2.2.1,r_1.2.2.2.1,false))) else (some (r_1.1,r_1.2.1,r_1.2.2.1,r_1.2.2.2.1,false)))) else none))
set_option maxHeartbeats 4000000 in
set_option maxRecDepth 20000 in
theorem F67_calls (bc:Nat) (obc:Nat) (Ac_Suites:Adr) (cc_Suites:Nat) (Ac_Groups:Adr) (cc_Groups:Nat) (Ac_Chain:Adr) (cc_Chain:Nat) (Ac_Roots:Adr) (cc_Roots:Nat) (Ac_Psk:Adr) (cc_Psk:Nat) (bm:Nat) (obm:Nat) (Am_Suites:Adr) (cm_Suites:Nat) (Am_Versions:Adr) (cm_Versions:Nat) (Am_Groups:Adr) (cm_Groups:Nat) (Am_Schemes:Adr) (cm_Schemes:Nat) (Am_Modes:Adr) (cm_Modes:Nat) (Am_Shares:Adr) (cm_Shares:Nat) (Am_Identities:Adr) (cm_Identities:Nat) (Am_Binders:Adr) (cm_Binders:Nat) (Am_Others:Adr) (cm_Others:Nat) (Am_Certs:Adr) (cm_Certs:Nat) (c_Server:Bool) (c_Suites:List (Int)) (c_Groups:List (Int)) (c_Chain:List (Str)) (c_Key:Str) (c_Roots:List (Str)) (c_Name:Str) (c_Tickets:Int) (c_Seal:Str) (c_Psk:List (Str × Str × Int × Int × Int × Int)) (c_Tape:Str) (c_Clock:Int) (c_Pad:Int) (c_Limit:Int) (c_Ring:Int) (m_Kind:Int) (m_Random:Str) (m_Session:Str) (m_Suites:List (Int)) (m_Name:Str) (m_Versions:List (Int)) (m_Groups:List (Int)) (m_Schemes:List (Int)) (m_Modes:List (Int)) (m_Shares:List (Int × Str)) (m_Identities:List (Str × Int)) (m_Binders:List (Str)) (m_Psk:Int) (m_Others:List (Int)) (m_Certs:List (Str)) (m_Scheme:Int) (m_Data:Str) (m_Life:Int) (m_Add:Int) (m_Nonce:Str) (m_Update:Int) (suite:Int) (hcc_Suites:(c_Suites).length≤cc_Suites) (hcc_Groups:(c_Groups).length≤cc_Groups) (hcc_Chain:(c_Chain).length≤cc_Chain) (hcc_Roots:(c_Roots).length≤cc_Roots) (hcc_Psk:(c_Psk).length≤cc_Psk) (hcm_Suites:(m_Suites).length≤cm_Suites) (hcm_Versions:(m_Versions).length≤cm_Versions) (hcm_Groups:(m_Groups).length≤cm_Groups) (hcm_Schemes:(m_Schemes).length≤cm_Schemes) (hcm_Modes:(m_Modes).length≤cm_Modes) (hcm_Shares:(m_Shares).length≤cm_Shares) (hcm_Identities:(m_Identities).length≤cm_Identities) (hcm_Binders:(m_Binders).length≤cm_Binders) (hcm_Others:(m_Others).length≤cm_Others) (hcm_Certs:(m_Certs).length≤cm_Certs) (r:Int × Str × Int × Int × Bool) (H:hello_Opened c_Server c_Suites c_Groups c_Chain c_Key c_Roots c_Name c_Tickets c_Seal c_Psk c_Tape c_Clock c_Pad c_Limit c_Ring m_Kind m_Random m_Session m_Suites m_Name m_Versions m_Groups m_Schemes m_Modes m_Shares m_Identities m_Binders m_Psk m_Others m_Certs m_Scheme m_Data m_Life m_Add m_Nonce m_Update suite=some r) :
  Does Tryz.prog 67 [ptr (some (bc,obc)) 0,ptr (some (bm,obm)) 0,vi suite] [] [⟨some (bc,obc),[vb c_Server]⟩,⟨some (bc,obc+1),[sl Ac_Suites ((c_Suites).length) cc_Suites]⟩,⟨some (bc,obc+2),[sl Ac_Groups ((c_Groups).length) cc_Groups]⟩,⟨some (bc,obc+3),[sl Ac_Chain ((c_Chain).length) cc_Chain]⟩,⟨some (bc,obc+4),[vs c_Key]⟩,⟨some (bc,obc+5),[sl Ac_Roots ((c_Roots).length) cc_Roots]⟩,⟨some (bc,obc+6),[vs c_Name]⟩,⟨some (bc,obc+7),[vi c_Tickets]⟩,⟨some (bc,obc+8),[vs c_Seal]⟩,⟨some (bc,obc+9),[sl Ac_Psk ((c_Psk).length) cc_Psk]⟩,⟨some (bc,obc+10),[vs c_Tape]⟩,⟨some (bc,obc+11),[vi c_Clock]⟩,⟨some (bc,obc+12),[vi c_Pad]⟩,⟨some (bc,obc+13),[vi c_Limit]⟩,⟨some (bc,obc+14),[vi c_Ring]⟩,⟨Ac_Suites,eI c_Suites⟩,⟨Ac_Groups,eI c_Groups⟩,⟨Ac_Chain,eS c_Chain⟩,⟨Ac_Roots,eS c_Roots⟩,⟨Ac_Psk,eF (fun p:Str × Str × Int × Int × Int × Int=>[vs p.1,vs p.2.1,vi p.2.2.1,vi p.2.2.2.1,vi p.2.2.2.2.1,vi p.2.2.2.2.2]) c_Psk⟩,⟨some (bm,obm),[vi m_Kind]⟩,⟨some (bm,obm+1),[vs m_Random]⟩,⟨some (bm,obm+2),[vs m_Session]⟩,⟨some (bm,obm+3),[sl Am_Suites ((m_Suites).length) cm_Suites]⟩,⟨some (bm,obm+4),[vs m_Name]⟩,⟨some (bm,obm+5),[sl Am_Versions ((m_Versions).length) cm_Versions]⟩,⟨some (bm,obm+6),[sl Am_Groups ((m_Groups).length) cm_Groups]⟩,⟨some (bm,obm+7),[sl Am_Schemes ((m_Schemes).length) cm_Schemes]⟩,⟨some (bm,obm+8),[sl Am_Modes ((m_Modes).length) cm_Modes]⟩,⟨some (bm,obm+9),[sl Am_Shares ((m_Shares).length) cm_Shares]⟩,⟨some (bm,obm+10),[sl Am_Identities ((m_Identities).length) cm_Identities]⟩,⟨some (bm,obm+11),[sl Am_Binders ((m_Binders).length) cm_Binders]⟩,⟨some (bm,obm+12),[vi m_Psk]⟩,⟨some (bm,obm+13),[sl Am_Others ((m_Others).length) cm_Others]⟩,⟨some (bm,obm+14),[sl Am_Certs ((m_Certs).length) cm_Certs]⟩,⟨some (bm,obm+15),[vi m_Scheme]⟩,⟨some (bm,obm+16),[vs m_Data]⟩,⟨some (bm,obm+17),[vi m_Life]⟩,⟨some (bm,obm+18),[vi m_Add]⟩,⟨some (bm,obm+19),[vs m_Nonce]⟩,⟨some (bm,obm+20),[vi m_Update]⟩,⟨Am_Suites,eI m_Suites⟩,⟨Am_Versions,eI m_Versions⟩,⟨Am_Groups,eI m_Groups⟩,⟨Am_Schemes,eI m_Schemes⟩,⟨Am_Modes,eI m_Modes⟩,⟨Am_Shares,eF (fun p:Int × Str=>[vi p.1,vs p.2]) m_Shares⟩,⟨Am_Identities,eF (fun p:Str × Int=>[vs p.1,vi p.2]) m_Identities⟩,⟨Am_Binders,eS m_Binders⟩,⟨Am_Others,eI m_Others⟩,⟨Am_Certs,eS m_Certs⟩,⟨some (0,0),[hdE]⟩] (Γ:=Unit) (fun g=>Value.tuple [aG [(1,[vi r.1]),(1,[vs r.2.1]),(1,[vi r.2.2.1]),(1,[vi r.2.2.2.1])],vb r.2.2.2.2].toArray) (fun g=>[]):=by
 intro w hmem hro hd
 refine calls_of (N:=68) (m0:=[(0,ptr (some (bc,obc)) 0),(1,ptr (some (bm,obm)) 0),(2,vi suite)]) func67 rfl ntmps67 (argM_ok [ptr (some (bc,obc)) 0,ptr (some (bm,obm)) 0,vi suite]) rfl hmem hro hd ?_
 unfold hello_Opened at H
 refine TC_seq (TC_region (TLe (E_ap inf66 zer66) (fun b1=>?_)))
 refine TVa ?_
 refine TL_nil (TX_next (TC_seq (TC_seq (TC_region (TVm ?_)))))
 refine TLv (V_nilCheck rfl) ?_
 refine TLv (V_fieldE rfl underlying30 rfl rfl inf28 rfl (v:=ptr (some (bm,obm+10)) 0) rfl) ?_
 refine TLv (V_load rfl (.r 30) rfl isAgg28) ?_
 refine TLv (V_len_slice rfl underlying28) ?_
 refine TLv (V_bin rfl rfl (fun w=>eqlI w ((m_Identities).length:Int) 0)) ?_
 refine TVm ?_
 obtain ⟨j1,Hj,H⟩:=bind_elim H
 refine TL_join (Γ:=Unit) (fun gj1=>[(0,ptr (some (bc,obc)) 0),(1,ptr (some (bm,obm)) 0),(2,vi suite),(6,ptr (some (b1,0)) 0),(23,vb j1)]) (fun gj1=>[⟨some (b1,0),[vi 0]⟩,⟨some (b1,1),[vs ([]:Str)]⟩,⟨some (b1,2),[vi 0]⟩,⟨some (b1,3),[vi 0]⟩]) ?_ ?_
 ·intro gj1
  refine TX_next (TCb H (fun hc H=>?_) (fun hc H=>?_))
  ·refine TC_seq (TC_region (TLv (V_buildStruct (pv:=[]) (pl:=[(0,1),(1,1),(2,1),(3,1)]) rfl rfl underlying66 inf66 places66 zer66 (cs:=flat [(1,[vi 0]),(1,[vs ([]:Str)]),(1,[vi 0]),(1,[vi 0])]) (by kernel_rfl)) ?_))
   refine TLn (E_sq (b:=b1) (o:=0) [0,0,0,0] [(1,_),(1,_),(1,_),(1,_)] rfl inf66) (fun _=>?_)
   refine TVa ?_
   refine TL_nil (TX_next (TC_ret (TX_then_ret ?_)))
   obtain rfl:=sj H
   exact TXr (vs:=[_,_]) rfl ⟨(Res_lp (b:=b1) (o:=0) (n:=4) (ps:=[(1,_),(1,_),(1,_),(1,_)]) ⟨.o 0, .o 1, .o 2, .o 3,trivial⟩ isAgg66 inf66),rfl,trivial⟩
  ·refine TC_skip (TX_next (TC_seq ?_))
   obtain ⟨h1,H⟩:=if_elim H
   obtain ⟨r_1,hr_1,H⟩:=bind_elim H
   refine TA_begin [⟨some (b1,0),[vi 0]⟩,⟨some (b1,1),[vs ([]:Str)]⟩,⟨some (b1,2),[vi 0]⟩,⟨some (b1,3),[vi 0]⟩] 17 (by kernel_rfl) (N:=18) rfl ?_
   refine TA_tk 0 [0,0,0,0] (dn 18 1) rfl rfl (V_move rfl) ?_
   refine TA_tk 1 [0,0,0,0] (dn 18 3) rfl rfl (V_nilCheck rfl) ?_
   refine TA_tk 2 [0,0,0,0] (dn 18 7) rfl rfl (V_fieldE rfl underlying26 rfl rfl inf9 rfl (v:=ptr (some (bc,obc+8)) 0) rfl) ?_
   refine TA_tk 3 [0,0,0,0] (dn 18 15) rfl rfl (V_load rfl (.r 8) rfl isAgg9) ?_
   refine TA_tk 4 [0,0,0,0] (dn 18 31) rfl rfl (V_move rfl) ?_
   refine TA_tk 5 [0,0,0,0] (dn 18 63) rfl rfl (V_nilCheck rfl) ?_
   refine TA_tk 6 [0,0,0,0] (dn 18 127) rfl rfl (V_fieldE rfl underlying30 rfl rfl inf28 rfl (v:=ptr (some (bm,obm+10)) 0) rfl) ?_
   refine TA_tk 7 [0,0,0,0] (dn 18 255) rfl rfl (V_load rfl (.r 30) rfl isAgg28) ?_
   refine TA_tk 8 [0,0,0,0] (dn 18 511) rfl rfl (V_idxSlS (i:=0) rfl rfl underlying28 inf60 rfl (.r 47) (eF_ne2 (s:=2) (fun _=>rfl) rfl (toNat_lt h1.1 h1.2)) h1.1 h1.2 (k:=0 * 2) rfl) ?_
   refine TA_tk 9 [0,0,0,0] (dn 18 1023) rfl rfl (V_field rfl underlying60 rfl (k:=0) rfl inf9 rfl) ?_
   refine TA_tk 10 [0,0,0,0] (dn 18 2047) rfl rfl (V_load rfl (.r 47) ((get_eF (g:=fun p:Str × Int=>[vs p.1,vi p.2]) (s:=2) (fun _=>rfl) m_Identities 0 0 (toNat_lt h1.1 h1.2) (by decide:0<2)).trans rfl) isAgg9) ?_
   refine TA_mix (is:=[0,0,0,0]) (done':=dn 18 65535) [itV 11 37 (Value.tuple [aG [(1,[vi r_1.1]),(1,[vs r_1.2.1]),(1,[vi r_1.2.2.1]),(1,[vi r_1.2.2.2.1])],vi r_1.2.2.2.2].toArray) [],itV 12 25 (Value.tuple [aG [(1,[vi r_1.1]),(1,[vs r_1.2.1]),(1,[vi r_1.2.2.1]),(1,[vi r_1.2.2.2.1])],vi r_1.2.2.2.2].toArray) [11],itV 13 38 (aG [(1,[vi r_1.1]),(1,[vs r_1.2.1]),(1,[vi r_1.2.2.1]),(1,[vi r_1.2.2.2.1])]) [12],⟨15,8,fun _ b2=>ptr (some (b2,0)) 0,fun b2=>[⟨some (b2,0),[vi 0]⟩,⟨some (b2,1),[vs ([]:Str)]⟩,⟨some (b2,2),[vi 0]⟩,⟨some (b2,3),[vi 0]⟩],[],none⟩] [itV 14 39 (vi r_1.2.2.2.2) [12]] 2 (by kernel_rfl) (QP.then QP.body) (by kernel_rfl) rfl (.e rfl (E_cu (F84_calls c_Seal ((lg m_Identities 0).1) r_1 hr_1) call84 ⟨.r 51,trivial⟩) (.v rfl (V_move rfl) (.v rfl V_ex (.c rfl (fun _ _=>(E_ap inf66 zer66)) .nil)))) (.c rfl (fun _=>V_ex) .nil) (by kernel_rfl) rfl (fun γ=>?_)
   refine TA_cut [(39,vi r_1.2.2.2.2),(8,ptr (some ((γ 15),0)) 0),(38,aG [(1,[vi r_1.1]),(1,[vs r_1.2.1]),(1,[vi r_1.2.2.1]),(1,[vi r_1.2.2.2.1])]),(0,ptr (some (bc,obc)) 0),(2,vi suite),(6,ptr (some (b1,0)) 0)] [⟨some ((γ 15),0),[vi 0]⟩,⟨some ((γ 15),1),[vs ([]:Str)]⟩,⟨some ((γ 15),2),[vi 0]⟩,⟨some ((γ 15),3),[vi 0]⟩,⟨some (b1,0),[vi 0]⟩,⟨some (b1,1),[vs ([]:Str)]⟩,⟨some (b1,2),[vi 0]⟩,⟨some (b1,3),[vi 0]⟩] ⟨rfl,rfl,rfl,rfl,rfl,rfl,trivial⟩ rfl ?_
   generalize γ 15=b2
   refine TA_all (rs:=[16]) (by kernel_rfl) rfl ?_
   refine ⟨?_,trivial⟩
   refine TO_n (is:=[4,4,4,4]) (done':=dn 18 131071) rfl rfl rfl (by kernel_rfl) (E_sq (b:=b2) (o:=0) [0,0,0,0] [(1,_),(1,_),(1,_),(1,_)] rfl inf66) (fun _ _=>rfl) (fun _=>?_)
   refine TA_all (rs:=[17]) (by kernel_rfl) rfl ?_
   refine ⟨?_,trivial⟩
   refine TO_v (is:=[]) (R:=[]) (done':=dn 18 262143) rfl rfl rfl rfl (by kernel_rfl) (V_assign rfl) (fun h=>by cases h) ?_
   refine TA_done (by kernel_rfl) ?_ 0
   refine TX_next (TC_seq (TC_em (decide (r_1.2.2.2.2=0)) (fun hg4_4=>?_) (fun hg4_4=>?_)))
   ·replace H:=ite_t (of_decide_eq_true hg4_4) H
    refine TC_em (decide (r_1.1=suite)) (fun hg4_10=>?_) (fun hg4_10=>?_)
    ·replace H:=ite_t (of_decide_eq_true hg4_10) H
     refine TC_em (decide (r_1.2.2.1≤c_Clock)) (fun hg4_19=>?_) (fun hg4_19=>?_)
     ·replace H:=ite_t (of_decide_eq_true hg4_19) H
      obtain ⟨x1,hx1,H⟩:=ltt_elim H
      refine TA_begin [⟨some (b2,0),[vi r_1.1]⟩,⟨some (b2,1),[vs r_1.2.1]⟩,⟨some (b2,2),[vi r_1.2.2.1]⟩,⟨some (b2,3),[vi r_1.2.2.2.1]⟩] 29 (by kernel_rfl) (N:=30) rfl ?_
      refine TA_tk 0 [0,0,0,0] (dn 30 1) rfl rfl (V_lp (b:=b2) (o:=0) (n:=4) (ps:=[(1,_),(1,_),(1,_),(1,_)]) ⟨.o 0, .o 1, .o 2, .o 3,trivial⟩ isAgg66 inf66) ?_
      refine TA_tk 1 [0,0,0,0] (dn 30 3) rfl rfl (V_move rfl) ?_
      refine TA_tk 2 [0,0,0,0] (dn 30 7) rfl rfl (V_bin rfl rfl (fun w=>eqlI w r_1.2.2.2.2 0)) ?_
      refine TA_tk 3 [0,0,0,0] (dn 30 15) rfl rfl (V_move rfl) ?_
      refine TA_re (d:=43) (v:=vb (decide (r_1.2.2.2.2=0))) (v':=vb true) rfl (congrArg vb hg4_4) ?_
      refine TA_tw 4 [0,0,0,0] (dn 30 31) rfl rfl (V_fieldE rfl underlying66 rfl rfl inf3 rfl (v:=ptr (some (b2,0)) 0) rfl) ?_
      refine TA_tw 5 [0,0,0,0] (dn 30 63) rfl rfl (V_load rfl (.o 0) rfl isAgg3) ?_
      refine TA_tw 6 [0,0,0,0] (dn 30 127) rfl rfl (V_move rfl) ?_
      refine TA_tw 7 [0,0,0,0] (dn 30 255) rfl rfl (V_bin rfl rfl (fun w=>eqlI w r_1.1 suite)) ?_
      refine TA_tk 8 [0,0,0,0] (dn 30 511) rfl rfl (V_pick (b:=true) rfl rfl) ?_
      refine TA_tk 9 [0,0,0,0] (dn 30 1023) rfl rfl (V_move rfl) ?_
      refine TA_re (d:=49) (v:=vb (decide (r_1.1=suite))) (v':=vb true) rfl (congrArg vb hg4_10) ?_
      refine TA_tw 10 [0,0,0,0] (dn 30 2047) rfl rfl (V_fieldE rfl underlying66 rfl rfl inf3 rfl (v:=ptr (some (b2,2)) 0) rfl) ?_
      refine TA_tw 11 [0,0,0,0] (dn 30 4095) rfl rfl (V_load rfl (.o 2) rfl isAgg3) ?_
      refine TA_tw 12 [0,0,0,0] (dn 30 8191) rfl rfl (V_move rfl) ?_
      refine TA_tw 13 [0,0,0,0] (dn 30 16383) rfl rfl (V_nilCheck rfl) ?_
      refine TA_tw 14 [0,0,0,0] (dn 30 32767) rfl rfl (V_fieldE rfl underlying26 rfl rfl inf3 rfl (v:=ptr (some (bc,obc+11)) 0) rfl) ?_
      refine TA_tw 15 [0,0,0,0] (dn 30 65535) rfl rfl (V_load rfl (.r 11) rfl isAgg3) ?_
      refine TA_tw 16 [0,0,0,0] (dn 30 131071) rfl rfl (V_bin rfl rfl (fun w=>leqI w r_1.2.2.1 c_Clock)) ?_
      refine TA_tk 17 [0,0,0,0] (dn 30 262143) rfl rfl (V_pick (b:=true) rfl rfl) ?_
      refine TA_tk 18 [0,0,0,0] (dn 30 524287) rfl rfl (V_move rfl) ?_
      refine TA_re (d:=58) (v:=vb (decide (r_1.2.2.1≤c_Clock))) (v':=vb true) rfl (congrArg vb hg4_19) ?_
      refine TA_tw 19 [0,0,0,0] (dn 30 1048575) rfl rfl (V_move rfl) ?_
      refine TA_tw 20 [0,0,0,0] (dn 30 2097151) rfl rfl (V_nilCheck rfl) ?_
      refine TA_tw 21 [0,0,0,0] (dn 30 4194303) rfl rfl (V_fieldE rfl underlying26 rfl rfl inf3 rfl (v:=ptr (some (bc,obc+11)) 0) rfl) ?_
      refine TA_tw 22 [0,0,0,0] (dn 30 8388607) rfl rfl (V_load rfl (.r 11) rfl isAgg3) ?_
      refine TA_tw 23 [0,0,0,0] (dn 30 16777215) rfl rfl (V_fieldE rfl underlying66 rfl rfl inf3 rfl (v:=ptr (some (b2,2)) 0) rfl) ?_
      refine TA_tw 24 [0,0,0,0] (dn 30 33554431) rfl rfl (V_load rfl (.o 2) rfl isAgg3) ?_
      refine TA_tw 25 [0,0,0,0] (dn 30 67108863) rfl rfl (V_bin rfl rfl (fun w=>subI w c_Clock r_1.2.2.1)) ?_
      refine TA_tw 26 [0,0,0,0] (dn 30 134217727) rfl rfl (V_bin rfl rfl (fun w=>leqI w (w64 (c_Clock - r_1.2.2.1)) 604800)) ?_
      refine TA_tk 27 [0,0,0,0] (dn 30 268435455) rfl rfl (V_pick (b:=true) rfl rfl) ?_
      refine TA_all (rs:=[28]) (by kernel_rfl) rfl ?_
      refine ⟨?_,trivial⟩
      refine TO_n (is:=[4,4,4,4]) (done':=dn 30 536870911) rfl rfl rfl (by kernel_rfl) (E_sq (b:=b1) (o:=0) [4,4,4,4] [(1,_),(1,_),(1,_),(1,_)] rfl inf66) (fun _ _=>rfl) (fun _=>?_)
      refine TA_all (rs:=[29]) (by kernel_rfl) rfl ?_
      refine ⟨?_,trivial⟩
      refine TO_v (is:=[]) (R:=[]) (done':=dn 30 1073741823) rfl rfl rfl rfl (by kernel_rfl) (V_assign rfl) (fun h=>by cases h) ?_
      refine TA_re (d:=7) (v:=vb (decide ((w64 (c_Clock - r_1.2.2.1))≤604800))) (v':=vb x1) rfl (congrArg vb hx1) ?_
      refine TA_done (by kernel_rfl) ?_ 0
      refine TX_next (TC.sub (m':=[(6,_),(7,_)]) ⟨rfl,rfl,trivial⟩ ?_)
      refine TC.pull (is:=[0,0,0,0]) (L':=[_,_,_,_]) rfl ?_
      refine TC_ret ?_
      obtain rfl:=sj H
      exact TXr (vs:=[_,_]) rfl ⟨(Res_lp (b:=b1) (o:=0) (n:=4) (ps:=[(1,_),(1,_),(1,_),(1,_)]) ⟨.o 0, .o 1, .o 2, .o 3,trivial⟩ isAgg66 inf66),rfl,trivial⟩
     ·replace H:=ite_f (of_decide_eq_false hg4_19) H
      refine TA_begin [⟨some (b2,0),[vi r_1.1]⟩,⟨some (b2,1),[vs r_1.2.1]⟩,⟨some (b2,2),[vi r_1.2.2.1]⟩,⟨some (b2,3),[vi r_1.2.2.2.1]⟩] 29 (by kernel_rfl) (N:=30) rfl ?_
      refine TA_tk 0 [0,0,0,0] (dn 30 1) rfl rfl (V_lp (b:=b2) (o:=0) (n:=4) (ps:=[(1,_),(1,_),(1,_),(1,_)]) ⟨.o 0, .o 1, .o 2, .o 3,trivial⟩ isAgg66 inf66) ?_
      refine TA_tk 1 [0,0,0,0] (dn 30 3) rfl rfl (V_move rfl) ?_
      refine TA_tk 2 [0,0,0,0] (dn 30 7) rfl rfl (V_bin rfl rfl (fun w=>eqlI w r_1.2.2.2.2 0)) ?_
      refine TA_tk 3 [0,0,0,0] (dn 30 15) rfl rfl (V_move rfl) ?_
      refine TA_re (d:=43) (v:=vb (decide (r_1.2.2.2.2=0))) (v':=vb true) rfl (congrArg vb hg4_4) ?_
      refine TA_tw 4 [0,0,0,0] (dn 30 31) rfl rfl (V_fieldE rfl underlying66 rfl rfl inf3 rfl (v:=ptr (some (b2,0)) 0) rfl) ?_
      refine TA_tw 5 [0,0,0,0] (dn 30 63) rfl rfl (V_load rfl (.o 0) rfl isAgg3) ?_
      refine TA_tw 6 [0,0,0,0] (dn 30 127) rfl rfl (V_move rfl) ?_
      refine TA_tw 7 [0,0,0,0] (dn 30 255) rfl rfl (V_bin rfl rfl (fun w=>eqlI w r_1.1 suite)) ?_
      refine TA_tk 8 [0,0,0,0] (dn 30 511) rfl rfl (V_pick (b:=true) rfl rfl) ?_
      refine TA_tk 9 [0,0,0,0] (dn 30 1023) rfl rfl (V_move rfl) ?_
      refine TA_re (d:=49) (v:=vb (decide (r_1.1=suite))) (v':=vb true) rfl (congrArg vb hg4_10) ?_
      refine TA_tw 10 [0,0,0,0] (dn 30 2047) rfl rfl (V_fieldE rfl underlying66 rfl rfl inf3 rfl (v:=ptr (some (b2,2)) 0) rfl) ?_
      refine TA_tw 11 [0,0,0,0] (dn 30 4095) rfl rfl (V_load rfl (.o 2) rfl isAgg3) ?_
      refine TA_tw 12 [0,0,0,0] (dn 30 8191) rfl rfl (V_move rfl) ?_
      refine TA_tw 13 [0,0,0,0] (dn 30 16383) rfl rfl (V_nilCheck rfl) ?_
      refine TA_tw 14 [0,0,0,0] (dn 30 32767) rfl rfl (V_fieldE rfl underlying26 rfl rfl inf3 rfl (v:=ptr (some (bc,obc+11)) 0) rfl) ?_
      refine TA_tw 15 [0,0,0,0] (dn 30 65535) rfl rfl (V_load rfl (.r 11) rfl isAgg3) ?_
      refine TA_tw 16 [0,0,0,0] (dn 30 131071) rfl rfl (V_bin rfl rfl (fun w=>leqI w r_1.2.2.1 c_Clock)) ?_
      refine TA_tk 17 [0,0,0,0] (dn 30 262143) rfl rfl (V_pick (b:=true) rfl rfl) ?_
      refine TA_tk 18 [0,0,0,0] (dn 30 524287) rfl rfl (V_move rfl) ?_
      refine TA_re (d:=58) (v:=vb (decide (r_1.2.2.1≤c_Clock))) (v':=vb false) rfl (congrArg vb hg4_19) ?_
      refine TA_ts 19 [0,0,0,0] (dn 30 1048575) rfl rfl ?_
      refine TA_ts 20 [0,0,0,0] (dn 30 2097151) rfl rfl ?_
      refine TA_ts 21 [0,0,0,0] (dn 30 4194303) rfl rfl ?_
      refine TA_ts 22 [0,0,0,0] (dn 30 8388607) rfl rfl ?_
      refine TA_ts 23 [0,0,0,0] (dn 30 16777215) rfl rfl ?_
      refine TA_ts 24 [0,0,0,0] (dn 30 33554431) rfl rfl ?_
      refine TA_ts 25 [0,0,0,0] (dn 30 67108863) rfl rfl ?_
      refine TA_ts 26 [0,0,0,0] (dn 30 134217727) rfl rfl ?_
      refine TA_tk 27 [0,0,0,0] (dn 30 268435455) rfl rfl (V_pick (b:=false) rfl rfl) ?_
      refine TA_all (rs:=[28]) (by kernel_rfl) rfl ?_
      refine ⟨?_,trivial⟩
      refine TO_n (is:=[4,4,4,4]) (done':=dn 30 536870911) rfl rfl rfl (by kernel_rfl) (E_sq (b:=b1) (o:=0) [4,4,4,4] [(1,_),(1,_),(1,_),(1,_)] rfl inf66) (fun _ _=>rfl) (fun _=>?_)
      refine TA_all (rs:=[29]) (by kernel_rfl) rfl ?_
      refine ⟨?_,trivial⟩
      refine TO_v (is:=[]) (R:=[]) (done':=dn 30 1073741823) rfl rfl rfl rfl (by kernel_rfl) (V_assign rfl) (fun h=>by cases h) ?_
      refine TA_done (by kernel_rfl) ?_ 0
      refine TX_next (TC.sub (m':=[(6,_),(7,_)]) ⟨rfl,rfl,trivial⟩ ?_)
      refine TC.pull (is:=[0,0,0,0]) (L':=[_,_,_,_]) rfl ?_
      refine TC_ret ?_
      obtain rfl:=sj H
      exact TXr (vs:=[_,_]) rfl ⟨(Res_lp (b:=b1) (o:=0) (n:=4) (ps:=[(1,_),(1,_),(1,_),(1,_)]) ⟨.o 0, .o 1, .o 2, .o 3,trivial⟩ isAgg66 inf66),rfl,trivial⟩
    ·replace H:=ite_f (of_decide_eq_false hg4_10) H
     refine TA_begin [⟨some (b2,0),[vi r_1.1]⟩,⟨some (b2,1),[vs r_1.2.1]⟩,⟨some (b2,2),[vi r_1.2.2.1]⟩,⟨some (b2,3),[vi r_1.2.2.2.1]⟩] 29 (by kernel_rfl) (N:=30) rfl ?_
     refine TA_tk 0 [0,0,0,0] (dn 30 1) rfl rfl (V_lp (b:=b2) (o:=0) (n:=4) (ps:=[(1,_),(1,_),(1,_),(1,_)]) ⟨.o 0, .o 1, .o 2, .o 3,trivial⟩ isAgg66 inf66) ?_
     refine TA_tk 1 [0,0,0,0] (dn 30 3) rfl rfl (V_move rfl) ?_
     refine TA_tk 2 [0,0,0,0] (dn 30 7) rfl rfl (V_bin rfl rfl (fun w=>eqlI w r_1.2.2.2.2 0)) ?_
     refine TA_tk 3 [0,0,0,0] (dn 30 15) rfl rfl (V_move rfl) ?_
     refine TA_re (d:=43) (v:=vb (decide (r_1.2.2.2.2=0))) (v':=vb true) rfl (congrArg vb hg4_4) ?_
     refine TA_tw 4 [0,0,0,0] (dn 30 31) rfl rfl (V_fieldE rfl underlying66 rfl rfl inf3 rfl (v:=ptr (some (b2,0)) 0) rfl) ?_
     refine TA_tw 5 [0,0,0,0] (dn 30 63) rfl rfl (V_load rfl (.o 0) rfl isAgg3) ?_
     refine TA_tw 6 [0,0,0,0] (dn 30 127) rfl rfl (V_move rfl) ?_
     refine TA_tw 7 [0,0,0,0] (dn 30 255) rfl rfl (V_bin rfl rfl (fun w=>eqlI w r_1.1 suite)) ?_
     refine TA_tk 8 [0,0,0,0] (dn 30 511) rfl rfl (V_pick (b:=true) rfl rfl) ?_
     refine TA_tk 9 [0,0,0,0] (dn 30 1023) rfl rfl (V_move rfl) ?_
     refine TA_re (d:=49) (v:=vb (decide (r_1.1=suite))) (v':=vb false) rfl (congrArg vb hg4_10) ?_
     refine TA_ts 10 [0,0,0,0] (dn 30 2047) rfl rfl ?_
     refine TA_ts 11 [0,0,0,0] (dn 30 4095) rfl rfl ?_
     refine TA_ts 12 [0,0,0,0] (dn 30 8191) rfl rfl ?_
     refine TA_ts 13 [0,0,0,0] (dn 30 16383) rfl rfl ?_
     refine TA_ts 14 [0,0,0,0] (dn 30 32767) rfl rfl ?_
     refine TA_ts 15 [0,0,0,0] (dn 30 65535) rfl rfl ?_
     refine TA_ts 16 [0,0,0,0] (dn 30 131071) rfl rfl ?_
     refine TA_tk 17 [0,0,0,0] (dn 30 262143) rfl rfl (V_pick (b:=false) rfl rfl) ?_
     refine TA_tk 18 [0,0,0,0] (dn 30 524287) rfl rfl (V_move rfl) ?_
     refine TA_ts 19 [0,0,0,0] (dn 30 1048575) rfl rfl ?_
     refine TA_ts 20 [0,0,0,0] (dn 30 2097151) rfl rfl ?_
     refine TA_ts 21 [0,0,0,0] (dn 30 4194303) rfl rfl ?_
     refine TA_ts 22 [0,0,0,0] (dn 30 8388607) rfl rfl ?_
     refine TA_ts 23 [0,0,0,0] (dn 30 16777215) rfl rfl ?_
     refine TA_ts 24 [0,0,0,0] (dn 30 33554431) rfl rfl ?_
     refine TA_ts 25 [0,0,0,0] (dn 30 67108863) rfl rfl ?_
     refine TA_ts 26 [0,0,0,0] (dn 30 134217727) rfl rfl ?_
     refine TA_tk 27 [0,0,0,0] (dn 30 268435455) rfl rfl (V_pick (b:=false) rfl rfl) ?_
     refine TA_all (rs:=[28]) (by kernel_rfl) rfl ?_
     refine ⟨?_,trivial⟩
     refine TO_n (is:=[4,4,4,4]) (done':=dn 30 536870911) rfl rfl rfl (by kernel_rfl) (E_sq (b:=b1) (o:=0) [4,4,4,4] [(1,_),(1,_),(1,_),(1,_)] rfl inf66) (fun _ _=>rfl) (fun _=>?_)
     refine TA_all (rs:=[29]) (by kernel_rfl) rfl ?_
     refine ⟨?_,trivial⟩
     refine TO_v (is:=[]) (R:=[]) (done':=dn 30 1073741823) rfl rfl rfl rfl (by kernel_rfl) (V_assign rfl) (fun h=>by cases h) ?_
     refine TA_done (by kernel_rfl) ?_ 0
     refine TX_next (TC.sub (m':=[(6,_),(7,_)]) ⟨rfl,rfl,trivial⟩ ?_)
     refine TC.pull (is:=[0,0,0,0]) (L':=[_,_,_,_]) rfl ?_
     refine TC_ret ?_
     obtain rfl:=sj H
     exact TXr (vs:=[_,_]) rfl ⟨(Res_lp (b:=b1) (o:=0) (n:=4) (ps:=[(1,_),(1,_),(1,_),(1,_)]) ⟨.o 0, .o 1, .o 2, .o 3,trivial⟩ isAgg66 inf66),rfl,trivial⟩
   ·replace H:=ite_f (of_decide_eq_false hg4_4) H
    refine TA_begin [⟨some (b2,0),[vi r_1.1]⟩,⟨some (b2,1),[vs r_1.2.1]⟩,⟨some (b2,2),[vi r_1.2.2.1]⟩,⟨some (b2,3),[vi r_1.2.2.2.1]⟩] 29 (by kernel_rfl) (N:=30) rfl ?_
    refine TA_tk 0 [0,0,0,0] (dn 30 1) rfl rfl (V_lp (b:=b2) (o:=0) (n:=4) (ps:=[(1,_),(1,_),(1,_),(1,_)]) ⟨.o 0, .o 1, .o 2, .o 3,trivial⟩ isAgg66 inf66) ?_
    refine TA_tk 1 [0,0,0,0] (dn 30 3) rfl rfl (V_move rfl) ?_
    refine TA_tk 2 [0,0,0,0] (dn 30 7) rfl rfl (V_bin rfl rfl (fun w=>eqlI w r_1.2.2.2.2 0)) ?_
    refine TA_tk 3 [0,0,0,0] (dn 30 15) rfl rfl (V_move rfl) ?_
    refine TA_re (d:=43) (v:=vb (decide (r_1.2.2.2.2=0))) (v':=vb false) rfl (congrArg vb hg4_4) ?_
    refine TA_ts 4 [0,0,0,0] (dn 30 31) rfl rfl ?_
    refine TA_ts 5 [0,0,0,0] (dn 30 63) rfl rfl ?_
    refine TA_ts 6 [0,0,0,0] (dn 30 127) rfl rfl ?_
    refine TA_ts 7 [0,0,0,0] (dn 30 255) rfl rfl ?_
    refine TA_tk 8 [0,0,0,0] (dn 30 511) rfl rfl (V_pick (b:=false) rfl rfl) ?_
    refine TA_tk 9 [0,0,0,0] (dn 30 1023) rfl rfl (V_move rfl) ?_
    refine TA_ts 10 [0,0,0,0] (dn 30 2047) rfl rfl ?_
    refine TA_ts 11 [0,0,0,0] (dn 30 4095) rfl rfl ?_
    refine TA_ts 12 [0,0,0,0] (dn 30 8191) rfl rfl ?_
    refine TA_ts 13 [0,0,0,0] (dn 30 16383) rfl rfl ?_
    refine TA_ts 14 [0,0,0,0] (dn 30 32767) rfl rfl ?_
    refine TA_ts 15 [0,0,0,0] (dn 30 65535) rfl rfl ?_
    refine TA_ts 16 [0,0,0,0] (dn 30 131071) rfl rfl ?_
    refine TA_tk 17 [0,0,0,0] (dn 30 262143) rfl rfl (V_pick (b:=false) rfl rfl) ?_
    refine TA_tk 18 [0,0,0,0] (dn 30 524287) rfl rfl (V_move rfl) ?_
    refine TA_ts 19 [0,0,0,0] (dn 30 1048575) rfl rfl ?_
    refine TA_ts 20 [0,0,0,0] (dn 30 2097151) rfl rfl ?_
    refine TA_ts 21 [0,0,0,0] (dn 30 4194303) rfl rfl ?_
    refine TA_ts 22 [0,0,0,0] (dn 30 8388607) rfl rfl ?_
    refine TA_ts 23 [0,0,0,0] (dn 30 16777215) rfl rfl ?_
    refine TA_ts 24 [0,0,0,0] (dn 30 33554431) rfl rfl ?_
    refine TA_ts 25 [0,0,0,0] (dn 30 67108863) rfl rfl ?_
    refine TA_ts 26 [0,0,0,0] (dn 30 134217727) rfl rfl ?_
    refine TA_tk 27 [0,0,0,0] (dn 30 268435455) rfl rfl (V_pick (b:=false) rfl rfl) ?_
    refine TA_all (rs:=[28]) (by kernel_rfl) rfl ?_
    refine ⟨?_,trivial⟩
    refine TO_n (is:=[4,4,4,4]) (done':=dn 30 536870911) rfl rfl rfl (by kernel_rfl) (E_sq (b:=b1) (o:=0) [4,4,4,4] [(1,_),(1,_),(1,_),(1,_)] rfl inf66) (fun _ _=>rfl) (fun _=>?_)
    refine TA_all (rs:=[29]) (by kernel_rfl) rfl ?_
    refine ⟨?_,trivial⟩
    refine TO_v (is:=[]) (R:=[]) (done':=dn 30 1073741823) rfl rfl rfl rfl (by kernel_rfl) (V_assign rfl) (fun h=>by cases h) ?_
    refine TA_done (by kernel_rfl) ?_ 0
    refine TX_next (TC.sub (m':=[(6,_),(7,_)]) ⟨rfl,rfl,trivial⟩ ?_)
    refine TC.pull (is:=[0,0,0,0]) (L':=[_,_,_,_]) rfl ?_
    refine TC_ret ?_
    obtain rfl:=sj H
    exact TXr (vs:=[_,_]) rfl ⟨(Res_lp (b:=b1) (o:=0) (n:=4) (ps:=[(1,_),(1,_),(1,_),(1,_)]) ⟨.o 0, .o 1, .o 2, .o 3,trivial⟩ isAgg66 inf66),rfl,trivial⟩
 ·intro hJ
  replace H:=Hj
  refine TFd (d:=16) H (fun hc H=>?_) (fun hc H=>?_)
  ·refine TLs ?_
   refine TLs ?_
   refine TLs ?_
   refine TLs ?_
   refine TLs ?_
   refine TLs ?_
   refine TVt ?_
   refine TL_nil ?_
   obtain rfl:=sj H
   exact TXj [0,0,0,0] (hJ ())
  ·refine TLw (V_move rfl) ?_
   refine TLw (V_nilCheck rfl) ?_
   refine TLw (V_fieldE rfl underlying30 rfl rfl inf22 rfl (v:=ptr (some (bm,obm+8)) 0) rfl) ?_
   refine TLw (V_load rfl (.r 28) rfl isAgg22) ?_
   obtain ⟨r_2,hr_2,H⟩:=bind_elim H
   refine TLu (E_c0 (F62_calls Am_Modes cm_Modes m_Modes 1 hcm_Modes r_2 hr_2) call62 ⟨.r 45,trivial⟩) (fun g_2=>?_)
   refine TLw (V_un rfl (fun w=>notB w r_2)) ?_
   refine TVf ?_
   refine TL_nil ?_
   obtain rfl:=sj H
   exact TXj [0,0,0,0] (hJ ())
end Go.Proofs
end

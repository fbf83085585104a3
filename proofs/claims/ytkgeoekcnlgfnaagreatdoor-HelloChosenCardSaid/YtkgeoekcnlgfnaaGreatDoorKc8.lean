/-
  Part 8 of the proof of what several laws share.
-/
import Derived.Test.YtkgeoekcnlgfnaaGreatDoorKc1
import Derived.Test.YtkgeoekcnlgfnaaGreatDoorKc2
import Derived.Test.YtkgeoekcnlgfnaaGreatDoorKc3
import Derived.Test.YtkgeoekcnlgfnaaGreatDoorKc4
import Derived.Test.YtkgeoekcnlgfnaaGreatDoorKc5
import Derived.Test.YtkgeoekcnlgfnaaGreatDoorKc6
import Derived.Test.YtkgeoekcnlgfnaaGreatDoorKc7
set_option linter.unusedVariables false
set_option linter.unusedSimpArgs false
section
namespace Go.Kx
open Go
variable {P:Program} {t e:TypeId} {x y:Operand}
theorem run_part {cs:Array Value} {off:Nat} {k:IntKind} {v:Value} (w:World) (he:P.underlying e=some (.int k)) (hv:cs[off]? = some v):(part e cs off).run P w = .ok v w:=by
 simp [part,isAgg,Sem.run_bind,run_underlying he,hv]
theorem eq_int (w:World) (d:Nat) {k:IntKind} (a b:Int) (he:P.underlying e=some (.int k)):(Op.equalIn (d+1) e (.int k a) (.int k b)).run P w = .ok (a == b) w:=by
 simp [Op.equalIn,Sem.run_bind,run_underlying he]
theorem eq_loop (w:World) (d:Nat) {k:IntKind} (he:P.underlying e=some (.int k)) (xs ys:List Int) :
  ∀ (l:List Nat),(∀ i ∈ l,i<xs.length∧i<ys.length) →
  (forIn (m:=Sem) l (none,PUnit.unit) (fun i (_:Option Bool × PUnit)=>do
   if !(← Op.equalIn (d+1) e (← part e (xs.map (Value.int k)).toArray (i * 1)) (← part e (ys.map (Value.int k)).toArray (i * 1))) then pure (ForInStep.done (some false,PUnit.unit))
   else pure (ForInStep.yield (none,PUnit.unit)))).run P w = .ok (if l.all (fun i=>xs.getD i 0 == ys.getD i 0) then none else some false,PUnit.unit) w
 | [],_=>by simp [Sem.run]
 | i :: l,h=>by
  have hi:=h i (by simp)
  have h1:(xs.map (Value.int k)).toArray[i * 1]? = some (.int k (xs.getD i 0)):=by simp [hi.1,List.getD]
  have h2:(ys.map (Value.int k)).toArray[i * 1]? = some (.int k (ys.getD i 0)):=by simp [hi.2,List.getD]
  have ih:=eq_loop w d he xs ys l (fun j hj=>h j (by simp [hj]))
  rw [List.forIn_cons]
  simp only [Sem.run_bind,run_part w he h1,run_part w he h2,eq_int w d _ _ he,Result.andThen_ok]
  cases hb:xs.getD i 0 == ys.getD i 0
  ·have e0:(i :: l).all (fun i=>xs.getD i 0 == ys.getD i 0)=false:=by rw [List.all_cons,hb]; rfl
   rw [e0]; rfl
  ·have e0:(i :: l).all (fun i=>xs.getD i 0 == ys.getD i 0)=l.all (fun i=>xs.getD i 0 == ys.getD i 0):=by rw [List.all_cons,hb]; rfl
   rw [e0]; exact ih
theorem eqA0 (w:World) (d:Nat) {n:Nat} {k:IntKind} (ht:P.underlying t=some (.array n e)) (he:P.underlying e=some (.int k)) (hs:(sizeOf e).run P w = .ok 1 w) (xs ys:List Int) (hx:xs.length=n) (hy:ys.length=n) :
  (Op.equalIn (d+2) t (.agg (xs.map (Value.int k)).toArray) (.agg (ys.map (Value.int k)).toArray)).run P w = .ok (decide (xs=ys)) w:=by
 have hl:=eq_loop (P:=P) w d he xs ys (List.range' 0 n) (fun i hi=>by simp at hi; omega)
 have hq:(List.range' 0 n).all (fun i=>xs.getD i 0 == ys.getD i 0)=decide (xs=ys):=by
  rw [Bool.eq_iff_iff,List.all_eq_true,decide_eq_true_eq]
  constructor
  ·intro h
   refine List.ext_getElem (by omega) fun i h1 h2=>?_
   have:=h i (by simp; omega)
   simpa [List.getD,h1,h2] using this
  ·rintro rfl i _
   simp
 rw [hq] at hl
 have hz:(List.range' 0 [:n].size)=List.range' 0 n:=by simp [Std.Legacy.Range.size]
 unfold Op.equalIn
 simp only [Sem.run_bind,run_underlying ht,Result.andThen_ok,hs]
 simp only [Std.Legacy.Range.forIn_eq_forIn_range']
 rw [hz]
 refine (congrArg (fun r=>Result.andThen r _) hl).trans ?_
 simp only [Result.andThen_ok]
 by_cases c:xs=ys
 ·simp [c,Sem.run]
 ·simp [c,Sem.run]
theorem guard_agg (w:World) {op:BinOp} {xs ys:Array Value} (hg:P.eqGuardType P.depth t=false):(eqGuard op t x y (.agg xs) (.agg ys)).run P w = .ok () w:=by
 cases op <;> simp [eqGuard,Sem.run_bind,program,Sem.run,hg]
theorem e64_ints (l:List (BitVec 64)):e64 l=(l.map fun v=>(v.toNat:Int)).map (Value.int .u64):=by simp [e64,v64,Function.comp_def]
theorem inj64 {n:Nat} (a b:Vector (BitVec 64) n):(a.toList.map fun v=>(v.toNat:Int))=(b.toList.map fun v=>(v.toNat:Int)) ↔ a=b:=by
 constructor
 ·intro h
  have:=List.map_inj_right (f:=fun v:BitVec 64=>(v.toNat:Int)) (fun x y hxy=>BitVec.eq_of_toNat_eq (Int.ofNat_inj.1 hxy)) |>.1 h
  exact Vector.toList_inj.1 this
 ·rintro rfl; rfl
theorem eqlA (w:World) {n:Nat} (ht:P.underlying t=some (.array n e)) (he:P.underlying e=some (.int .u64)) (hs:(sizeOf e).run P w = .ok 1 w) (hg:P.eqGuardType P.depth t=false) (a b:Vector (BitVec 64) n) :
  (binG .eql t x y (.agg (e64 a.toList).toArray) (.agg (e64 b.toList).toArray)).run P w = .ok (vb (decide (a=b))) w:=binG_of w (guard_agg w hg) (by
 rw [e64_ints,e64_ints]
 have h:=eqA0 w 9998 ht he hs (a.toList.map fun v=>(v.toNat:Int)) (b.toList.map fun v=>(v.toNat:Int)) (by simp) (by simp)
 show ((Op.equalIn (9998+2) t _ _) >>= fun r=>pure (Value.bool r)).run P w=_
 rw [Sem.run_bind,h]; simp [vb,inj64])
end Go.Kx
end

section
namespace Go.Proofs
open Go Go.Kx
open Vector (replicate)
open TryzI Tryz
def num_add.b0 (x:Vx 64 4) (y:Vx 64 4) (s0:BitVec 64 × Int × Vx 64 4):Option ((BitVec 64 × Int × Vx 64 4) ⊕ (BitVec 64 × Vx 64 4)) :=
 if s0.2.1<4 then (if 0≤s0.2.1∧s0.2.1<(4:Int) then (if 0≤s0.2.1∧s0.2.1<(4:Int) then ((math_bits_Add64 (vg x ((s0.2.1).toNat)) (vg y ((s0.2.1).toNat)) s0.1).bind fun (r_1:BitVec 64 × BitVec 64)=>(if 0≤s0.2.1∧s0.2.1<(4:Int) then (ltt (vp s0.2.2 ((s0.2.1).toNat) r_1.1) fun (m_1:Vx 64 4)=>(some (.inl (r_1.2,w64 (s0.2.1+1),m_1)))) else none)) else none) else none) else (some (.inr (s0.1,s0.2.2)))
def num_add (x:Vx 64 4) (y:Vx 64 4):Option (Vx 64 4 × BitVec 64) :=
 (loop (num_add.b0 x y) BIG (0#64,0,replicate 4 0#64)).bind fun (t_1:BitVec 64 × Vx 64 4)=>(some (t_1.2,t_1.1))
set_option maxHeartbeats 4000000 in
set_option maxRecDepth 20000 in
theorem F124_calls (x:Vx 64 4) (y:Vx 64 4) (r:Vx 64 4 × BitVec 64) (H:num_add x y=some r) :
  Does Tryz.prog 124 [aG [(4,e64 x.toList)],aG [(4,e64 y.toList)]] [] [] (Γ:=Unit) (fun g=>Value.tuple [aG [(4,e64 r.1.toList)],v64 r.2].toArray) (fun g=>[]):=by
 intro w hmem hro hd
 refine calls_of (N:=28) (m0:=[(0,aG [(4,e64 x.toList)]),(1,aG [(4,e64 y.toList)])]) func124 rfl ntmps124 (argM_ok [aG [(4,e64 x.toList)],aG [(4,e64 y.toList)]]) rfl hmem hro hd ?_
 unfold num_add at H
 refine TC_seq (TC_region (TLe (E_boxP [(4,e64 x.toList)] rfl rfl ⟨(lenV (f:=v64) x),trivial⟩) (fun b1=>?_)))
 refine TLe (E_boxP [(4,e64 y.toList)] rfl rfl ⟨(lenV (f:=v64) y),trivial⟩) (fun b2=>?_)
 refine TLe (E_al64 4 inf117 zer117) (fun b3=>?_)
 refine TVa ?_
 refine TL_nil (TX_next (TC_seq (TC_region (TLe (E_al64 4 inf117 zer117) (fun b4=>?_)))))
 refine TL_nil (TX_next (TC_seq (TC_region (TVa ?_))))
 refine TL_nil (TX_next (TC_seq (TC_seq (TC_region (TVm ?_)))))
 refine TL_nil (TX_next (TC_block ?_))
 obtain ⟨t_1,Hl,H⟩:=bind_elim H
 refine TC.sub (m':=[(2,_),(3,_),(4,_),(6,_),(7,_),(9,_)]) ⟨rfl,rfl,rfl,rfl,rfl,rfl,trivial⟩ ?_
 refine TC.pull (is:=[3,2,1,0]) (L':=[_,_,_,_]) rfl ?_
 refine TC_loopL (id:=0) (body:=(num_add.b0 x y)) (σ:=BitVec 64 × Int × Vx 64 4) (Γ:=Unit) (Γx:=Unit) (fun s0 g0_=>[(2,ptr (some (b1,0)) 0),(3,ptr (some (b2,0)) 0),(4,ptr (some (b3,0)) 0),(6,ptr (some (b4,0)) 0),(7,v64 s0.1),(9,vi s0.2.1)]) (fun s0 g0_=>[⟨some (b1,0),e64 x.toList⟩,⟨some (b2,0),e64 y.toList⟩,⟨some (b3,0),e64 ((replicate 4 0#64).toList)⟩,⟨some (b4,0),e64 s0.2.2.toList⟩]) (fun t g=>[(4,ptr (some (b3,0)) 0),(6,ptr (some (b4,0)) 0),(7,v64 t.1)]) (fun t g=>[⟨some (b3,0),e64 ((replicate 4 0#64).toList)⟩,⟨some (b4,0),e64 t.2.toList⟩]) ?_ BIG (0#64,0,replicate 4 0#64) () t_1 Hl ?_
 ·intro s0 g0_ r1 H K hK hE
  unfold num_add.b0 at H
  refine TC_seq (TC_region (TLv (V_bin rfl rfl (fun w=>lssI w s0.2.1 4)) ?_))
  refine TL_nil (TX_next (TC_seq (TCd H (fun hc H=>?_) (fun hc H=>?_))))
  ·refine TC_skip (TX_next (TC_seq (TC_block (TC_seq (TC_region (TVm ?_))))))
   refine TVa ?_
   refine TL_nil (TX_next ?_)
   obtain ⟨h1,H⟩:=if_elim H
   obtain ⟨h2,H⟩:=if_elim H
   obtain ⟨r_1,hr_1,H⟩:=bind_elim H
   obtain ⟨h3,H⟩:=if_elim H
   obtain ⟨m_1,hm_1,H⟩:=ltt_elim H
   refine TA_begin [⟨some (b1,0),e64 x.toList⟩,⟨some (b2,0),e64 y.toList⟩,⟨some (b3,0),e64 ((replicate 4 0#64).toList)⟩] 14 (by kernel_rfl) (N:=15) rfl ?_
   refine TA_tk 0 [0,0,0] (dn 15 1) rfl rfl (V_move rfl) ?_
   refine TA_tk 1 [0,0,0] (dn 15 3) rfl rfl (V_move rfl) ?_
   refine TA_tk 2 [0,0,0] (dn 15 7) rfl rfl (V_idxArr (i:=s0.2.1) rfl rfl underlying117 inf115 rfl h1.1 h1.2 (k:=(s0.2.1).toNat) (k01 _)) ?_
   refine TA_tk 3 [0,0,0] (dn 15 15) rfl rfl (V_load rfl (.o 0) (get_vec (f:=v64) (V:=x) (toNat_lt h1.1 h1.2)) isAgg115) ?_
   refine TA_tk 4 [0,0,0] (dn 15 31) rfl rfl (V_move rfl) ?_
   refine TA_tk 5 [0,0,0] (dn 15 63) rfl rfl (V_idxArr (i:=s0.2.1) rfl rfl underlying117 inf115 rfl h2.1 h2.2 (k:=(s0.2.1).toNat) (k01 _)) ?_
   refine TA_tk 6 [0,0,0] (dn 15 127) rfl rfl (V_load rfl (.o 1) (get_vec (f:=v64) (V:=y) (toNat_lt h2.1 h2.2)) isAgg115) ?_
   refine TA_tk 7 [0,0,0] (dn 15 255) rfl rfl (V_move rfl) ?_
   refine TA_tk 8 [0,0,0] (dn 15 511) rfl rfl (V_ext rfl (ext_add Tryz.func139 rfl rfl rfl rfl hr_1)) ?_
   refine TA_tk 9 [0,0,0] (dn 15 1023) rfl rfl (V_move rfl) ?_
   refine TA_tk 10 [0,0,0] (dn 15 2047) rfl rfl V_ex ?_
   refine TA_tk 11 [0,0,0] (dn 15 4095) rfl rfl V_ex ?_
   refine TA_tk 12 [0,0,0] (dn 15 8191) rfl rfl (V_idxArr (i:=s0.2.1) rfl rfl underlying117 inf115 rfl h3.1 h3.2 (k:=(s0.2.1).toNat) (k01 _)) ?_
   refine TA_all (rs:=[13]) (by kernel_rfl) rfl ?_
   refine ⟨?_,trivial⟩
   refine TO_n (is:=[0,0,0]) (done':=dn 15 16383) rfl rfl rfl (by kernel_rfl) (E_store (j:=3) rfl rfl inf115 rfl rfl rfl (by simpa using (toNat_lt h3.1 h3.2)) (cs':=e64 ((vp s0.2.2 ((s0.2.1).toNat) r_1.1).toList)) set_vec) (fun _ _=>rfl) (fun _=>?_)
   refine TA_reE (j:=3) (A:=some (b4,0)) (cs:=e64 ((vp s0.2.2 ((s0.2.1).toNat) r_1.1).toList)) (cs':=e64 m_1.toList) rfl (congrArg (fun z:Vx 64 4=>e64 (Vector.toList z)) hm_1) ?_
   refine TA_all (rs:=[14]) (by kernel_rfl) rfl ?_
   refine ⟨?_,trivial⟩
   refine TO_v (is:=[]) (R:=[]) (done':=dn 15 32767) rfl rfl rfl rfl (by kernel_rfl) (V_assign rfl) (fun h=>by cases h) ?_
   refine TA_done (by kernel_rfl) ?_ 0
   refine TX_block_normal (TX_next (TC_region (TLv (V_bin rfl rfl (fun w=>addI w s0.2.1 1)) ?_)))
   refine TVm ?_
   refine TL_nil ?_
   obtain rfl:=sj H
   exact TXk [0,0,0,0] (hK (r_1.2,w64 (s0.2.1+1),m_1) rfl ())
  ·refine TC_exit (TX_then_exit (TX_then_exit ?_))
   obtain rfl:=sj H
   exact TXj [2,2] (hE (s0.1,s0.2.2) rfl ())
 ·intro g
  refine TX_block_exit (TX_next (TC_seq (TC_region (TLv (V_lag (.o 1) isAgg117 inf117) ?_))))
  refine TVm ?_
  refine TLn (E_sv (vs:=e64 t_1.2.toList) 0 inf117) (fun _=>?_)
  refine TVa ?_
  refine TL_nil (TX_next (TC_ret ?_))
  obtain rfl:=sj H
  exact TXr (vs:=[_,_]) rfl ⟨(Res_agg (n:=4) rfl (by simp) (.o 0) isAgg117 inf117 rfl (lenV (f:=v64) t_1.2)),rfl,trivial⟩
end Go.Proofs
end

section
namespace Go.Proofs
open Go Go.Kx
open Vector (replicate)
open TryzI Tryz
def num_sub.b0 (x:Vx 64 4) (y:Vx 64 4) (s0:BitVec 64 × Int × Vx 64 4):Option ((BitVec 64 × Int × Vx 64 4) ⊕ (BitVec 64 × Vx 64 4)) :=
 if s0.2.1<4 then (if 0≤s0.2.1∧s0.2.1<(4:Int) then (if 0≤s0.2.1∧s0.2.1<(4:Int) then ((math_bits_Sub64 (vg x ((s0.2.1).toNat)) (vg y ((s0.2.1).toNat)) s0.1).bind fun (r_1:BitVec 64 × BitVec 64)=>(if 0≤s0.2.1∧s0.2.1<(4:Int) then (ltt (vp s0.2.2 ((s0.2.1).toNat) r_1.1) fun (m_1:Vx 64 4)=>(some (.inl (r_1.2,w64 (s0.2.1+1),m_1)))) else none)) else none) else none) else (some (.inr (s0.1,s0.2.2)))
def num_sub (x:Vx 64 4) (y:Vx 64 4):Option (Vx 64 4 × BitVec 64) :=
 (loop (num_sub.b0 x y) BIG (0#64,0,replicate 4 0#64)).bind fun (t_1:BitVec 64 × Vx 64 4)=>(some (t_1.2,t_1.1))
set_option maxHeartbeats 4000000 in
set_option maxRecDepth 20000 in
theorem F125_calls (x:Vx 64 4) (y:Vx 64 4) (r:Vx 64 4 × BitVec 64) (H:num_sub x y=some r) :
  Does Tryz.prog 125 [aG [(4,e64 x.toList)],aG [(4,e64 y.toList)]] [] [] (Γ:=Unit) (fun g=>Value.tuple [aG [(4,e64 r.1.toList)],v64 r.2].toArray) (fun g=>[]):=by
 intro w hmem hro hd
 refine calls_of (N:=28) (m0:=[(0,aG [(4,e64 x.toList)]),(1,aG [(4,e64 y.toList)])]) func125 rfl ntmps125 (argM_ok [aG [(4,e64 x.toList)],aG [(4,e64 y.toList)]]) rfl hmem hro hd ?_
 unfold num_sub at H
 refine TC_seq (TC_region (TLe (E_boxP [(4,e64 x.toList)] rfl rfl ⟨(lenV (f:=v64) x),trivial⟩) (fun b1=>?_)))
 refine TLe (E_boxP [(4,e64 y.toList)] rfl rfl ⟨(lenV (f:=v64) y),trivial⟩) (fun b2=>?_)
 refine TLe (E_al64 4 inf117 zer117) (fun b3=>?_)
 refine TVa ?_
 refine TL_nil (TX_next (TC_seq (TC_region (TLe (E_al64 4 inf117 zer117) (fun b4=>?_)))))
 refine TL_nil (TX_next (TC_seq (TC_region (TVa ?_))))
 refine TL_nil (TX_next (TC_seq (TC_seq (TC_region (TVm ?_)))))
 refine TL_nil (TX_next (TC_block ?_))
 obtain ⟨t_1,Hl,H⟩:=bind_elim H
 refine TC.sub (m':=[(2,_),(3,_),(4,_),(6,_),(7,_),(9,_)]) ⟨rfl,rfl,rfl,rfl,rfl,rfl,trivial⟩ ?_
 refine TC.pull (is:=[3,2,1,0]) (L':=[_,_,_,_]) rfl ?_
 refine TC_loopL (id:=0) (body:=(num_sub.b0 x y)) (σ:=BitVec 64 × Int × Vx 64 4) (Γ:=Unit) (Γx:=Unit) (fun s0 g0_=>[(2,ptr (some (b1,0)) 0),(3,ptr (some (b2,0)) 0),(4,ptr (some (b3,0)) 0),(6,ptr (some (b4,0)) 0),(7,v64 s0.1),(9,vi s0.2.1)]) (fun s0 g0_=>[⟨some (b1,0),e64 x.toList⟩,⟨some (b2,0),e64 y.toList⟩,⟨some (b3,0),e64 ((replicate 4 0#64).toList)⟩,⟨some (b4,0),e64 s0.2.2.toList⟩]) (fun t g=>[(4,ptr (some (b3,0)) 0),(6,ptr (some (b4,0)) 0),(7,v64 t.1)]) (fun t g=>[⟨some (b3,0),e64 ((replicate 4 0#64).toList)⟩,⟨some (b4,0),e64 t.2.toList⟩]) ?_ BIG (0#64,0,replicate 4 0#64) () t_1 Hl ?_
 ·intro s0 g0_ r1 H K hK hE
  unfold num_sub.b0 at H
  refine TC_seq (TC_region (TLv (V_bin rfl rfl (fun w=>lssI w s0.2.1 4)) ?_))
  refine TL_nil (TX_next (TC_seq (TCd H (fun hc H=>?_) (fun hc H=>?_))))
  ·refine TC_skip (TX_next (TC_seq (TC_block (TC_seq (TC_region (TVm ?_))))))
   refine TVa ?_
   refine TL_nil (TX_next ?_)
   obtain ⟨h1,H⟩:=if_elim H
   obtain ⟨h2,H⟩:=if_elim H
   obtain ⟨r_1,hr_1,H⟩:=bind_elim H
   obtain ⟨h3,H⟩:=if_elim H
   obtain ⟨m_1,hm_1,H⟩:=ltt_elim H
   refine TA_begin [⟨some (b1,0),e64 x.toList⟩,⟨some (b2,0),e64 y.toList⟩,⟨some (b3,0),e64 ((replicate 4 0#64).toList)⟩] 14 (by kernel_rfl) (N:=15) rfl ?_
   refine TA_tk 0 [0,0,0] (dn 15 1) rfl rfl (V_move rfl) ?_
   refine TA_tk 1 [0,0,0] (dn 15 3) rfl rfl (V_move rfl) ?_
   refine TA_tk 2 [0,0,0] (dn 15 7) rfl rfl (V_idxArr (i:=s0.2.1) rfl rfl underlying117 inf115 rfl h1.1 h1.2 (k:=(s0.2.1).toNat) (k01 _)) ?_
   refine TA_tk 3 [0,0,0] (dn 15 15) rfl rfl (V_load rfl (.o 0) (get_vec (f:=v64) (V:=x) (toNat_lt h1.1 h1.2)) isAgg115) ?_
   refine TA_tk 4 [0,0,0] (dn 15 31) rfl rfl (V_move rfl) ?_
   refine TA_tk 5 [0,0,0] (dn 15 63) rfl rfl (V_idxArr (i:=s0.2.1) rfl rfl underlying117 inf115 rfl h2.1 h2.2 (k:=(s0.2.1).toNat) (k01 _)) ?_
   refine TA_tk 6 [0,0,0] (dn 15 127) rfl rfl (V_load rfl (.o 1) (get_vec (f:=v64) (V:=y) (toNat_lt h2.1 h2.2)) isAgg115) ?_
   refine TA_tk 7 [0,0,0] (dn 15 255) rfl rfl (V_move rfl) ?_
   refine TA_tk 8 [0,0,0] (dn 15 511) rfl rfl (V_ext rfl (ext_sub Tryz.func140 rfl rfl rfl rfl hr_1)) ?_
   refine TA_tk 9 [0,0,0] (dn 15 1023) rfl rfl (V_move rfl) ?_
   refine TA_tk 10 [0,0,0] (dn 15 2047) rfl rfl V_ex ?_
   refine TA_tk 11 [0,0,0] (dn 15 4095) rfl rfl V_ex ?_
   refine TA_tk 12 [0,0,0] (dn 15 8191) rfl rfl (V_idxArr (i:=s0.2.1) rfl rfl underlying117 inf115 rfl h3.1 h3.2 (k:=(s0.2.1).toNat) (k01 _)) ?_
   refine TA_all (rs:=[13]) (by kernel_rfl) rfl ?_
   refine ⟨?_,trivial⟩
   refine TO_n (is:=[0,0,0]) (done':=dn 15 16383) rfl rfl rfl (by kernel_rfl) (E_store (j:=3) rfl rfl inf115 rfl rfl rfl (by simpa using (toNat_lt h3.1 h3.2)) (cs':=e64 ((vp s0.2.2 ((s0.2.1).toNat) r_1.1).toList)) set_vec) (fun _ _=>rfl) (fun _=>?_)
   refine TA_reE (j:=3) (A:=some (b4,0)) (cs:=e64 ((vp s0.2.2 ((s0.2.1).toNat) r_1.1).toList)) (cs':=e64 m_1.toList) rfl (congrArg (fun z:Vx 64 4=>e64 (Vector.toList z)) hm_1) ?_
   refine TA_all (rs:=[14]) (by kernel_rfl) rfl ?_
   refine ⟨?_,trivial⟩
   refine TO_v (is:=[]) (R:=[]) (done':=dn 15 32767) rfl rfl rfl rfl (by kernel_rfl) (V_assign rfl) (fun h=>by cases h) ?_
   refine TA_done (by kernel_rfl) ?_ 0
   refine TX_block_normal (TX_next (TC_region (TLv (V_bin rfl rfl (fun w=>addI w s0.2.1 1)) ?_)))
   refine TVm ?_
   refine TL_nil ?_
   obtain rfl:=sj H
   exact TXk [0,0,0,0] (hK (r_1.2,w64 (s0.2.1+1),m_1) rfl ())
  ·refine TC_exit (TX_then_exit (TX_then_exit ?_))
   obtain rfl:=sj H
   exact TXj [2,2] (hE (s0.1,s0.2.2) rfl ())
 ·intro g
  refine TX_block_exit (TX_next (TC_seq (TC_region (TLv (V_lag (.o 1) isAgg117 inf117) ?_))))
  refine TVm ?_
  refine TLn (E_sv (vs:=e64 t_1.2.toList) 0 inf117) (fun _=>?_)
  refine TVa ?_
  refine TL_nil (TX_next (TC_ret ?_))
  obtain rfl:=sj H
  exact TXr (vs:=[_,_]) rfl ⟨(Res_agg (n:=4) rfl (by simp) (.o 0) isAgg117 inf117 rfl (lenV (f:=v64) t_1.2)),rfl,trivial⟩
end Go.Proofs
end

section
namespace Go.Proofs
open Go Go.Kx
open Vector (replicate)
open TryzI Tryz
def num_Field_Add (f_M:Vx 64 4) (f_inv:BitVec 64) (f_one:Vx 64 4) (f_two:Vx 64 4) (x:Vx 64 4) (y:Vx 64 4):Option (Vx 64 4) :=
 (num_add x y).bind fun (r_1:Vx 64 4 × BitVec 64)=>((num_sub r_1.1 f_M).bind fun (r_2:Vx 64 4 × BitVec 64)=>((if r_1.2=1#64 then (some true) else (some (decide (r_2.2=0#64)))).bind fun (j1:Bool)=>(if j1=true then (some r_2.1) else (some r_1.1))))
set_option maxHeartbeats 4000000 in
set_option maxRecDepth 20000 in
theorem F105_calls (bf:Nat) (obf:Nat) (f_M:Vx 64 4) (f_inv:BitVec 64) (f_one:Vx 64 4) (f_two:Vx 64 4) (x:Vx 64 4) (y:Vx 64 4) (r:Vx 64 4) (H:num_Field_Add f_M f_inv f_one f_two x y=some r) :
  Does Tryz.prog 105 [ptr (some (bf,obf)) 0,aG [(4,e64 x.toList)],aG [(4,e64 y.toList)]] [] [⟨some (bf,obf),e64 f_M.toList⟩,⟨some (bf,obf+4),[v64 f_inv]⟩,⟨some (bf,obf+5),e64 f_one.toList⟩,⟨some (bf,obf+9),e64 f_two.toList⟩] (Γ:=Unit) (fun g=>aG [(4,e64 r.toList)]) (fun g=>[]):=by
 intro w hmem hro hd
 refine calls_of (N:=34) (m0:=[(0,ptr (some (bf,obf)) 0),(1,aG [(4,e64 x.toList)]),(2,aG [(4,e64 y.toList)])]) func105 rfl ntmps105 (argM_ok [ptr (some (bf,obf)) 0,aG [(4,e64 x.toList)],aG [(4,e64 y.toList)]]) rfl hmem hro hd ?_
 unfold num_Field_Add at H
 refine TC_seq (TC_region (TLe (E_boxP [(4,e64 x.toList)] rfl rfl ⟨(lenV (f:=v64) x),trivial⟩) (fun b1=>?_)))
 refine TLe (E_boxP [(4,e64 y.toList)] rfl rfl ⟨(lenV (f:=v64) y),trivial⟩) (fun b2=>?_)
 refine TLe (E_al64 4 inf117 zer117) (fun b3=>?_)
 refine TL_nil (TX_next (TC_seq (TC_region (TLv (V_lag (.o 2) isAgg117 inf117) ?_))))
 refine TLv (V_lag (.o 1) isAgg117 inf117) ?_
 obtain ⟨r_1,hr_1,H⟩:=bind_elim H
 refine TLe (E_c0 (F124_calls x y r_1 hr_1) call124 .z) (fun g_1=>?_)
 refine TVm ?_
 refine TLv V_ex ?_
 refine TLv V_ex ?_
 refine TLe (E_al64 4 inf117 zer117) (fun b4=>?_)
 refine TLn (E_sv (vs:=e64 r_1.1.toList) 0 inf117) (fun _=>?_)
 refine TVa ?_
 refine TL_nil (TX_next (TC_seq (TC.sub (m':=[(0,_),(6,_),(7,_),(8,_)]) ⟨rfl,rfl,rfl,rfl,trivial⟩ ?_)))
 refine TC.pull (is:=[1,0]) (L':=[_,_]) rfl ?_
 obtain ⟨r_2,hr_2,H⟩:=bind_elim H
 refine TA_begin [⟨some (b3,0),e64 ((replicate 4 0#64).toList)⟩,⟨some (b4,0),e64 r_1.1.toList⟩] 11 (by kernel_rfl) (N:=12) rfl ?_
 refine TA_tk 0 [0,0] (dn 12 1) rfl rfl (V_lag (.o 1) isAgg117 inf117) ?_
 refine TA_tk 1 [0,0] (dn 12 3) rfl rfl (V_move rfl) ?_
 refine TA_tk 2 [0,0] (dn 12 7) rfl rfl (V_nilCheck rfl) ?_
 refine TA_tk 3 [0,0] (dn 12 15) rfl rfl (V_fieldE rfl underlying159 rfl rfl inf117 rfl (v:=ptr (some (bf,obf)) 0) rfl) ?_
 refine TA_tk 4 [0,0] (dn 12 31) rfl rfl (V_lag (.r 0) isAgg117 inf117) ?_
 refine TA_mix (is:=[0,0]) (done':=dn 12 1023) [itV 5 23 (Value.tuple [aG [(4,e64 r_2.1.toList)],v64 r_2.2].toArray) [],itV 6 17 (Value.tuple [aG [(4,e64 r_2.1.toList)],v64 r_2.2].toArray) [5],itV 7 24 (aG [(4,e64 r_2.1.toList)]) [6],itA64 9 9 4] [itV 8 25 (v64 r_2.2) [6]] 2 (by kernel_rfl) (QP.then QP.body) (by kernel_rfl) rfl (.e rfl (E_cu (F125_calls r_1.1 f_M r_2 hr_2) call125 .z) (.v rfl (V_move rfl) (.v rfl V_ex (.c rfl (fun _ _=>(E_al64 4 inf117 zer117)) .nil)))) (.c rfl (fun _=>V_ex) .nil) (by kernel_rfl) rfl (fun γ=>?_)
 refine TA_cut [(25,v64 r_2.2),(9,ptr (some ((γ 9),0)) 0),(24,aG [(4,e64 r_2.1.toList)]),(6,ptr (some (b3,0)) 0),(7,ptr (some (b4,0)) 0),(8,v64 r_1.2)] [⟨some ((γ 9),0),e64 ((replicate 4 0#64).toList)⟩,⟨some (b3,0),e64 ((replicate 4 0#64).toList)⟩,⟨some (b4,0),e64 r_1.1.toList⟩] ⟨rfl,rfl,rfl,rfl,rfl,rfl,trivial⟩ rfl ?_
 generalize γ 9=b5
 refine TA_all (rs:=[10]) (by kernel_rfl) rfl ?_
 refine ⟨?_,trivial⟩
 refine TO_n (is:=[1,1]) (done':=dn 12 2047) rfl rfl rfl (by kernel_rfl) (E_sv (vs:=e64 r_2.1.toList) 0 inf117) (fun _ _=>rfl) (fun _=>?_)
 refine TA_all (rs:=[11]) (by kernel_rfl) rfl ?_
 refine ⟨?_,trivial⟩
 refine TO_v (is:=[]) (R:=[]) (done':=dn 12 4095) rfl rfl rfl rfl (by kernel_rfl) (V_assign rfl) (fun h=>by cases h) ?_
 refine TA_done (by kernel_rfl) ?_ 0
 refine TX_next (TC_seq (TC_seq (TC_region (TVm ?_))))
 refine TLv (V_bin rfl rfl (fun w=>eql64 w r_1.2 1#64)) ?_
 refine TVm ?_
 obtain ⟨j1,Hj,H⟩:=bind_elim H
 refine TL_join (Γ:=Unit) (fun gj1=>[(6,ptr (some (b3,0)) 0),(7,ptr (some (b4,0)) 0),(9,ptr (some (b5,0)) 0),(31,vb j1)]) (fun gj1=>[⟨some (b3,0),e64 ((replicate 4 0#64).toList)⟩,⟨some (b4,0),e64 r_1.1.toList⟩,⟨some (b5,0),e64 r_2.1.toList⟩]) ?_ ?_
 ·intro gj1
  refine TX_next (TCb H (fun hc H=>?_) (fun hc H=>?_))
  ·refine TC_seq (TC_region (TLv (V_lag (.o 2) isAgg117 inf117) ?_))
   refine TLn (E_sv (vs:=e64 r_2.1.toList) 0 inf117) (fun _=>?_)
   refine TL_nil (TX_next (TC_ret (TX_then_ret ?_)))
   obtain rfl:=sj H
   exact TXr (vs:=[_]) rfl ⟨(Res_agg (n:=4) rfl (by simp) (.o 0) isAgg117 inf117 rfl (lenV (f:=v64) r_2.1)),trivial⟩
  ·refine TC_skip (TX_next (TC_seq (TC_region (TLv (V_lag (.o 1) isAgg117 inf117) ?_))))
   refine TLn (E_sv (vs:=e64 r_1.1.toList) 0 inf117) (fun _=>?_)
   refine TL_nil (TX_next (TC_ret ?_))
   obtain rfl:=sj H
   exact TXr (vs:=[_]) rfl ⟨(Res_agg (n:=4) rfl (by simp) (.o 0) isAgg117 inf117 rfl (lenV (f:=v64) r_1.1)),trivial⟩
 ·intro hJ
  replace H:=Hj
  refine TFd (d:=28) H (fun hc H=>?_) (fun hc H=>?_)
  ·refine TLs ?_
   refine TLs ?_
   refine TVt ?_
   refine TL_nil ?_
   obtain rfl:=sj H
   exact TXj [1,1,0] (hJ ())
  ·refine TLw (V_move rfl) ?_
   refine TLw (V_bin rfl rfl (fun w=>eql64 w r_2.2 0#64)) ?_
   refine TVf ?_
   refine TL_nil ?_
   obtain rfl:=sj H
   exact TXj [1,1,0] (hJ ())
end Go.Proofs
end

section
namespace Go.Proofs
open Go Go.Kx
open Vector (replicate)
open TryzI Tryz
def num_New.b0 (r_1:Vx 64 4 × Bool) (s0:Int × BitVec 64):Option ((Int × BitVec 64) ⊕ (BitVec 64)) :=
 if s0.1<6 then (some (.inl (w64 (s0.1+1),s0.2 * (2#64 - ((vg r_1.1 0) * s0.2))))) else (some (.inr s0.2))
def num_New.b1 (r_1:Vx 64 4 × Bool) (t_1:BitVec 64) (s1:Int × Vx 64 4 × Vx 64 4):Option ((Int × Vx 64 4 × Vx 64 4) ⊕ (Vx 64 4 × Vx 64 4)) :=
 if s1.1<512 then ((if s1.1=256 then (some s1.2.2) else (some s1.2.1)).bind fun (j1:Vx 64 4)=>((num_Field_Add r_1.1 (-t_1) j1 (replicate 4 0#64) s1.2.2 s1.2.2).bind fun (r_2:Vx 64 4)=>(some (.inl (w64 (s1.1+1),j1,r_2))))) else (some (.inr (s1.2.1,s1.2.2)))
def num_New (which:Int):Option ((Unit) ⊕ (Vx 64 4 × BitVec 64 × Vx 64 4 × Vx 64 4)) :=
 (num_modulus which).bind fun (r_1:Vx 64 4 × Bool)=>(if (!r_1.2)=true then (some (.inl ())) else ((loop (num_New.b0 r_1) BIG (0,1#64)).bind fun (t_1:BitVec 64)=>(ltt ((vp (replicate 4 0#64) 0 1#64:Vx 64 4)) fun (m_1:Vx 64 4)=>((loop (num_New.b1 r_1 t_1) BIG (0,replicate 4 0#64,m_1)).bind fun (t_2:Vx 64 4 × Vx 64 4)=>(some (.inr (r_1.1, -t_1,t_2.1,t_2.2)))))))
set_option maxHeartbeats 4000000 in
set_option maxRecDepth 20000 in
theorem F87_calls (which:Int) (r:(Unit) ⊕ (Vx 64 4 × BitVec 64 × Vx 64 4 × Vx 64 4)) (H:num_New which=some r) :
  Does Tryz.prog 87 [vi which] [] [] (Γ:=Unit × Nat) (fun g=>match r with | .inl r=>Value.pointer none | .inr r=>ptr (some (g.2,0)) 0) (fun g=>match r with | .inl r=>[] | .inr r=>[⟨some (g.2,0),e64 r.1.toList⟩,⟨some (g.2,4),[v64 r.2.1]⟩,⟨some (g.2,5),e64 r.2.2.1.toList⟩,⟨some (g.2,9),e64 r.2.2.2.toList⟩]):=by
 intro w hmem hro hd
 refine calls_of (N:=64) (m0:=[(0,vi which)]) func87 rfl ntmps87 (argM_ok [vi which]) rfl hmem hro hd ?_
 unfold num_New at H
 refine TC_seq (TC_region (TVa ?_))
 refine TL_nil (TX_next (TC_seq (TC_region (TVm ?_))))
 obtain ⟨r_1,hr_1,H⟩:=bind_elim H
 refine TLe (E_c0 (F104_calls which r_1 hr_1) call104 .z) (fun g_1=>?_)
 refine TVm ?_
 refine TLv V_ex ?_
 refine TLv V_ex ?_
 refine TLe (E_al64 4 inf117 zer117) (fun b1=>?_)
 refine TLn (E_sv (vs:=e64 r_1.1.toList) 0 inf117) (fun _=>?_)
 refine TVa ?_
 refine TL_nil (TX_next (TC_seq (TC_seq (TC_region (TVm ?_)))))
 refine TLv (V_un rfl (fun w=>notB w r_1.2)) ?_
 refine TL_nil (TX_next (TCb H (fun hc H=>?_) (fun hc H=>?_)))
 ·refine TC_seq (TC_region (TVa ?_))
  refine TL_nil (TX_next (TC_ret (TX_then_ret ?_)))
  obtain rfl:=sj H
  exact TX_ret (rs:=[.tmp 2]) (vs:=[Value.pointer none]) rfl ⟨rfl,trivial⟩ (fun w' hs'=>⟨((),(default:Nat)),rfl,Step.left (Step.pulled (is:=[]) (A:=[]) hs' rfl)⟩)
 ·refine TC_skip (TX_next (TC_seq (TC_region (TLv (V_lag (.o 0) isAgg117 inf117) ?_))))
  refine TLv (V_buildStruct (pv:=[(0,aG [(4,e64 r_1.1.toList)]),(1,v64 1#64)]) (pl:=[(0,4),(4,1),(5,4),(9,4)]) rfl rfl underlying159 inf159 places159 zer159 (cs:=flat [(4,e64 r_1.1.toList),(1,[v64 1#64]),(4,e64 ((replicate 4 0#64).toList)),(4,e64 ((replicate 4 0#64).toList))]) (fill_part [] [(1,[v64 0#64]),(4,e64 ((replicate 4 0#64).toList)),(4,e64 ((replicate 4 0#64).toList))] rfl rfl trivial rfl (lenV (f:=v64) (replicate 4 0#64)) (lenV (f:=v64) r_1.1) (fill_part [(4,e64 r_1.1.toList)] [(4,e64 ((replicate 4 0#64).toList)),(4,e64 ((replicate 4 0#64).toList))] rfl rfl ⟨(lenV (f:=v64) r_1.1),trivial⟩ rfl rfl rfl fill_end))) ?_
  refine TLe (E_boxP [(4,e64 r_1.1.toList),(1,[v64 1#64]),(4,e64 ((replicate 4 0#64).toList)),(4,e64 ((replicate 4 0#64).toList))] rfl rfl ⟨(lenV (f:=v64) r_1.1),rfl,(lenV (f:=v64) (replicate 4 0#64)),(lenV (f:=v64) (replicate 4 0#64)),trivial⟩) (fun b2=>?_)
  refine TVa ?_
  refine TL_nil (TX_next (TC_seq (TC_seq (TC_region (TVm ?_)))))
  refine TL_nil (TX_next (TC_block ?_))
  obtain ⟨t_1,Hl,H⟩:=bind_elim H
  refine TC.sub (m':=[(3,_),(5,_),(18,_)]) ⟨rfl,rfl,rfl,trivial⟩ ?_
  refine TC.pull (is:=[4,0,0,0,0]) (L':=[_,_,_,_,_]) rfl ?_
  refine TC_loopL (id:=0) (body:=(num_New.b0 r_1)) (σ:=Int × BitVec 64) (Γ:=Unit) (Γx:=Unit) (fun s0 g0_=>[(3,ptr (some (b1,0)) 0),(5,ptr (some (b2,0)) 0),(18,vi s0.1)]) (fun s0 g0_=>[⟨some (b1,0),e64 r_1.1.toList⟩,⟨some (b2,0),e64 r_1.1.toList⟩,⟨some (b2,4),[v64 s0.2]⟩,⟨some (b2,5),e64 ((replicate 4 0#64).toList)⟩,⟨some (b2,9),e64 ((replicate 4 0#64).toList)⟩]) (fun t g=>[(5,ptr (some (b2,0)) 0)]) (fun t g=>[⟨some (b2,0),e64 r_1.1.toList⟩,⟨some (b2,4),[v64 t]⟩,⟨some (b2,5),e64 ((replicate 4 0#64).toList)⟩,⟨some (b2,9),e64 ((replicate 4 0#64).toList)⟩]) ?_ BIG (0,1#64) () t_1 Hl ?_
  ·intro s0 g0_ r1 H K hK hE
   unfold num_New.b0 at H
   refine TC_seq (TC_region (TLv (V_bin rfl rfl (fun w=>lssI w s0.1 6)) ?_))
   refine TL_nil (TX_next (TC_seq (TCd H (fun hc H=>?_) (fun hc H=>?_))))
   ·refine TC_skip (TX_next (TC_seq (TC_block (TA_begin [] 16 (by kernel_rfl) (N:=16) rfl ?_))))
    refine TA_mix (is:=[]) (done':=dn 16 32767) [itV 0 20 (ptr (some (b2,0)) 0) [],itV 1 21 (ptr (some (b2,0)) 0) [0],itV 2 22 (ptr (some (b2,4)) 0) [1],itV 3 23 (v64 s0.2) [2],itV 4 24 (ptr (some (b1,0)) 0) [],itV 5 25 (v64 (vg r_1.1 0)) [4],itV 6 26 (ptr (some (b2,0)) 0) [],itV 7 27 (ptr (some (b2,0)) 0) [6],itV 8 28 (ptr (some (b2,4)) 0) [7],itV 9 29 (v64 s0.2) [8],itV 10 30 (v64 ((vg r_1.1 0) * s0.2)) [5,9],itV 11 31 (v64 (2#64 - ((vg r_1.1 0) * s0.2))) [10],itV 12 32 (v64 (s0.2 * (2#64 - ((vg r_1.1 0) * s0.2)))) [11,3],itV 13 33 (ptr (some (b2,0)) 0) [0],itV 14 34 (ptr (some (b2,4)) 0) [13]] [] 1 (by kernel_rfl) (QP.block (QP.then (QP.then (QP.block (QP.then QP.body))))) (by kernel_rfl) rfl (.v rfl (V_move rfl) (.v rfl (V_nilCheck rfl) (.v rfl (V_fe underlying159 inf115) (.v rfl (V_load rfl (.o 2) rfl isAgg115) (.v rfl (V_idxArr (i:=0) rfl rfl underlying117 inf115 rfl (by decide) (by decide) (k:=0) (k01 _)) (.v rfl (V_load rfl (.o 0) (get_vec (f:=v64) (V:=r_1.1) (by decide:0<4)) isAgg115) (.v rfl (V_move rfl) (.v rfl (V_nilCheck rfl) (.v rfl (V_fe underlying159 inf115) (.v rfl (V_load rfl (.o 2) rfl isAgg115) (.v rfl (V_bin rfl rfl (fun w=>mul64 w (vg r_1.1 0) s0.2)) (.v rfl (V_bin rfl rfl (fun w=>sub64 w 2#64 ((vg r_1.1 0) * s0.2))) (.v rfl (V_bin rfl rfl (fun w=>mul64 w s0.2 (2#64 - ((vg r_1.1 0) * s0.2)))) (.v rfl (V_nilCheck rfl) (.v rfl (V_fe underlying159 inf115) .nil))))))))))))))) .nil (by kernel_rfl) rfl (fun γ=>?_)
    refine TA_cut [(34,ptr (some (b2,4)) 0),(32,v64 (s0.2 * (2#64 - ((vg r_1.1 0) * s0.2)))),(3,ptr (some (b1,0)) 0),(5,ptr (some (b2,0)) 0),(18,vi s0.1)] [⟨some (b1,0),e64 r_1.1.toList⟩,⟨some (b2,0),e64 r_1.1.toList⟩,⟨some (b2,4),[v64 s0.2]⟩,⟨some (b2,5),e64 ((replicate 4 0#64).toList)⟩,⟨some (b2,9),e64 ((replicate 4 0#64).toList)⟩] ⟨rfl,rfl,rfl,rfl,rfl,trivial⟩ rfl ?_
    refine TA_all (rs:=[15]) (by kernel_rfl) rfl ?_
    refine ⟨?_,trivial⟩
    refine TO_n (is:=[]) (done':=dn 16 65535) rfl rfl rfl (by kernel_rfl) (E_store (j:=2) rfl rfl inf115 rfl rfl rfl (Nat.lt_succ_self 0) (cs':=[v64 (s0.2 * (2#64 - ((vg r_1.1 0) * s0.2)))]) rfl) (fun _ _=>rfl) (fun _=>?_)
    refine TA_done (by kernel_rfl) ?_ 0
    refine TX_block_normal (TX_next (TC_region (TLv (V_bin rfl rfl (fun w=>addI w s0.1 1)) ?_)))
    refine TVm ?_
    refine TL_nil ?_
    obtain rfl:=sj H
    exact TXk [0,0,0,0,0] (hK (w64 (s0.1+1),s0.2 * (2#64 - ((vg r_1.1 0) * s0.2))) rfl ())
   ·refine TC_exit (TX_then_exit (TX_then_exit ?_))
    obtain rfl:=sj H
    exact TXj [1,1,1,1] (hE s0.2 rfl ())
  ·intro g
   refine TX_block_exit (TX_next (TC_seq (TC_region (TVm ?_))))
   refine TVm ?_
   refine TLv (V_nilCheck rfl) ?_
   refine TLv (V_fieldE rfl underlying159 rfl rfl inf115 rfl (v:=ptr (some (b2,4)) 0) rfl) ?_
   refine TLv (V_load rfl (.o 1) rfl isAgg115) ?_
   refine TLv (V_un rfl (fun w=>neg64 w t_1)) ?_
   refine TLv (V_nilCheck rfl) ?_
   refine TLv (V_fieldE rfl underlying159 rfl rfl inf115 rfl (v:=ptr (some (b2,4)) 0) rfl) ?_
   refine TLn (E_store (j:=1) rfl rfl inf115 rfl rfl rfl (Nat.lt_succ_self 0) (cs':=[v64 (-t_1)]) rfl) (fun _=>?_)
   refine TL_nil (TX_next (TC_seq (TC_region (TLv (V_buildArr (pv:=[(0,v64 1#64)]) rfl rfl underlying117 inf117 inf115 rfl zer117 (cs:=e64 ((vp (replicate 4 0#64) 0 1#64:Vx 64 4).toList)) (by kernel_rfl)) ?_))))
   refine TLe (E_al64 4 inf117 zer117) (fun b3=>?_)
   refine TLn (E_sv 0 inf117) (fun _=>?_)
   obtain ⟨m_1,hm_1,H⟩:=ltt_elim H
   refine TL_reE (j:=0) (A:=some (b3,0)) (cs:=e64 ((vp (replicate 4 0#64) 0 1#64:Vx 64 4).toList)) (cs':=e64 m_1.toList) rfl (congrArg (fun z:Vx 64 4=>e64 (Vector.toList z)) hm_1) ?_
   refine TL_nil (TX_next (TC_seq (TC_seq (TC_region (TVm ?_)))))
   refine TL_nil (TX_next (TC_block ?_))
   obtain ⟨t_2,Hl,H⟩:=bind_elim H
   refine TC.sub (m':=[(5,_),(6,_),(45,_)]) ⟨rfl,rfl,rfl,trivial⟩ ?_
   refine TC.pull (is:=[1,1,1,1,0]) (L':=[_,_,_,_,_]) rfl ?_
   refine TC_loopL (id:=2) (body:=(num_New.b1 r_1 t_1)) (σ:=Int × Vx 64 4 × Vx 64 4) (Γ:=Unit) (Γx:=Unit) (fun s1 g1_=>[(5,ptr (some (b2,0)) 0),(6,ptr (some (b3,0)) 0),(45,vi s1.1)]) (fun s1 g1_=>[⟨some (b2,0),e64 r_1.1.toList⟩,⟨some (b2,4),[v64 (-t_1)]⟩,⟨some (b2,5),e64 s1.2.1.toList⟩,⟨some (b2,9),e64 ((replicate 4 0#64).toList)⟩,⟨some (b3,0),e64 s1.2.2.toList⟩]) (fun t g=>[(5,ptr (some (b2,0)) 0),(6,ptr (some (b3,0)) 0)]) (fun t g=>[⟨some (b2,0),e64 r_1.1.toList⟩,⟨some (b2,4),[v64 (-t_1)]⟩,⟨some (b2,5),e64 t.1.toList⟩,⟨some (b2,9),e64 ((replicate 4 0#64).toList)⟩,⟨some (b3,0),e64 t.2.toList⟩]) ?_ BIG (0,replicate 4 0#64,m_1) () t_2 Hl ?_
   ·intro s1 g1_ r1 H K hK hE
    unfold num_New.b1 at H
    refine TC_seq (TC_region (TLv (V_bin rfl rfl (fun w=>lssI w s1.1 512)) ?_))
    refine TL_nil (TX_next (TC_seq (TCd H (fun hc H=>?_) (fun hc H=>?_))))
    ·refine TC_skip (TX_next (TC_seq (TC_block (TC_seq (TC_region (TVm ?_))))))
     refine TVa ?_
     refine TL_nil (TX_next (TC_seq (TC_seq (TC_region (TVm ?_)))))
     refine TLv (V_bin rfl rfl (fun w=>eqlI w s1.1 256)) ?_
     refine TL_nil (TX_next ?_)
     obtain ⟨j1,Hj,H⟩:=bind_elim H
     refine TC_join (Γ:=Unit) (fun gj1=>[(5,ptr (some (b2,0)) 0),(6,ptr (some (b3,0)) 0),(45,vi s1.1)]) (fun gj1=>[⟨some (b2,0),e64 r_1.1.toList⟩,⟨some (b2,4),[v64 (-t_1)]⟩,⟨some (b2,5),e64 j1.toList⟩,⟨some (b2,9),e64 ((replicate 4 0#64).toList)⟩,⟨some (b3,0),e64 s1.2.2.toList⟩]) ?_ ?_
     ·intro gj1
      refine TX_next (TC_region (TVm ?_))
      refine TLv (V_lag (.o 4) isAgg117 inf117) ?_
      refine TLv (V_lag (.o 4) isAgg117 inf117) ?_
      obtain ⟨r_2,hr_2,H⟩:=bind_elim H
      refine TLe (E_c0 (F105_calls b2 0 r_1.1 (-t_1) j1 (replicate 4 0#64) s1.2.2 s1.2.2 r_2 hr_2) call105 ⟨.o 0, .o 1, .o 2, .o 3,trivial⟩) (fun g_2=>?_)
      refine TLn (E_sv (vs:=e64 r_2.toList) 4 inf117) (fun _=>?_)
      refine TL_nil (TX_block_normal (TX_next (TC_region (TLv (V_bin rfl rfl (fun w=>addI w s1.1 1)) ?_))))
      refine TVm ?_
      refine TL_nil ?_
      obtain rfl:=sj H
      exact TXk [0,0,0,0,0] (hK (w64 (s1.1+1),j1,r_2) rfl ())
     ·intro hJ
      replace H:=Hj
      refine TCd H (fun hc H=>?_) (fun hc H=>?_)
      ·refine TC_region (TVm ?_)
       refine TLv (V_lag (.o 4) isAgg117 inf117) ?_
       refine TLv (V_nilCheck rfl) ?_
       refine TLv (V_fieldE rfl underlying159 rfl rfl inf117 rfl (v:=ptr (some (b2,5)) 0) rfl) ?_
       refine TLn (E_sv (vs:=e64 s1.2.2.toList) 2 inf117) (fun _=>?_)
       refine TL_nil ?_
       obtain rfl:=sj H
       exact TXj [0,0,0,0,0] (hJ ())
      ·refine TC_skip ?_
       obtain rfl:=sj H
       exact TXj [0,0,0,0,0] (hJ ())
    ·refine TC_exit (TX_then_exit (TX_then_exit ?_))
     obtain rfl:=sj H
     exact TXj [0,0,0,0,0] (hE (s1.2.1,s1.2.2) rfl ())
   ·intro g
    refine TX_block_exit (TX_next (TC_seq (TC_region (TVm ?_))))
    refine TLv (V_lag (.o 4) isAgg117 inf117) ?_
    refine TLv (V_nilCheck rfl) ?_
    refine TLv (V_fieldE rfl underlying159 rfl rfl inf117 rfl (v:=ptr (some (b2,9)) 0) rfl) ?_
    refine TLn (E_sv (vs:=e64 t_2.2.toList) 3 inf117) (fun _=>?_)
    refine TL_nil (TX_next (TC_seq (TC_region (TVm ?_))))
    refine TVa ?_
    refine TL_nil (TX_next (TC_ret ?_))
    obtain rfl:=sj H
    exact TX_ret (rs:=[.tmp 2]) (vs:=[ptr (some (b2,0)) 0]) rfl ⟨rfl,trivial⟩ (fun w' hs'=>⟨((),b2),rfl,Step.left (Step.pulled (is:=[0,0,0,0]) (A:=[⟨some (b2,0),e64 r_1.1.toList⟩,⟨some (b2,4),[v64 (-t_1)]⟩,⟨some (b2,5),e64 t_2.1.toList⟩,⟨some (b2,9),e64 t_2.2.toList⟩]) hs' rfl)⟩)
end Go.Proofs
end

section
namespace Go.Proofs
open Go Go.Kx
open Vector (replicate)
open TryzI Tryz
def num_Load.b0 (s_:Str) (s0:Int × Vx 64 4):Option ((Int × Vx 64 4) ⊕ (Vx 64 4)) :=
 if s0.1<32 then (ltt (w64 (3 - (w64 (s0.1.tdiv 8)))) fun (k_1:Int)=>(if 0≤k_1∧k_1<(4:Int) then (if 0≤s0.1∧s0.1<((s_).length:Int) then (if 0≤k_1∧k_1<(4:Int) then (ltt (vp s0.2 ((k_1).toNat) (((vg s0.2 ((k_1).toNat)) <<< 8) ||| ((sg s_ s0.1).setWidth 64))) fun (m_1:Vx 64 4)=>(some (.inl (w64 (s0.1+1),m_1)))) else none) else none) else none)) else (some (.inr s0.2))
def num_Load (s_:Str):Option (Vx 64 4) :=
 (loop (num_Load.b0 s_) BIG (0,replicate 4 0#64)).bind fun (t_1:Vx 64 4)=>(some t_1)
set_option maxHeartbeats 4000000 in
set_option maxRecDepth 20000 in
theorem F106_calls (s_:Str) (r:Vx 64 4) (H:num_Load s_=some r) :
  Does Tryz.prog 106 [vs s_] [] [] (Γ:=Unit) (fun g=>aG [(4,e64 r.toList)]) (fun g=>[]):=by
 intro w hmem hro hd
 refine calls_of (N:=25) (m0:=[(0,vs s_)]) func106 rfl ntmps106 (argM_ok [vs s_]) rfl hmem hro hd ?_
 unfold num_Load at H
 refine TC_seq (TC_region (TLe (E_al64 4 inf117 zer117) (fun b1=>?_)))
 refine TL_nil (TX_next (TC_seq (TC_region (TLe (E_al64 4 inf117 zer117) (fun b2=>?_)))))
 refine TL_nil (TX_next (TC_seq (TC_seq (TC_region (TVm ?_)))))
 refine TL_nil (TX_next (TC_block ?_))
 obtain ⟨t_1,Hl,H⟩:=bind_elim H
 refine TC.sub (m':=[(0,_),(2,_),(3,_),(6,_)]) ⟨rfl,rfl,rfl,rfl,trivial⟩ ?_
 refine TC.pull (is:=[1,0]) (L':=[_,_]) rfl ?_
 refine TC_loopL (id:=0) (body:=(num_Load.b0 s_)) (σ:=Int × Vx 64 4) (Γ:=Unit) (Γx:=Unit) (fun s0 g0_=>[(0,vs s_),(2,ptr (some (b1,0)) 0),(3,ptr (some (b2,0)) 0),(6,vi s0.1)]) (fun s0 g0_=>[⟨some (b1,0),e64 ((replicate 4 0#64).toList)⟩,⟨some (b2,0),e64 s0.2.toList⟩]) (fun t g=>[(2,ptr (some (b1,0)) 0),(3,ptr (some (b2,0)) 0)]) (fun t g=>[⟨some (b1,0),e64 ((replicate 4 0#64).toList)⟩,⟨some (b2,0),e64 t.toList⟩]) ?_ BIG (0,replicate 4 0#64) () t_1 Hl ?_
 ·intro s0 g0_ r1 H K hK hE
  unfold num_Load.b0 at H
  refine TC_seq (TC_region (TLv (V_bin rfl rfl (fun w=>lssI w s0.1 32)) ?_))
  refine TL_nil (TX_next (TC_seq (TCd H (fun hc H=>?_) (fun hc H=>?_))))
  ·refine TC_skip (TX_next (TC_seq (TC_block (TC_seq (TC_region (TVm ?_))))))
   refine TVa ?_
   refine TL_nil (TX_next (TC_seq (TC_region (TVm ?_))))
   refine TLv (V_bin rfl rfl (fun w=>quoI w s0.1 8 (by decide))) ?_
   refine TLv (V_bin rfl rfl (fun w=>subI w 3 (w64 (s0.1.tdiv 8)))) ?_
   refine TVa ?_
   obtain ⟨k_1,hk_1,H⟩:=ltt_elim H
   refine TLr 5 (congrArg vi hk_1) ?_
   refine TL_nil (TX_next ?_)
   obtain ⟨h1,H⟩:=if_elim H
   obtain ⟨h2,H⟩:=if_elim H
   obtain ⟨h3,H⟩:=if_elim H
   obtain ⟨m_1,hm_1,H⟩:=ltt_elim H
   refine TA_begin [] 12 (by kernel_rfl) (N:=12) rfl ?_
   refine TA_mix (is:=[]) (done':=dn 12 2047) [itV 0 12 (vi k_1) [],itV 1 13 (vi k_1) [],itV 2 14 (ptr (some (b2,0)) ((k_1).toNat)) [1],itV 3 15 (v64 (vg s0.2 ((k_1).toNat))) [2],itV 4 16 (v64 ((vg s0.2 ((k_1).toNat)) <<< 8)) [3],itV 5 17 (vs s_) [],itV 6 18 (vi s0.1) [],itV 7 19 (v8 (sg s_ s0.1)) [5,6],itV 8 20 (v64 ((sg s_ s0.1).setWidth 64)) [7],itV 9 21 (v64 (((vg s0.2 ((k_1).toNat)) <<< 8) ||| ((sg s_ s0.1).setWidth 64))) [4,8],itV 10 22 (ptr (some (b2,0)) ((k_1).toNat)) [0]] [] 1 (by kernel_rfl) (QP.block (QP.then (QP.then (QP.block (QP.then QP.body))))) (by kernel_rfl) rfl (.v rfl (V_move rfl) (.v rfl (V_move rfl) (.v rfl (V_idxArr (i:=k_1) rfl rfl underlying117 inf115 rfl h1.1 h1.2 (k:=(k_1).toNat) (k01 _)) (.v rfl (V_load rfl (.o 1) (get_vec (f:=v64) (V:=s0.2) (toNat_lt h1.1 h1.2)) isAgg115) (.v rfl (V_bin rfl rfl (fun w=>shl64 w (vg s0.2 ((k_1).toNat)) .u64 8 (by decide))) (.v rfl (V_move rfl) (.v rfl (V_move rfl) (.v rfl (V_idxStr rfl rfl (i:=s0.1) underlying9 h2.1 h2.2) (.v rfl (V_conv rfl (fun w=>cv8to64 w _ _ underlying115 (und5) (sg s_ s0.1))) (.v rfl (V_bin rfl rfl (fun w=>or64 w ((vg s0.2 ((k_1).toNat)) <<< 8) ((sg s_ s0.1).setWidth 64))) (.v rfl (V_idxArr (i:=k_1) rfl rfl underlying117 inf115 rfl h3.1 h3.2 (k:=(k_1).toNat) (k01 _)) .nil))))))))))) .nil (by kernel_rfl) rfl (fun γ=>?_)
   refine TA_cut [(22,ptr (some (b2,0)) ((k_1).toNat)),(21,v64 (((vg s0.2 ((k_1).toNat)) <<< 8) ||| ((sg s_ s0.1).setWidth 64))),(0,vs s_),(2,ptr (some (b1,0)) 0),(3,ptr (some (b2,0)) 0),(6,vi s0.1)] [⟨some (b1,0),e64 ((replicate 4 0#64).toList)⟩,⟨some (b2,0),e64 s0.2.toList⟩] ⟨rfl,rfl,rfl,rfl,rfl,rfl,trivial⟩ rfl ?_
   refine TA_all (rs:=[11]) (by kernel_rfl) rfl ?_
   refine ⟨?_,trivial⟩
   refine TO_n (is:=[]) (done':=dn 12 4095) rfl rfl rfl (by kernel_rfl) (E_store (j:=1) rfl rfl inf115 rfl rfl rfl (by simpa using (toNat_lt h3.1 h3.2)) (cs':=e64 ((vp s0.2 ((k_1).toNat) (((vg s0.2 ((k_1).toNat)) <<< 8) ||| ((sg s_ s0.1).setWidth 64))).toList)) set_vec) (fun _ _=>rfl) (fun _=>?_)
   refine TA_reE (j:=1) (A:=some (b2,0)) (cs:=e64 ((vp s0.2 ((k_1).toNat) (((vg s0.2 ((k_1).toNat)) <<< 8) ||| ((sg s_ s0.1).setWidth 64))).toList)) (cs':=e64 m_1.toList) rfl (congrArg (fun z:Vx 64 4=>e64 (Vector.toList z)) hm_1) ?_
   refine TA_done (by kernel_rfl) ?_ 0
   refine TX_block_normal (TX_next (TC_region (TLv (V_bin rfl rfl (fun w=>addI w s0.1 1)) ?_)))
   refine TVm ?_
   refine TL_nil ?_
   obtain rfl:=sj H
   exact TXk [0,0] (hK (w64 (s0.1+1),m_1) rfl ())
  ·refine TC_exit (TX_then_exit (TX_then_exit ?_))
   obtain rfl:=sj H
   exact TXj [0,0] (hE s0.2 rfl ())
 ·intro g
  refine TX_block_exit (TX_next (TC_seq (TC_region (TLv (V_lag (.o 1) isAgg117 inf117) ?_))))
  refine TLn (E_sv (vs:=e64 t_1.toList) 0 inf117) (fun _=>?_)
  refine TL_nil (TX_next (TC_ret ?_))
  obtain rfl:=sj H
  exact TXr (vs:=[_]) rfl ⟨(Res_agg (n:=4) rfl (by simp) (.o 0) isAgg117 inf117 rfl (lenV (f:=v64) t_1)),trivial⟩
end Go.Proofs
end

section
namespace Go.Proofs
open Go Go.Kx
open TryzI Tryz
def num_Nat_Less (x:Vx 64 4) (y:Vx 64 4):Option (Bool) :=
 (num_sub x y).bind fun (r_1:Vx 64 4 × BitVec 64)=>(ltt (decide (r_1.2=1#64)) fun (x1:Bool)=>(some x1))
set_option maxHeartbeats 4000000 in
set_option maxRecDepth 20000 in
theorem F107_calls (x:Vx 64 4) (y:Vx 64 4) (r:Bool) (H:num_Nat_Less x y=some r) :
  Does Tryz.prog 107 [aG [(4,e64 x.toList)],aG [(4,e64 y.toList)]] [] [] (Γ:=Unit) (fun g=>vb r) (fun g=>[]):=by
 intro w hmem hro hd
 refine calls_of (N:=15) (m0:=[(0,aG [(4,e64 x.toList)]),(1,aG [(4,e64 y.toList)])]) func107 rfl ntmps107 (argM_ok [aG [(4,e64 x.toList)],aG [(4,e64 y.toList)]]) rfl hmem hro hd ?_
 unfold num_Nat_Less at H
 refine TC_seq (TC_region (TLe (E_boxP [(4,e64 x.toList)] rfl rfl ⟨(lenV (f:=v64) x),trivial⟩) (fun b1=>?_)))
 refine TLe (E_boxP [(4,e64 y.toList)] rfl rfl ⟨(lenV (f:=v64) y),trivial⟩) (fun b2=>?_)
 refine TVa ?_
 refine TL_nil (TX_next (TC_seq (TC_region (TLv (V_lag (.o 1) isAgg117 inf117) ?_))))
 refine TLv (V_lag (.o 0) isAgg117 inf117) ?_
 obtain ⟨r_1,hr_1,H⟩:=bind_elim H
 refine TLe (E_c0 (F125_calls x y r_1 hr_1) call125 .z) (fun g_1=>?_)
 refine TVm ?_
 refine TLv V_ex ?_
 refine TLv V_ex ?_
 refine TLe (E_al64 4 inf117 zer117) (fun b3=>?_)
 refine TLn (E_sv (vs:=e64 r_1.1.toList) 0 inf117) (fun _=>?_)
 refine TVa ?_
 refine TL_nil (TX_next (TC_seq (TC_region (TVm ?_))))
 refine TLv (V_bin rfl rfl (fun w=>eql64 w r_1.2 1#64)) ?_
 refine TVa ?_
 obtain ⟨x1,hx1,H⟩:=ltt_elim H
 refine TLr 4 (congrArg vb hx1) ?_
 refine TL_nil (TX_next (TC_ret ?_))
 obtain rfl:=sj H
 exact TX1
end Go.Proofs
end

section
namespace Go.Proofs
open Go Go.Kx
open Vector (replicate)
open TryzI Tryz
def num_Field_Read (f_M:Vx 64 4) (f_inv:BitVec 64) (f_one:Vx 64 4) (f_two:Vx 64 4) (s_:Str):Option (Vx 64 4 × Bool) :=
 if ((s_).length:Int) ≠ 32 then (ltt ((replicate 4 0#64:Vx 64 4)) fun (m_1:Vx 64 4)=>(some (m_1,false))) else ((num_Load s_).bind fun (r_1:Vx 64 4)=>((num_Nat_Less r_1 f_M).bind fun (r_2:Bool)=>(some (r_1,r_2))))
def num_Field_Read_nil0 (s_:Str):Option (Vx 64 4) :=
 if ((s_).length:Int) ≠ 32 then (ltt ((replicate 4 0#64:Vx 64 4)) fun (m_1:Vx 64 4)=>(some m_1)) else ((num_Load s_).bind fun (r_1:Vx 64 4)=>(none))
set_option maxHeartbeats 4000000 in
set_option maxRecDepth 20000 in
theorem F88_calls (bf:Nat) (obf:Nat) (f_M:Vx 64 4) (f_inv:BitVec 64) (f_one:Vx 64 4) (f_two:Vx 64 4) (s_:Str) (r:Vx 64 4 × Bool) (H:num_Field_Read f_M f_inv f_one f_two s_=some r) :
  Does Tryz.prog 88 [ptr (some (bf,obf)) 0,vs s_] [] [⟨some (bf,obf),e64 f_M.toList⟩,⟨some (bf,obf+4),[v64 f_inv]⟩,⟨some (bf,obf+5),e64 f_one.toList⟩,⟨some (bf,obf+9),e64 f_two.toList⟩] (Γ:=Unit) (fun g=>Value.tuple [aG [(4,e64 r.1.toList)],vb r.2].toArray) (fun g=>[]):=by
 intro w hmem hro hd
 refine calls_of (N:=20) (m0:=[(0,ptr (some (bf,obf)) 0),(1,vs s_)]) func88 rfl ntmps88 (argM_ok [ptr (some (bf,obf)) 0,vs s_]) rfl hmem hro hd ?_
 unfold num_Field_Read at H
 refine TC_seq (TC_region (TLe (E_al64 4 inf117 zer117) (fun b1=>?_)))
 refine TVa ?_
 refine TL_nil (TX_next (TC_seq (TC_seq (TC_region (TVm ?_)))))
 refine TLv (V_len_str rfl underlying9) ?_
 refine TLv (V_bin rfl rfl (fun w=>neqI w ((s_).length:Int) 32)) ?_
 refine TL_nil (TX_next (TCd H (fun hc H=>?_) (fun hc H=>?_)))
 ·refine TC_seq (TC_region (TLv (V_buildArr (pv:=[]) rfl rfl underlying117 inf117 inf115 rfl zer117 (cs:=e64 ((replicate 4 0#64:Vx 64 4).toList)) (by kernel_rfl)) ?_))
  refine TLn (E_sv 0 inf117) (fun _=>?_)
  obtain ⟨m_1,hm_1,H⟩:=ltt_elim H
  refine TL_reE (j:=0) (A:=some (b1,0)) (cs:=e64 ((replicate 4 0#64:Vx 64 4).toList)) (cs':=e64 m_1.toList) rfl (congrArg (fun z:Vx 64 4=>e64 (Vector.toList z)) hm_1) ?_
  refine TVa ?_
  refine TL_nil (TX_next (TC_ret (TX_then_ret ?_)))
  obtain rfl:=sj H
  exact TXr (vs:=[_,_]) rfl ⟨(Res_agg (n:=4) rfl (by simp) (.o 0) isAgg117 inf117 rfl (lenV (f:=v64) m_1)),rfl,trivial⟩
 ·refine TC_skip (TX_next (TC_seq (TC_region (TVm ?_))))
  obtain ⟨r_1,hr_1,H⟩:=bind_elim H
  refine TLe (E_c0 (F106_calls s_ r_1 hr_1) call106 .z) (fun g_1=>?_)
  refine TLe (E_al64 4 inf117 zer117) (fun b2=>?_)
  refine TLn (E_sv (vs:=e64 r_1.toList) 0 inf117) (fun _=>?_)
  refine TL_nil (TX_next (TC_seq ?_))
  obtain ⟨r_2,hr_2,H⟩:=bind_elim H
  refine TA_begin [] 9 (by kernel_rfl) (N:=9) rfl ?_
  refine TA_mix (is:=[]) (done':=dn 9 127) [itV 0 13 (aG [(4,e64 r_1.toList)]) [],itV 1 14 (aG [(4,e64 r_1.toList)]) [],itV 2 15 (ptr (some (bf,obf)) 0) [],itV 3 16 (ptr (some (bf,obf)) 0) [2],itV 4 17 (ptr (some (bf,obf)) 0) [3],itV 5 18 (aG [(4,e64 f_M.toList)]) [4],itV 6 19 (vb r_2) [5,1]] [] 2 (by kernel_rfl) (QP.then QP.body) (by kernel_rfl) rfl (.v rfl (V_lag (.o 0) isAgg117 inf117) (.v rfl (V_lag (.o 0) isAgg117 inf117) (.v rfl (V_move rfl) (.v rfl (V_nilCheck rfl) (.v rfl (V_fe underlying159 inf117) (.v rfl (V_lag (.r 0) isAgg117 inf117) (.e rfl (E_cu (F107_calls r_1 f_M r_2 hr_2) call107 .z) .nil))))))) .nil (by kernel_rfl) rfl (fun γ=>?_)
  refine TA_cut [(19,vb r_2),(13,aG [(4,e64 r_1.toList)]),(5,vb false),(4,ptr (some (b1,0)) 0)] [⟨some (b2,0),e64 r_1.toList⟩,⟨some (b1,0),e64 ((replicate 4 0#64).toList)⟩] ⟨rfl,rfl,rfl,rfl,trivial⟩ rfl ?_
  refine TA_all (rs:=[7]) (by kernel_rfl) rfl ?_
  refine ⟨?_,trivial⟩
  refine TO_n (is:=[]) (done':=dn 9 255) rfl rfl rfl (by kernel_rfl) (E_sv (vs:=e64 r_1.toList) 1 inf117) (fun _ _=>rfl) (fun _=>?_)
  refine TA_all (rs:=[8]) (by kernel_rfl) rfl ?_
  refine ⟨?_,trivial⟩
  refine TO_v (is:=[]) (done':=dn 9 511) rfl rfl rfl rfl (by kernel_rfl) (V_assign rfl) (fun _=>rfl) ?_
  refine TA_done (by kernel_rfl) ?_ 0
  refine TX_next (TC_ret ?_)
  obtain rfl:=sj H
  exact TXr (vs:=[_,_]) rfl ⟨(Res_agg (n:=4) rfl (by simp) (.o 1) isAgg117 inf117 rfl (lenV (f:=v64) r_1)),rfl,trivial⟩
set_option maxHeartbeats 4000000 in
set_option maxRecDepth 20000 in
theorem F88_nil0_calls (s_:Str) (r:Vx 64 4) (H:num_Field_Read_nil0 s_=some r) :
  Does Tryz.prog 88 [Value.pointer none,vs s_] [] [] (Γ:=Unit) (fun g=>Value.tuple [aG [(4,e64 r.toList)],vb false].toArray) (fun g=>[]):=by
 intro w hmem hro hd
 refine calls_of (N:=20) (m0:=[(0,Value.pointer none),(1,vs s_)]) func88 rfl ntmps88 (argM_ok [Value.pointer none,vs s_]) rfl hmem hro hd ?_
 unfold num_Field_Read_nil0 at H
 refine TC_seq (TC_region (TLe (E_al64 4 inf117 zer117) (fun b1=>?_)))
 refine TVa ?_
 refine TL_nil (TX_next (TC_seq (TC_seq (TC_region (TVm ?_)))))
 refine TLv (V_len_str rfl underlying9) ?_
 refine TLv (V_bin rfl rfl (fun w=>neqI w ((s_).length:Int) 32)) ?_
 refine TL_nil (TX_next (TCd H (fun hc H=>?_) (fun hc H=>?_)))
 ·refine TC_seq (TC_region (TLv (V_buildArr (pv:=[]) rfl rfl underlying117 inf117 inf115 rfl zer117 (cs:=e64 ((replicate 4 0#64:Vx 64 4).toList)) (by kernel_rfl)) ?_))
  refine TLn (E_sv 0 inf117) (fun _=>?_)
  obtain ⟨m_1,hm_1,H⟩:=ltt_elim H
  refine TL_reE (j:=0) (A:=some (b1,0)) (cs:=e64 ((replicate 4 0#64:Vx 64 4).toList)) (cs':=e64 m_1.toList) rfl (congrArg (fun z:Vx 64 4=>e64 (Vector.toList z)) hm_1) ?_
  refine TVa ?_
  refine TL_nil (TX_next (TC_ret (TX_then_ret ?_)))
  obtain rfl:=sj H
  exact TXr (vs:=[_,_]) rfl ⟨(Res_agg (n:=4) rfl (by simp) (.o 0) isAgg117 inf117 rfl (lenV (f:=v64) m_1)),rfl,trivial⟩
 ·refine TC_skip (TX_next (TC_seq (TC_region (TVm ?_))))
  obtain ⟨r_1,hr_1,H⟩:=bind_elim H
  refine TLe (E_c0 (F106_calls s_ r_1 hr_1) call106 .z) (fun g_1=>?_)
  refine TLe (E_al64 4 inf117 zer117) (fun b2=>?_)
  refine TLn (E_sv (vs:=e64 r_1.toList) 0 inf117) (fun _=>?_)
  refine TL_nil (TX_next (TC_seq ?_))
  exact absurd (show (none:Option _)=some _ from H) (fun h=>by cases h)
end Go.Proofs
end

section
namespace Go.Proofs
open Go Go.Kx
open Vector (replicate)
open TryzI Tryz
def num_Nat_Zero (x:Vx 64 4):Option (Bool) :=
 ltt (decide (x=(replicate 4 0#64:Vx 64 4))) fun (x1:Bool)=>(some x1)
set_option maxHeartbeats 4000000 in
set_option maxRecDepth 20000 in
theorem F89_calls (x:Vx 64 4) (r:Bool) (H:num_Nat_Zero x=some r) :
  Does Tryz.prog 89 [aG [(4,e64 x.toList)]] [] [] (Γ:=Unit) (fun g=>vb r) (fun g=>[]):=by
 intro w hmem hro hd
 refine calls_of (N:=6) (m0:=[(0,aG [(4,e64 x.toList)])]) func89 rfl ntmps89 (argM_ok [aG [(4,e64 x.toList)]]) rfl hmem hro hd ?_
 unfold num_Nat_Zero at H
 refine TC_seq (TC_region (TLe (E_boxP [(4,e64 x.toList)] rfl rfl ⟨(lenV (f:=v64) x),trivial⟩) (fun b1=>?_)))
 refine TVa ?_
 refine TL_nil (TX_next (TC_seq (TC_region (TLv (V_lag (.o 0) isAgg117 inf117) ?_))))
 refine TLv (V_buildArr (pv:=[]) rfl rfl underlying117 inf117 inf115 rfl zer117 (cs:=e64 ((replicate 4 0#64:Vx 64 4).toList)) (by kernel_rfl)) ?_
 refine TLv (V_bin rfl rfl (fun w=>eqlA w underlying117 underlying115 (by kernel_rfl) (by kernel_rfl) x (replicate 4 0#64:Vx 64 4))) ?_
 refine TVa ?_
 obtain ⟨x1,hx1,H⟩:=ltt_elim H
 refine TLr 2 (congrArg vb hx1) ?_
 refine TL_nil (TX_next (TC_ret ?_))
 obtain rfl:=sj H
 exact TX1
end Go.Proofs
end

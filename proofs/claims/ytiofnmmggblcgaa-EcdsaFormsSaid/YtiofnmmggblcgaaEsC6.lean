/-
  Part 6 of the proof of what several laws share.
-/
import Derived.Test.YtiofnmmggblcgaaEsC1
import Derived.Test.YtiofnmmggblcgaaEsC2
import Derived.Test.YtiofnmmggblcgaaEsC3
import Derived.Test.YtiofnmmggblcgaaEsC4
import Derived.Test.YtiofnmmggblcgaaEsC5
set_option linter.unusedVariables false
set_option linter.unusedSimpArgs false
section
namespace Go.Kx
open Go
variable {P:Program} {t e:TypeId} {x y:Operand}
theorem run_part {cs:Array Value} {off:Nat} {k:IntKind} {v:Value} (w:World) (he:P.underlying e=some (.int k)) (hv:cs[off]? = some v):(part e cs off).run P w = .ok v w:=by
 simp [part,isAgg,Sem.run_bind,run_underlying he,hv]
theorem eq_int (w:World) (d:Nat) {k:IntKind} (a b:Int) (he:P.underlying e=some (.int k)):(Op.equalIn (d+1) e (.int k a) (.int k b)).run P w = .ok (a == b) w:=by
 simp [Op.equalIn,Sem.run_bind,run_underlying he]
theorem eq_loop (w:World) (d:Nat) {k:IntKind} (he:P.underlying e=some (.int k)) (xs ys:List Int) :
  ∀ (l:List Nat),(∀ i ∈ l,i<xs.length∧i<ys.length) →
  (forIn (m:=Sem) l (none,PUnit.unit) (fun i (_:Option Bool × PUnit)=>do
   if !(← Op.equalIn (d+1) e (← part e (xs.map (Value.int k)).toArray (i * 1)) (← part e (ys.map (Value.int k)).toArray (i * 1))) then pure (ForInStep.done (some false,PUnit.unit))
   else pure (ForInStep.yield (none,PUnit.unit)))).run P w = .ok (if l.all (fun i=>xs.getD i 0 == ys.getD i 0) then none else some false,PUnit.unit) w
 | [],_=>by simp [Sem.run]
 | i :: l,h=>by
  have hi:=h i (by simp)
  have h1:(xs.map (Value.int k)).toArray[i * 1]? = some (.int k (xs.getD i 0)):=by simp [hi.1,List.getD]
  have h2:(ys.map (Value.int k)).toArray[i * 1]? = some (.int k (ys.getD i 0)):=by simp [hi.2,List.getD]
  have ih:=eq_loop w d he xs ys l (fun j hj=>h j (by simp [hj]))
  rw [List.forIn_cons]
  simp only [Sem.run_bind,run_part w he h1,run_part w he h2,eq_int w d _ _ he,Result.andThen_ok]
  cases hb:xs.getD i 0 == ys.getD i 0
  ·have e0:(i :: l).all (fun i=>xs.getD i 0 == ys.getD i 0)=false:=by rw [List.all_cons,hb]; rfl
   rw [e0]; rfl
  ·have e0:(i :: l).all (fun i=>xs.getD i 0 == ys.getD i 0)=l.all (fun i=>xs.getD i 0 == ys.getD i 0):=by rw [List.all_cons,hb]; rfl
   rw [e0]; exact ih
theorem eqA0 (w:World) (d:Nat) {n:Nat} {k:IntKind} (ht:P.underlying t=some (.array n e)) (he:P.underlying e=some (.int k)) (hs:(sizeOf e).run P w = .ok 1 w) (xs ys:List Int) (hx:xs.length=n) (hy:ys.length=n) :
  (Op.equalIn (d+2) t (.agg (xs.map (Value.int k)).toArray) (.agg (ys.map (Value.int k)).toArray)).run P w = .ok (decide (xs=ys)) w:=by
 have hl:=eq_loop (P:=P) w d he xs ys (List.range' 0 n) (fun i hi=>by simp at hi; omega)
 have hq:(List.range' 0 n).all (fun i=>xs.getD i 0 == ys.getD i 0)=decide (xs=ys):=by
  rw [Bool.eq_iff_iff,List.all_eq_true,decide_eq_true_eq]
  constructor
  ·intro h
   refine List.ext_getElem (by omega) fun i h1 h2=>?_
   have:=h i (by simp; omega)
   simpa [List.getD,h1,h2] using this
  ·rintro rfl i _
   simp
 rw [hq] at hl
 have hz:(List.range' 0 [:n].size)=List.range' 0 n:=by simp [Std.Legacy.Range.size]
 unfold Op.equalIn
 simp only [Sem.run_bind,run_underlying ht,Result.andThen_ok,hs]
 simp only [Std.Legacy.Range.forIn_eq_forIn_range']
 rw [hz]
 refine (congrArg (fun r=>Result.andThen r _) hl).trans ?_
 simp only [Result.andThen_ok]
 by_cases c:xs=ys
 ·simp [c,Sem.run]
 ·simp [c,Sem.run]
theorem guard_agg (w:World) {op:BinOp} {xs ys:Array Value} (hg:P.eqGuardType P.depth t=false):(eqGuard op t x y (.agg xs) (.agg ys)).run P w = .ok () w:=by
 cases op <;> simp [eqGuard,Sem.run_bind,program,Sem.run,hg]
theorem e64_ints (l:List (BitVec 64)):e64 l=(l.map fun v=>(v.toNat:Int)).map (Value.int .u64):=by simp [e64,v64,Function.comp_def]
theorem inj64 {n:Nat} (a b:Vector (BitVec 64) n):(a.toList.map fun v=>(v.toNat:Int))=(b.toList.map fun v=>(v.toNat:Int)) ↔ a=b:=by
 constructor
 ·intro h
  have:=List.map_inj_right (f:=fun v:BitVec 64=>(v.toNat:Int)) (fun x y hxy=>BitVec.eq_of_toNat_eq (Int.ofNat_inj.1 hxy)) |>.1 h
  exact Vector.toList_inj.1 this
 ·rintro rfl; rfl
theorem eqlA (w:World) {n:Nat} (ht:P.underlying t=some (.array n e)) (he:P.underlying e=some (.int .u64)) (hs:(sizeOf e).run P w = .ok 1 w) (hg:P.eqGuardType P.depth t=false) (a b:Vector (BitVec 64) n) :
  (binG .eql t x y (.agg (e64 a.toList).toArray) (.agg (e64 b.toList).toArray)).run P w = .ok (vb (decide (a=b))) w:=binG_of w (guard_agg w hg) (by
 rw [e64_ints,e64_ints]
 have h:=eqA0 w 9998 ht he hs (a.toList.map fun v=>(v.toNat:Int)) (b.toList.map fun v=>(v.toNat:Int)) (by simp) (by simp)
 show ((Op.equalIn (9998+2) t _ _) >>= fun r=>pure (Value.bool r)).run P w=_
 rw [Sem.run_bind,h]; simp [vb,inj64])
theorem neqA (w:World) {n:Nat} (ht:P.underlying t=some (.array n e)) (he:P.underlying e=some (.int .u64)) (hs:(sizeOf e).run P w = .ok 1 w) (hg:P.eqGuardType P.depth t=false) (a b:Vector (BitVec 64) n) :
  (binG .neq t x y (.agg (e64 a.toList).toArray) (.agg (e64 b.toList).toArray)).run P w = .ok (vb (decide (a ≠ b))) w:=binG_of w (guard_agg w hg) (by
 rw [e64_ints,e64_ints]
 have h:=eqA0 w 9998 ht he hs (a.toList.map fun v=>(v.toNat:Int)) (b.toList.map fun v=>(v.toNat:Int)) (by simp) (by simp)
 show ((Op.equalIn (9998+2) t _ _) >>= fun r=>pure (Value.bool (!r))).run P w=_
 rw [Sem.run_bind,h]; simp [vb,inj64])
theorem e32_ints (l:List (BitVec 32)):e32 l=(l.map fun v=>(v.toNat:Int)).map (Value.int .u32):=by simp [e32,v32,Function.comp_def]
theorem inj32 {n:Nat} (a b:Vector (BitVec 32) n):(a.toList.map fun v=>(v.toNat:Int))=(b.toList.map fun v=>(v.toNat:Int)) ↔ a=b:=by
 constructor
 ·intro h
  have:=List.map_inj_right (f:=fun v:BitVec 32=>(v.toNat:Int)) (fun x y hxy=>BitVec.eq_of_toNat_eq (Int.ofNat_inj.1 hxy)) |>.1 h
  exact Vector.toList_inj.1 this
 ·rintro rfl; rfl
theorem eqlA32 (w:World) {n:Nat} (ht:P.underlying t=some (.array n e)) (he:P.underlying e=some (.int .u32)) (hs:(sizeOf e).run P w = .ok 1 w) (hg:P.eqGuardType P.depth t=false) (a b:Vector (BitVec 32) n) :
  (binG .eql t x y (.agg (e32 a.toList).toArray) (.agg (e32 b.toList).toArray)).run P w = .ok (vb (decide (a=b))) w:=binG_of w (guard_agg w hg) (by
 rw [e32_ints,e32_ints]
 have h:=eqA0 w 9998 ht he hs (a.toList.map fun v=>(v.toNat:Int)) (b.toList.map fun v=>(v.toNat:Int)) (by simp) (by simp)
 show ((Op.equalIn (9998+2) t _ _) >>= fun r=>pure (Value.bool r)).run P w=_
 rw [Sem.run_bind,h]; simp [vb,inj32])
theorem neqA32 (w:World) {n:Nat} (ht:P.underlying t=some (.array n e)) (he:P.underlying e=some (.int .u32)) (hs:(sizeOf e).run P w = .ok 1 w) (hg:P.eqGuardType P.depth t=false) (a b:Vector (BitVec 32) n) :
  (binG .neq t x y (.agg (e32 a.toList).toArray) (.agg (e32 b.toList).toArray)).run P w = .ok (vb (decide (a ≠ b))) w:=binG_of w (guard_agg w hg) (by
 rw [e32_ints,e32_ints]
 have h:=eqA0 w 9998 ht he hs (a.toList.map fun v=>(v.toNat:Int)) (b.toList.map fun v=>(v.toNat:Int)) (by simp) (by simp)
 show ((Op.equalIn (9998+2) t _ _) >>= fun r=>pure (Value.bool (!r))).run P w=_
 rw [Sem.run_bind,h]; simp [vb,inj32])
end Go.Kx
end

section
namespace Go.Proofs
open Go Go.Kx
open Vector (replicate)
open TryI Try
def num_add.b0 (x:Vx 64 4) (y:Vx 64 4) (s0:BitVec 64 × Int × Vx 64 4):Option ((BitVec 64 × Int × Vx 64 4) ⊕ (BitVec 64 × Vx 64 4)) :=
 if s0.2.1<4 then (if 0≤s0.2.1∧s0.2.1<(4:Int) then (if 0≤s0.2.1∧s0.2.1<(4:Int) then ((math_bits_Add64 (vg x ((s0.2.1).toNat)) (vg y ((s0.2.1).toNat)) s0.1).bind fun (r_1:BitVec 64 × BitVec 64)=>(if 0≤s0.2.1∧s0.2.1<(4:Int) then (ltt (vp s0.2.2 ((s0.2.1).toNat) r_1.1) fun (m_1:Vx 64 4)=>(some (.inl (r_1.2,w64 (s0.2.1+1),m_1)))) else none)) else none) else none) else (some (.inr (s0.1,s0.2.2)))
def num_add (x:Vx 64 4) (y:Vx 64 4):Option (Vx 64 4 × BitVec 64) :=
 (loop (num_add.b0 x y) BIG (0#64,0,replicate 4 0#64)).bind fun (t_1:BitVec 64 × Vx 64 4)=>(some (t_1.2,t_1.1))
set_option maxHeartbeats 4000000 in
set_option maxRecDepth 20000 in
theorem F88_calls (x:Vx 64 4) (y:Vx 64 4) (r:Vx 64 4 × BitVec 64) (H:num_add x y=some r) :
  Does Try.prog 88 [aG [(4,e64 x.toList)],aG [(4,e64 y.toList)]] [] [] (Γ:=Unit) (fun g=>Value.tuple [aG [(4,e64 r.1.toList)],v64 r.2].toArray) (fun g=>[]):=by
 intro w hmem hro hd
 refine calls_of (N:=28) (m0:=[(0,aG [(4,e64 x.toList)]),(1,aG [(4,e64 y.toList)])]) func88 rfl ntmps88 (argM_ok [aG [(4,e64 x.toList)],aG [(4,e64 y.toList)]]) rfl hmem hro hd ?_
 unfold num_add at H
 refine TC_seq (TC_region (TLe (E_boxP [(4,e64 x.toList)] rfl rfl ⟨(lenV (f:=v64) x),trivial⟩) (fun b1=>?_)))
 refine TLe (E_boxP [(4,e64 y.toList)] rfl rfl ⟨(lenV (f:=v64) y),trivial⟩) (fun b2=>?_)
 refine TLe (E_al64 4 inf57 zer57) (fun b3=>?_)
 refine TVa ?_
 refine TL_nil (TX_next (TC_seq (TC_region (TLe (E_al64 4 inf57 zer57) (fun b4=>?_)))))
 refine TL_nil (TX_next (TC_seq (TC_region (TVa ?_))))
 refine TL_nil (TX_next (TC_seq (TC_seq (TC_region (TVm ?_)))))
 refine TL_nil (TX_next (TC_block ?_))
 obtain ⟨t_1,Hl,H⟩:=bind_elim H
 refine TC.sub (m':=[(2,_),(3,_),(4,_),(6,_),(7,_),(9,_)]) ⟨rfl,rfl,rfl,rfl,rfl,rfl,trivial⟩ ?_
 refine TC.pull (is:=[3,2,1,0]) (L':=[_,_,_,_]) rfl ?_
 refine TC_loopL (id:=0) (body:=(num_add.b0 x y)) (σ:=BitVec 64 × Int × Vx 64 4) (Γ:=Unit) (Γx:=Unit) (fun s0 g0_=>[(2,ptr (some (b1,0)) 0),(3,ptr (some (b2,0)) 0),(4,ptr (some (b3,0)) 0),(6,ptr (some (b4,0)) 0),(7,v64 s0.1),(9,vi s0.2.1)]) (fun s0 g0_=>[⟨some (b1,0),e64 x.toList⟩,⟨some (b2,0),e64 y.toList⟩,⟨some (b3,0),e64 ((replicate 4 0#64).toList)⟩,⟨some (b4,0),e64 s0.2.2.toList⟩]) (fun t g=>[(4,ptr (some (b3,0)) 0),(6,ptr (some (b4,0)) 0),(7,v64 t.1)]) (fun t g=>[⟨some (b3,0),e64 ((replicate 4 0#64).toList)⟩,⟨some (b4,0),e64 t.2.toList⟩]) ?_ BIG (0#64,0,replicate 4 0#64) () t_1 Hl ?_
 ·intro s0 g0_ r1 H K hK hE
  unfold num_add.b0 at H
  refine TC_seq (TC_region (TLv (V_bin rfl rfl (fun w=>lssI w s0.2.1 4)) ?_))
  refine TL_nil (TX_next (TC_seq (TCd H (fun hc H=>?_) (fun hc H=>?_))))
  ·refine TC_skip (TX_next (TC_seq (TC_block (TC_seq (TC_region (TVm ?_))))))
   refine TVa ?_
   refine TL_nil (TX_next ?_)
   obtain ⟨h1,H⟩:=if_elim H
   obtain ⟨h2,H⟩:=if_elim H
   obtain ⟨r_1,hr_1,H⟩:=bind_elim H
   obtain ⟨h3,H⟩:=if_elim H
   obtain ⟨m_1,hm_1,H⟩:=ltt_elim H
   refine TA_begin [⟨some (b1,0),e64 x.toList⟩,⟨some (b2,0),e64 y.toList⟩,⟨some (b3,0),e64 ((replicate 4 0#64).toList)⟩] 14 (by kernel_rfl) (N:=15) rfl ?_
   refine TA_tk 0 [0,0,0] (dn 15 1) rfl rfl (V_move rfl) ?_
   refine TA_tk 1 [0,0,0] (dn 15 3) rfl rfl (V_move rfl) ?_
   refine TA_tk 2 [0,0,0] (dn 15 7) rfl rfl (V_idxArr (i:=s0.2.1) rfl rfl underlying57 inf55 rfl h1.1 h1.2 (k:=(s0.2.1).toNat) (k01 _)) ?_
   refine TA_tk 3 [0,0,0] (dn 15 15) rfl rfl (V_load rfl (.o 0) (get_vec (f:=v64) (V:=x) (toNat_lt h1.1 h1.2)) isAgg55) ?_
   refine TA_tk 4 [0,0,0] (dn 15 31) rfl rfl (V_move rfl) ?_
   refine TA_tk 5 [0,0,0] (dn 15 63) rfl rfl (V_idxArr (i:=s0.2.1) rfl rfl underlying57 inf55 rfl h2.1 h2.2 (k:=(s0.2.1).toNat) (k01 _)) ?_
   refine TA_tk 6 [0,0,0] (dn 15 127) rfl rfl (V_load rfl (.o 1) (get_vec (f:=v64) (V:=y) (toNat_lt h2.1 h2.2)) isAgg55) ?_
   refine TA_tk 7 [0,0,0] (dn 15 255) rfl rfl (V_move rfl) ?_
   refine TA_tk 8 [0,0,0] (dn 15 511) rfl rfl (V_ext rfl (ext_add Try.func87 rfl rfl rfl rfl hr_1)) ?_
   refine TA_tk 9 [0,0,0] (dn 15 1023) rfl rfl (V_move rfl) ?_
   refine TA_tk 10 [0,0,0] (dn 15 2047) rfl rfl V_ex ?_
   refine TA_tk 11 [0,0,0] (dn 15 4095) rfl rfl V_ex ?_
   refine TA_tk 12 [0,0,0] (dn 15 8191) rfl rfl (V_idxArr (i:=s0.2.1) rfl rfl underlying57 inf55 rfl h3.1 h3.2 (k:=(s0.2.1).toNat) (k01 _)) ?_
   refine TA_all (rs:=[13]) (by kernel_rfl) rfl ?_
   refine ⟨?_,trivial⟩
   refine TO_n (is:=[0,0,0]) (done':=dn 15 16383) rfl rfl rfl (by kernel_rfl) (E_store (j:=3) rfl rfl inf55 rfl rfl rfl (by simpa using (toNat_lt h3.1 h3.2)) (cs':=e64 ((vp s0.2.2 ((s0.2.1).toNat) r_1.1).toList)) set_vec) (fun _ _=>rfl) (fun _=>?_)
   refine TA_reE (j:=3) (A:=some (b4,0)) (cs:=e64 ((vp s0.2.2 ((s0.2.1).toNat) r_1.1).toList)) (cs':=e64 m_1.toList) rfl (congrArg (fun z:Vx 64 4=>e64 (Vector.toList z)) hm_1) ?_
   refine TA_all (rs:=[14]) (by kernel_rfl) rfl ?_
   refine ⟨?_,trivial⟩
   refine TO_v (is:=[]) (R:=[]) (done':=dn 15 32767) rfl rfl rfl rfl (by kernel_rfl) (V_assign rfl) (fun h=>by cases h) ?_
   refine TA_done (by kernel_rfl) ?_ 0
   refine TX_block_normal (TX_next (TC_region (TLv (V_bin rfl rfl (fun w=>addI w s0.2.1 1)) ?_)))
   refine TVm ?_
   refine TL_nil ?_
   obtain rfl:=sj H
   exact TXk [0,0,0,0] (hK (r_1.2,w64 (s0.2.1+1),m_1) rfl ())
  ·refine TC_exit (TX_then_exit (TX_then_exit ?_))
   obtain rfl:=sj H
   exact TXj [2,2] (hE (s0.1,s0.2.2) rfl ())
 ·intro g
  refine TX_block_exit (TX_next (TC_seq (TC_region (TLv (V_lag (.o 1) isAgg57 inf57) ?_))))
  refine TVm ?_
  refine TLn (E_sv (vs:=e64 t_1.2.toList) 0 inf57) (fun _=>?_)
  refine TVa ?_
  refine TL_nil (TX_next (TC_ret ?_))
  obtain rfl:=sj H
  exact TXr (vs:=[_,_]) rfl ⟨(Res_agg (n:=4) rfl (by simp) (.o 0) isAgg57 inf57 rfl (lenV (f:=v64) t_1.2)),rfl,trivial⟩
end Go.Proofs
end

section
namespace Go.Proofs
open Go Go.Kx
open Vector (replicate)
open TryI Try
def num_sub.b0 (x:Vx 64 4) (y:Vx 64 4) (s0:BitVec 64 × Int × Vx 64 4):Option ((BitVec 64 × Int × Vx 64 4) ⊕ (BitVec 64 × Vx 64 4)) :=
 if s0.2.1<4 then (if 0≤s0.2.1∧s0.2.1<(4:Int) then (if 0≤s0.2.1∧s0.2.1<(4:Int) then ((math_bits_Sub64 (vg x ((s0.2.1).toNat)) (vg y ((s0.2.1).toNat)) s0.1).bind fun (r_1:BitVec 64 × BitVec 64)=>(if 0≤s0.2.1∧s0.2.1<(4:Int) then (ltt (vp s0.2.2 ((s0.2.1).toNat) r_1.1) fun (m_1:Vx 64 4)=>(some (.inl (r_1.2,w64 (s0.2.1+1),m_1)))) else none)) else none) else none) else (some (.inr (s0.1,s0.2.2)))
def num_sub (x:Vx 64 4) (y:Vx 64 4):Option (Vx 64 4 × BitVec 64) :=
 (loop (num_sub.b0 x y) BIG (0#64,0,replicate 4 0#64)).bind fun (t_1:BitVec 64 × Vx 64 4)=>(some (t_1.2,t_1.1))
set_option maxHeartbeats 4000000 in
set_option maxRecDepth 20000 in
theorem F85_calls (x:Vx 64 4) (y:Vx 64 4) (r:Vx 64 4 × BitVec 64) (H:num_sub x y=some r) :
  Does Try.prog 85 [aG [(4,e64 x.toList)],aG [(4,e64 y.toList)]] [] [] (Γ:=Unit) (fun g=>Value.tuple [aG [(4,e64 r.1.toList)],v64 r.2].toArray) (fun g=>[]):=by
 intro w hmem hro hd
 refine calls_of (N:=28) (m0:=[(0,aG [(4,e64 x.toList)]),(1,aG [(4,e64 y.toList)])]) func85 rfl ntmps85 (argM_ok [aG [(4,e64 x.toList)],aG [(4,e64 y.toList)]]) rfl hmem hro hd ?_
 unfold num_sub at H
 refine TC_seq (TC_region (TLe (E_boxP [(4,e64 x.toList)] rfl rfl ⟨(lenV (f:=v64) x),trivial⟩) (fun b1=>?_)))
 refine TLe (E_boxP [(4,e64 y.toList)] rfl rfl ⟨(lenV (f:=v64) y),trivial⟩) (fun b2=>?_)
 refine TLe (E_al64 4 inf57 zer57) (fun b3=>?_)
 refine TVa ?_
 refine TL_nil (TX_next (TC_seq (TC_region (TLe (E_al64 4 inf57 zer57) (fun b4=>?_)))))
 refine TL_nil (TX_next (TC_seq (TC_region (TVa ?_))))
 refine TL_nil (TX_next (TC_seq (TC_seq (TC_region (TVm ?_)))))
 refine TL_nil (TX_next (TC_block ?_))
 obtain ⟨t_1,Hl,H⟩:=bind_elim H
 refine TC.sub (m':=[(2,_),(3,_),(4,_),(6,_),(7,_),(9,_)]) ⟨rfl,rfl,rfl,rfl,rfl,rfl,trivial⟩ ?_
 refine TC.pull (is:=[3,2,1,0]) (L':=[_,_,_,_]) rfl ?_
 refine TC_loopL (id:=0) (body:=(num_sub.b0 x y)) (σ:=BitVec 64 × Int × Vx 64 4) (Γ:=Unit) (Γx:=Unit) (fun s0 g0_=>[(2,ptr (some (b1,0)) 0),(3,ptr (some (b2,0)) 0),(4,ptr (some (b3,0)) 0),(6,ptr (some (b4,0)) 0),(7,v64 s0.1),(9,vi s0.2.1)]) (fun s0 g0_=>[⟨some (b1,0),e64 x.toList⟩,⟨some (b2,0),e64 y.toList⟩,⟨some (b3,0),e64 ((replicate 4 0#64).toList)⟩,⟨some (b4,0),e64 s0.2.2.toList⟩]) (fun t g=>[(4,ptr (some (b3,0)) 0),(6,ptr (some (b4,0)) 0),(7,v64 t.1)]) (fun t g=>[⟨some (b3,0),e64 ((replicate 4 0#64).toList)⟩,⟨some (b4,0),e64 t.2.toList⟩]) ?_ BIG (0#64,0,replicate 4 0#64) () t_1 Hl ?_
 ·intro s0 g0_ r1 H K hK hE
  unfold num_sub.b0 at H
  refine TC_seq (TC_region (TLv (V_bin rfl rfl (fun w=>lssI w s0.2.1 4)) ?_))
  refine TL_nil (TX_next (TC_seq (TCd H (fun hc H=>?_) (fun hc H=>?_))))
  ·refine TC_skip (TX_next (TC_seq (TC_block (TC_seq (TC_region (TVm ?_))))))
   refine TVa ?_
   refine TL_nil (TX_next ?_)
   obtain ⟨h1,H⟩:=if_elim H
   obtain ⟨h2,H⟩:=if_elim H
   obtain ⟨r_1,hr_1,H⟩:=bind_elim H
   obtain ⟨h3,H⟩:=if_elim H
   obtain ⟨m_1,hm_1,H⟩:=ltt_elim H
   refine TA_begin [⟨some (b1,0),e64 x.toList⟩,⟨some (b2,0),e64 y.toList⟩,⟨some (b3,0),e64 ((replicate 4 0#64).toList)⟩] 14 (by kernel_rfl) (N:=15) rfl ?_
   refine TA_tk 0 [0,0,0] (dn 15 1) rfl rfl (V_move rfl) ?_
   refine TA_tk 1 [0,0,0] (dn 15 3) rfl rfl (V_move rfl) ?_
   refine TA_tk 2 [0,0,0] (dn 15 7) rfl rfl (V_idxArr (i:=s0.2.1) rfl rfl underlying57 inf55 rfl h1.1 h1.2 (k:=(s0.2.1).toNat) (k01 _)) ?_
   refine TA_tk 3 [0,0,0] (dn 15 15) rfl rfl (V_load rfl (.o 0) (get_vec (f:=v64) (V:=x) (toNat_lt h1.1 h1.2)) isAgg55) ?_
   refine TA_tk 4 [0,0,0] (dn 15 31) rfl rfl (V_move rfl) ?_
   refine TA_tk 5 [0,0,0] (dn 15 63) rfl rfl (V_idxArr (i:=s0.2.1) rfl rfl underlying57 inf55 rfl h2.1 h2.2 (k:=(s0.2.1).toNat) (k01 _)) ?_
   refine TA_tk 6 [0,0,0] (dn 15 127) rfl rfl (V_load rfl (.o 1) (get_vec (f:=v64) (V:=y) (toNat_lt h2.1 h2.2)) isAgg55) ?_
   refine TA_tk 7 [0,0,0] (dn 15 255) rfl rfl (V_move rfl) ?_
   refine TA_tk 8 [0,0,0] (dn 15 511) rfl rfl (V_ext rfl (ext_sub Try.func101 rfl rfl rfl rfl hr_1)) ?_
   refine TA_tk 9 [0,0,0] (dn 15 1023) rfl rfl (V_move rfl) ?_
   refine TA_tk 10 [0,0,0] (dn 15 2047) rfl rfl V_ex ?_
   refine TA_tk 11 [0,0,0] (dn 15 4095) rfl rfl V_ex ?_
   refine TA_tk 12 [0,0,0] (dn 15 8191) rfl rfl (V_idxArr (i:=s0.2.1) rfl rfl underlying57 inf55 rfl h3.1 h3.2 (k:=(s0.2.1).toNat) (k01 _)) ?_
   refine TA_all (rs:=[13]) (by kernel_rfl) rfl ?_
   refine ⟨?_,trivial⟩
   refine TO_n (is:=[0,0,0]) (done':=dn 15 16383) rfl rfl rfl (by kernel_rfl) (E_store (j:=3) rfl rfl inf55 rfl rfl rfl (by simpa using (toNat_lt h3.1 h3.2)) (cs':=e64 ((vp s0.2.2 ((s0.2.1).toNat) r_1.1).toList)) set_vec) (fun _ _=>rfl) (fun _=>?_)
   refine TA_reE (j:=3) (A:=some (b4,0)) (cs:=e64 ((vp s0.2.2 ((s0.2.1).toNat) r_1.1).toList)) (cs':=e64 m_1.toList) rfl (congrArg (fun z:Vx 64 4=>e64 (Vector.toList z)) hm_1) ?_
   refine TA_all (rs:=[14]) (by kernel_rfl) rfl ?_
   refine ⟨?_,trivial⟩
   refine TO_v (is:=[]) (R:=[]) (done':=dn 15 32767) rfl rfl rfl rfl (by kernel_rfl) (V_assign rfl) (fun h=>by cases h) ?_
   refine TA_done (by kernel_rfl) ?_ 0
   refine TX_block_normal (TX_next (TC_region (TLv (V_bin rfl rfl (fun w=>addI w s0.2.1 1)) ?_)))
   refine TVm ?_
   refine TL_nil ?_
   obtain rfl:=sj H
   exact TXk [0,0,0,0] (hK (r_1.2,w64 (s0.2.1+1),m_1) rfl ())
  ·refine TC_exit (TX_then_exit (TX_then_exit ?_))
   obtain rfl:=sj H
   exact TXj [2,2] (hE (s0.1,s0.2.2) rfl ())
 ·intro g
  refine TX_block_exit (TX_next (TC_seq (TC_region (TLv (V_lag (.o 1) isAgg57 inf57) ?_))))
  refine TVm ?_
  refine TLn (E_sv (vs:=e64 t_1.2.toList) 0 inf57) (fun _=>?_)
  refine TVa ?_
  refine TL_nil (TX_next (TC_ret ?_))
  obtain rfl:=sj H
  exact TXr (vs:=[_,_]) rfl ⟨(Res_agg (n:=4) rfl (by simp) (.o 0) isAgg57 inf57 rfl (lenV (f:=v64) t_1.2)),rfl,trivial⟩
end Go.Proofs
end

section
namespace Go.Proofs
open Go Go.Kx
open TryI Try
def math_bits_Mul64 (x:BitVec 64) (y:BitVec 64):Option (BitVec 64 × BitVec 64) :=
 ltt (x &&& 4294967295#64) fun (x01:BitVec 64)=>(ltt (y &&& 4294967295#64) fun (y01:BitVec 64)=>(ltt (((x >>> 32) * y01)+((x01 * y01) >>> 32)) fun (t_1:BitVec 64)=>(ltt (t_1 &&& 4294967295#64) fun (w11:BitVec 64)=>(ltt (w11+(x01 * (y >>> 32))) fun (w12:BitVec 64)=>(ltt ((((x >>> 32) * (y >>> 32))+(t_1 >>> 32))+(w12 >>> 32)) fun (hi1:BitVec 64)=>(some (hi1,x * y)))))))
set_option maxHeartbeats 4000000 in
set_option maxRecDepth 20000 in
theorem F86_calls (x:BitVec 64) (y:BitVec 64) (r:BitVec 64 × BitVec 64) (H:math_bits_Mul64 x y=some r) :
  Does Try.prog 86 [v64 x,v64 y] [] [] (Γ:=Unit) (fun g=>Value.tuple [v64 r.1,v64 r.2].toArray) (fun g=>[]):=by
 intro w hmem hro hd
 refine calls_of (N:=51) (m0:=[(0,v64 x),(1,v64 y)]) func86 rfl ntmps86 (argM_ok [v64 x,v64 y]) rfl hmem hro hd ?_
 unfold math_bits_Mul64 at H
 refine TC_seq (TC_region (TVa ?_))
 refine TVa ?_
 refine TL_nil (TX_next (TC_seq (TC_region (TVm ?_))))
 refine TLv (V_bin rfl rfl (fun w=>and64 w x 4294967295#64)) ?_
 refine TVa ?_
 obtain ⟨x01,hx01,H⟩:=ltt_elim H
 refine TLr 6 (congrArg v64 hx01) ?_
 refine TL_nil (TX_next (TC_seq (TC_region (TVm ?_))))
 refine TLv (V_bin rfl rfl (fun w=>shr64 w x .u64 32 (by decide))) ?_
 refine TVa ?_
 refine TL_nil (TX_next (TC_seq (TC_region (TVm ?_))))
 refine TLv (V_bin rfl rfl (fun w=>and64 w y 4294967295#64)) ?_
 refine TVa ?_
 obtain ⟨y01,hy01,H⟩:=ltt_elim H
 refine TLr 8 (congrArg v64 hy01) ?_
 refine TL_nil (TX_next (TC_seq (TC_region (TVm ?_))))
 refine TLv (V_bin rfl rfl (fun w=>shr64 w y .u64 32 (by decide))) ?_
 refine TVa ?_
 refine TL_nil (TX_next (TC_seq (TC_region (TVm ?_))))
 refine TVm ?_
 refine TLv (V_bin rfl rfl (fun w=>mul64 w x01 y01)) ?_
 refine TVa ?_
 refine TL_nil (TX_next (TC_seq (TC_region (TVm ?_))))
 refine TVm ?_
 refine TLv (V_bin rfl rfl (fun w=>mul64 w (x >>> 32) y01)) ?_
 refine TVm ?_
 refine TLv (V_bin rfl rfl (fun w=>shr64 w (x01 * y01) .u64 32 (by decide))) ?_
 refine TLv (V_bin rfl rfl (fun w=>add64 w ((x >>> 32) * y01) ((x01 * y01) >>> 32))) ?_
 refine TVa ?_
 obtain ⟨t_1,ht_1,H⟩:=ltt_elim H
 refine TLr 11 (congrArg v64 ht_1) ?_
 refine TL_nil (TX_next (TC_seq (TC_region (TVm ?_))))
 refine TLv (V_bin rfl rfl (fun w=>and64 w t_1 4294967295#64)) ?_
 refine TVa ?_
 obtain ⟨w11,hw11,H⟩:=ltt_elim H
 refine TLr 12 (congrArg v64 hw11) ?_
 refine TL_nil (TX_next (TC.sub (m':=[(0,_),(1,_),(6,_),(7,_),(9,_),(11,_),(12,_)]) ⟨rfl,rfl,rfl,rfl,rfl,rfl,rfl,trivial⟩ ?_))
 refine TC_seq (TC_region (TVm ?_))
 refine TLv (V_bin rfl rfl (fun w=>shr64 w t_1 .u64 32 (by decide))) ?_
 refine TVa ?_
 refine TL_nil (TX_next (TC_seq (TC_region (TVm ?_))))
 refine TVm ?_
 refine TVm ?_
 refine TLv (V_bin rfl rfl (fun w=>mul64 w x01 (y >>> 32))) ?_
 refine TLv (V_bin rfl rfl (fun w=>add64 w w11 (x01 * (y >>> 32)))) ?_
 refine TVa ?_
 obtain ⟨w12,hw12,H⟩:=ltt_elim H
 refine TLr 12 (congrArg v64 hw12) ?_
 refine TL_nil (TX_next (TC_seq (TC_region (TVm ?_))))
 refine TVm ?_
 refine TLv (V_bin rfl rfl (fun w=>mul64 w (x >>> 32) (y >>> 32))) ?_
 refine TVm ?_
 refine TLv (V_bin rfl rfl (fun w=>add64 w ((x >>> 32) * (y >>> 32)) (t_1 >>> 32))) ?_
 refine TVm ?_
 refine TLv (V_bin rfl rfl (fun w=>shr64 w w12 .u64 32 (by decide))) ?_
 refine TLv (V_bin rfl rfl (fun w=>add64 w (((x >>> 32) * (y >>> 32))+(t_1 >>> 32)) (w12 >>> 32))) ?_
 refine TVa ?_
 obtain ⟨hi1,hhi1,H⟩:=ltt_elim H
 refine TLr 4 (congrArg v64 hhi1) ?_
 refine TL_nil (TX_next (TC_seq (TC_region (TVm ?_))))
 refine TVm ?_
 refine TLv (V_bin rfl rfl (fun w=>mul64 w x y)) ?_
 refine TVa ?_
 refine TL_nil (TX_next (TC.sub (m':=[(4,_),(5,_)]) ⟨rfl,rfl,trivial⟩ ?_))
 refine TC_ret ?_
 obtain rfl:=sj H
 exact TX2
end Go.Proofs
end

/-
  Part 8 of the proof of what several laws share.
-/
import Derived.Test.YtiofnmmggblcgaaEsC1
import Derived.Test.YtiofnmmggblcgaaEsC2
import Derived.Test.YtiofnmmggblcgaaEsC3
import Derived.Test.YtiofnmmggblcgaaEsC4
import Derived.Test.YtiofnmmggblcgaaEsC5
set_option linter.unusedVariables false
set_option linter.unusedSimpArgs false
section
namespace Go.Proofs
open Go Go.Kx
open Vector (replicate)
open TryI Try
def halberdref9_plus.b0 (b:Vx 32 8) (s0:BitVec 64 × Int × Vx 32 8):Option ((BitVec 64 × Int × Vx 32 8) ⊕ (BitVec 64 × Vx 32 8)) :=
 if s0.2.1<8 then (if 0≤s0.2.1∧s0.2.1<(8:Int) then (if 0≤s0.2.1∧s0.2.1<(8:Int) then (ltt ((((vg s0.2.2 ((s0.2.1).toNat)).setWidth 64)+((vg b ((s0.2.1).toNat)).setWidth 64))+s0.1) fun (s_1:BitVec 64)=>(if 0≤s0.2.1∧s0.2.1<(8:Int) then (ltt (vp s0.2.2 ((s0.2.1).toNat) ((s_1 &&& 4294967295#64).setWidth 32)) fun (m_1:Vx 32 8)=>(ltt (w64 (s0.2.1+1)) fun (i1:Int)=>(some (.inl (s_1 >>> 32,i1,m_1))))) else none)) else none) else none) else (some (.inr (s0.1,s0.2.2)))
def halberdref9_plus (a_:Vx 32 8) (b:Vx 32 8):Option (Vx 32 8 × BitVec 64) :=
 (loop (halberdref9_plus.b0 b) BIG (0#64,0,a_)).bind fun (t_1:BitVec 64 × Vx 32 8)=>(some (t_1.2,t_1.1))
set_option maxHeartbeats 4000000 in
set_option maxRecDepth 20000 in
theorem F83_calls (a_:Vx 32 8) (b:Vx 32 8) (r:Vx 32 8 × BitVec 64) (H:halberdref9_plus a_ b=some r) :
  Does Try.prog 83 [aG [(8,e32 a_.toList)],aG [(8,e32 b.toList)]] [] [] (Γ:=Unit) (fun g=>Value.tuple [aG [(8,e32 r.1.toList)],v64 r.2].toArray) (fun g=>[]):=by
 intro w hmem hro hd
 refine calls_of (N:=33) (m0:=[(0,aG [(8,e32 a_.toList)]),(1,aG [(8,e32 b.toList)])]) func83 rfl ntmps83 (argM_ok [aG [(8,e32 a_.toList)],aG [(8,e32 b.toList)]]) rfl hmem hro hd ?_
 unfold halberdref9_plus at H
 refine TC_seq (TC_region (TLe (E_boxP [(8,e32 a_.toList)] rfl rfl ⟨(lenV (f:=v32) a_),trivial⟩) (fun b1=>?_)))
 refine TLe (E_boxP [(8,e32 b.toList)] rfl rfl ⟨(lenV (f:=v32) b),trivial⟩) (fun b2=>?_)
 refine TLe (E_al32 8 inf31 zer31) (fun b3=>?_)
 refine TVa ?_
 refine TL_nil (TX_next (TC_seq (TC_region (TVa ?_))))
 refine TL_nil (TX_next (TC_seq (TC_seq (TC_region (TVa ?_)))))
 refine TL_nil (TX_next (TC_block ?_))
 obtain ⟨t_1,Hl,H⟩:=bind_elim H
 refine TC.sub (m':=[(2,_),(3,_),(4,_),(6,_),(7,_)]) ⟨rfl,rfl,rfl,rfl,rfl,trivial⟩ ?_
 refine TC.pull (is:=[2,1,0]) (L':=[_,_,_]) rfl ?_
 refine TC_loopL (id:=0) (body:=(halberdref9_plus.b0 b)) (σ:=BitVec 64 × Int × Vx 32 8) (Γ:=Unit) (Γx:=Unit) (fun s0 g0_=>[(2,ptr (some (b1,0)) 0),(3,ptr (some (b2,0)) 0),(4,ptr (some (b3,0)) 0),(6,v64 s0.1),(7,vi s0.2.1)]) (fun s0 g0_=>[⟨some (b1,0),e32 s0.2.2.toList⟩,⟨some (b2,0),e32 b.toList⟩,⟨some (b3,0),e32 ((replicate 8 0#32).toList)⟩]) (fun t g=>[(2,ptr (some (b1,0)) 0),(4,ptr (some (b3,0)) 0),(6,v64 t.1)]) (fun t g=>[⟨some (b1,0),e32 t.2.toList⟩,⟨some (b3,0),e32 ((replicate 8 0#32).toList)⟩]) ?_ BIG (0#64,0,a_) () t_1 Hl ?_
 ·intro s0 g0_ r1 H K hK hE
  unfold halberdref9_plus.b0 at H
  refine TC_seq (TC_seq (TC_region (TVm ?_)))
  refine TLv (V_bin rfl rfl (fun w=>lssI w s0.2.1 8)) ?_
  refine TL_nil (TX_next (TCd H (fun hc H=>?_) (fun hc H=>?_)))
  ·refine TC_skip (TX_next (TC_seq (TC_block (TC_seq ?_))))
   obtain ⟨h1,H⟩:=if_elim H
   obtain ⟨h2,H⟩:=if_elim H
   obtain ⟨s_1,hs_1,H⟩:=ltt_elim H
   refine TA_begin [] 12 (by kernel_rfl) (N:=12) rfl ?_
   refine TA_mix (is:=[]) (done':=dn 12 2047) [itV 0 13 (vi s0.2.1) [],itV 1 14 (ptr (some (b1,0)) ((s0.2.1).toNat)) [0],itV 2 15 (v32 (vg s0.2.2 ((s0.2.1).toNat))) [1],itV 3 16 (v64 ((vg s0.2.2 ((s0.2.1).toNat)).setWidth 64)) [2],itV 4 17 (vi s0.2.1) [],itV 5 18 (ptr (some (b2,0)) ((s0.2.1).toNat)) [4],itV 6 19 (v32 (vg b ((s0.2.1).toNat))) [5],itV 7 20 (v64 ((vg b ((s0.2.1).toNat)).setWidth 64)) [6],itV 8 21 (v64 (((vg s0.2.2 ((s0.2.1).toNat)).setWidth 64)+((vg b ((s0.2.1).toNat)).setWidth 64))) [3,7],itV 9 22 (v64 s0.1) [],itV 10 23 (v64 ((((vg s0.2.2 ((s0.2.1).toNat)).setWidth 64)+((vg b ((s0.2.1).toNat)).setWidth 64))+s0.1)) [8,9]] [] 1 (by kernel_rfl) (QP.then (QP.block (QP.then (QP.then (QP.block (QP.then QP.body)))))) (by kernel_rfl) rfl (.v rfl (V_move rfl) (.v rfl (V_idxArr (i:=s0.2.1) rfl rfl underlying31 inf29 rfl h1.1 h1.2 (k:=(s0.2.1).toNat) (k01 _)) (.v rfl (V_load rfl (.o 0) (get_vec (f:=v32) (V:=s0.2.2) (toNat_lt h1.1 h1.2)) isAgg29) (.v rfl (V_conv rfl (fun w=>cv32to64 w _ _ underlying55 (und29) (vg s0.2.2 ((s0.2.1).toNat)))) (.v rfl (V_move rfl) (.v rfl (V_idxArr (i:=s0.2.1) rfl rfl underlying31 inf29 rfl h2.1 h2.2 (k:=(s0.2.1).toNat) (k01 _)) (.v rfl (V_load rfl (.o 1) (get_vec (f:=v32) (V:=b) (toNat_lt h2.1 h2.2)) isAgg29) (.v rfl (V_conv rfl (fun w=>cv32to64 w _ _ underlying55 (und29) (vg b ((s0.2.1).toNat)))) (.v rfl (V_bin rfl rfl (fun w=>add64 w ((vg s0.2.2 ((s0.2.1).toNat)).setWidth 64) ((vg b ((s0.2.1).toNat)).setWidth 64))) (.v rfl (V_move rfl) (.v rfl (V_bin rfl rfl (fun w=>add64 w (((vg s0.2.2 ((s0.2.1).toNat)).setWidth 64)+((vg b ((s0.2.1).toNat)).setWidth 64)) s0.1)) .nil))))))))))) .nil (by kernel_rfl) rfl (fun γ=>?_)
   refine TA_cut [(23,v64 ((((vg s0.2.2 ((s0.2.1).toNat)).setWidth 64)+((vg b ((s0.2.1).toNat)).setWidth 64))+s0.1)),(2,ptr (some (b1,0)) 0),(3,ptr (some (b2,0)) 0),(4,ptr (some (b3,0)) 0),(7,vi s0.2.1)] [⟨some (b1,0),e32 s0.2.2.toList⟩,⟨some (b2,0),e32 b.toList⟩,⟨some (b3,0),e32 ((replicate 8 0#32).toList)⟩] ⟨rfl,rfl,rfl,rfl,rfl,trivial⟩ rfl ?_
   refine TA_all (rs:=[11]) (by kernel_rfl) rfl ?_
   refine ⟨?_,trivial⟩
   refine TO_v (is:=[]) (done':=dn 12 4095) rfl rfl rfl rfl (by kernel_rfl) (V_assign rfl) (fun _=>rfl) ?_
   refine TA_re (d:=8) (v:=v64 ((((vg s0.2.2 ((s0.2.1).toNat)).setWidth 64)+((vg b ((s0.2.1).toNat)).setWidth 64))+s0.1)) (v':=v64 s_1) rfl (congrArg v64 hs_1) ?_
   refine TA_done (by kernel_rfl) ?_ 0
   refine TX_next (TC_seq (TC_region (TVm ?_)))
   refine TVm ?_
   refine TLv (V_bin rfl rfl (fun w=>and64 w s_1 4294967295#64)) ?_
   refine TLv (V_conv rfl (fun w=>cv64to32 w _ _ underlying29 (und55) (s_1 &&& 4294967295#64))) ?_
   obtain ⟨h3,H⟩:=if_elim H
   refine TLv (V_idxArr (i:=s0.2.1) rfl rfl underlying31 inf29 rfl h3.1 h3.2 (k:=(s0.2.1).toNat) (k01 _)) ?_
   refine TLn (E_store (j:=0) rfl rfl inf29 rfl rfl rfl (by simpa using (toNat_lt h3.1 h3.2)) (cs':=e32 ((vp s0.2.2 ((s0.2.1).toNat) ((s_1 &&& 4294967295#64).setWidth 32)).toList)) set_vec) (fun _=>?_)
   obtain ⟨m_1,hm_1,H⟩:=ltt_elim H
   refine TL_reE (j:=0) (A:=some (b1,0)) (cs:=e32 ((vp s0.2.2 ((s0.2.1).toNat) ((s_1 &&& 4294967295#64).setWidth 32)).toList)) (cs':=e32 m_1.toList) rfl (congrArg (fun z:Vx 32 8=>e32 (Vector.toList z)) hm_1) ?_
   refine TL_nil (TX_next (TC_region (TVm ?_)))
   refine TLv (V_bin rfl rfl (fun w=>shr64 w s_1 .u64 32 (by decide))) ?_
   refine TVa ?_
   refine TL_nil (TX_block_normal (TX_next (TC_region (TVm ?_))))
   refine TLv (V_bin rfl rfl (fun w=>addI w s0.2.1 1)) ?_
   refine TVa ?_
   obtain ⟨i1,hi1,H⟩:=ltt_elim H
   refine TLr 7 (congrArg vi hi1) ?_
   refine TL_nil ?_
   obtain rfl:=sj H
   exact TXk [0,0,0] (hK (s_1 >>> 32,i1,m_1) rfl ())
  ·refine TC_exit (TX_then_exit (TX_then_exit ?_))
   obtain rfl:=sj H
   exact TXj [0,1] (hE (s0.1,s0.2.2) rfl ())
 ·intro g
  refine TX_block_exit (TX_next (TC_seq (TC_region (TLv (V_lag (.o 0) isAgg31 inf31) ?_))))
  refine TVm ?_
  refine TLn (E_sv (vs:=e32 t_1.2.toList) 1 inf31) (fun _=>?_)
  refine TVa ?_
  refine TL_nil (TX_next (TC_ret ?_))
  obtain rfl:=sj H
  exact TXr (vs:=[_,_]) rfl ⟨(Res_agg (n:=8) rfl (by simp) (.o 1) isAgg31 inf31 rfl (lenV (f:=v32) t_1.2)),rfl,trivial⟩
end Go.Proofs
end

section
namespace Go.Proofs
open Go Go.Kx
open Vector (replicate)
open TryI Try
def halberdref9_minus.b0 (b:Vx 32 8) (s0:BitVec 64 × Int × Vx 32 8):Option ((BitVec 64 × Int × Vx 32 8) ⊕ (Vx 32 8)) :=
 if s0.2.1<8 then (if 0≤s0.2.1∧s0.2.1<(8:Int) then (if 0≤s0.2.1∧s0.2.1<(8:Int) then (ltt ((((vg s0.2.2 ((s0.2.1).toNat)).setWidth 64) - ((vg b ((s0.2.1).toNat)).setWidth 64)) - s0.1) fun (d1:BitVec 64)=>(if 0≤s0.2.1∧s0.2.1<(8:Int) then (ltt (vp s0.2.2 ((s0.2.1).toNat) ((d1 &&& 4294967295#64).setWidth 32)) fun (m_1:Vx 32 8)=>(ltt (w64 (s0.2.1+1)) fun (i1:Int)=>(some (.inl (d1 >>> 63,i1,m_1))))) else none)) else none) else none) else (some (.inr s0.2.2))
def halberdref9_minus (a_:Vx 32 8) (b:Vx 32 8):Option (Vx 32 8) :=
 (loop (halberdref9_minus.b0 b) BIG (0#64,0,a_)).bind fun (t_1:Vx 32 8)=>(some t_1)
set_option maxHeartbeats 4000000 in
set_option maxRecDepth 20000 in
theorem F82_calls (a_:Vx 32 8) (b:Vx 32 8) (r:Vx 32 8) (H:halberdref9_minus a_ b=some r) :
  Does Try.prog 82 [aG [(8,e32 a_.toList)],aG [(8,e32 b.toList)]] [] [] (Γ:=Unit) (fun g=>aG [(8,e32 r.toList)]) (fun g=>[]):=by
 intro w hmem hro hd
 refine calls_of (N:=31) (m0:=[(0,aG [(8,e32 a_.toList)]),(1,aG [(8,e32 b.toList)])]) func82 rfl ntmps82 (argM_ok [aG [(8,e32 a_.toList)],aG [(8,e32 b.toList)]]) rfl hmem hro hd ?_
 unfold halberdref9_minus at H
 refine TC_seq (TC_region (TLe (E_boxP [(8,e32 a_.toList)] rfl rfl ⟨(lenV (f:=v32) a_),trivial⟩) (fun b1=>?_)))
 refine TLe (E_boxP [(8,e32 b.toList)] rfl rfl ⟨(lenV (f:=v32) b),trivial⟩) (fun b2=>?_)
 refine TLe (E_al32 8 inf31 zer31) (fun b3=>?_)
 refine TL_nil (TX_next (TC_seq (TC_region (TVa ?_))))
 refine TL_nil (TX_next (TC_seq (TC_seq (TC_region (TVa ?_)))))
 refine TL_nil (TX_next (TC_block ?_))
 obtain ⟨t_1,Hl,H⟩:=bind_elim H
 refine TC.sub (m':=[(2,_),(3,_),(4,_),(5,_),(6,_)]) ⟨rfl,rfl,rfl,rfl,rfl,trivial⟩ ?_
 refine TC.pull (is:=[2,1,0]) (L':=[_,_,_]) rfl ?_
 refine TC_loopL (id:=0) (body:=(halberdref9_minus.b0 b)) (σ:=BitVec 64 × Int × Vx 32 8) (Γ:=Unit) (Γx:=Unit) (fun s0 g0_=>[(2,ptr (some (b1,0)) 0),(3,ptr (some (b2,0)) 0),(4,ptr (some (b3,0)) 0),(5,v64 s0.1),(6,vi s0.2.1)]) (fun s0 g0_=>[⟨some (b1,0),e32 s0.2.2.toList⟩,⟨some (b2,0),e32 b.toList⟩,⟨some (b3,0),e32 ((replicate 8 0#32).toList)⟩]) (fun t g=>[(2,ptr (some (b1,0)) 0),(4,ptr (some (b3,0)) 0)]) (fun t g=>[⟨some (b1,0),e32 t.toList⟩,⟨some (b3,0),e32 ((replicate 8 0#32).toList)⟩]) ?_ BIG (0#64,0,a_) () t_1 Hl ?_
 ·intro s0 g0_ r1 H K hK hE
  unfold halberdref9_minus.b0 at H
  refine TC_seq (TC_seq (TC_region (TVm ?_)))
  refine TLv (V_bin rfl rfl (fun w=>lssI w s0.2.1 8)) ?_
  refine TL_nil (TX_next (TCd H (fun hc H=>?_) (fun hc H=>?_)))
  ·refine TC_skip (TX_next (TC_seq (TC_block (TC_seq ?_))))
   obtain ⟨h1,H⟩:=if_elim H
   obtain ⟨h2,H⟩:=if_elim H
   obtain ⟨d1,hd1,H⟩:=ltt_elim H
   refine TA_begin [] 12 (by kernel_rfl) (N:=12) rfl ?_
   refine TA_mix (is:=[]) (done':=dn 12 2047) [itV 0 12 (vi s0.2.1) [],itV 1 13 (ptr (some (b1,0)) ((s0.2.1).toNat)) [0],itV 2 14 (v32 (vg s0.2.2 ((s0.2.1).toNat))) [1],itV 3 15 (v64 ((vg s0.2.2 ((s0.2.1).toNat)).setWidth 64)) [2],itV 4 16 (vi s0.2.1) [],itV 5 17 (ptr (some (b2,0)) ((s0.2.1).toNat)) [4],itV 6 18 (v32 (vg b ((s0.2.1).toNat))) [5],itV 7 19 (v64 ((vg b ((s0.2.1).toNat)).setWidth 64)) [6],itV 8 20 (v64 (((vg s0.2.2 ((s0.2.1).toNat)).setWidth 64) - ((vg b ((s0.2.1).toNat)).setWidth 64))) [7,3],itV 9 21 (v64 s0.1) [],itV 10 22 (v64 ((((vg s0.2.2 ((s0.2.1).toNat)).setWidth 64) - ((vg b ((s0.2.1).toNat)).setWidth 64)) - s0.1)) [8,9]] [] 1 (by kernel_rfl) (QP.then (QP.block (QP.then (QP.then (QP.block (QP.then QP.body)))))) (by kernel_rfl) rfl (.v rfl (V_move rfl) (.v rfl (V_idxArr (i:=s0.2.1) rfl rfl underlying31 inf29 rfl h1.1 h1.2 (k:=(s0.2.1).toNat) (k01 _)) (.v rfl (V_load rfl (.o 0) (get_vec (f:=v32) (V:=s0.2.2) (toNat_lt h1.1 h1.2)) isAgg29) (.v rfl (V_conv rfl (fun w=>cv32to64 w _ _ underlying55 (und29) (vg s0.2.2 ((s0.2.1).toNat)))) (.v rfl (V_move rfl) (.v rfl (V_idxArr (i:=s0.2.1) rfl rfl underlying31 inf29 rfl h2.1 h2.2 (k:=(s0.2.1).toNat) (k01 _)) (.v rfl (V_load rfl (.o 1) (get_vec (f:=v32) (V:=b) (toNat_lt h2.1 h2.2)) isAgg29) (.v rfl (V_conv rfl (fun w=>cv32to64 w _ _ underlying55 (und29) (vg b ((s0.2.1).toNat)))) (.v rfl (V_bin rfl rfl (fun w=>sub64 w ((vg s0.2.2 ((s0.2.1).toNat)).setWidth 64) ((vg b ((s0.2.1).toNat)).setWidth 64))) (.v rfl (V_move rfl) (.v rfl (V_bin rfl rfl (fun w=>sub64 w (((vg s0.2.2 ((s0.2.1).toNat)).setWidth 64) - ((vg b ((s0.2.1).toNat)).setWidth 64)) s0.1)) .nil))))))))))) .nil (by kernel_rfl) rfl (fun γ=>?_)
   refine TA_cut [(22,v64 ((((vg s0.2.2 ((s0.2.1).toNat)).setWidth 64) - ((vg b ((s0.2.1).toNat)).setWidth 64)) - s0.1)),(2,ptr (some (b1,0)) 0),(3,ptr (some (b2,0)) 0),(4,ptr (some (b3,0)) 0),(6,vi s0.2.1)] [⟨some (b1,0),e32 s0.2.2.toList⟩,⟨some (b2,0),e32 b.toList⟩,⟨some (b3,0),e32 ((replicate 8 0#32).toList)⟩] ⟨rfl,rfl,rfl,rfl,rfl,trivial⟩ rfl ?_
   refine TA_all (rs:=[11]) (by kernel_rfl) rfl ?_
   refine ⟨?_,trivial⟩
   refine TO_v (is:=[]) (done':=dn 12 4095) rfl rfl rfl rfl (by kernel_rfl) (V_assign rfl) (fun _=>rfl) ?_
   refine TA_re (d:=7) (v:=v64 ((((vg s0.2.2 ((s0.2.1).toNat)).setWidth 64) - ((vg b ((s0.2.1).toNat)).setWidth 64)) - s0.1)) (v':=v64 d1) rfl (congrArg v64 hd1) ?_
   refine TA_done (by kernel_rfl) ?_ 0
   refine TX_next (TC_seq (TC_region (TVm ?_)))
   refine TVm ?_
   refine TLv (V_bin rfl rfl (fun w=>and64 w d1 4294967295#64)) ?_
   refine TLv (V_conv rfl (fun w=>cv64to32 w _ _ underlying29 (und55) (d1 &&& 4294967295#64))) ?_
   obtain ⟨h3,H⟩:=if_elim H
   refine TLv (V_idxArr (i:=s0.2.1) rfl rfl underlying31 inf29 rfl h3.1 h3.2 (k:=(s0.2.1).toNat) (k01 _)) ?_
   refine TLn (E_store (j:=0) rfl rfl inf29 rfl rfl rfl (by simpa using (toNat_lt h3.1 h3.2)) (cs':=e32 ((vp s0.2.2 ((s0.2.1).toNat) ((d1 &&& 4294967295#64).setWidth 32)).toList)) set_vec) (fun _=>?_)
   obtain ⟨m_1,hm_1,H⟩:=ltt_elim H
   refine TL_reE (j:=0) (A:=some (b1,0)) (cs:=e32 ((vp s0.2.2 ((s0.2.1).toNat) ((d1 &&& 4294967295#64).setWidth 32)).toList)) (cs':=e32 m_1.toList) rfl (congrArg (fun z:Vx 32 8=>e32 (Vector.toList z)) hm_1) ?_
   refine TL_nil (TX_next (TC_region (TVm ?_)))
   refine TLv (V_bin rfl rfl (fun w=>shr64 w d1 .u64 63 (by decide))) ?_
   refine TVa ?_
   refine TL_nil (TX_block_normal (TX_next (TC_region (TVm ?_))))
   refine TLv (V_bin rfl rfl (fun w=>addI w s0.2.1 1)) ?_
   refine TVa ?_
   obtain ⟨i1,hi1,H⟩:=ltt_elim H
   refine TLr 6 (congrArg vi hi1) ?_
   refine TL_nil ?_
   obtain rfl:=sj H
   exact TXk [0,0,0] (hK (d1 >>> 63,i1,m_1) rfl ())
  ·refine TC_exit (TX_then_exit (TX_then_exit ?_))
   obtain rfl:=sj H
   exact TXj [0,1] (hE s0.2.2 rfl ())
 ·intro g
  refine TX_block_exit (TX_next (TC_seq (TC_region (TLv (V_lag (.o 0) isAgg31 inf31) ?_))))
  refine TLn (E_sv (vs:=e32 t_1.toList) 1 inf31) (fun _=>?_)
  refine TL_nil (TX_next (TC_ret ?_))
  obtain rfl:=sj H
  exact TXr (vs:=[_]) rfl ⟨(Res_agg (n:=8) rfl (by simp) (.o 1) isAgg31 inf31 rfl (lenV (f:=v32) t_1)),trivial⟩
end Go.Proofs
end

section
namespace Go.Proofs
open Go Go.Kx
open TryI Try
def halberdref9_less.b0 (a_:Vx 32 8) (b:Vx 32 8) (s0:Int):Option ((Int) ⊕ ((Unit) ⊕ (Bool))) :=
 if 0≤s0 then (if 0≤s0∧s0<(8:Int) then (if 0≤s0∧s0<(8:Int) then (if (vg a_ ((s0).toNat)) ≠ (vg b ((s0).toNat)) then (if 0≤s0∧s0<(8:Int) then (if 0≤s0∧s0<(8:Int) then (ltt (decide (((vg a_ ((s0).toNat))).toNat<((vg b ((s0).toNat))).toNat)) fun (x1:Bool)=>(some (.inr (.inr x1)))) else none) else none) else (some (.inl (w64 (s0 - 1))))) else none) else none) else (some (.inr (.inl ())))
def halberdref9_less (a_:Vx 32 8) (b:Vx 32 8):Option (Bool) :=
 (loop (halberdref9_less.b0 a_ b) BIG 7).bind fun (t_1:(Unit) ⊕ (Bool))=>(match t_1 with | .inl t_1=>(some false) | .inr rv=>some rv)
set_option maxHeartbeats 4000000 in
set_option maxRecDepth 20000 in
theorem F78_calls (a_:Vx 32 8) (b:Vx 32 8) (r:Bool) (H:halberdref9_less a_ b=some r) :
  Does Try.prog 78 [aG [(8,e32 a_.toList)],aG [(8,e32 b.toList)]] [] [] (Γ:=Unit) (fun g=>vb r) (fun g=>[]):=by
 intro w hmem hro hd
 refine calls_of (N:=24) (m0:=[(0,aG [(8,e32 a_.toList)]),(1,aG [(8,e32 b.toList)])]) func78 rfl ntmps78 (argM_ok [aG [(8,e32 a_.toList)],aG [(8,e32 b.toList)]]) rfl hmem hro hd ?_
 unfold halberdref9_less at H
 refine TC_seq (TC_region (TLe (E_boxP [(8,e32 a_.toList)] rfl rfl ⟨(lenV (f:=v32) a_),trivial⟩) (fun b1=>?_)))
 refine TLe (E_boxP [(8,e32 b.toList)] rfl rfl ⟨(lenV (f:=v32) b),trivial⟩) (fun b2=>?_)
 refine TVa ?_
 refine TL_nil (TX_next (TC_seq (TC_seq (TC_region (TVa ?_)))))
 refine TL_nil (TX_next (TC_block ?_))
 obtain ⟨t_1,Hl,H⟩:=bind_elim H
 refine TC.sub (m':=[(2,_),(3,_),(5,_)]) ⟨rfl,rfl,rfl,trivial⟩ ?_
 refine TC.pull (is:=[1,0]) (L':=[_,_]) rfl ?_
 refine TC_loopR (id:=0) (body:=(halberdref9_less.b0 a_ b)) (σ:=Int) (Γ:=Unit) (Γx:=Unit) (fun s0 g0_=>[(2,ptr (some (b1,0)) 0),(3,ptr (some (b2,0)) 0),(5,vi s0)]) (fun s0 g0_=>[⟨some (b1,0),e32 a_.toList⟩,⟨some (b2,0),e32 b.toList⟩]) (fun t g=>[]) (fun t g=>[]) r ?_ BIG 7 () t_1 Hl ?_
 ·intro s0 g0_ r1 H K hK hE hR1
  unfold halberdref9_less.b0 at H
  refine TC_seq (TC_seq (TC_region (TVm ?_)))
  refine TLv (V_bin rfl rfl (fun w=>geqI w s0 0)) ?_
  refine TL_nil (TX_next (TCd H (fun hc H=>?_) (fun hc H=>?_)))
  ·refine TC_skip (TX_next (TC_seq (TC_block (TC_seq ?_))))
   obtain ⟨h1,H⟩:=if_elim H
   obtain ⟨h2,H⟩:=if_elim H
   refine TA_begin [] 7 (by kernel_rfl) (N:=7) rfl ?_
   refine TA_mix (is:=[]) (done':=dn 7 127) [itV 0 10 (vi s0) [],itV 1 11 (ptr (some (b1,0)) ((s0).toNat)) [0],itV 2 12 (v32 (vg a_ ((s0).toNat))) [1],itV 3 13 (vi s0) [],itV 4 14 (ptr (some (b2,0)) ((s0).toNat)) [3],itV 5 15 (v32 (vg b ((s0).toNat))) [4],itV 6 16 (vb (decide ((vg a_ ((s0).toNat)) ≠ (vg b ((s0).toNat))))) [2,5]] [] 0 (by kernel_rfl) (QP.then (QP.block (QP.then (QP.then (QP.block (QP.then QP.body)))))) (by kernel_rfl) rfl (.v rfl (V_move rfl) (.v rfl (V_idxArr (i:=s0) rfl rfl underlying31 inf29 rfl h1.1 h1.2 (k:=(s0).toNat) (k01 _)) (.v rfl (V_load rfl (.o 0) (get_vec (f:=v32) (V:=a_) (toNat_lt h1.1 h1.2)) isAgg29) (.v rfl (V_move rfl) (.v rfl (V_idxArr (i:=s0) rfl rfl underlying31 inf29 rfl h2.1 h2.2 (k:=(s0).toNat) (k01 _)) (.v rfl (V_load rfl (.o 1) (get_vec (f:=v32) (V:=b) (toNat_lt h2.1 h2.2)) isAgg29) (.v rfl (V_bin rfl rfl (fun w=>neq32 w (vg a_ ((s0).toNat)) (vg b ((s0).toNat)))) .nil))))))) .nil (by kernel_rfl) rfl (fun γ=>?_)
   refine TA_cut [(16,vb (decide ((vg a_ ((s0).toNat)) ≠ (vg b ((s0).toNat))))),(2,ptr (some (b1,0)) 0),(3,ptr (some (b2,0)) 0),(5,vi s0)] [⟨some (b1,0),e32 a_.toList⟩,⟨some (b2,0),e32 b.toList⟩] ⟨rfl,rfl,rfl,rfl,trivial⟩ rfl ?_
   refine TA_done (by kernel_rfl) ?_ 0
   refine TX_next (TCd H (fun hc H=>?_) (fun hc H=>?_))
   ·refine TC_seq ?_
    obtain ⟨h3,H⟩:=if_elim H
    obtain ⟨h4,H⟩:=if_elim H
    obtain ⟨x1,hx1,H⟩:=ltt_elim H
    refine TA_begin [] 8 (by kernel_rfl) (N:=8) rfl ?_
    refine TA_mix (is:=[]) (done':=dn 8 127) [itV 0 17 (vi s0) [],itV 1 18 (ptr (some (b1,0)) ((s0).toNat)) [0],itV 2 19 (v32 (vg a_ ((s0).toNat))) [1],itV 3 20 (vi s0) [],itV 4 21 (ptr (some (b2,0)) ((s0).toNat)) [3],itV 5 22 (v32 (vg b ((s0).toNat))) [4],itV 6 23 (vb (decide (((vg a_ ((s0).toNat))).toNat<((vg b ((s0).toNat))).toNat))) [2,5]] [] 1 (by kernel_rfl) (QP.then (QP.block (QP.then (QP.then (QP.block (QP.then QP.body)))))) (by kernel_rfl) rfl (.v rfl (V_move rfl) (.v rfl (V_idxArr (i:=s0) rfl rfl underlying31 inf29 rfl h3.1 h3.2 (k:=(s0).toNat) (k01 _)) (.v rfl (V_load rfl (.o 0) (get_vec (f:=v32) (V:=a_) (toNat_lt h3.1 h3.2)) isAgg29) (.v rfl (V_move rfl) (.v rfl (V_idxArr (i:=s0) rfl rfl underlying31 inf29 rfl h4.1 h4.2 (k:=(s0).toNat) (k01 _)) (.v rfl (V_load rfl (.o 1) (get_vec (f:=v32) (V:=b) (toNat_lt h4.1 h4.2)) isAgg29) (.v rfl (V_bin rfl rfl (fun w=>lss32 w (vg a_ ((s0).toNat)) (vg b ((s0).toNat)))) .nil))))))) .nil (by kernel_rfl) rfl (fun γ=>?_)
    refine TA_cut [(23,vb (decide (((vg a_ ((s0).toNat))).toNat<((vg b ((s0).toNat))).toNat)))] [⟨some (b1,0),e32 a_.toList⟩,⟨some (b2,0),e32 b.toList⟩] ⟨rfl,trivial⟩ rfl ?_
    refine TA_all (rs:=[7]) (by kernel_rfl) rfl ?_
    refine ⟨?_,trivial⟩
    refine TO_v (is:=[]) (done':=dn 8 255) rfl rfl rfl rfl (by kernel_rfl) (V_assign rfl) (fun _=>rfl) ?_
    refine TA_re (d:=4) (v:=vb (decide (((vg a_ ((s0).toNat))).toNat<((vg b ((s0).toNat))).toNat))) (v':=vb x1) rfl (congrArg vb hx1) ?_
    refine TA_done (by kernel_rfl) ?_ 0
    refine TX_next (TC_ret (TX_block_ret (TX_then_ret (TX_then_ret (TX_block_ret (TX_then_ret ?_))))))
    have hrv:=(hR1 _ (Option.some.inj H).symm)
    subst hrv
    exact TX1
   ·refine TC_skip (TX_block_normal (TX_next (TC_region (TVm ?_))))
    refine TLv (V_bin rfl rfl (fun w=>subI w s0 1)) ?_
    refine TVa ?_
    refine TL_nil ?_
    obtain rfl:=sj H
    exact TXk [0,0] (hK (w64 (s0 - 1)) rfl ())
  ·refine TC_exit (TX_then_exit (TX_then_exit ?_))
   obtain rfl:=sj H
   exact TXj [] (hE () rfl ())
 ·rcases t_1 with t_1 | rv
  ·intro gx1
   dsimp only at H
   refine TX_block_exit (TX_next (TC_seq (TC_region (TVa ?_))))
   refine TL_nil (TX_next (TC_ret ?_))
   obtain rfl:=sj H
   exact TX1
  ·exact (Option.some.inj H)
end Go.Proofs
end

section
namespace Go.Proofs
open Go Go.Kx
open TryI Try
def halberdref9_modulus (which:Int):Option (Vx 32 8) :=
 ltt (decide (which=0)) fun (x1:Bool)=>(if x1=true then (ltt ((#v[4294967295#32,4294967295#32,4294967295#32,0#32,0#32,0#32,1#32,4294967295#32]:Vx 32 8)) fun (m_1:Vx 32 8)=>(some m_1)) else (ltt (decide (which=1)) fun (x2:Bool)=>(if x2=true then (ltt ((#v[4234356049#32,4089039554#32,2803342980#32,3169254061#32,4294967295#32,4294967295#32,0#32,4294967295#32]:Vx 32 8)) fun (m_2:Vx 32 8)=>(some m_2)) else (ltt ((#v[4294967277#32,4294967295#32,4294967295#32,4294967295#32,4294967295#32,4294967295#32,4294967295#32,2147483647#32]:Vx 32 8)) fun (m_3:Vx 32 8)=>(some m_3)))))
set_option maxHeartbeats 4000000 in
set_option maxRecDepth 20000 in
theorem F79_calls (which:Int) (r:Vx 32 8) (H:halberdref9_modulus which=some r) :
  Does Try.prog 79 [vi which] [] [] (Γ:=Unit) (fun g=>aG [(8,e32 r.toList)]) (fun g=>[]):=by
 intro w hmem hro hd
 refine calls_of (N:=11) (m0:=[(0,vi which)]) func79 rfl ntmps79 (argM_ok [vi which]) rfl hmem hro hd ?_
 unfold halberdref9_modulus at H
 refine TC_seq (TC_region (TLe (E_al32 8 inf31 zer31) (fun b1=>?_)))
 refine TL_nil (TX_next (TC_seq (TC_seq (TC_region (TVm ?_)))))
 refine TL_nil (TX_next (TC_block (TC_seq (TC_region (TLv (V_bin rfl rfl (fun w=>eqlI w which 0)) ?_)))))
 refine TVa ?_
 obtain ⟨x1,hx1,H⟩:=ltt_elim H
 refine TLr 4 (congrArg vb hx1) ?_
 refine TL_nil (TX_next (TCb H (fun hc H=>?_) (fun hc H=>?_)))
 ·refine TC_seq (TC_region (TLv (V_buildArr (pv:=[(0,v32 4294967295#32),(1,v32 4294967295#32),(2,v32 4294967295#32),(3,v32 0#32),(4,v32 0#32),(5,v32 0#32),(6,v32 1#32),(7,v32 4294967295#32)]) rfl rfl underlying31 inf31 inf29 rfl zer31 (cs:=e32 ((#v[4294967295#32,4294967295#32,4294967295#32,0#32,0#32,0#32,1#32,4294967295#32]:Vx 32 8).toList)) (by kernel_rfl)) ?_))
  refine TLn (E_sv 0 inf31) (fun _=>?_)
  obtain ⟨m_1,hm_1,H⟩:=ltt_elim H
  refine TL_reE (j:=0) (A:=some (b1,0)) (cs:=e32 ((#v[4294967295#32,4294967295#32,4294967295#32,0#32,0#32,0#32,1#32,4294967295#32]:Vx 32 8).toList)) (cs':=e32 m_1.toList) rfl (congrArg (fun z:Vx 32 8=>e32 (Vector.toList z)) hm_1) ?_
  refine TL_nil (TX_next (TC_ret (TX_block_ret (TX_then_ret ?_))))
  obtain rfl:=sj H
  exact TXr (vs:=[_]) rfl ⟨(Res_agg (n:=8) rfl (by simp) (.o 0) isAgg31 inf31 rfl (lenV (f:=v32) m_1)),trivial⟩
 ·refine TC_seq (TC_region (TLv (V_bin rfl rfl (fun w=>eqlI w which 1)) ?_))
  refine TVa ?_
  obtain ⟨x2,hx2,H⟩:=ltt_elim H
  refine TLr 7 (congrArg vb hx2) ?_
  refine TL_nil (TX_next (TCb H (fun hc H=>?_) (fun hc H=>?_)))
  ·refine TC_seq (TC_region (TLv (V_buildArr (pv:=[(0,v32 4234356049#32),(1,v32 4089039554#32),(2,v32 2803342980#32),(3,v32 3169254061#32),(4,v32 4294967295#32),(5,v32 4294967295#32),(6,v32 0#32),(7,v32 4294967295#32)]) rfl rfl underlying31 inf31 inf29 rfl zer31 (cs:=e32 ((#v[4234356049#32,4089039554#32,2803342980#32,3169254061#32,4294967295#32,4294967295#32,0#32,4294967295#32]:Vx 32 8).toList)) (by kernel_rfl)) ?_))
   refine TLn (E_sv 0 inf31) (fun _=>?_)
   obtain ⟨m_2,hm_2,H⟩:=ltt_elim H
   refine TL_reE (j:=0) (A:=some (b1,0)) (cs:=e32 ((#v[4234356049#32,4089039554#32,2803342980#32,3169254061#32,4294967295#32,4294967295#32,0#32,4294967295#32]:Vx 32 8).toList)) (cs':=e32 m_2.toList) rfl (congrArg (fun z:Vx 32 8=>e32 (Vector.toList z)) hm_2) ?_
   refine TL_nil (TX_next (TC_ret (TX_block_ret (TX_then_ret ?_))))
   obtain rfl:=sj H
   exact TXr (vs:=[_]) rfl ⟨(Res_agg (n:=8) rfl (by simp) (.o 0) isAgg31 inf31 rfl (lenV (f:=v32) m_2)),trivial⟩
  ·refine TC_skip (TX_block_normal (TX_next (TC_seq (TC_region (TLv (V_buildArr (pv:=[(0,v32 4294967277#32),(1,v32 4294967295#32),(2,v32 4294967295#32),(3,v32 4294967295#32),(4,v32 4294967295#32),(5,v32 4294967295#32),(6,v32 4294967295#32),(7,v32 2147483647#32)]) rfl rfl underlying31 inf31 inf29 rfl zer31 (cs:=e32 ((#v[4294967277#32,4294967295#32,4294967295#32,4294967295#32,4294967295#32,4294967295#32,4294967295#32,2147483647#32]:Vx 32 8).toList)) (by kernel_rfl)) ?_)))))
   refine TLn (E_sv 0 inf31) (fun _=>?_)
   obtain ⟨m_3,hm_3,H⟩:=ltt_elim H
   refine TL_reE (j:=0) (A:=some (b1,0)) (cs:=e32 ((#v[4294967277#32,4294967295#32,4294967295#32,4294967295#32,4294967295#32,4294967295#32,4294967295#32,2147483647#32]:Vx 32 8).toList)) (cs':=e32 m_3.toList) rfl (congrArg (fun z:Vx 32 8=>e32 (Vector.toList z)) hm_3) ?_
   refine TL_nil (TX_next (TC_ret ?_))
   obtain rfl:=sj H
   exact TXr (vs:=[_]) rfl ⟨(Res_agg (n:=8) rfl (by simp) (.o 0) isAgg31 inf31 rfl (lenV (f:=v32) m_3)),trivial⟩
end Go.Proofs
end

section
namespace Go.Proofs
open Go Go.Kx
open TryI Try
def halberdref9_inverse (which:Int):Option (BitVec 64) :=
 ltt (decide (which=0)) fun (x1:Bool)=>(if x1=true then (some 1#64) else (ltt (decide (which=1)) fun (x2:Bool)=>(if x2=true then (some 3993025615#64) else (some 678152731#64))))
set_option maxHeartbeats 4000000 in
set_option maxRecDepth 20000 in
theorem F81_calls (which:Int) (r:BitVec 64) (H:halberdref9_inverse which=some r) :
  Does Try.prog 81 [vi which] [] [] (Γ:=Unit) (fun g=>v64 r) (fun g=>[]):=by
 intro w hmem hro hd
 refine calls_of (N:=8) (m0:=[(0,vi which)]) func81 rfl ntmps81 (argM_ok [vi which]) rfl hmem hro hd ?_
 unfold halberdref9_inverse at H
 refine TC_seq (TC_region (TVa ?_))
 refine TL_nil (TX_next (TC_seq (TC_seq (TC_region (TVm ?_)))))
 refine TL_nil (TX_next (TC_block (TC_seq (TC_region (TLv (V_bin rfl rfl (fun w=>eqlI w which 0)) ?_)))))
 refine TVa ?_
 obtain ⟨x1,hx1,H⟩:=ltt_elim H
 refine TLr 4 (congrArg vb hx1) ?_
 refine TL_nil (TX_next (TCb H (fun hc H=>?_) (fun hc H=>?_)))
 ·refine TC_seq (TC_region (TVa ?_))
  refine TL_nil (TX_next (TC_ret (TX_block_ret (TX_then_ret ?_))))
  obtain rfl:=sj H
  exact TX1
 ·refine TC_seq (TC_region (TLv (V_bin rfl rfl (fun w=>eqlI w which 1)) ?_))
  refine TVa ?_
  obtain ⟨x2,hx2,H⟩:=ltt_elim H
  refine TLr 6 (congrArg vb hx2) ?_
  refine TL_nil (TX_next (TCb H (fun hc H=>?_) (fun hc H=>?_)))
  ·refine TC_seq (TC_region (TVa ?_))
   refine TL_nil (TX_next (TC_ret (TX_block_ret (TX_then_ret ?_))))
   obtain rfl:=sj H
   exact TX1
  ·refine TC_skip (TX_block_normal (TX_next (TC_seq (TC_region (TVa ?_)))))
   refine TL_nil (TX_next (TC_ret ?_))
   obtain rfl:=sj H
   exact TX1
end Go.Proofs
end

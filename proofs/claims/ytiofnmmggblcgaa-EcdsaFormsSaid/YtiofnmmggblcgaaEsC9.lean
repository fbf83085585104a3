/-
  Part 9 of the proof of what several laws share.
-/
import Derived.Test.YtiofnmmggblcgaaEsC1
import Derived.Test.YtiofnmmggblcgaaEsC2
import Derived.Test.YtiofnmmggblcgaaEsC3
import Derived.Test.YtiofnmmggblcgaaEsC4
import Derived.Test.YtiofnmmggblcgaaEsC5
import Derived.Test.YtiofnmmggblcgaaEsC6
import Derived.Test.YtiofnmmggblcgaaEsC7
import Derived.Test.YtiofnmmggblcgaaEsC8
set_option linter.unusedVariables false
set_option linter.unusedSimpArgs false
section
namespace Go.Proofs
open Go Go.Kx
open Vector (replicate)
open TryI Try
def halberdref9_mont.b1 (a_:Vx 32 8) (b:Vx 32 8) (s0:Int × Vx 64 10) (s1:BitVec 64 × Int × Vx 64 10):Option ((BitVec 64 × Int × Vx 64 10) ⊕ (BitVec 64 × Vx 64 10)) :=
 if s1.2.1<8 then (if 0≤s1.2.1∧s1.2.1<(10:Int) then (if 0≤s1.2.1∧s1.2.1<(8:Int) then (if 0≤s0.1∧s0.1<(8:Int) then (ltt (((vg s1.2.2 ((s1.2.1).toNat))+(((vg a_ ((s1.2.1).toNat)).setWidth 64) * ((vg b ((s0.1).toNat)).setWidth 64)))+s1.1) fun (s_1:BitVec 64)=>(if 0≤s1.2.1∧s1.2.1<(10:Int) then (ltt (vp s1.2.2 ((s1.2.1).toNat) (s_1 &&& 4294967295#64)) fun (m_1:Vx 64 10)=>(ltt (w64 (s1.2.1+1)) fun (j1:Int)=>(some (.inl (s_1 >>> 32,j1,m_1))))) else none)) else none) else none) else none) else (some (.inr (s1.1,s1.2.2)))
def halberdref9_mont.b2 (r_1:Vx 32 8) (q1:BitVec 64) (s2:BitVec 64 × Int × Vx 64 10):Option ((BitVec 64 × Int × Vx 64 10) ⊕ (BitVec 64 × Vx 64 10)) :=
 if s2.2.1<8 then (if 0≤s2.2.1∧s2.2.1<(10:Int) then (if 0≤s2.2.1∧s2.2.1<(8:Int) then (ltt (((vg s2.2.2 ((s2.2.1).toNat))+(q1 * ((vg r_1 ((s2.2.1).toNat)).setWidth 64)))+s2.1) fun (s_3:BitVec 64)=>(if 0≤w64 (s2.2.1 - 1)∧w64 (s2.2.1 - 1)<(10:Int) then (ltt (vp s2.2.2 ((w64 (s2.2.1 - 1)).toNat) (s_3 &&& 4294967295#64)) fun (m_3:Vx 64 10)=>(ltt (w64 (s2.2.1+1)) fun (j2:Int)=>(some (.inl (s_3 >>> 32,j2,m_3))))) else none)) else none) else none) else (some (.inr (s2.1,s2.2.2)))
def halberdref9_mont.b0 (a_:Vx 32 8) (b:Vx 32 8) (r_1:Vx 32 8) (r_2:BitVec 64) (s0:Int × Vx 64 10):Option ((Int × Vx 64 10) ⊕ (Vx 64 10)) :=
 if s0.1<8 then ((loop (halberdref9_mont.b1 a_ b s0) BIG (0#64,0,s0.2)).bind fun (t_2:BitVec 64 × Vx 64 10)=>(ltt ((vg t_2.2 8)+t_2.1) fun (s_2:BitVec 64)=>(ltt (vp t_2.2 8 (s_2 &&& 4294967295#64)) fun (m_2:Vx 64 10)=>(ltt (((vg (vp m_2 9 (s_2 >>> 32)) 0) * r_2) &&& 4294967295#64) fun (q1:BitVec 64)=>(ltt (((vg (vp m_2 9 (s_2 >>> 32)) 0)+(q1 * ((vg r_1 0).setWidth 64))) >>> 32) fun (c1:BitVec 64)=>((loop (halberdref9_mont.b2 r_1 q1) BIG (c1,1,vp m_2 9 (s_2 >>> 32))).bind fun (t_3:BitVec 64 × Vx 64 10)=>(ltt ((vg t_3.2 8)+t_3.1) fun (s_4:BitVec 64)=>(ltt (vp t_3.2 7 (s_4 &&& 4294967295#64)) fun (m_4:Vx 64 10)=>(ltt (vp m_4 8 ((vg m_4 9)+(s_4 >>> 32))) fun (m_5:Vx 64 10)=>(ltt (w64 (s0.1+1)) fun (i1:Int)=>(some (.inl (i1,vp m_5 9 0#64))))))))))))) else (some (.inr s0.2))
def halberdref9_mont.b3 (t_1:Vx 64 10) (s3:Int × Vx 32 8):Option ((Int × Vx 32 8) ⊕ (Vx 32 8)) :=
 if s3.1<8 then (if 0≤s3.1∧s3.1<(10:Int) then (if 0≤s3.1∧s3.1<(8:Int) then (ltt (vp s3.2 ((s3.1).toNat) ((vg t_1 ((s3.1).toNat)).setWidth 32)) fun (m_6:Vx 32 8)=>(ltt (w64 (s3.1+1)) fun (i2:Int)=>(some (.inl (i2,m_6))))) else none) else none) else (some (.inr s3.2))
def halberdref9_mont (which:Int) (a_:Vx 32 8) (b:Vx 32 8):Option (Vx 32 8) :=
 (halberdref9_modulus which).bind fun (r_1:Vx 32 8)=>((halberdref9_inverse which).bind fun (r_2:BitVec 64)=>((loop (halberdref9_mont.b0 a_ b r_1 r_2) BIG (0,replicate 10 0#64)).bind fun (t_1:Vx 64 10)=>((loop (halberdref9_mont.b3 t_1) BIG (0,replicate 8 0#32)).bind fun (t_4:Vx 32 8)=>((if (0#64).toNat<((vg t_1 8)).toNat then (some true) else ((halberdref9_less t_4 r_1).bind fun (r_4:Bool)=>(some (!r_4)))).bind fun (j3:Bool)=>(if j3=true then ((halberdref9_minus t_4 r_1).bind fun (r_3:Vx 32 8)=>(some r_3)) else (some t_4))))))
set_option maxHeartbeats 4000000 in
set_option maxRecDepth 20000 in
theorem F47_calls (which:Int) (a_:Vx 32 8) (b:Vx 32 8) (r:Vx 32 8) (H:halberdref9_mont which a_ b=some r) :
  Does Try.prog 47 [vi which,aG [(8,e32 a_.toList)],aG [(8,e32 b.toList)]] [] [] (Γ:=Unit) (fun g=>aG [(8,e32 r.toList)]) (fun g=>[]):=by
 intro w hmem hro hd
 refine calls_of (N:=137) (m0:=[(0,vi which),(1,aG [(8,e32 a_.toList)]),(2,aG [(8,e32 b.toList)])]) func47 rfl ntmps47 (argM_ok [vi which,aG [(8,e32 a_.toList)],aG [(8,e32 b.toList)]]) rfl hmem hro hd ?_
 unfold halberdref9_mont at H
 refine TC_seq (TC_region (TLe (E_boxP [(8,e32 a_.toList)] rfl rfl ⟨(lenV (f:=v32) a_),trivial⟩) (fun b1=>?_)))
 refine TLe (E_boxP [(8,e32 b.toList)] rfl rfl ⟨(lenV (f:=v32) b),trivial⟩) (fun b2=>?_)
 refine TLe (E_al32 8 inf31 zer31) (fun b3=>?_)
 refine TL_nil (TX_next (TC_seq (TC_region (TVm ?_))))
 obtain ⟨r_1,hr_1,H⟩:=bind_elim H
 refine TLe (E_c0 (F79_calls which r_1 hr_1) call79 .z) (fun g_1=>?_)
 refine TVm ?_
 obtain ⟨r_2,hr_2,H⟩:=bind_elim H
 refine TLe (E_c0 (F81_calls which r_2 hr_2) call81 .z) (fun g_2=>?_)
 refine TLe (E_al32 8 inf31 zer31) (fun b4=>?_)
 refine TLn (E_sv (vs:=e32 r_1.toList) 0 inf31) (fun _=>?_)
 refine TVa ?_
 refine TL_nil (TX_next (TC_seq (TC_region (TLe (E_al64 10 inf107 zer107) (fun b5=>?_)))))
 refine TL_nil (TX_next (TC_seq (TC_seq (TC_region (TVa ?_)))))
 refine TL_nil (TX_next (TC_block ?_))
 obtain ⟨t_1,Hl,H⟩:=bind_elim H
 refine TC.sub (m':=[(4,_),(5,_),(6,_),(7,_),(8,_),(9,_),(10,_)]) ⟨rfl,rfl,rfl,rfl,rfl,rfl,rfl,trivial⟩ ?_
 refine TC.pull (is:=[4,3,2,1,0]) (L':=[_,_,_,_,_]) rfl ?_
 refine TC_loopL (id:=0) (body:=(halberdref9_mont.b0 a_ b r_1 r_2)) (σ:=Int × Vx 64 10) (Γ:=Unit) (Γx:=Unit) (fun s0 g0_=>[(4,ptr (some (b1,0)) 0),(5,ptr (some (b2,0)) 0),(6,ptr (some (b3,0)) 0),(7,ptr (some (b4,0)) 0),(8,v64 r_2),(9,ptr (some (b5,0)) 0),(10,vi s0.1)]) (fun s0 g0_=>[⟨some (b1,0),e32 a_.toList⟩,⟨some (b2,0),e32 b.toList⟩,⟨some (b3,0),e32 ((replicate 8 0#32).toList)⟩,⟨some (b4,0),e32 r_1.toList⟩,⟨some (b5,0),e64 s0.2.toList⟩]) (fun t g=>[(6,ptr (some (b3,0)) 0),(7,ptr (some (b4,0)) 0),(9,ptr (some (b5,0)) 0)]) (fun t g=>[⟨some (b3,0),e32 ((replicate 8 0#32).toList)⟩,⟨some (b4,0),e32 r_1.toList⟩,⟨some (b5,0),e64 t.toList⟩]) ?_ BIG (0,replicate 10 0#64) () t_1 Hl ?_
 ·intro s0 g0_ r1 H K hK hE
  unfold halberdref9_mont.b0 at H
  refine TC_seq (TC_seq (TC_region (TVm ?_)))
  refine TLv (V_bin rfl rfl (fun w=>lssI w s0.1 8)) ?_
  refine TL_nil (TX_next (TCd H (fun hc H=>?_) (fun hc H=>?_)))
  ·refine TC_skip (TX_next (TC_seq (TC_block (TC_seq (TC_region (TVa ?_))))))
   refine TL_nil (TX_next (TC_seq (TC_seq (TC_region (TVa ?_)))))
   refine TL_nil (TX_next (TC_block ?_))
   obtain ⟨t_2,Hl,H⟩:=bind_elim H
   refine TC.sub (m':=[(4,_),(5,_),(6,_),(7,_),(8,_),(9,_),(10,_),(11,_),(12,_)]) ⟨rfl,rfl,rfl,rfl,rfl,rfl,rfl,rfl,rfl,trivial⟩ ?_
   refine TC.pull (is:=[0,0,0,0,0]) (L':=[_,_,_,_,_]) rfl ?_
   refine TC_loopL (id:=2) (body:=(halberdref9_mont.b1 a_ b s0)) (σ:=BitVec 64 × Int × Vx 64 10) (Γ:=Unit) (Γx:=Unit) (fun s1 g1_=>[(4,ptr (some (b1,0)) 0),(5,ptr (some (b2,0)) 0),(6,ptr (some (b3,0)) 0),(7,ptr (some (b4,0)) 0),(8,v64 r_2),(9,ptr (some (b5,0)) 0),(10,vi s0.1),(11,v64 s1.1),(12,vi s1.2.1)]) (fun s1 g1_=>[⟨some (b1,0),e32 a_.toList⟩,⟨some (b2,0),e32 b.toList⟩,⟨some (b3,0),e32 ((replicate 8 0#32).toList)⟩,⟨some (b4,0),e32 r_1.toList⟩,⟨some (b5,0),e64 s1.2.2.toList⟩]) (fun t g=>[(4,ptr (some (b1,0)) 0),(5,ptr (some (b2,0)) 0),(6,ptr (some (b3,0)) 0),(7,ptr (some (b4,0)) 0),(8,v64 r_2),(9,ptr (some (b5,0)) 0),(10,vi s0.1),(11,v64 t.1)]) (fun t g=>[⟨some (b1,0),e32 a_.toList⟩,⟨some (b2,0),e32 b.toList⟩,⟨some (b3,0),e32 ((replicate 8 0#32).toList)⟩,⟨some (b4,0),e32 r_1.toList⟩,⟨some (b5,0),e64 t.2.toList⟩]) ?_ BIG (0#64,0,s0.2) () t_2 Hl ?_
   ·intro s1 g1_ r1 H K hK hE
    unfold halberdref9_mont.b1 at H
    refine TC_seq (TC_seq (TC_region (TVm ?_)))
    refine TLv (V_bin rfl rfl (fun w=>lssI w s1.2.1 8)) ?_
    refine TL_nil (TX_next (TCd H (fun hc H=>?_) (fun hc H=>?_)))
    ·refine TC_skip (TX_next (TC_seq (TC_block (TC_seq ?_))))
     obtain ⟨h1,H⟩:=if_elim H
     obtain ⟨h2,H⟩:=if_elim H
     obtain ⟨h3,H⟩:=if_elim H
     obtain ⟨s_1,hs_1,H⟩:=ltt_elim H
     refine TA_begin [] 16 (by kernel_rfl) (N:=16) rfl ?_
     refine TA_mix (is:=[]) (done':=dn 16 32767) [itV 0 32 (vi s1.2.1) [],itV 1 33 (ptr (some (b5,0)) ((s1.2.1).toNat)) [0],itV 2 34 (v64 (vg s1.2.2 ((s1.2.1).toNat))) [1],itV 3 35 (vi s1.2.1) [],itV 4 36 (ptr (some (b1,0)) ((s1.2.1).toNat)) [3],itV 5 37 (v32 (vg a_ ((s1.2.1).toNat))) [4],itV 6 38 (v64 ((vg a_ ((s1.2.1).toNat)).setWidth 64)) [5],itV 7 39 (vi s0.1) [],itV 8 40 (ptr (some (b2,0)) ((s0.1).toNat)) [7],itV 9 41 (v32 (vg b ((s0.1).toNat))) [8],itV 10 42 (v64 ((vg b ((s0.1).toNat)).setWidth 64)) [9],itV 11 43 (v64 (((vg a_ ((s1.2.1).toNat)).setWidth 64) * ((vg b ((s0.1).toNat)).setWidth 64))) [10,6],itV 12 44 (v64 ((vg s1.2.2 ((s1.2.1).toNat))+(((vg a_ ((s1.2.1).toNat)).setWidth 64) * ((vg b ((s0.1).toNat)).setWidth 64)))) [2,11],itV 13 45 (v64 s1.1) [],itV 14 46 (v64 (((vg s1.2.2 ((s1.2.1).toNat))+(((vg a_ ((s1.2.1).toNat)).setWidth 64) * ((vg b ((s0.1).toNat)).setWidth 64)))+s1.1)) [12,13]] [] 1 (by kernel_rfl) (QP.then (QP.block (QP.then (QP.then (QP.block (QP.then (QP.block (QP.then (QP.then (QP.block (QP.then QP.body))))))))))) (by kernel_rfl) rfl (.v rfl (V_move rfl) (.v rfl (V_idxArr (i:=s1.2.1) rfl rfl underlying107 inf55 rfl h1.1 h1.2 (k:=(s1.2.1).toNat) (k01 _)) (.v rfl (V_load rfl (.o 4) (get_vec (f:=v64) (V:=s1.2.2) (toNat_lt h1.1 h1.2)) isAgg55) (.v rfl (V_move rfl) (.v rfl (V_idxArr (i:=s1.2.1) rfl rfl underlying31 inf29 rfl h2.1 h2.2 (k:=(s1.2.1).toNat) (k01 _)) (.v rfl (V_load rfl (.o 0) (get_vec (f:=v32) (V:=a_) (toNat_lt h2.1 h2.2)) isAgg29) (.v rfl (V_conv rfl (fun w=>cv32to64 w _ _ underlying55 (und29) (vg a_ ((s1.2.1).toNat)))) (.v rfl (V_move rfl) (.v rfl (V_idxArr (i:=s0.1) rfl rfl underlying31 inf29 rfl h3.1 h3.2 (k:=(s0.1).toNat) (k01 _)) (.v rfl (V_load rfl (.o 1) (get_vec (f:=v32) (V:=b) (toNat_lt h3.1 h3.2)) isAgg29) (.v rfl (V_conv rfl (fun w=>cv32to64 w _ _ underlying55 (und29) (vg b ((s0.1).toNat)))) (.v rfl (V_bin rfl rfl (fun w=>mul64 w ((vg a_ ((s1.2.1).toNat)).setWidth 64) ((vg b ((s0.1).toNat)).setWidth 64))) (.v rfl (V_bin rfl rfl (fun w=>add64 w (vg s1.2.2 ((s1.2.1).toNat)) (((vg a_ ((s1.2.1).toNat)).setWidth 64) * ((vg b ((s0.1).toNat)).setWidth 64)))) (.v rfl (V_move rfl) (.v rfl (V_bin rfl rfl (fun w=>add64 w ((vg s1.2.2 ((s1.2.1).toNat))+(((vg a_ ((s1.2.1).toNat)).setWidth 64) * ((vg b ((s0.1).toNat)).setWidth 64))) s1.1)) .nil))))))))))))))) .nil (by kernel_rfl) rfl (fun γ=>?_)
     refine TA_cut [(46,v64 (((vg s1.2.2 ((s1.2.1).toNat))+(((vg a_ ((s1.2.1).toNat)).setWidth 64) * ((vg b ((s0.1).toNat)).setWidth 64)))+s1.1)),(4,ptr (some (b1,0)) 0),(5,ptr (some (b2,0)) 0),(6,ptr (some (b3,0)) 0),(7,ptr (some (b4,0)) 0),(8,v64 r_2),(9,ptr (some (b5,0)) 0),(10,vi s0.1),(12,vi s1.2.1)] [⟨some (b1,0),e32 a_.toList⟩,⟨some (b2,0),e32 b.toList⟩,⟨some (b3,0),e32 ((replicate 8 0#32).toList)⟩,⟨some (b4,0),e32 r_1.toList⟩,⟨some (b5,0),e64 s1.2.2.toList⟩] ⟨rfl,rfl,rfl,rfl,rfl,rfl,rfl,rfl,rfl,trivial⟩ rfl ?_
     refine TA_all (rs:=[15]) (by kernel_rfl) rfl ?_
     refine ⟨?_,trivial⟩
     refine TO_v (is:=[]) (done':=dn 16 65535) rfl rfl rfl rfl (by kernel_rfl) (V_assign rfl) (fun _=>rfl) ?_
     refine TA_re (d:=13) (v:=v64 (((vg s1.2.2 ((s1.2.1).toNat))+(((vg a_ ((s1.2.1).toNat)).setWidth 64) * ((vg b ((s0.1).toNat)).setWidth 64)))+s1.1)) (v':=v64 s_1) rfl (congrArg v64 hs_1) ?_
     refine TA_done (by kernel_rfl) ?_ 0
     refine TX_next (TC_seq (TC_region (TVm ?_)))
     refine TVm ?_
     refine TLv (V_bin rfl rfl (fun w=>and64 w s_1 4294967295#64)) ?_
     obtain ⟨h4,H⟩:=if_elim H
     refine TLv (V_idxArr (i:=s1.2.1) rfl rfl underlying107 inf55 rfl h4.1 h4.2 (k:=(s1.2.1).toNat) (k01 _)) ?_
     refine TLn (E_store (j:=4) rfl rfl inf55 rfl rfl rfl (by simpa using (toNat_lt h4.1 h4.2)) (cs':=e64 ((vp s1.2.2 ((s1.2.1).toNat) (s_1 &&& 4294967295#64)).toList)) set_vec) (fun _=>?_)
     obtain ⟨m_1,hm_1,H⟩:=ltt_elim H
     refine TL_reE (j:=4) (A:=some (b5,0)) (cs:=e64 ((vp s1.2.2 ((s1.2.1).toNat) (s_1 &&& 4294967295#64)).toList)) (cs':=e64 m_1.toList) rfl (congrArg (fun z:Vx 64 10=>e64 (Vector.toList z)) hm_1) ?_
     refine TL_nil (TX_next (TC_region (TVm ?_)))
     refine TLv (V_bin rfl rfl (fun w=>shr64 w s_1 .u64 32 (by decide))) ?_
     refine TVa ?_
     refine TL_nil (TX_block_normal (TX_next (TC_region (TVm ?_))))
     refine TLv (V_bin rfl rfl (fun w=>addI w s1.2.1 1)) ?_
     refine TVa ?_
     obtain ⟨j1,hj1,H⟩:=ltt_elim H
     refine TLr 12 (congrArg vi hj1) ?_
     refine TL_nil ?_
     obtain rfl:=sj H
     exact TXk [0,0,0,0,0] (hK (s_1 >>> 32,j1,m_1) rfl ())
    ·refine TC_exit (TX_then_exit (TX_then_exit ?_))
     obtain rfl:=sj H
     exact TXj [0,0,0,0,0] (hE (s1.1,s1.2.2) rfl ())
   ·intro g
    refine TX_block_exit (TX_next (TC_seq (TC_region (TLv (V_idxArr (i:=8) rfl rfl underlying107 inf55 rfl (by decide) (by decide) (k:=8) (k01 _)) ?_))))
    refine TLv (V_load rfl (.o 4) (get_vec (f:=v64) (V:=t_2.2) (by decide:8<10)) isAgg55) ?_
    refine TVm ?_
    refine TLv (V_bin rfl rfl (fun w=>add64 w (vg t_2.2 8) t_2.1)) ?_
    refine TVa ?_
    obtain ⟨s_2,hs_2,H⟩:=ltt_elim H
    refine TLr 14 (congrArg v64 hs_2) ?_
    refine TL_nil (TX_next (TC_seq (TC_region (TVm ?_))))
    refine TLv (V_bin rfl rfl (fun w=>and64 w s_2 4294967295#64)) ?_
    refine TLv (V_idxArr (i:=8) rfl rfl underlying107 inf55 rfl (by decide) (by decide) (k:=8) (k01 _)) ?_
    refine TLn (E_store (j:=4) rfl rfl inf55 rfl rfl rfl (by simp) (cs':=e64 ((vp t_2.2 8 (s_2 &&& 4294967295#64)).toList)) set_vec) (fun _=>?_)
    obtain ⟨m_2,hm_2,H⟩:=ltt_elim H
    refine TL_reE (j:=4) (A:=some (b5,0)) (cs:=e64 ((vp t_2.2 8 (s_2 &&& 4294967295#64)).toList)) (cs':=e64 m_2.toList) rfl (congrArg (fun z:Vx 64 10=>e64 (Vector.toList z)) hm_2) ?_
    refine TL_nil (TX_next (TC_seq (TC_region (TVm ?_))))
    refine TLv (V_bin rfl rfl (fun w=>shr64 w s_2 .u64 32 (by decide))) ?_
    refine TLv (V_idxArr (i:=9) rfl rfl underlying107 inf55 rfl (by decide) (by decide) (k:=9) (k01 _)) ?_
    refine TLn (E_store (j:=4) rfl rfl inf55 rfl rfl rfl (by simp) (cs':=e64 ((vp m_2 9 (s_2 >>> 32)).toList)) set_vec) (fun _=>?_)
    refine TL_nil (TX_next (TC_seq (TC_region (TLv (V_idxArr (i:=0) rfl rfl underlying107 inf55 rfl (by decide) (by decide) (k:=0) (k01 _)) ?_))))
    refine TLv (V_load rfl (.o 4) (get_vec (f:=v64) (V:=(vp m_2 9 (s_2 >>> 32))) (by decide:0<10)) isAgg55) ?_
    refine TVm ?_
    refine TLv (V_bin rfl rfl (fun w=>mul64 w (vg (vp m_2 9 (s_2 >>> 32)) 0) r_2)) ?_
    refine TLv (V_bin rfl rfl (fun w=>and64 w ((vg (vp m_2 9 (s_2 >>> 32)) 0) * r_2) 4294967295#64)) ?_
    refine TVa ?_
    obtain ⟨q1,hq1,H⟩:=ltt_elim H
    refine TLr 15 (congrArg v64 hq1) ?_
    refine TL_nil (TX_next (TC_seq (TC_region (TLv (V_idxArr (i:=0) rfl rfl underlying107 inf55 rfl (by decide) (by decide) (k:=0) (k01 _)) ?_))))
    refine TLv (V_load rfl (.o 4) (get_vec (f:=v64) (V:=(vp m_2 9 (s_2 >>> 32))) (by decide:0<10)) isAgg55) ?_
    refine TVm ?_
    refine TLv (V_idxArr (i:=0) rfl rfl underlying31 inf29 rfl (by decide) (by decide) (k:=0) (k01 _)) ?_
    refine TLv (V_load rfl (.o 3) (get_vec (f:=v32) (V:=r_1) (by decide:0<8)) isAgg29) ?_
    refine TLv (V_conv rfl (fun w=>cv32to64 w _ _ underlying55 (und29) (vg r_1 0))) ?_
    refine TLv (V_bin rfl rfl (fun w=>mul64 w q1 ((vg r_1 0).setWidth 64))) ?_
    refine TLv (V_bin rfl rfl (fun w=>add64 w (vg (vp m_2 9 (s_2 >>> 32)) 0) (q1 * ((vg r_1 0).setWidth 64)))) ?_
    refine TLv (V_bin rfl rfl (fun w=>shr64 w ((vg (vp m_2 9 (s_2 >>> 32)) 0)+(q1 * ((vg r_1 0).setWidth 64))) .u64 32 (by decide))) ?_
    refine TVa ?_
    obtain ⟨c1,hc1,H⟩:=ltt_elim H
    refine TLr 11 (congrArg v64 hc1) ?_
    refine TL_nil (TX_next (TC.sub (m':=[(4,_),(5,_),(6,_),(7,_),(8,_),(9,_),(10,_),(11,_),(15,_)]) ⟨rfl,rfl,rfl,rfl,rfl,rfl,rfl,rfl,rfl,trivial⟩ ?_))
    refine TC.pull (is:=[0,0,0,0,0]) (L':=[_,_,_,_,_]) rfl ?_
    refine TC_seq (TC_seq (TC_region (TVa ?_)))
    refine TL_nil (TX_next (TC_block ?_))
    obtain ⟨t_3,Hl,H⟩:=bind_elim H
    refine TC.sub (m':=[(4,_),(5,_),(6,_),(7,_),(8,_),(9,_),(10,_),(11,_),(15,_),(16,_)]) ⟨rfl,rfl,rfl,rfl,rfl,rfl,rfl,rfl,rfl,rfl,trivial⟩ ?_
    refine TC.pull (is:=[0,0,0,0,0]) (L':=[_,_,_,_,_]) rfl ?_
    refine TC_loopL (id:=4) (body:=(halberdref9_mont.b2 r_1 q1)) (σ:=BitVec 64 × Int × Vx 64 10) (Γ:=Unit) (Γx:=Unit) (fun s2 g2_=>[(4,ptr (some (b1,0)) 0),(5,ptr (some (b2,0)) 0),(6,ptr (some (b3,0)) 0),(7,ptr (some (b4,0)) 0),(8,v64 r_2),(9,ptr (some (b5,0)) 0),(10,vi s0.1),(11,v64 s2.1),(15,v64 q1),(16,vi s2.2.1)]) (fun s2 g2_=>[⟨some (b1,0),e32 a_.toList⟩,⟨some (b2,0),e32 b.toList⟩,⟨some (b3,0),e32 ((replicate 8 0#32).toList)⟩,⟨some (b4,0),e32 r_1.toList⟩,⟨some (b5,0),e64 s2.2.2.toList⟩]) (fun t g=>[(4,ptr (some (b1,0)) 0),(5,ptr (some (b2,0)) 0),(6,ptr (some (b3,0)) 0),(7,ptr (some (b4,0)) 0),(8,v64 r_2),(9,ptr (some (b5,0)) 0),(10,vi s0.1),(11,v64 t.1)]) (fun t g=>[⟨some (b1,0),e32 a_.toList⟩,⟨some (b2,0),e32 b.toList⟩,⟨some (b3,0),e32 ((replicate 8 0#32).toList)⟩,⟨some (b4,0),e32 r_1.toList⟩,⟨some (b5,0),e64 t.2.toList⟩]) ?_ BIG (c1,1,vp m_2 9 (s_2 >>> 32)) () t_3 Hl ?_
    ·intro s2 g2_ r1 H K hK hE
     unfold halberdref9_mont.b2 at H
     refine TC_seq (TC_seq (TC_region (TVm ?_)))
     refine TLv (V_bin rfl rfl (fun w=>lssI w s2.2.1 8)) ?_
     refine TL_nil (TX_next (TCd H (fun hc H=>?_) (fun hc H=>?_)))
     ·refine TC_skip (TX_next (TC_seq (TC_block (TC_seq ?_))))
      obtain ⟨h5,H⟩:=if_elim H
      obtain ⟨h6,H⟩:=if_elim H
      obtain ⟨s_3,hs_3,H⟩:=ltt_elim H
      refine TA_begin [] 13 (by kernel_rfl) (N:=13) rfl ?_
      refine TA_mix (is:=[]) (done':=dn 13 4095) [itV 0 81 (vi s2.2.1) [],itV 1 82 (ptr (some (b5,0)) ((s2.2.1).toNat)) [0],itV 2 83 (v64 (vg s2.2.2 ((s2.2.1).toNat))) [1],itV 3 84 (v64 q1) [],itV 4 85 (vi s2.2.1) [],itV 5 86 (ptr (some (b4,0)) ((s2.2.1).toNat)) [4],itV 6 87 (v32 (vg r_1 ((s2.2.1).toNat))) [5],itV 7 88 (v64 ((vg r_1 ((s2.2.1).toNat)).setWidth 64)) [6],itV 8 89 (v64 (q1 * ((vg r_1 ((s2.2.1).toNat)).setWidth 64))) [7,3],itV 9 90 (v64 ((vg s2.2.2 ((s2.2.1).toNat))+(q1 * ((vg r_1 ((s2.2.1).toNat)).setWidth 64)))) [8,2],itV 10 91 (v64 s2.1) [],itV 11 92 (v64 (((vg s2.2.2 ((s2.2.1).toNat))+(q1 * ((vg r_1 ((s2.2.1).toNat)).setWidth 64)))+s2.1)) [9,10]] [] 1 (by kernel_rfl) (QP.then (QP.block (QP.then (QP.then (QP.block (QP.then (QP.block (QP.then (QP.then (QP.block (QP.then QP.body))))))))))) (by kernel_rfl) rfl (.v rfl (V_move rfl) (.v rfl (V_idxArr (i:=s2.2.1) rfl rfl underlying107 inf55 rfl h5.1 h5.2 (k:=(s2.2.1).toNat) (k01 _)) (.v rfl (V_load rfl (.o 4) (get_vec (f:=v64) (V:=s2.2.2) (toNat_lt h5.1 h5.2)) isAgg55) (.v rfl (V_move rfl) (.v rfl (V_move rfl) (.v rfl (V_idxArr (i:=s2.2.1) rfl rfl underlying31 inf29 rfl h6.1 h6.2 (k:=(s2.2.1).toNat) (k01 _)) (.v rfl (V_load rfl (.o 3) (get_vec (f:=v32) (V:=r_1) (toNat_lt h6.1 h6.2)) isAgg29) (.v rfl (V_conv rfl (fun w=>cv32to64 w _ _ underlying55 (und29) (vg r_1 ((s2.2.1).toNat)))) (.v rfl (V_bin rfl rfl (fun w=>mul64 w q1 ((vg r_1 ((s2.2.1).toNat)).setWidth 64))) (.v rfl (V_bin rfl rfl (fun w=>add64 w (vg s2.2.2 ((s2.2.1).toNat)) (q1 * ((vg r_1 ((s2.2.1).toNat)).setWidth 64)))) (.v rfl (V_move rfl) (.v rfl (V_bin rfl rfl (fun w=>add64 w ((vg s2.2.2 ((s2.2.1).toNat))+(q1 * ((vg r_1 ((s2.2.1).toNat)).setWidth 64))) s2.1)) .nil)))))))))))) .nil (by kernel_rfl) rfl (fun γ=>?_)
      refine TA_cut [(92,v64 (((vg s2.2.2 ((s2.2.1).toNat))+(q1 * ((vg r_1 ((s2.2.1).toNat)).setWidth 64)))+s2.1)),(4,ptr (some (b1,0)) 0),(5,ptr (some (b2,0)) 0),(6,ptr (some (b3,0)) 0),(7,ptr (some (b4,0)) 0),(8,v64 r_2),(9,ptr (some (b5,0)) 0),(10,vi s0.1),(15,v64 q1),(16,vi s2.2.1)] [⟨some (b1,0),e32 a_.toList⟩,⟨some (b2,0),e32 b.toList⟩,⟨some (b3,0),e32 ((replicate 8 0#32).toList)⟩,⟨some (b4,0),e32 r_1.toList⟩,⟨some (b5,0),e64 s2.2.2.toList⟩] ⟨rfl,rfl,rfl,rfl,rfl,rfl,rfl,rfl,rfl,rfl,trivial⟩ rfl ?_
      refine TA_all (rs:=[12]) (by kernel_rfl) rfl ?_
      refine ⟨?_,trivial⟩
      refine TO_v (is:=[]) (done':=dn 13 8191) rfl rfl rfl rfl (by kernel_rfl) (V_assign rfl) (fun _=>rfl) ?_
      refine TA_re (d:=17) (v:=v64 (((vg s2.2.2 ((s2.2.1).toNat))+(q1 * ((vg r_1 ((s2.2.1).toNat)).setWidth 64)))+s2.1)) (v':=v64 s_3) rfl (congrArg v64 hs_3) ?_
      refine TA_done (by kernel_rfl) ?_ 0
      refine TX_next (TC_seq (TC_region (TVm ?_)))
      refine TLv (V_bin rfl rfl (fun w=>subI w s2.2.1 1)) ?_
      refine TVm ?_
      refine TLv (V_bin rfl rfl (fun w=>and64 w s_3 4294967295#64)) ?_
      obtain ⟨h7,H⟩:=if_elim H
      refine TLv (V_idxArr (i:=w64 (s2.2.1 - 1)) rfl rfl underlying107 inf55 rfl h7.1 h7.2 (k:=(w64 (s2.2.1 - 1)).toNat) (k01 _)) ?_
      refine TLn (E_store (j:=4) rfl rfl inf55 rfl rfl rfl (by simpa using (toNat_lt h7.1 h7.2)) (cs':=e64 ((vp s2.2.2 ((w64 (s2.2.1 - 1)).toNat) (s_3 &&& 4294967295#64)).toList)) set_vec) (fun _=>?_)
      obtain ⟨m_3,hm_3,H⟩:=ltt_elim H
      refine TL_reE (j:=4) (A:=some (b5,0)) (cs:=e64 ((vp s2.2.2 ((w64 (s2.2.1 - 1)).toNat) (s_3 &&& 4294967295#64)).toList)) (cs':=e64 m_3.toList) rfl (congrArg (fun z:Vx 64 10=>e64 (Vector.toList z)) hm_3) ?_
      refine TL_nil (TX_next (TC_region (TVm ?_)))
      refine TLv (V_bin rfl rfl (fun w=>shr64 w s_3 .u64 32 (by decide))) ?_
      refine TVa ?_
      refine TL_nil (TX_block_normal (TX_next (TC_region (TVm ?_))))
      refine TLv (V_bin rfl rfl (fun w=>addI w s2.2.1 1)) ?_
      refine TVa ?_
      obtain ⟨j2,hj2,H⟩:=ltt_elim H
      refine TLr 16 (congrArg vi hj2) ?_
      refine TL_nil ?_
      obtain rfl:=sj H
      exact TXk [0,0,0,0,0] (hK (s_3 >>> 32,j2,m_3) rfl ())
     ·refine TC_exit (TX_then_exit (TX_then_exit ?_))
      obtain rfl:=sj H
      exact TXj [0,0,0,0,0] (hE (s2.1,s2.2.2) rfl ())
    ·intro g
     refine TX_block_exit (TX_next (TC_seq (TC_region (TLv (V_idxArr (i:=8) rfl rfl underlying107 inf55 rfl (by decide) (by decide) (k:=8) (k01 _)) ?_))))
     refine TLv (V_load rfl (.o 4) (get_vec (f:=v64) (V:=t_3.2) (by decide:8<10)) isAgg55) ?_
     refine TVm ?_
     refine TLv (V_bin rfl rfl (fun w=>add64 w (vg t_3.2 8) t_3.1)) ?_
     refine TVa ?_
     obtain ⟨s_4,hs_4,H⟩:=ltt_elim H
     refine TLr 14 (congrArg v64 hs_4) ?_
     refine TL_nil (TX_next (TC_seq (TC_region (TVm ?_))))
     refine TLv (V_bin rfl rfl (fun w=>and64 w s_4 4294967295#64)) ?_
     refine TLv (V_idxArr (i:=7) rfl rfl underlying107 inf55 rfl (by decide) (by decide) (k:=7) (k01 _)) ?_
     refine TLn (E_store (j:=4) rfl rfl inf55 rfl rfl rfl (by simp) (cs':=e64 ((vp t_3.2 7 (s_4 &&& 4294967295#64)).toList)) set_vec) (fun _=>?_)
     obtain ⟨m_4,hm_4,H⟩:=ltt_elim H
     refine TL_reE (j:=4) (A:=some (b5,0)) (cs:=e64 ((vp t_3.2 7 (s_4 &&& 4294967295#64)).toList)) (cs':=e64 m_4.toList) rfl (congrArg (fun z:Vx 64 10=>e64 (Vector.toList z)) hm_4) ?_
     refine TL_nil (TX_next (TC_seq (TC_region (TLv (V_idxArr (i:=9) rfl rfl underlying107 inf55 rfl (by decide) (by decide) (k:=9) (k01 _)) ?_))))
     refine TLv (V_load rfl (.o 4) (get_vec (f:=v64) (V:=m_4) (by decide:9<10)) isAgg55) ?_
     refine TVm ?_
     refine TLv (V_bin rfl rfl (fun w=>shr64 w s_4 .u64 32 (by decide))) ?_
     refine TLv (V_bin rfl rfl (fun w=>add64 w (vg m_4 9) (s_4 >>> 32))) ?_
     refine TLv (V_idxArr (i:=8) rfl rfl underlying107 inf55 rfl (by decide) (by decide) (k:=8) (k01 _)) ?_
     refine TLn (E_store (j:=4) rfl rfl inf55 rfl rfl rfl (by simp) (cs':=e64 ((vp m_4 8 ((vg m_4 9)+(s_4 >>> 32))).toList)) set_vec) (fun _=>?_)
     obtain ⟨m_5,hm_5,H⟩:=ltt_elim H
     refine TL_reE (j:=4) (A:=some (b5,0)) (cs:=e64 ((vp m_4 8 ((vg m_4 9)+(s_4 >>> 32))).toList)) (cs':=e64 m_5.toList) rfl (congrArg (fun z:Vx 64 10=>e64 (Vector.toList z)) hm_5) ?_
     refine TL_nil (TX_next (TC_region (TLv (V_idxArr (i:=9) rfl rfl underlying107 inf55 rfl (by decide) (by decide) (k:=9) (k01 _)) ?_)))
     refine TLn (E_store (j:=4) rfl rfl inf55 rfl rfl rfl (by simp) (cs':=e64 ((vp m_5 9 0#64).toList)) (set_vec (f:=v64) (V:=m_5) (k:=9) (x:=0#64))) (fun _=>?_)
     refine TL_nil (TX_block_normal (TX_next (TC_region (TVm ?_))))
     refine TLv (V_bin rfl rfl (fun w=>addI w s0.1 1)) ?_
     refine TVa ?_
     obtain ⟨i1,hi1,H⟩:=ltt_elim H
     refine TLr 10 (congrArg vi hi1) ?_
     refine TL_nil ?_
     obtain rfl:=sj H
     exact TXk [0,0,0,0,0] (hK (i1,vp m_5 9 0#64) rfl ())
  ·refine TC_exit (TX_then_exit (TX_then_exit ?_))
   obtain rfl:=sj H
   exact TXj [2,2,2] (hE s0.2 rfl ())
 ·intro g
  refine TX_block_exit (TX_next (TC_seq (TC_region (TLe (E_al32 8 inf31 zer31) (fun b6=>?_)))))
  refine TL_nil (TX_next (TC_seq (TC_seq (TC_region (TVa ?_)))))
  refine TL_nil (TX_next (TC_block ?_))
  obtain ⟨t_4,Hl,H⟩:=bind_elim H
  refine TC.sub (m':=[(6,_),(7,_),(9,_),(18,_),(19,_)]) ⟨rfl,rfl,rfl,rfl,rfl,trivial⟩ ?_
  refine TC.pull (is:=[1,1,1,0]) (L':=[_,_,_,_]) rfl ?_
  refine TC_loopL (id:=6) (body:=(halberdref9_mont.b3 t_1)) (σ:=Int × Vx 32 8) (Γ:=Unit) (Γx:=Unit) (fun s3 g3_=>[(6,ptr (some (b3,0)) 0),(7,ptr (some (b4,0)) 0),(9,ptr (some (b5,0)) 0),(18,ptr (some (b6,0)) 0),(19,vi s3.1)]) (fun s3 g3_=>[⟨some (b3,0),e32 ((replicate 8 0#32).toList)⟩,⟨some (b4,0),e32 r_1.toList⟩,⟨some (b5,0),e64 t_1.toList⟩,⟨some (b6,0),e32 s3.2.toList⟩]) (fun t g=>[(6,ptr (some (b3,0)) 0),(7,ptr (some (b4,0)) 0),(9,ptr (some (b5,0)) 0),(18,ptr (some (b6,0)) 0)]) (fun t g=>[⟨some (b3,0),e32 ((replicate 8 0#32).toList)⟩,⟨some (b4,0),e32 r_1.toList⟩,⟨some (b5,0),e64 t_1.toList⟩,⟨some (b6,0),e32 t.toList⟩]) ?_ BIG (0,replicate 8 0#32) () t_4 Hl ?_
  ·intro s3 g3_ r1 H K hK hE
   unfold halberdref9_mont.b3 at H
   refine TC_seq (TC_seq (TC_region (TVm ?_)))
   refine TLv (V_bin rfl rfl (fun w=>lssI w s3.1 8)) ?_
   refine TL_nil (TX_next (TCd H (fun hc H=>?_) (fun hc H=>?_)))
   ·refine TC_skip (TX_next (TC_seq (TC_block (TC_region (TVm ?_)))))
    refine TVm ?_
    obtain ⟨h8,H⟩:=if_elim H
    refine TLv (V_idxArr (i:=s3.1) rfl rfl underlying107 inf55 rfl h8.1 h8.2 (k:=(s3.1).toNat) (k01 _)) ?_
    refine TLv (V_load rfl (.o 2) (get_vec (f:=v64) (V:=t_1) (toNat_lt h8.1 h8.2)) isAgg55) ?_
    refine TLv (V_conv rfl (fun w=>cv64to32 w _ _ underlying29 (und55) (vg t_1 ((s3.1).toNat)))) ?_
    obtain ⟨h9,H⟩:=if_elim H
    refine TLv (V_idxArr (i:=s3.1) rfl rfl underlying31 inf29 rfl h9.1 h9.2 (k:=(s3.1).toNat) (k01 _)) ?_
    refine TLn (E_store (j:=3) rfl rfl inf29 rfl rfl rfl (by simpa using (toNat_lt h9.1 h9.2)) (cs':=e32 ((vp s3.2 ((s3.1).toNat) ((vg t_1 ((s3.1).toNat)).setWidth 32)).toList)) set_vec) (fun _=>?_)
    obtain ⟨m_6,hm_6,H⟩:=ltt_elim H
    refine TL_reE (j:=3) (A:=some (b6,0)) (cs:=e32 ((vp s3.2 ((s3.1).toNat) ((vg t_1 ((s3.1).toNat)).setWidth 32)).toList)) (cs':=e32 m_6.toList) rfl (congrArg (fun z:Vx 32 8=>e32 (Vector.toList z)) hm_6) ?_
    refine TL_nil (TX_block_normal (TX_next (TC_region (TVm ?_))))
    refine TLv (V_bin rfl rfl (fun w=>addI w s3.1 1)) ?_
    refine TVa ?_
    obtain ⟨i2,hi2,H⟩:=ltt_elim H
    refine TLr 19 (congrArg vi hi2) ?_
    refine TL_nil ?_
    obtain rfl:=sj H
    exact TXk [0,0,0,0] (hK (i2,m_6) rfl ())
   ·refine TC_exit (TX_then_exit (TX_then_exit ?_))
    obtain rfl:=sj H
    exact TXj [0,0,0,0] (hE s3.2 rfl ())
  ·intro g
   refine TX_block_exit (TX_next (TC_seq (TC_seq (TC_region (TLv (V_idxArr (i:=8) rfl rfl underlying107 inf55 rfl (by decide) (by decide) (k:=8) (k01 _)) ?_)))))
   refine TLv (V_load rfl (.o 2) (get_vec (f:=v64) (V:=t_1) (by decide:8<10)) isAgg55) ?_
   refine TLv (V_bin rfl rfl (fun w=>gtr64 w (vg t_1 8) 0#64)) ?_
   refine TVm ?_
   obtain ⟨j3,Hj,H⟩:=bind_elim H
   refine TL_join (Γ:=Unit) (fun gj3=>[(6,ptr (some (b3,0)) 0),(7,ptr (some (b4,0)) 0),(18,ptr (some (b6,0)) 0),(132,vb j3)]) (fun gj3=>[⟨some (b3,0),e32 ((replicate 8 0#32).toList)⟩,⟨some (b4,0),e32 r_1.toList⟩,⟨some (b6,0),e32 t_4.toList⟩]) ?_ ?_
   ·intro gj3
    refine TX_next (TCb H (fun hc H=>?_) (fun hc H=>?_))
    ·refine TC_region (TLv (V_lag (.o 2) isAgg31 inf31) ?_)
     refine TLv (V_lag (.o 1) isAgg31 inf31) ?_
     obtain ⟨r_3,hr_3,H⟩:=bind_elim H
     refine TLe (E_c0 (F82_calls t_4 r_1 r_3 hr_3) call82 .z) (fun g_3=>?_)
     refine TLn (E_sv (vs:=e32 r_3.toList) 2 inf31) (fun _=>?_)
     refine TL_nil (TX_next (TC_seq (TC_region (TLv (V_lag (.o 2) isAgg31 inf31) ?_))))
     refine TLn (E_sv (vs:=e32 r_3.toList) 0 inf31) (fun _=>?_)
     refine TL_nil (TX_next (TC_ret ?_))
     obtain rfl:=sj H
     exact TXr (vs:=[_]) rfl ⟨(Res_agg (n:=8) rfl (by simp) (.o 0) isAgg31 inf31 rfl (lenV (f:=v32) r_3)),trivial⟩
    ·refine TC_skip (TX_next (TC_seq (TC_region (TLv (V_lag (.o 2) isAgg31 inf31) ?_))))
     refine TLn (E_sv (vs:=e32 t_4.toList) 0 inf31) (fun _=>?_)
     refine TL_nil (TX_next (TC_ret ?_))
     obtain rfl:=sj H
     exact TXr (vs:=[_]) rfl ⟨(Res_agg (n:=8) rfl (by simp) (.o 0) isAgg31 inf31 rfl (lenV (f:=v32) t_4)),trivial⟩
   ·intro hJ
    replace H:=Hj
    refine TFd (d:=127) H (fun hc H=>?_) (fun hc H=>?_)
    ·refine TLs ?_
     refine TLs ?_
     refine TLs ?_
     refine TLs ?_
     refine TVt ?_
     refine TL_nil ?_
     obtain rfl:=sj H
     exact TXj [0,0,1] (hJ ())
    ·refine TLw (V_lag (.o 3) isAgg31 inf31) ?_
     refine TLw (V_lag (.o 1) isAgg31 inf31) ?_
     obtain ⟨r_4,hr_4,H⟩:=bind_elim H
     refine TLu (E_c0 (F78_calls t_4 r_1 r_4 hr_4) call78 .z) (fun g_4=>?_)
     refine TLw (V_un rfl (fun w=>notB w r_4)) ?_
     refine TVf ?_
     refine TL_nil ?_
     obtain rfl:=sj H
     exact TXj [0,0,1] (hJ ())
end Go.Proofs
end

section
namespace Go.Kx
open Go Go.Proofs
theorem sw64 (x:BitVec 32):(x.setWidth 64).toNat=x.toNat:=by
 rw [BitVec.toNat_setWidth]; have:=x.isLt; omega
theorem low32 (s:BitVec 64):((s &&& 4294967295#64).setWidth 32).toNat=s.toNat % 2 ^ 32:=by
 rw [BitVec.toNat_setWidth,and32w]; omega
theorem ref_plus_ex (x y:Vx 32 8) : ∃ r,halberdref9_plus x y=some r∧n8 r.1+2 ^ 256 * r.2.toNat=n8 x+n8 y∧r.2.toNat≤1:=by
 obtain ⟨t,h1,h2⟩:=loop_inv (body:=halberdref9_plus.b0 y) (s0:=(0#64,0,x)) 8
  (fun k s=>s.2.1=(k:Int)∧s.1.toNat≤1∧(∀ j,k≤j → j<8 → wv s.2.2 j=wv x j)∧pv (2 ^ 32) (wv s.2.2) k+s.1.toNat * (2 ^ 32) ^ k=pv (2 ^ 32) (wv x) k+pv (2 ^ 32) (wv y) k)
  (fun t=>t.1.toNat≤1∧pv (2 ^ 32) (wv t.2) 8+t.1.toNat * (2 ^ 32) ^ 8=pv (2 ^ 32) (wv x) 8+pv (2 ^ 32) (wv y) 8) (by decide)
  ⟨rfl,Nat.zero_le _,fun _ _ _=>rfl,rfl⟩
  (fun k s hk hI=>by
   obtain ⟨c,i,z⟩:=s
   obtain ⟨hi,hc,hz,hv⟩:=hI
   dsimp only at hi hc hv hz
   subst hi
   obtain ⟨s,hs⟩ : ∃ s,s=(((vg z k).setWidth 64)+((vg y k).setWidth 64))+c:=⟨_,rfl⟩
   have hxk:=(vg z k).isLt
   have hyk:=(vg y k).isLt
   have es:s.toNat=(vg z k).toNat+(vg y k).toNat+c.toNat:=by
    rw [hs]; simp only [BitVec.toNat_add,sw64]; omega
   refine ⟨(s >>> 32,((k+1:Nat):Int),vp z k ((s &&& 4294967295#64).setWidth 32)),?_,rfl,?_,?_,?_⟩
   ·unfold halberdref9_plus.b0
    dsimp only
    simp only [Int.toNat_natCast]
    refine if_i (by omega) (if_i (by omega) (if_i (by omega) (ltt_i fun v hv=>if_i (by omega) (ltt_i fun v2 hv2=>ltt_i fun v3 hv3=>?_))))
    rw [← hs] at hv
    rw [hv3,hv2,hv,w64_s (by omega)]
   ·dsimp only; rw [shr32w,es]; omega
   ·intro j h1 h2
    dsimp only
    rw [wv_vp (by omega) h2,if_neg (by omega)]
    exact hz j (by omega) h2
   ·dsimp only
    rw [pv_vp1 (by omega),pow_s (2 ^ 32) k]
    refine step_up ?_ hv
    rw [low32,shr32w,es]
    have:(vg z k).toNat=wv x k:=hz k (Nat.le_refl _) (by omega)
    rw [this]
    have:(vg y k).toNat=wv y k:=rfl
    rw [this]
    omega)
  (fun s hI=>by
   obtain ⟨c,i,z⟩:=s
   obtain ⟨hi,hc,hz,hv⟩:=hI
   dsimp only at hi hc hv
   subst hi
   exact ⟨(c,z),by unfold halberdref9_plus.b0; exact if_n (by dsimp only; omega) rfl,hc,hv⟩)
 refine ⟨(t.2,t.1),bind_i h1 rfl,?_,h2.1⟩
 have e:(2 ^ 32:Nat) ^ 8=2 ^ 256:=by decide
 have:=h2.2
 rw [e] at this
 unfold n8
 rw [Nat.mul_comm (2 ^ 256)]; exact this
theorem ref_minus_ex (x y:Vx 32 8) : ∃ r,halberdref9_minus x y=some r ∧ ∃ b,b≤1∧n8 r+n8 y=n8 x+2 ^ 256 * b:=by
 obtain ⟨t,h1,h2⟩:=loop_inv (body:=halberdref9_minus.b0 y) (s0:=(0#64,0,x)) 8
  (fun k s=>s.2.1=(k:Int)∧s.1.toNat≤1∧(∀ j,k≤j → j<8 → wv s.2.2 j=wv x j)∧pv (2 ^ 32) (wv s.2.2) k+pv (2 ^ 32) (wv y) k=pv (2 ^ 32) (wv x) k+s.1.toNat * (2 ^ 32) ^ k)
  (fun t => ∃ b,b≤1∧pv (2 ^ 32) (wv t) 8+pv (2 ^ 32) (wv y) 8=pv (2 ^ 32) (wv x) 8+b * (2 ^ 32) ^ 8) (by decide)
  ⟨rfl,Nat.zero_le _,fun _ _ _=>rfl,rfl⟩
  (fun k s hk hI=>by
   obtain ⟨c,i,z⟩:=s
   obtain ⟨hi,hc,hz,hv⟩:=hI
   dsimp only at hi hc hv hz
   subst hi
   obtain ⟨s,hs⟩ : ∃ s,s=(((vg z k).setWidth 64) - ((vg y k).setWidth 64)) - c:=⟨_,rfl⟩
   have hxk:=(vg z k).isLt
   have hyk:=(vg y k).isLt
   have es:s.toNat=((vg z k).toNat+2 ^ 64 - (vg y k).toNat - c.toNat) % 2 ^ 64:=by
    rw [hs]; simp only [BitVec.toNat_sub,sw64]; omega
   have e63:(s >>> 63).toNat=s.toNat / 2 ^ 63:=by rw [BitVec.toNat_ushiftRight,Nat.shiftRight_eq_div_pow]
   refine ⟨(s >>> 63,((k+1:Nat):Int),vp z k ((s &&& 4294967295#64).setWidth 32)),?_,rfl,?_,?_,?_⟩
   ·unfold halberdref9_minus.b0
    dsimp only
    simp only [Int.toNat_natCast]
    refine if_i (by omega) (if_i (by omega) (if_i (by omega) (ltt_i fun v hv=>if_i (by omega) (ltt_i fun v2 hv2=>ltt_i fun v3 hv3=>?_))))
    rw [← hs] at hv
    rw [hv3,hv2,hv,w64_s (by omega)]
   ·dsimp only; rw [e63,es]; omega
   ·intro j h1 h2
    dsimp only
    rw [wv_vp (by omega) h2,if_neg (by omega)]
    exact hz j (by omega) h2
   ·dsimp only
    rw [pv_vp1 (by omega),pow_s (2 ^ 32) k]
    refine step_dn ?_ hv
    rw [low32,e63,es]
    have:(vg z k).toNat=wv x k:=hz k (Nat.le_refl _) (by omega)
    rw [this] at hxk ⊢
    have:(vg y k).toNat=wv y k:=rfl
    rw [this] at hyk ⊢
    omega)
  (fun s hI=>by
   obtain ⟨c,i,z⟩:=s
   obtain ⟨hi,hc,hz,hv⟩:=hI
   dsimp only at hi hc hv
   subst hi
   exact ⟨z,by unfold halberdref9_minus.b0; exact if_n (by dsimp only; omega) rfl,c.toNat,hc,hv⟩)
 obtain ⟨b,hb,e2⟩:=h2
 refine ⟨t,bind_i h1 rfl,b,hb,?_⟩
 have e:(2 ^ 32:Nat) ^ 8=2 ^ 256:=by decide
 rw [e] at e2
 unfold n8
 rw [Nat.mul_comm (2 ^ 256)]; exact e2
theorem pv_lt_top {B:Nat} {f g:Nat → Nat} (k:Nat) : ∀ d,(∀ j,k≤j → j<k+d → f j=g j) → (pv B f (k+d)<pv B g (k+d) ↔ pv B f k<pv B g k)
 | 0,_=>Iff.rfl
 | d+1,h=>by
  show pv B f (k+d)+f (k+d) * B ^ (k+d)<pv B g (k+d)+g (k+d) * B ^ (k+d) ↔ _
  rw [h (k+d) (by omega) (by omega), ← pv_lt_top k d fun j h1 h2=>h j h1 (by omega)]
  omega
theorem pv_lt_dig {B:Nat} {f g:Nat → Nat} (hf : ∀ j,f j<B) (hg : ∀ j,g j<B) {k:Nat} (hne:f k ≠ g k):pv B f (k+1)<pv B g (k+1) ↔ f k<g k:=by
 show pv B f k+f k * B ^ k<pv B g k+g k * B ^ k ↔ _
 have h1:=pv_lt hf k
 have h2:=pv_lt hg k
 constructor
 ·intro h
  by_cases hlt:f k<g k
  ·exact hlt
  ·have:=Nat.mul_le_mul_right (B ^ k) (show g k+1≤f k by omega)
   rw [Nat.add_mul] at this
   omega
 ·intro h
  have:=Nat.mul_le_mul_right (B ^ k) (show f k+1≤g k by omega)
  rw [Nat.add_mul] at this
  omega
theorem ref_less_eq (x y:Vx 32 8):halberdref9_less x y=some (decide (n8 x<n8 y)):=by
 have : ∃ t,loop (halberdref9_less.b0 x y) BIG 7=some t∧(match t with | .inl _=>n8 x=n8 y | .inr b=>b=decide (n8 x<n8 y)):=by
  refine loop_ex (body:=halberdref9_less.b0 x y) (fun r => ∃ t,r=some t∧(match t with | .inl _=>n8 x=n8 y | .inr b=>b=decide (n8 x<n8 y))) 8 BIG
   (fun d s=>s=(d:Int) - 1∧d≤8 ∧ ∀ j,d≤j → j<8 → wv x j=wv y j) 7 ⟨rfl,by omega,fun j h1 h2=>by omega⟩ (by decide) ?_ ?_
  ·rintro k s ⟨hs,hk,he⟩
   have hs':s=(k:Int):=by omega
   subst hs'
   unfold halberdref9_less.b0
   simp only [Int.toNat_natCast]
   rw [if_pos (by omega:(0:Int)≤k),if_pos (by omega:(0:Int)≤k∧(k:Int)<8),if_pos (by omega:(0:Int)≤k∧(k:Int)<8)]
   by_cases hne:vg x k ≠ vg y k
   ·rw [if_pos hne,if_pos (by omega:(0:Int)≤k∧(k:Int)<8),if_pos (by omega:(0:Int)≤k∧(k:Int)<8)]
    refine .inr ⟨_,rfl,_,rfl,?_⟩
    have hne':wv x k ≠ wv y k:=fun h=>hne (BitVec.eq_of_toNat_eq h)
    have h1:n8 x<n8 y ↔ wv x k<wv y k:=by
     rw [← pv_lt_dig (wv_lt x) (wv_lt y) hne']
     have:=pv_lt_top (B:=2 ^ 32) (f:=wv x) (g:=wv y) (k+1) (7 - k) fun j h1 h2=>he j h1 (by omega)
     rw [show k+1+(7 - k)=8 by omega] at this
     exact this
    exact decide_eq_decide.2 h1.symm
   ·rw [if_neg hne]
    refine .inl ⟨_,rfl,?_,by omega,fun j h1 h2=>?_⟩
    ·rw [w64_id (by omega) (by omega)]
    ·by_cases hj:j=k
     ·subst hj
      have:vg x j=vg y j:=by simpa using hne
      unfold wv; rw [this]
     ·exact he j (by omega) h2
  ·rintro s ⟨hs,_,he⟩
   refine ⟨.inl (),?_,_,rfl,?_⟩
   ·unfold halberdref9_less.b0
    exact if_n (by omega) rfl
   ·exact pv_congr fun j hj=>he j (Nat.zero_le _) hj
 obtain ⟨t,h1,h2⟩:=this
 unfold halberdref9_less
 refine bind_i h1 ?_
 cases t with
 | inl u =>
  dsimp only at h2 ⊢
  have : ¬ n8 x<n8 y:=by omega
  simp [this]
 | inr b=>dsimp only at h2 ⊢; rw [h2]
end Go.Kx
end

section
namespace Go.Kx
open Go Go.Proofs
theorem mac32 (t c:BitVec 64) (a b:BitVec 32) (ht:t.toNat<2 ^ 32) (hc:c.toNat<2 ^ 32):((t+(a.setWidth 64) * (b.setWidth 64))+c).toNat=a.toNat * b.toNat+t.toNat+c.toNat:=by
 have hm:=mul_lt32 a.isLt b.isLt
 simp only [BitVec.toNat_add,BitVec.toNat_mul,sw64]
 generalize a.toNat * b.toNat=p at *
 omega
theorem mac32q (t c q:BitVec 64) (b:BitVec 32) (ht:t.toNat<2 ^ 32) (hc:c.toNat<2 ^ 32) (hq:q.toNat<2 ^ 32):((t+q * (b.setWidth 64))+c).toNat=q.toNat * b.toNat+t.toNat+c.toNat:=by
 have hm:=mul_lt32 hq b.isLt
 simp only [BitVec.toNat_add,BitVec.toNat_mul,sw64]
 generalize q.toNat * b.toNat=p at *
 omega
theorem mont_b1 (x y:Vx 32 8) (i:Nat) (hi:i<8) (t:Vx 64 10) (ht : ∀ j,j<8 → wv t j<2 ^ 32) :
  ∃ r,loop (halberdref9_mont.b1 x y ((i:Int),t)) BIG (0#64,0,t)=some r∧r.1.toNat<2 ^ 32∧(∀ j,j<8 → wv r.2 j<2 ^ 32)∧wv r.2 8=wv t 8 ∧
   pv (2 ^ 32) (wv r.2) 8+r.1.toNat * (2 ^ 32) ^ 8=pv (2 ^ 32) (wv t) 8+pv (2 ^ 32) (wv x) 8 * wv y i:=by
 refine loop_inv 8 (fun k s=>s.2.1=(k:Int)∧s.1.toNat<2 ^ 32∧(∀ j,k≤j → j<10 → wv s.2.2 j=wv t j)∧(∀ j,j<8 → wv s.2.2 j<2 ^ 32) ∧
   pv (2 ^ 32) (wv s.2.2) k+s.1.toNat * (2 ^ 32) ^ k=pv (2 ^ 32) (wv t) k+pv (2 ^ 32) (wv x) k * wv y i)
  _ (by decide) ⟨rfl,(by decide:(0#64).toNat<2 ^ 32),fun _ _ _=>rfl,ht,by simp [pv]⟩ ?_ ?_
 ·rintro k ⟨c,i',v⟩ hk ⟨hi',hc,hv,hv32,he⟩
  dsimp only at hi' hc hv hv32 he
  subst hi'
  obtain ⟨s,hs⟩ : ∃ s,s=((vg v k)+(((vg x k).setWidth 64) * ((vg y i).setWidth 64)))+c:=⟨_,rfl⟩
  have es:s.toNat=wv x k * wv y i+wv v k+c.toNat:=by rw [hs]; exact mac32 _ _ _ _ (hv32 k hk) hc
  refine ⟨(s >>> 32,((k+1:Nat):Int),vp v k (s &&& 4294967295#64)),?_,rfl,?_,?_,?_,?_⟩
  ·unfold halberdref9_mont.b1
   dsimp only
   simp only [Int.toNat_natCast]
   refine if_i (by omega) (if_i (by omega) (if_i (by omega) (if_i (by omega) (ltt_i fun v1 hv1=>if_i (by omega) (ltt_i fun v2 hv2=>ltt_i fun v3 hv3=>?_)))))
   rw [← hs] at hv1
   rw [hv3,hv2,hv1,w64_s (by omega)]
  ·dsimp only; rw [shr32w]; have:=s.isLt; omega
  ·intro j h1 h2
   dsimp only
   rw [wv_vp (by omega) h2,if_neg (by omega)]
   exact hv j (by omega) h2
  ·intro j hj
   dsimp only
   rw [wv_vp (by omega) (by omega)]
   split
   ·rw [and32w]; omega
   ·exact hv32 j hj
  ·dsimp only
   rw [pv_vp1 (by omega),pow_s (2 ^ 32) k]
   have hvk:wv v k=wv t k:=hv k (Nat.le_refl _) (by omega)
   have e':(s &&& 4294967295#64).toNat+2 ^ 32 * (s >>> 32).toNat=wv x k * wv y i+wv t k+c.toNat:=by
    rw [and32w,shr32w, ← hvk, ← es]; omega
   rw [step_mul e' he]
   show _=pv (2 ^ 32) (wv t) k+wv t k * (2 ^ 32) ^ k+(pv (2 ^ 32) (wv x) k+wv x k * (2 ^ 32) ^ k) * wv y i
   grind
 ·rintro ⟨c,i',v⟩ ⟨hi',hc,hv,hv32,he⟩
  dsimp only at hi' hc hv hv32 he
  subst hi'
  exact ⟨(c,v),by unfold halberdref9_mont.b1; exact if_n (by dsimp only; omega) rfl,hc,hv32,hv 8 (by omega) (by omega),he⟩
theorem mont_b2 (M:Vx 32 8) (q c0:BitVec 64) (t:Vx 64 10) (hq:q.toNat<2 ^ 32) (hc0:c0.toNat<2 ^ 32) (ht : ∀ j,j<8 → wv t j<2 ^ 32) :
  ∃ r,loop (halberdref9_mont.b2 M q) BIG (c0,1,t)=some r∧r.1.toNat<2 ^ 32∧(∀ j,j<8 → wv r.2 j<2 ^ 32)∧wv r.2 8=wv t 8∧wv r.2 9=wv t 9 ∧
   pv (2 ^ 32) (wv r.2) 7+r.1.toNat * (2 ^ 32) ^ 7=pv (2 ^ 32) (fun j=>wv t (j+1)) 7+pv (2 ^ 32) (fun j=>wv M (j+1)) 7 * q.toNat+c0.toNat:=by
 refine loop_inv 7 (fun k s=>s.2.1=((k+1:Nat):Int)∧s.1.toNat<2 ^ 32∧(∀ j,k≤j → j<10 → wv s.2.2 j=wv t j)∧(∀ j,j<8 → wv s.2.2 j<2 ^ 32) ∧
   pv (2 ^ 32) (wv s.2.2) k+s.1.toNat * (2 ^ 32) ^ k=pv (2 ^ 32) (fun j=>wv t (j+1)) k+pv (2 ^ 32) (fun j=>wv M (j+1)) k * q.toNat+c0.toNat)
  _ (by decide) ⟨rfl,hc0,fun _ _ _=>rfl,ht,by simp [pv]⟩ ?_ ?_
 ·rintro k ⟨c,i',v⟩ hk ⟨hi',hc,hv,hv32,he⟩
  dsimp only at hi' hc hv hv32 he
  subst hi'
  obtain ⟨s,hs⟩ : ∃ s,s=((vg v (k+1))+(q * ((vg M (k+1)).setWidth 64)))+c:=⟨_,rfl⟩
  have es:s.toNat=q.toNat * wv M (k+1)+wv v (k+1)+c.toNat:=by rw [hs]; exact mac32q _ _ _ _ (hv32 (k+1) (by omega)) hc hq
  refine ⟨(s >>> 32,((k+1+1:Nat):Int),vp v k (s &&& 4294967295#64)),?_,rfl,?_,?_,?_,?_⟩
  ·unfold halberdref9_mont.b2
   dsimp only
   have ek:w64 (((k+1:Nat):Int) - 1)=(k:Int):=by rw [w64_id (by omega) (by omega)]; omega
   rw [ek]
   simp only [Int.toNat_natCast]
   refine if_i (by omega) (if_i (by omega) (if_i (by omega) (ltt_i fun v1 hv1=>if_i (by omega) (ltt_i fun v2 hv2=>ltt_i fun v3 hv3=>?_))))
   rw [← hs] at hv1
   rw [hv3,hv2,hv1,w64_s (by omega)]
  ·dsimp only; rw [shr32w]; have:=s.isLt; omega
  ·intro j h1 h2
   dsimp only
   rw [wv_vp (by omega) h2,if_neg (by omega)]
   exact hv j (by omega) h2
  ·intro j hj
   dsimp only
   rw [wv_vp (by omega) (by omega)]
   split
   ·rw [and32w]; omega
   ·exact hv32 j hj
  ·dsimp only
   rw [pv_vp1 (by omega),pow_s (2 ^ 32) k]
   have hvk:wv v (k+1)=wv t (k+1):=hv (k+1) (by omega) (by omega)
   have e':(s &&& 4294967295#64).toNat+2 ^ 32 * (s >>> 32).toNat=q.toNat * wv M (k+1)+wv t (k+1)+c.toNat:=by
    rw [and32w,shr32w, ← hvk, ← es]; omega
   rw [step_mul e' he]
   show _=pv (2 ^ 32) (fun j=>wv t (j+1)) k+wv t (k+1) * (2 ^ 32) ^ k+(pv (2 ^ 32) (fun j=>wv M (j+1)) k+wv M (k+1) * (2 ^ 32) ^ k) * q.toNat+c0.toNat
   grind
 ·rintro ⟨c,i',v⟩ ⟨hi',hc,hv,hv32,he⟩
  dsimp only at hi' hc hv hv32 he
  subst hi'
  exact ⟨(c,v),by unfold halberdref9_mont.b2; exact if_n (by dsimp only; omega) rfl,hc,hv32,hv 8 (by omega) (by omega),hv 9 (by omega) (by omega),he⟩
theorem round_eq8 {B X Y Mt T T' U m M0 Ms t0 ts c2 r4 r42 r10 r102 c v3:Nat}
  (hM:Mt=M0+B * Ms) (ht:U=t0+B * ts+(r4+B * r42) * B ^ 8)
  (hU:U=T+X * Y) (hc2:B * c2=m * M0+t0) (h2:v3+c * B ^ 7=ts+Ms * m+c2) (h10:r10+B * r102=r4+c) (hT:T'=v3+r10 * B ^ 7+(r42+r102) * B ^ 8) :
  B * T'=T+X * Y+m * Mt:=by
 subst hM hT
 exact Int.ofNat_inj.1 (by
  simp only [Int.natCast_add,Int.natCast_mul,Int.natCast_pow]
  replace ht:=congrArg (Nat.cast (R:=Int)) ht
  replace hU:=congrArg (Nat.cast (R:=Int)) hU
  replace hc2:=congrArg (Nat.cast (R:=Int)) hc2
  replace h2:=congrArg (Nat.cast (R:=Int)) h2
  replace h10:=congrArg (Nat.cast (R:=Int)) h10
  simp only [Int.natCast_add,Int.natCast_mul,Int.natCast_pow] at ht hU hc2 h2 h10
  generalize (B:Int)=B at *
  generalize (X:Int)=X at *
  generalize (Y:Int)=Y at *
  generalize (T:Int)=T at *
  generalize (U:Int)=U at *
  generalize (m:Int)=m at *
  generalize (M0:Int)=M0 at *
  generalize (Ms:Int)=Ms at *
  generalize (t0:Int)=t0 at *
  generalize (ts:Int)=ts at *
  generalize (c2:Int)=c2 at *
  generalize (r4:Int)=r4 at *
  generalize (r42:Int)=r42 at *
  generalize (r10:Int)=r10 at *
  generalize (r102:Int)=r102 at *
  generalize (c:Int)=c at *
  generalize (v3:Int)=v3 at *
  obtain rfl:r4=r10+B * r102 - c:=by rw [h10,Int.add_sub_cancel]
  obtain rfl:ts=v3+c * B ^ 7 - Ms * m - c2:=by rw [h2]; omega
  obtain rfl:t0=B * c2 - m * M0:=by rw [hc2]; omega
  obtain rfl:T=U - X * Y:=by rw [hU]; omega
  rw [ht]
  clear ht hU hc2 h2 h10
  grind)
end Go.Kx
end

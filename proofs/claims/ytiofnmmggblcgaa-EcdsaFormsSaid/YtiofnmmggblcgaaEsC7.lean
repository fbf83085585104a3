/-
  Part 7 of the proof of what several laws share.
-/
import Derived.Test.YtiofnmmggblcgaaEsC1
import Derived.Test.YtiofnmmggblcgaaEsC2
import Derived.Test.YtiofnmmggblcgaaEsC3
import Derived.Test.YtiofnmmggblcgaaEsC4
import Derived.Test.YtiofnmmggblcgaaEsC5
import Derived.Test.YtiofnmmggblcgaaEsC6
set_option linter.unusedVariables false
set_option linter.unusedSimpArgs false
section
namespace Go.Proofs
open Go Go.Kx
open Vector (replicate)
open TryI Try
def num_Field_Mul.b1 (x:Vx 64 4) (y:Vx 64 4) (s0:Int × Vx 64 6) (s1:BitVec 64 × Int × Vx 64 6):Option ((BitVec 64 × Int × Vx 64 6) ⊕ (BitVec 64 × Vx 64 6)) :=
 if s1.2.1<4 then (if 0≤s1.2.1∧s1.2.1<(4:Int) then (if 0≤s0.1∧s0.1<(4:Int) then ((math_bits_Mul64 (vg x ((s1.2.1).toNat)) (vg y ((s0.1).toNat))).bind fun (r_1:BitVec 64 × BitVec 64)=>(if 0≤s1.2.1∧s1.2.1<(6:Int) then ((math_bits_Add64 r_1.2 (vg s1.2.2 ((s1.2.1).toNat)) 0#64).bind fun (r_2:BitVec 64 × BitVec 64)=>(ltt (r_1.1+r_2.2) fun (high1:BitVec 64)=>((math_bits_Add64 r_2.1 s1.1 0#64).bind fun (r_3:BitVec 64 × BitVec 64)=>(if 0≤s1.2.1∧s1.2.1<(6:Int) then (ltt (vp s1.2.2 ((s1.2.1).toNat) r_3.1) fun (m_1:Vx 64 6)=>(ltt (high1+r_3.2) fun (c1:BitVec 64)=>(some (.inl (c1,w64 (s1.2.1+1),m_1))))) else none)))) else none)) else none) else none) else (some (.inr (s1.1,s1.2.2)))
def num_Field_Mul.b2 (f_M:Vx 64 4) (m_3:BitVec 64) (s2:BitVec 64 × Int × Vx 64 6):Option ((BitVec 64 × Int × Vx 64 6) ⊕ (BitVec 64 × Vx 64 6)) :=
 if s2.2.1<4 then (if 0≤s2.2.1∧s2.2.1<(4:Int) then ((math_bits_Mul64 m_3 (vg f_M ((s2.2.1).toNat))).bind fun (r_7:BitVec 64 × BitVec 64)=>(if 0≤s2.2.1∧s2.2.1<(6:Int) then ((math_bits_Add64 r_7.2 (vg s2.2.2 ((s2.2.1).toNat)) 0#64).bind fun (r_8:BitVec 64 × BitVec 64)=>(ltt (r_7.1+r_8.2) fun (high2:BitVec 64)=>((math_bits_Add64 r_8.1 s2.1 0#64).bind fun (r_9:BitVec 64 × BitVec 64)=>(if 0≤w64 (s2.2.1 - 1)∧w64 (s2.2.1 - 1)<(6:Int) then (ltt (vp s2.2.2 ((w64 (s2.2.1 - 1)).toNat) r_9.1) fun (m_4:Vx 64 6)=>(ltt (high2+r_9.2) fun (c3:BitVec 64)=>(ltt (w64 (s2.2.1+1)) fun (k_1:Int)=>(some (.inl (c3,k_1,m_4)))))) else none)))) else none)) else none) else (some (.inr (s2.1,s2.2.2)))
def num_Field_Mul.b0 (f_M:Vx 64 4) (f_inv:BitVec 64) (x:Vx 64 4) (y:Vx 64 4) (s0:Int × Vx 64 6):Option ((Int × Vx 64 6) ⊕ (Vx 64 6)) :=
 if s0.1<4 then ((loop (num_Field_Mul.b1 x y s0) BIG (0#64,0,s0.2)).bind fun (t_2:BitVec 64 × Vx 64 6)=>((math_bits_Add64 (vg t_2.2 4) t_2.1 0#64).bind fun (r_4:BitVec 64 × BitVec 64)=>(ltt (vp (vp t_2.2 4 r_4.1) 5 r_4.2) fun (m_2:Vx 64 6)=>(ltt ((vg m_2 0) * f_inv) fun (m_3:BitVec 64)=>((math_bits_Mul64 m_3 (vg f_M 0)).bind fun (r_5:BitVec 64 × BitVec 64)=>((math_bits_Add64 r_5.2 (vg m_2 0) 0#64).bind fun (r_6:BitVec 64 × BitVec 64)=>(ltt (r_5.1+r_6.2) fun (c2:BitVec 64)=>((loop (num_Field_Mul.b2 f_M m_3) BIG (c2,1,m_2)).bind fun (t_3:BitVec 64 × Vx 64 6)=>((math_bits_Add64 (vg t_3.2 4) t_3.1 0#64).bind fun (r_10:BitVec 64 × BitVec 64)=>(ltt (vp (vp t_3.2 3 r_10.1) 4 ((vg (vp t_3.2 3 r_10.1) 5)+r_10.2)) fun (m_5:Vx 64 6)=>(some (.inl (w64 (s0.1+1),m_5))))))))))))) else (some (.inr s0.2))
def num_Field_Mul (f_M:Vx 64 4) (f_inv:BitVec 64) (f_one:Vx 64 4) (f_two:Vx 64 4) (x:Vx 64 4) (y:Vx 64 4):Option (Vx 64 4) :=
 (loop (num_Field_Mul.b0 f_M f_inv x y) BIG (0,replicate 6 0#64)).bind fun (t_1:Vx 64 6)=>(ltt ((#v[vg t_1 0,vg t_1 1,vg t_1 2,vg t_1 3]:Vx 64 4)) fun (m_6:Vx 64 4)=>((num_sub m_6 f_M).bind fun (r_11:Vx 64 4 × BitVec 64)=>((if (vg t_1 4)=1#64 then (some true) else (some (decide (r_11.2=0#64)))).bind fun (j1:Bool)=>(if j1=true then (some r_11.1) else (some m_6)))))
set_option maxHeartbeats 4000000 in
set_option maxRecDepth 20000 in
theorem F58_calls (bf:Nat) (obf:Nat) (f_M:Vx 64 4) (f_inv:BitVec 64) (f_one:Vx 64 4) (f_two:Vx 64 4) (x:Vx 64 4) (y:Vx 64 4) (r:Vx 64 4) (H:num_Field_Mul f_M f_inv f_one f_two x y=some r) :
  Does Try.prog 58 [ptr (some (bf,obf)) 0,aG [(4,e64 x.toList)],aG [(4,e64 y.toList)]] [] [⟨some (bf,obf),e64 f_M.toList⟩,⟨some (bf,obf+4),[v64 f_inv]⟩,⟨some (bf,obf+5),e64 f_one.toList⟩,⟨some (bf,obf+9),e64 f_two.toList⟩] (Γ:=Unit) (fun g=>aG [(4,e64 r.toList)]) (fun g=>[]):=by
 intro w hmem hro hd
 refine calls_of (N:=179) (m0:=[(0,ptr (some (bf,obf)) 0),(1,aG [(4,e64 x.toList)]),(2,aG [(4,e64 y.toList)])]) func58 rfl ntmps58 (argM_ok [ptr (some (bf,obf)) 0,aG [(4,e64 x.toList)],aG [(4,e64 y.toList)]]) rfl hmem hro hd ?_
 unfold num_Field_Mul at H
 refine TC_seq (TC_region (TLe (E_boxP [(4,e64 x.toList)] rfl rfl ⟨(lenV (f:=v64) x),trivial⟩) (fun b1=>?_)))
 refine TLe (E_boxP [(4,e64 y.toList)] rfl rfl ⟨(lenV (f:=v64) y),trivial⟩) (fun b2=>?_)
 refine TLe (E_al64 4 inf57 zer57) (fun b3=>?_)
 refine TL_nil (TX_next (TC_seq (TC_region (TLe (E_al64 6 inf116 zer116) (fun b4=>?_)))))
 refine TL_nil (TX_next (TC_seq (TC_seq (TC_region (TVm ?_)))))
 refine TL_nil (TX_next (TC_block ?_))
 obtain ⟨t_1,Hl,H⟩:=bind_elim H
 refine TC.sub (m':=[(0,_),(4,_),(5,_),(6,_),(7,_),(22,_)]) ⟨rfl,rfl,rfl,rfl,rfl,rfl,trivial⟩ ?_
 refine TC.pull (is:=[3,2,1,0]) (L':=[_,_,_,_]) rfl ?_
 refine TC_loopL (id:=0) (body:=(num_Field_Mul.b0 f_M f_inv x y)) (σ:=Int × Vx 64 6) (Γ:=Unit) (Γx:=Unit) (fun s0 g0_=>[(0,ptr (some (bf,obf)) 0),(4,ptr (some (b1,0)) 0),(5,ptr (some (b2,0)) 0),(6,ptr (some (b3,0)) 0),(7,ptr (some (b4,0)) 0),(22,vi s0.1)]) (fun s0 g0_=>[⟨some (b1,0),e64 x.toList⟩,⟨some (b2,0),e64 y.toList⟩,⟨some (b3,0),e64 ((replicate 4 0#64).toList)⟩,⟨some (b4,0),e64 s0.2.toList⟩]) (fun t g=>[(0,ptr (some (bf,obf)) 0),(6,ptr (some (b3,0)) 0),(7,ptr (some (b4,0)) 0)]) (fun t g=>[⟨some (b3,0),e64 ((replicate 4 0#64).toList)⟩,⟨some (b4,0),e64 t.toList⟩]) ?_ BIG (0,replicate 6 0#64) () t_1 Hl ?_
 ·intro s0 g0_ r1 H K hK hE
  unfold num_Field_Mul.b0 at H
  refine TC_seq (TC_region (TLv (V_bin rfl rfl (fun w=>lssI w s0.1 4)) ?_))
  refine TL_nil (TX_next (TC_seq (TCd H (fun hc H=>?_) (fun hc H=>?_))))
  ·refine TC_skip (TX_next (TC_seq (TC_block (TC_seq (TC_region (TVm ?_))))))
   refine TVa ?_
   refine TL_nil (TX_next (TC_seq (TC_region (TVa ?_))))
   refine TL_nil (TX_next (TC_seq (TC_seq (TC_region (TVm ?_)))))
   refine TL_nil (TX_next (TC_block ?_))
   obtain ⟨t_2,Hl,H⟩:=bind_elim H
   refine TC.sub (m':=[(0,_),(4,_),(5,_),(6,_),(7,_),(8,_),(9,_),(22,_),(25,_)]) ⟨rfl,rfl,rfl,rfl,rfl,rfl,rfl,rfl,rfl,trivial⟩ ?_
   refine TC.pull (is:=[0,0,0,0]) (L':=[_,_,_,_]) rfl ?_
   refine TC_loopL (id:=2) (body:=(num_Field_Mul.b1 x y s0)) (σ:=BitVec 64 × Int × Vx 64 6) (Γ:=Unit) (Γx:=Unit) (fun s1 g1_=>[(0,ptr (some (bf,obf)) 0),(4,ptr (some (b1,0)) 0),(5,ptr (some (b2,0)) 0),(6,ptr (some (b3,0)) 0),(7,ptr (some (b4,0)) 0),(8,vi s0.1),(9,v64 s1.1),(22,vi s0.1),(25,vi s1.2.1)]) (fun s1 g1_=>[⟨some (b1,0),e64 x.toList⟩,⟨some (b2,0),e64 y.toList⟩,⟨some (b3,0),e64 ((replicate 4 0#64).toList)⟩,⟨some (b4,0),e64 s1.2.2.toList⟩]) (fun t g=>[(0,ptr (some (bf,obf)) 0),(4,ptr (some (b1,0)) 0),(5,ptr (some (b2,0)) 0),(6,ptr (some (b3,0)) 0),(7,ptr (some (b4,0)) 0),(9,v64 t.1),(22,vi s0.1)]) (fun t g=>[⟨some (b1,0),e64 x.toList⟩,⟨some (b2,0),e64 y.toList⟩,⟨some (b3,0),e64 ((replicate 4 0#64).toList)⟩,⟨some (b4,0),e64 t.2.toList⟩]) ?_ BIG (0#64,0,s0.2) () t_2 Hl ?_
   ·intro s1 g1_ r1 H K hK hE
    unfold num_Field_Mul.b1 at H
    refine TC_seq (TC_region (TLv (V_bin rfl rfl (fun w=>lssI w s1.2.1 4)) ?_))
    refine TL_nil (TX_next (TC_seq (TCd H (fun hc H=>?_) (fun hc H=>?_))))
    ·refine TC_skip (TX_next (TC_seq (TC_block (TC_seq (TC_region (TVm ?_))))))
     refine TVa ?_
     refine TL_nil (TX_next (TC_seq ?_))
     obtain ⟨h1,H⟩:=if_elim H
     obtain ⟨h2,H⟩:=if_elim H
     obtain ⟨r_1,hr_1,H⟩:=bind_elim H
     refine TA_begin [] 12 (by kernel_rfl) (N:=12) rfl ?_
     refine TA_mix (is:=[]) (done':=dn 12 4095) [itV 0 29 (vi s1.2.1) [],itV 1 30 (ptr (some (b1,0)) ((s1.2.1).toNat)) [0],itV 2 31 (v64 (vg x ((s1.2.1).toNat))) [1],itV 3 32 (vi s0.1) [],itV 4 33 (ptr (some (b2,0)) ((s0.1).toNat)) [3],itV 5 34 (v64 (vg y ((s0.1).toNat))) [4],itV 6 35 (Value.tuple [v64 r_1.1,v64 r_1.2].toArray) [5,2],itV 7 28 (Value.tuple [v64 r_1.1,v64 r_1.2].toArray) [6],itV 8 36 (v64 r_1.1) [7],itV 9 37 (v64 r_1.2) [7],itV 10 11 (v64 r_1.1) [8],itV 11 12 (v64 r_1.2) [9]] [] 0 (by kernel_rfl) (QP.then (QP.block (QP.then (QP.then (QP.block (QP.then (QP.block (QP.then (QP.then (QP.block (QP.then QP.body))))))))))) (by kernel_rfl) rfl (.v rfl (V_move rfl) (.v rfl (V_idxArr (i:=s1.2.1) rfl rfl underlying57 inf55 rfl h1.1 h1.2 (k:=(s1.2.1).toNat) (k01 _)) (.v rfl (V_load rfl (.o 0) (get_vec (f:=v64) (V:=x) (toNat_lt h1.1 h1.2)) isAgg55) (.v rfl (V_move rfl) (.v rfl (V_idxArr (i:=s0.1) rfl rfl underlying57 inf55 rfl h2.1 h2.2 (k:=(s0.1).toNat) (k01 _)) (.v rfl (V_load rfl (.o 1) (get_vec (f:=v64) (V:=y) (toNat_lt h2.1 h2.2)) isAgg55) (.e rfl (E_cu (F86_calls (vg x ((s1.2.1).toNat)) (vg y ((s0.1).toNat)) r_1 hr_1) call86 .z) (.v rfl (V_move rfl) (.v rfl V_ex (.v rfl V_ex (.v rfl (V_assign rfl) (.v rfl (V_assign rfl) .nil)))))))))))) .nil (by kernel_rfl) rfl (fun γ=>?_)
     refine TA_cut [(12,v64 r_1.2),(11,v64 r_1.1),(10,vi s1.2.1),(0,ptr (some (bf,obf)) 0),(4,ptr (some (b1,0)) 0),(5,ptr (some (b2,0)) 0),(6,ptr (some (b3,0)) 0),(7,ptr (some (b4,0)) 0),(8,vi s0.1),(9,v64 s1.1),(22,vi s0.1),(25,vi s1.2.1)] [⟨some (b1,0),e64 x.toList⟩,⟨some (b2,0),e64 y.toList⟩,⟨some (b3,0),e64 ((replicate 4 0#64).toList)⟩,⟨some (b4,0),e64 s1.2.2.toList⟩] ⟨rfl,rfl,rfl,rfl,rfl,rfl,rfl,rfl,rfl,rfl,rfl,rfl,trivial⟩ rfl ?_
     refine TA_done (by kernel_rfl) ?_ 0
     refine TX_next (TC_seq (TC_region (TVa ?_)))
     refine TL_nil (TX_next (TC_seq (TC_region (TVm ?_))))
     refine TVm ?_
     obtain ⟨h3,H⟩:=if_elim H
     refine TLv (V_idxArr (i:=s1.2.1) rfl rfl underlying116 inf55 rfl h3.1 h3.2 (k:=(s1.2.1).toNat) (k01 _)) ?_
     refine TLv (V_load rfl (.o 3) (get_vec (f:=v64) (V:=s1.2.2) (toNat_lt h3.1 h3.2)) isAgg55) ?_
     obtain ⟨r_2,hr_2,H⟩:=bind_elim H
     refine TLv (V_ext rfl (ext_add Try.func87 rfl rfl rfl rfl hr_2)) ?_
     refine TVm ?_
     refine TLv V_ex ?_
     refine TLv V_ex ?_
     refine TVa ?_
     refine TVa ?_
     refine TL_nil (TX_next (TC_seq (TC_region (TVm ?_))))
     refine TVm ?_
     refine TLv (V_bin rfl rfl (fun w=>add64 w r_1.1 r_2.2)) ?_
     refine TVa ?_
     obtain ⟨high1,hhigh1,H⟩:=ltt_elim H
     refine TLr 11 (congrArg v64 hhigh1) ?_
     refine TL_nil (TX_next (TC_seq (TC_region (TVm ?_))))
     refine TVm ?_
     obtain ⟨r_3,hr_3,H⟩:=bind_elim H
     refine TLv (V_ext rfl (ext_add Try.func87 rfl rfl rfl rfl hr_3)) ?_
     refine TVm ?_
     refine TLv V_ex ?_
     refine TLv V_ex ?_
     refine TVa ?_
     refine TVa ?_
     refine TL_nil (TX_next (TC.sub (m':=[(0,_),(4,_),(5,_),(6,_),(7,_),(8,_),(10,_),(11,_),(12,_),(13,_),(22,_),(25,_)]) ⟨rfl,rfl,rfl,rfl,rfl,rfl,rfl,rfl,rfl,rfl,rfl,rfl,trivial⟩ ?_))
     refine TC.pull (is:=[0,0,0,0]) (L':=[_,_,_,_]) rfl ?_
     refine TC_region (TVm ?_)
     refine TVm ?_
     refine TVm ?_
     refine TVm ?_
     refine TLv (V_bin rfl rfl (fun w=>add64 w high1 r_3.2)) ?_
     obtain ⟨h4,H⟩:=if_elim H
     refine TLv (V_idxArr (i:=s1.2.1) rfl rfl underlying116 inf55 rfl h4.1 h4.2 (k:=(s1.2.1).toNat) (k01 _)) ?_
     refine TLn (E_store (j:=3) rfl rfl inf55 rfl rfl rfl (by simpa using (toNat_lt h4.1 h4.2)) (cs':=e64 ((vp s1.2.2 ((s1.2.1).toNat) r_3.1).toList)) set_vec) (fun _=>?_)
     obtain ⟨m_1,hm_1,H⟩:=ltt_elim H
     refine TL_reE (j:=3) (A:=some (b4,0)) (cs:=e64 ((vp s1.2.2 ((s1.2.1).toNat) r_3.1).toList)) (cs':=e64 m_1.toList) rfl (congrArg (fun z:Vx 64 6=>e64 (Vector.toList z)) hm_1) ?_
     refine TVa ?_
     obtain ⟨c1,hc1,H⟩:=ltt_elim H
     refine TLr 9 (congrArg v64 hc1) ?_
     refine TL_nil (TX_block_normal (TX_next (TC_region (TLv (V_bin rfl rfl (fun w=>addI w s1.2.1 1)) ?_))))
     refine TVm ?_
     refine TL_nil ?_
     obtain rfl:=sj H
     exact TXk [0,0,0,0] (hK (c1,w64 (s1.2.1+1),m_1) rfl ())
    ·refine TC_exit (TX_then_exit (TX_then_exit ?_))
     obtain rfl:=sj H
     exact TXj [0,0,0,0] (hE (s1.1,s1.2.2) rfl ())
   ·intro g
    refine TX_block_exit (TX_next (TC_seq (TC_region (TVa ?_))))
    refine TL_nil (TX_next (TC_seq (TC_region (TLv (V_idxArr (i:=4) rfl rfl underlying116 inf55 rfl (by decide) (by decide) (k:=4) (k01 _)) ?_))))
    refine TLv (V_load rfl (.o 3) (get_vec (f:=v64) (V:=t_2.2) (by decide:4<6)) isAgg55) ?_
    refine TVm ?_
    obtain ⟨r_4,hr_4,H⟩:=bind_elim H
    refine TLv (V_ext rfl (ext_add Try.func87 rfl rfl rfl rfl hr_4)) ?_
    refine TVm ?_
    refine TLv V_ex ?_
    refine TLv V_ex ?_
    refine TLv (V_idxArr (i:=4) rfl rfl underlying116 inf55 rfl (by decide) (by decide) (k:=4) (k01 _)) ?_
    refine TLn (E_store (j:=3) rfl rfl inf55 rfl rfl rfl (by simp) (cs':=e64 ((vp t_2.2 4 r_4.1).toList)) set_vec) (fun _=>?_)
    refine TVa ?_
    refine TL_nil (TX_next (TC_seq (TC_region (TVm ?_))))
    refine TLv (V_idxArr (i:=5) rfl rfl underlying116 inf55 rfl (by decide) (by decide) (k:=5) (k01 _)) ?_
    refine TLn (E_store (j:=3) rfl rfl inf55 rfl rfl rfl (by simp) (cs':=e64 ((vp (vp t_2.2 4 r_4.1) 5 r_4.2).toList)) set_vec) (fun _=>?_)
    obtain ⟨m_2,hm_2,H⟩:=ltt_elim H
    refine TL_reE (j:=3) (A:=some (b4,0)) (cs:=e64 ((vp (vp t_2.2 4 r_4.1) 5 r_4.2).toList)) (cs':=e64 m_2.toList) rfl (congrArg (fun z:Vx 64 6=>e64 (Vector.toList z)) hm_2) ?_
    refine TL_nil (TX_next (TC_seq ?_))
    obtain ⟨m_3,hm_3,H⟩:=ltt_elim H
    refine TA_begin [] 8 (by kernel_rfl) (N:=8) rfl ?_
    refine TA_mix (is:=[]) (done':=dn 8 127) [itV 0 72 (ptr (some (b4,0)) 0) [],itV 1 73 (v64 (vg m_2 0)) [0],itV 2 74 (ptr (some (bf,obf)) 0) [],itV 3 75 (ptr (some (bf,obf)) 0) [2],itV 4 76 (ptr (some (bf,obf+4)) 0) [3],itV 5 77 (v64 f_inv) [4],itV 6 78 (v64 ((vg m_2 0) * f_inv)) [1,5]] [] 1 (by kernel_rfl) (QP.then (QP.block (QP.then (QP.then (QP.block (QP.then QP.body)))))) (by kernel_rfl) rfl (.v rfl (V_idxArr (i:=0) rfl rfl underlying116 inf55 rfl (by decide) (by decide) (k:=0) (k01 _)) (.v rfl (V_load rfl (.o 3) (get_vec (f:=v64) (V:=m_2) (by decide:0<6)) isAgg55) (.v rfl (V_move rfl) (.v rfl (V_nilCheck rfl) (.v rfl (V_fe underlying113 inf55) (.v rfl (V_load rfl (.r 1) rfl isAgg55) (.v rfl (V_bin rfl rfl (fun w=>mul64 w (vg m_2 0) f_inv)) .nil))))))) .nil (by kernel_rfl) rfl (fun γ=>?_)
    refine TA_cut [(78,v64 ((vg m_2 0) * f_inv)),(0,ptr (some (bf,obf)) 0),(4,ptr (some (b1,0)) 0),(5,ptr (some (b2,0)) 0),(6,ptr (some (b3,0)) 0),(7,ptr (some (b4,0)) 0),(22,vi s0.1)] [⟨some (b1,0),e64 x.toList⟩,⟨some (b2,0),e64 y.toList⟩,⟨some (b3,0),e64 ((replicate 4 0#64).toList)⟩,⟨some (b4,0),e64 m_2.toList⟩] ⟨rfl,rfl,rfl,rfl,rfl,rfl,rfl,trivial⟩ rfl ?_
    refine TA_all (rs:=[7]) (by kernel_rfl) rfl ?_
    refine ⟨?_,trivial⟩
    refine TO_v (is:=[]) (done':=dn 8 255) rfl rfl rfl rfl (by kernel_rfl) (V_assign rfl) (fun _=>rfl) ?_
    refine TA_re (d:=15) (v:=v64 ((vg m_2 0) * f_inv)) (v':=v64 m_3) rfl (congrArg v64 hm_3) ?_
    refine TA_done (by kernel_rfl) ?_ 0
    refine TX_next (TC_seq (TC_region (TVm ?_)))
    refine TVm ?_
    refine TLv (V_nilCheck rfl) ?_
    refine TLv (V_fieldE rfl underlying113 rfl rfl inf57 rfl (v:=ptr (some (bf,obf)) 0) rfl) ?_
    refine TLv (V_idxArr (i:=0) rfl rfl underlying57 inf55 rfl (by decide) (by decide) (k:=0) (k01 _)) ?_
    refine TLv (V_load rfl (.r 0) (get_vec (f:=v64) (V:=f_M) (by decide:0<4)) isAgg55) ?_
    obtain ⟨r_5,hr_5,H⟩:=bind_elim H
    refine TLe (E_c0 (F86_calls m_3 (vg f_M 0) r_5 hr_5) call86 .z) (fun g_2=>?_)
    refine TVm ?_
    refine TLv V_ex ?_
    refine TLv V_ex ?_
    refine TVa ?_
    refine TVa ?_
    refine TL_nil (TX_next (TC_seq (TC_region (TVm ?_))))
    refine TLv (V_idxArr (i:=0) rfl rfl underlying116 inf55 rfl (by decide) (by decide) (k:=0) (k01 _)) ?_
    refine TLv (V_load rfl (.o 3) (get_vec (f:=v64) (V:=m_2) (by decide:0<6)) isAgg55) ?_
    obtain ⟨r_6,hr_6,H⟩:=bind_elim H
    refine TLv (V_ext rfl (ext_add Try.func87 rfl rfl rfl rfl hr_6)) ?_
    refine TVm ?_
    refine TLv V_ex ?_
    refine TLv V_ex ?_
    refine TVa ?_
    refine TL_nil (TX_next (TC_seq (TC_region (TVm ?_))))
    refine TVm ?_
    refine TLv (V_bin rfl rfl (fun w=>add64 w r_5.1 r_6.2)) ?_
    refine TVa ?_
    obtain ⟨c2,hc2,H⟩:=ltt_elim H
    refine TLr 9 (congrArg v64 hc2) ?_
    refine TL_nil (TX_next (TC.sub (m':=[(0,_),(4,_),(5,_),(6,_),(7,_),(9,_),(15,_),(22,_)]) ⟨rfl,rfl,rfl,rfl,rfl,rfl,rfl,rfl,trivial⟩ ?_))
    refine TC.pull (is:=[0,0,0,0]) (L':=[_,_,_,_]) rfl ?_
    refine TC_seq (TC_seq (TC_region (TVa ?_)))
    refine TL_nil (TX_next (TC_block ?_))
    obtain ⟨t_3,Hl,H⟩:=bind_elim H
    refine TC.sub (m':=[(0,_),(4,_),(5,_),(6,_),(7,_),(9,_),(15,_),(18,_),(22,_)]) ⟨rfl,rfl,rfl,rfl,rfl,rfl,rfl,rfl,rfl,trivial⟩ ?_
    refine TC.pull (is:=[0,0,0,0]) (L':=[_,_,_,_]) rfl ?_
    refine TC_loopL (id:=4) (body:=(num_Field_Mul.b2 f_M m_3)) (σ:=BitVec 64 × Int × Vx 64 6) (Γ:=Unit) (Γx:=Unit) (fun s2 g2_=>[(0,ptr (some (bf,obf)) 0),(4,ptr (some (b1,0)) 0),(5,ptr (some (b2,0)) 0),(6,ptr (some (b3,0)) 0),(7,ptr (some (b4,0)) 0),(9,v64 s2.1),(15,v64 m_3),(18,vi s2.2.1),(22,vi s0.1)]) (fun s2 g2_=>[⟨some (b1,0),e64 x.toList⟩,⟨some (b2,0),e64 y.toList⟩,⟨some (b3,0),e64 ((replicate 4 0#64).toList)⟩,⟨some (b4,0),e64 s2.2.2.toList⟩]) (fun t g=>[(0,ptr (some (bf,obf)) 0),(4,ptr (some (b1,0)) 0),(5,ptr (some (b2,0)) 0),(6,ptr (some (b3,0)) 0),(7,ptr (some (b4,0)) 0),(9,v64 t.1),(22,vi s0.1)]) (fun t g=>[⟨some (b1,0),e64 x.toList⟩,⟨some (b2,0),e64 y.toList⟩,⟨some (b3,0),e64 ((replicate 4 0#64).toList)⟩,⟨some (b4,0),e64 t.2.toList⟩]) ?_ BIG (c2,1,m_2) () t_3 Hl ?_
    ·intro s2 g2_ r1 H K hK hE
     unfold num_Field_Mul.b2 at H
     refine TC_seq (TC_seq (TC_region (TVm ?_)))
     refine TLv (V_bin rfl rfl (fun w=>lssI w s2.2.1 4)) ?_
     refine TL_nil (TX_next (TCd H (fun hc H=>?_) (fun hc H=>?_)))
     ·refine TC_skip (TX_next (TC_seq (TC_block (TC_seq (TC_region (TVm ?_))))))
      refine TVm ?_
      refine TVm ?_
      refine TLv (V_nilCheck rfl) ?_
      refine TLv (V_fieldE rfl underlying113 rfl rfl inf57 rfl (v:=ptr (some (bf,obf)) 0) rfl) ?_
      obtain ⟨h5,H⟩:=if_elim H
      refine TLv (V_idxArr (i:=s2.2.1) rfl rfl underlying57 inf55 rfl h5.1 h5.2 (k:=(s2.2.1).toNat) (k01 _)) ?_
      refine TLv (V_load rfl (.r 0) (get_vec (f:=v64) (V:=f_M) (toNat_lt h5.1 h5.2)) isAgg55) ?_
      obtain ⟨r_7,hr_7,H⟩:=bind_elim H
      refine TLe (E_c0 (F86_calls m_3 (vg f_M ((s2.2.1).toNat)) r_7 hr_7) call86 .z) (fun g_3=>?_)
      refine TVm ?_
      refine TLv V_ex ?_
      refine TLv V_ex ?_
      refine TVa ?_
      refine TVa ?_
      refine TL_nil (TX_next (TC_seq (TC_region (TVm ?_))))
      refine TVm ?_
      obtain ⟨h6,H⟩:=if_elim H
      refine TLv (V_idxArr (i:=s2.2.1) rfl rfl underlying116 inf55 rfl h6.1 h6.2 (k:=(s2.2.1).toNat) (k01 _)) ?_
      refine TLv (V_load rfl (.o 3) (get_vec (f:=v64) (V:=s2.2.2) (toNat_lt h6.1 h6.2)) isAgg55) ?_
      obtain ⟨r_8,hr_8,H⟩:=bind_elim H
      refine TLv (V_ext rfl (ext_add Try.func87 rfl rfl rfl rfl hr_8)) ?_
      refine TVm ?_
      refine TLv V_ex ?_
      refine TLv V_ex ?_
      refine TVa ?_
      refine TVa ?_
      refine TL_nil (TX_next (TC.sub (m':=[(0,_),(4,_),(5,_),(6,_),(7,_),(9,_),(14,_),(15,_),(16,_),(17,_),(18,_),(22,_)]) ⟨rfl,rfl,rfl,rfl,rfl,rfl,rfl,rfl,rfl,rfl,rfl,rfl,trivial⟩ ?_))
      refine TC.pull (is:=[0,0,0,0]) (L':=[_,_,_,_]) rfl ?_
      refine TC_seq (TC_region (TVm ?_))
      refine TVm ?_
      refine TLv (V_bin rfl rfl (fun w=>add64 w r_7.1 r_8.2)) ?_
      refine TVa ?_
      obtain ⟨high2,hhigh2,H⟩:=ltt_elim H
      refine TLr 16 (congrArg v64 hhigh2) ?_
      refine TL_nil (TX_next (TC_seq (TC_region (TVm ?_))))
      refine TVm ?_
      obtain ⟨r_9,hr_9,H⟩:=bind_elim H
      refine TLv (V_ext rfl (ext_add Try.func87 rfl rfl rfl rfl hr_9)) ?_
      refine TVm ?_
      refine TLv V_ex ?_
      refine TLv V_ex ?_
      refine TVa ?_
      refine TVa ?_
      refine TL_nil (TX_next (TC_region (TVm ?_)))
      refine TLv (V_bin rfl rfl (fun w=>subI w s2.2.1 1)) ?_
      refine TVm ?_
      refine TVm ?_
      refine TVm ?_
      refine TLv (V_bin rfl rfl (fun w=>add64 w high2 r_9.2)) ?_
      obtain ⟨h7,H⟩:=if_elim H
      refine TLv (V_idxArr (i:=w64 (s2.2.1 - 1)) rfl rfl underlying116 inf55 rfl h7.1 h7.2 (k:=(w64 (s2.2.1 - 1)).toNat) (k01 _)) ?_
      refine TLn (E_store (j:=3) rfl rfl inf55 rfl rfl rfl (by simpa using (toNat_lt h7.1 h7.2)) (cs':=e64 ((vp s2.2.2 ((w64 (s2.2.1 - 1)).toNat) r_9.1).toList)) set_vec) (fun _=>?_)
      obtain ⟨m_4,hm_4,H⟩:=ltt_elim H
      refine TL_reE (j:=3) (A:=some (b4,0)) (cs:=e64 ((vp s2.2.2 ((w64 (s2.2.1 - 1)).toNat) r_9.1).toList)) (cs':=e64 m_4.toList) rfl (congrArg (fun z:Vx 64 6=>e64 (Vector.toList z)) hm_4) ?_
      refine TVa ?_
      obtain ⟨c3,hc3,H⟩:=ltt_elim H
      refine TLr 9 (congrArg v64 hc3) ?_
      refine TL_nil (TX_block_normal (TX_next (TC.sub (m':=[(0,_),(4,_),(5,_),(6,_),(7,_),(9,_),(15,_),(18,_),(22,_)]) ⟨rfl,rfl,rfl,rfl,rfl,rfl,rfl,rfl,rfl,trivial⟩ ?_)))
      refine TC.pull (is:=[0,0,0,0]) (L':=[_,_,_,_]) rfl ?_
      refine TC_region (TVm ?_)
      refine TLv (V_bin rfl rfl (fun w=>addI w s2.2.1 1)) ?_
      refine TVa ?_
      obtain ⟨k_1,hk_1,H⟩:=ltt_elim H
      refine TLr 18 (congrArg vi hk_1) ?_
      refine TL_nil ?_
      obtain rfl:=sj H
      exact TXk [0,0,0,0] (hK (c3,k_1,m_4) rfl ())
     ·refine TC_exit (TX_then_exit (TX_then_exit ?_))
      obtain rfl:=sj H
      exact TXj [0,0,0,0] (hE (s2.1,s2.2.2) rfl ())
    ·intro g
     refine TX_block_exit (TX_next (TC_seq (TC_region (TLv (V_idxArr (i:=4) rfl rfl underlying116 inf55 rfl (by decide) (by decide) (k:=4) (k01 _)) ?_))))
     refine TLv (V_load rfl (.o 3) (get_vec (f:=v64) (V:=t_3.2) (by decide:4<6)) isAgg55) ?_
     refine TVm ?_
     obtain ⟨r_10,hr_10,H⟩:=bind_elim H
     refine TLv (V_ext rfl (ext_add Try.func87 rfl rfl rfl rfl hr_10)) ?_
     refine TVm ?_
     refine TLv V_ex ?_
     refine TLv V_ex ?_
     refine TLv (V_idxArr (i:=3) rfl rfl underlying116 inf55 rfl (by decide) (by decide) (k:=3) (k01 _)) ?_
     refine TLn (E_store (j:=3) rfl rfl inf55 rfl rfl rfl (by simp) (cs':=e64 ((vp t_3.2 3 r_10.1).toList)) set_vec) (fun _=>?_)
     refine TVa ?_
     refine TL_nil (TX_next (TC_region (TLv (V_idxArr (i:=5) rfl rfl underlying116 inf55 rfl (by decide) (by decide) (k:=5) (k01 _)) ?_)))
     refine TLv (V_load rfl (.o 3) (get_vec (f:=v64) (V:=(vp t_3.2 3 r_10.1)) (by decide:5<6)) isAgg55) ?_
     refine TVm ?_
     refine TLv (V_bin rfl rfl (fun w=>add64 w (vg (vp t_3.2 3 r_10.1) 5) r_10.2)) ?_
     refine TLv (V_idxArr (i:=4) rfl rfl underlying116 inf55 rfl (by decide) (by decide) (k:=4) (k01 _)) ?_
     refine TLn (E_store (j:=3) rfl rfl inf55 rfl rfl rfl (by simp) (cs':=e64 ((vp (vp t_3.2 3 r_10.1) 4 ((vg (vp t_3.2 3 r_10.1) 5)+r_10.2)).toList)) set_vec) (fun _=>?_)
     obtain ⟨m_5,hm_5,H⟩:=ltt_elim H
     refine TL_reE (j:=3) (A:=some (b4,0)) (cs:=e64 ((vp (vp t_3.2 3 r_10.1) 4 ((vg (vp t_3.2 3 r_10.1) 5)+r_10.2)).toList)) (cs':=e64 m_5.toList) rfl (congrArg (fun z:Vx 64 6=>e64 (Vector.toList z)) hm_5) ?_
     refine TL_nil (TX_block_normal (TX_next (TC_region (TLv (V_bin rfl rfl (fun w=>addI w s0.1 1)) ?_))))
     refine TVm ?_
     refine TL_nil ?_
     obtain rfl:=sj H
     exact TXk [0,0,0,0] (hK (w64 (s0.1+1),m_5) rfl ())
  ·refine TC_exit (TX_then_exit (TX_then_exit ?_))
   obtain rfl:=sj H
   exact TXj [2,2] (hE s0.2 rfl ())
 ·intro g
  refine TX_block_exit (TX_next (TC_seq (TC_region (TLv (V_idxArr (i:=0) rfl rfl underlying116 inf55 rfl (by decide) (by decide) (k:=0) (k01 _)) ?_))))
  refine TLv (V_load rfl (.o 1) (get_vec (f:=v64) (V:=t_1) (by decide:0<6)) isAgg55) ?_
  refine TLv (V_idxArr (i:=1) rfl rfl underlying116 inf55 rfl (by decide) (by decide) (k:=1) (k01 _)) ?_
  refine TLv (V_load rfl (.o 1) (get_vec (f:=v64) (V:=t_1) (by decide:1<6)) isAgg55) ?_
  refine TLv (V_idxArr (i:=2) rfl rfl underlying116 inf55 rfl (by decide) (by decide) (k:=2) (k01 _)) ?_
  refine TLv (V_load rfl (.o 1) (get_vec (f:=v64) (V:=t_1) (by decide:2<6)) isAgg55) ?_
  refine TLv (V_idxArr (i:=3) rfl rfl underlying116 inf55 rfl (by decide) (by decide) (k:=3) (k01 _)) ?_
  refine TLv (V_load rfl (.o 1) (get_vec (f:=v64) (V:=t_1) (by decide:3<6)) isAgg55) ?_
  refine TLv (V_buildArr (pv:=[(0,v64 (vg t_1 0)),(1,v64 (vg t_1 1)),(2,v64 (vg t_1 2)),(3,v64 (vg t_1 3))]) rfl rfl underlying57 inf57 inf55 rfl zer57 (cs:=e64 ((#v[vg t_1 0,vg t_1 1,vg t_1 2,vg t_1 3]:Vx 64 4).toList)) (by kernel_rfl)) ?_
  refine TLe (E_al64 4 inf57 zer57) (fun b5=>?_)
  refine TLn (E_sv 0 inf57) (fun _=>?_)
  obtain ⟨m_6,hm_6,H⟩:=ltt_elim H
  refine TL_reE (j:=0) (A:=some (b5,0)) (cs:=e64 ((#v[vg t_1 0,vg t_1 1,vg t_1 2,vg t_1 3]:Vx 64 4).toList)) (cs':=e64 m_6.toList) rfl (congrArg (fun z:Vx 64 4=>e64 (Vector.toList z)) hm_6) ?_
  refine TL_nil (TX_next (TC_seq ?_))
  obtain ⟨r_11,hr_11,H⟩:=bind_elim H
  refine TA_begin [⟨some (b5,0),e64 m_6.toList⟩,⟨some (b3,0),e64 ((replicate 4 0#64).toList)⟩,⟨some (b4,0),e64 t_1.toList⟩] 11 (by kernel_rfl) (N:=12) rfl ?_
  refine TA_tk 0 [0,0,0] (dn 12 1) rfl rfl (V_lag (.o 0) isAgg57 inf57) ?_
  refine TA_tk 1 [0,0,0] (dn 12 3) rfl rfl (V_move rfl) ?_
  refine TA_tk 2 [0,0,0] (dn 12 7) rfl rfl (V_nilCheck rfl) ?_
  refine TA_tk 3 [0,0,0] (dn 12 15) rfl rfl (V_fieldE rfl underlying113 rfl rfl inf57 rfl (v:=ptr (some (bf,obf)) 0) rfl) ?_
  refine TA_tk 4 [0,0,0] (dn 12 31) rfl rfl (V_lag (.r 0) isAgg57 inf57) ?_
  refine TA_mix (is:=[0,0,0]) (done':=dn 12 1023) [itV 5 167 (Value.tuple [aG [(4,e64 r_11.1.toList)],v64 r_11.2].toArray) [],itV 6 161 (Value.tuple [aG [(4,e64 r_11.1.toList)],v64 r_11.2].toArray) [5],itV 7 168 (aG [(4,e64 r_11.1.toList)]) [6],itA64 9 20 4] [itV 8 169 (v64 r_11.2) [6]] 2 (by kernel_rfl) (QP.then QP.body) (by kernel_rfl) rfl (.e rfl (E_cu (F85_calls m_6 f_M r_11 hr_11) call85 .z) (.v rfl (V_move rfl) (.v rfl V_ex (.c rfl (fun _ _=>(E_al64 4 inf57 zer57)) .nil)))) (.c rfl (fun _=>V_ex) .nil) (by kernel_rfl) rfl (fun γ=>?_)
  refine TA_cut [(169,v64 r_11.2),(20,ptr (some ((γ 9),0)) 0),(168,aG [(4,e64 r_11.1.toList)]),(19,ptr (some (b5,0)) 0),(6,ptr (some (b3,0)) 0),(7,ptr (some (b4,0)) 0)] [⟨some ((γ 9),0),e64 ((replicate 4 0#64).toList)⟩,⟨some (b5,0),e64 m_6.toList⟩,⟨some (b3,0),e64 ((replicate 4 0#64).toList)⟩,⟨some (b4,0),e64 t_1.toList⟩] ⟨rfl,rfl,rfl,rfl,rfl,rfl,trivial⟩ rfl ?_
  generalize γ 9=b6
  refine TA_all (rs:=[10]) (by kernel_rfl) rfl ?_
  refine ⟨?_,trivial⟩
  refine TO_n (is:=[1,1,1]) (done':=dn 12 2047) rfl rfl rfl (by kernel_rfl) (E_sv (vs:=e64 r_11.1.toList) 0 inf57) (fun _ _=>rfl) (fun _=>?_)
  refine TA_all (rs:=[11]) (by kernel_rfl) rfl ?_
  refine ⟨?_,trivial⟩
  refine TO_v (is:=[]) (R:=[]) (done':=dn 12 4095) rfl rfl rfl rfl (by kernel_rfl) (V_assign rfl) (fun h=>by cases h) ?_
  refine TA_done (by kernel_rfl) ?_ 0
  refine TX_next (TC_seq (TC_seq (TC_region (TLv (V_idxArr (i:=4) rfl rfl underlying116 inf55 rfl (by decide) (by decide) (k:=4) (k01 _)) ?_))))
  refine TLv (V_load rfl (.o 3) (get_vec (f:=v64) (V:=t_1) (by decide:4<6)) isAgg55) ?_
  refine TLv (V_bin rfl rfl (fun w=>eql64 w (vg t_1 4) 1#64)) ?_
  refine TVm ?_
  obtain ⟨j1,Hj,H⟩:=bind_elim H
  refine TL_join (Γ:=Unit) (fun gj1=>[(6,ptr (some (b3,0)) 0),(19,ptr (some (b5,0)) 0),(20,ptr (some (b6,0)) 0),(176,vb j1)]) (fun gj1=>[⟨some (b3,0),e64 ((replicate 4 0#64).toList)⟩,⟨some (b5,0),e64 m_6.toList⟩,⟨some (b6,0),e64 r_11.1.toList⟩]) ?_ ?_
  ·intro gj1
   refine TX_next (TCb H (fun hc H=>?_) (fun hc H=>?_))
   ·refine TC_seq (TC_region (TLv (V_lag (.o 2) isAgg57 inf57) ?_))
    refine TLn (E_sv (vs:=e64 r_11.1.toList) 0 inf57) (fun _=>?_)
    refine TL_nil (TX_next (TC_ret (TX_then_ret ?_)))
    obtain rfl:=sj H
    exact TXr (vs:=[_]) rfl ⟨(Res_agg (n:=4) rfl (by simp) (.o 0) isAgg57 inf57 rfl (lenV (f:=v64) r_11.1)),trivial⟩
   ·refine TC_skip (TX_next (TC_seq (TC_region (TLv (V_lag (.o 1) isAgg57 inf57) ?_))))
    refine TLn (E_sv (vs:=e64 m_6.toList) 0 inf57) (fun _=>?_)
    refine TL_nil (TX_next (TC_ret ?_))
    obtain rfl:=sj H
    exact TXr (vs:=[_]) rfl ⟨(Res_agg (n:=4) rfl (by simp) (.o 0) isAgg57 inf57 rfl (lenV (f:=v64) m_6)),trivial⟩
  ·intro hJ
   replace H:=Hj
   refine TFd (d:=173) H (fun hc H=>?_) (fun hc H=>?_)
   ·refine TLs ?_
    refine TLs ?_
    refine TVt ?_
    refine TL_nil ?_
    obtain rfl:=sj H
    exact TXj [2,1,0] (hJ ())
   ·refine TLw (V_move rfl) ?_
    refine TLw (V_bin rfl rfl (fun w=>eql64 w r_11.2 0#64)) ?_
    refine TVf ?_
    refine TL_nil ?_
    obtain rfl:=sj H
    exact TXj [2,1,0] (hJ ())
end Go.Proofs
end

section
namespace Go.Kx
open Go Go.Proofs
open Vector (replicate)
theorem num_add_ex (x y:Vx 64 4) : ∃ r,num_add x y=some r∧n4 r.1+2 ^ 256 * r.2.toNat=n4 x+n4 y∧r.2.toNat≤1:=by
 obtain ⟨t,h1,h2⟩:=loop_inv (body:=num_add.b0 x y) (s0:=(0#64,0,replicate 4 0#64)) 4
  (fun k s=>s.2.1=(k:Int)∧s.1.toNat≤1∧pv (2 ^ 64) (wv s.2.2) k+s.1.toNat * (2 ^ 64) ^ k=pv (2 ^ 64) (wv x) k+pv (2 ^ 64) (wv y) k)
  (fun t=>t.1.toNat≤1∧pv (2 ^ 64) (wv t.2) 4+t.1.toNat * (2 ^ 64) ^ 4=pv (2 ^ 64) (wv x) 4+pv (2 ^ 64) (wv y) 4) (by decide)
  ⟨rfl,by decide,rfl⟩
  (fun k s hk hI=>by
   obtain ⟨c,i,z⟩:=s
   obtain ⟨hi,hc,hv⟩:=hI
   dsimp only at hi hc hv
   subst hi
   obtain ⟨⟨lo,hi⟩,hr,h1,h2⟩:=add64_ex (vg x k) (vg y k) c hc
   refine ⟨(hi,((k+1:Nat):Int),vp z k lo),?_,rfl,h2,?_⟩
   ·unfold num_add.b0
    dsimp only
    refine if_i (by omega) (if_i (by omega) (if_i (by omega) ?_))
    refine bind_i (v:=(lo,hi)) (by simpa using hr) (if_i (by omega) (ltt_i fun v hv=>?_))
    subst hv
    have:w64 ((k:Int)+1)=((k+1:Nat):Int):=by rw [w64_id (by omega) (by omega)]; omega
    rw [this]; rfl
   ·dsimp only
    rw [pv_vp1 (by omega),Nat.pow_succ]
    exact step_up h1 hv)
  (fun s hI=>by
   obtain ⟨c,i,z⟩:=s
   obtain ⟨hi,hc,hv⟩:=hI
   dsimp only at hi hc hv
   subst hi
   exact ⟨(c,z),by unfold num_add.b0; exact if_n (by dsimp only; omega) rfl,hc,hv⟩)
 refine ⟨(t.2,t.1),bind_i h1 rfl,?_,h2.1⟩
 have e:(2 ^ 64:Nat) ^ 4=2 ^ 256:=by decide
 have:=h2.2
 rw [e] at this
 unfold n4
 rw [Nat.mul_comm]; exact this
theorem num_sub_ex (x y:Vx 64 4) : ∃ r,num_sub x y=some r∧n4 r.1+n4 y=n4 x+2 ^ 256 * r.2.toNat∧r.2.toNat≤1:=by
 obtain ⟨t,h1,h2⟩:=loop_inv (body:=num_sub.b0 x y) (s0:=(0#64,0,replicate 4 0#64)) 4
  (fun k s=>s.2.1=(k:Int)∧s.1.toNat≤1∧pv (2 ^ 64) (wv s.2.2) k+pv (2 ^ 64) (wv y) k=pv (2 ^ 64) (wv x) k+s.1.toNat * (2 ^ 64) ^ k)
  (fun t=>t.1.toNat≤1∧pv (2 ^ 64) (wv t.2) 4+pv (2 ^ 64) (wv y) 4=pv (2 ^ 64) (wv x) 4+t.1.toNat * (2 ^ 64) ^ 4) (by decide)
  ⟨rfl,by decide,rfl⟩
  (fun k s hk hI=>by
   obtain ⟨c,i,z⟩:=s
   obtain ⟨hi,hc,hv⟩:=hI
   dsimp only at hi hc hv
   subst hi
   obtain ⟨⟨lo,hi⟩,hr,h1,h2⟩:=sub64_ex (vg x k) (vg y k) c hc
   refine ⟨(hi,((k+1:Nat):Int),vp z k lo),?_,rfl,h2,?_⟩
   ·unfold num_sub.b0
    dsimp only
    refine if_i (by omega) (if_i (by omega) (if_i (by omega) ?_))
    refine bind_i (v:=(lo,hi)) (by simpa using hr) (if_i (by omega) (ltt_i fun v hv=>?_))
    subst hv
    have:w64 ((k:Int)+1)=((k+1:Nat):Int):=by rw [w64_id (by omega) (by omega)]; omega
    rw [this]; rfl
   ·dsimp only
    rw [pv_vp1 (by omega),Nat.pow_succ]
    exact step_dn h1 hv)
  (fun s hI=>by
   obtain ⟨c,i,z⟩:=s
   obtain ⟨hi,hc,hv⟩:=hI
   dsimp only at hi hc hv
   subst hi
   exact ⟨(c,z),by unfold num_sub.b0; exact if_n (by dsimp only; omega) rfl,hc,hv⟩)
 refine ⟨(t.2,t.1),bind_i h1 rfl,?_,h2.1⟩
 have e:(2 ^ 64:Nat) ^ 4=2 ^ 256:=by decide
 have:=h2.2
 rw [e] at this
 unfold n4
 rw [Nat.mul_comm (2 ^ 256)]; exact this
theorem mul64_ex (x y:BitVec 64) : ∃ r,math_bits_Mul64 x y=some r∧r.2.toNat+2 ^ 64 * r.1.toNat=x.toNat * y.toNat:=by
 unfold math_bits_Mul64 ltt
 refine ⟨_,rfl,?_⟩
 dsimp only
 have hx:=x.isLt
 have hy:=y.isLt
 generalize hX:x.toNat=X at hx
 generalize hY:y.toNat=Y at hy
 have hx1:X / 2 ^ 32<2 ^ 32:=by omega
 have hy1:Y / 2 ^ 32<2 ^ 32:=by omega
 have hx0:X % 2 ^ 32<2 ^ 32:=by omega
 have hy0:Y % 2 ^ 32<2 ^ 32:=by omega
 generalize ex1:X / 2 ^ 32=x1 at hx1
 generalize ey1:Y / 2 ^ 32=y1 at hy1
 generalize ex0:X % 2 ^ 32=x0 at hx0
 generalize ey0:Y % 2 ^ 32=y0 at hy0
 have p00:=mul_lt32 hx0 hy0
 have p10:=mul_lt32 hx1 hy0
 have p01:=mul_lt32 hx0 hy1
 have p11:=mul_lt32 hx1 hy1
 have eX:X=x0+2 ^ 32 * x1:=by omega
 have eY:Y=y0+2 ^ 32 * y1:=by omega
 have eXY:X * Y=x0 * y0+2 ^ 32 * (x1 * y0)+2 ^ 32 * (x0 * y1)+2 ^ 64 * (x1 * y1):=by
  subst eX eY; grind
 simp only [BitVec.toNat_add,BitVec.toNat_mul,and32w,shr32w,hX,hY,ex0,ex1,ey0,ey1]
 rw [eXY]
 generalize x0 * y0=a at *
 generalize x1 * y0=b at *
 generalize x0 * y1=c at *
 generalize x1 * y1=d at *
 clear eX eY ex0 ex1 ey0 ey1 hX hY hx hy eXY
 omega
end Go.Kx
end

section
namespace Go.Kx
open Go Go.Proofs
theorem mac64 (x y t c:BitVec 64) : ∃ hl r2 r3,math_bits_Mul64 x y=some hl∧math_bits_Add64 hl.2 t 0#64=some r2∧math_bits_Add64 r2.1 c 0#64=some r3 ∧
  r3.1.toNat+2 ^ 64 * ((hl.1+r2.2)+r3.2).toNat=x.toNat * y.toNat+t.toNat+c.toNat:=by
 obtain ⟨hl,h1,e1⟩:=mul64_ex x y
 obtain ⟨r2,h2,e2,l2⟩:=add64_ex hl.2 t 0#64 (by decide)
 obtain ⟨r3,h3,e3,l3⟩:=add64_ex r2.1 c 0#64 (by decide)
 refine ⟨hl,r2,r3,h1,h2,h3,?_⟩
 have hm:x.toNat * y.toNat≤(2 ^ 64 - 1) * (2 ^ 64 - 1):=Nat.mul_le_mul (by have:=x.isLt; omega) (by have:=y.isLt; omega)
 have ht:=t.isLt
 have hc:=c.isLt
 have z:(0#64).toNat=0:=rfl
 rw [z] at e2 e3
 have a1:=hl.1.isLt
 have a2:=hl.2.isLt
 have a3:=r2.1.isLt
 have a4:=r3.1.isLt
 simp only [BitVec.toNat_add]
 generalize x.toNat * y.toNat=p at *
 omega
theorem mac64' (x y t:BitVec 64) : ∃ hl r2,math_bits_Mul64 x y=some hl∧math_bits_Add64 hl.2 t 0#64=some r2∧r2.1.toNat+2 ^ 64 * (hl.1+r2.2).toNat=x.toNat * y.toNat+t.toNat:=by
 obtain ⟨hl,h1,e1⟩:=mul64_ex x y
 obtain ⟨r2,h2,e2,l2⟩:=add64_ex hl.2 t 0#64 (by decide)
 refine ⟨hl,r2,h1,h2,?_⟩
 have hm:x.toNat * y.toNat≤(2 ^ 64 - 1) * (2 ^ 64 - 1):=Nat.mul_le_mul (by have:=x.isLt; omega) (by have:=y.isLt; omega)
 have ht:=t.isLt
 have z:(0#64).toNat=0:=rfl
 rw [z] at e2
 have a1:=hl.1.isLt
 have a2:=hl.2.isLt
 have a3:=r2.1.isLt
 simp only [BitVec.toNat_add]
 generalize x.toNat * y.toNat=p at *
 omega
theorem w64_s {k:Nat} (h:k<1000):w64 ((k:Int)+1)=((k+1:Nat):Int):=by rw [w64_id (by omega) (by omega)]; omega
theorem mul_b1 (x y:Vx 64 4) (i:Nat) (hi:i<4) (t:Vx 64 6) :
  ∃ r,loop (num_Field_Mul.b1 x y ((i:Int),t)) BIG (0#64,0,t)=some r∧pv (2 ^ 64) (wv r.2) 4+r.1.toNat * (2 ^ 64) ^ 4=pv (2 ^ 64) (wv t) 4+pv (2 ^ 64) (wv x) 4 * wv y i∧wv r.2 4=wv t 4:=by
 refine loop_inv 4 (fun k s=>s.2.1=(k:Int)∧(∀ j,k≤j → j<6 → wv s.2.2 j=wv t j)∧pv (2 ^ 64) (wv s.2.2) k+s.1.toNat * (2 ^ 64) ^ k=pv (2 ^ 64) (wv t) k+pv (2 ^ 64) (wv x) k * wv y i)
  _ (by decide) ⟨rfl,fun _ _ _=>rfl,by simp [pv]⟩ ?_ ?_
 ·rintro k ⟨c,i',v⟩ hk ⟨hi',hv,he⟩
  dsimp only at hi' hv he
  subst hi'
  obtain ⟨hl,r2,r3,h1,h2,h3,e⟩:=mac64 (vg x k) (vg y i) (vg v k) c
  refine ⟨((hl.1+r2.2)+r3.2,((k+1:Nat):Int),vp v k r3.1),?_,rfl,?_,?_⟩
  ·unfold num_Field_Mul.b1
   dsimp only
   simp only [Int.toNat_natCast]
   refine if_i (by omega) (if_i (by omega) (if_i (by omega) ?_))
   refine bind_i (v:=hl) h1 (if_i (by omega) (bind_i (v:=r2) h2 (ltt_i fun v1 hv1=>bind_i (v:=r3) h3 (if_i (by omega) (ltt_i fun v2 hv2=>ltt_i fun v3 hv3=>?_)))))
   rw [hv3,hv2,hv1,w64_s (by omega)]
  ·intro j h1 h2
   dsimp only
   rw [wv_vp (by omega) h2,if_neg (by omega)]
   exact hv j (by omega) h2
  ·dsimp only
   rw [pv_vp1 (by omega),pow_s (2 ^ 64) k]
   have hvk:wv v k=wv t k:=hv k (Nat.le_refl _) (by omega)
   have e':r3.1.toNat+2 ^ 64 * ((hl.1+r2.2)+r3.2).toNat=wv x k * wv y i+wv t k+c.toNat:=by rw [← hvk]; exact e
   rw [step_mul e' he]
   show _=pv (2 ^ 64) (wv t) k+wv t k * (2 ^ 64) ^ k+(pv (2 ^ 64) (wv x) k+wv x k * (2 ^ 64) ^ k) * wv y i
   grind
 ·rintro ⟨c,i',v⟩ ⟨hi',hv,he⟩
  dsimp only at hi' hv he
  subst hi'
  exact ⟨(c,v),by unfold num_Field_Mul.b1; exact if_n (by dsimp only; omega) rfl,he,hv 4 (by omega) (by omega)⟩
theorem mul_b2 (M:Vx 64 4) (m c0:BitVec 64) (t:Vx 64 6) :
  ∃ r,loop (num_Field_Mul.b2 M m) BIG (c0,1,t)=some r∧pv (2 ^ 64) (wv r.2) 3+r.1.toNat * (2 ^ 64) ^ 3=pv (2 ^ 64) (fun j=>wv t (j+1)) 3+pv (2 ^ 64) (fun j=>wv M (j+1)) 3 * m.toNat+c0.toNat∧wv r.2 4=wv t 4∧wv r.2 5=wv t 5:=by
 refine loop_inv 3 (fun k s=>s.2.1=((k+1:Nat):Int)∧(∀ j,k≤j → j<6 → wv s.2.2 j=wv t j)∧pv (2 ^ 64) (wv s.2.2) k+s.1.toNat * (2 ^ 64) ^ k=pv (2 ^ 64) (fun j=>wv t (j+1)) k+pv (2 ^ 64) (fun j=>wv M (j+1)) k * m.toNat+c0.toNat)
  _ (by decide) ⟨rfl,fun _ _ _=>rfl,by simp [pv]⟩ ?_ ?_
 ·rintro k ⟨c,i',v⟩ hk ⟨hi',hv,he⟩
  dsimp only at hi' hv he
  subst hi'
  obtain ⟨hl,r2,r3,h1,h2,h3,e⟩:=mac64 m (vg M (k+1)) (vg v (k+1)) c
  refine ⟨((hl.1+r2.2)+r3.2,((k+1+1:Nat):Int),vp v k r3.1),?_,rfl,?_,?_⟩
  ·unfold num_Field_Mul.b2
   dsimp only
   have ek:w64 (((k+1:Nat):Int) - 1)=(k:Int):=by rw [w64_id (by omega) (by omega)]; omega
   rw [ek]
   simp only [Int.toNat_natCast]
   refine if_i (by omega) (if_i (by omega) ?_)
   refine bind_i (v:=hl) h1 (if_i (by omega) (bind_i (v:=r2) h2 (ltt_i fun v1 hv1=>bind_i (v:=r3) h3 (if_i (by omega) (ltt_i fun v2 hv2=>ltt_i fun v3 hv3=>ltt_i fun v4 hv4=>?_)))))
   rw [hv4,hv3,hv2,hv1,w64_s (by omega)]
  ·intro j h1 h2
   dsimp only
   rw [wv_vp (by omega) h2,if_neg (by omega)]
   exact hv j (by omega) h2
  ·dsimp only
   rw [pv_vp1 (by omega),pow_s (2 ^ 64) k]
   have hvk:wv v (k+1)=wv t (k+1):=hv (k+1) (by omega) (by omega)
   have e':r3.1.toNat+2 ^ 64 * ((hl.1+r2.2)+r3.2).toNat=m.toNat * wv M (k+1)+wv t (k+1)+c.toNat:=by rw [← hvk]; exact e
   rw [step_mul e' he]
   show _=pv (2 ^ 64) (fun j=>wv t (j+1)) k+wv t (k+1) * (2 ^ 64) ^ k+(pv (2 ^ 64) (fun j=>wv M (j+1)) k+wv M (k+1) * (2 ^ 64) ^ k) * m.toNat+c0.toNat
   grind
 ·rintro ⟨c,i',v⟩ ⟨hi',hv,he⟩
  dsimp only at hi' hv he
  subst hi'
  exact ⟨(c,v),by unfold num_Field_Mul.b2; exact if_n (by dsimp only; omega) rfl,he,hv 4 (by omega) (by omega),hv 5 (by omega) (by omega)⟩
end Go.Kx
end

section
namespace Go.Kx
open Go Go.Proofs
open Vector (replicate)
theorem round_eq {B X Y Mt T T' U m M0 Ms t0 ts c2 r4 r42 r10 r102 c v3:Nat}
  (hB:B=2 ^ 64) (hM:Mt=M0+B * Ms) (ht:U=t0+B * ts+(r4+B * r42) * B ^ 4)
  (hU:U=T+X * Y) (hc2:B * c2=m * M0+t0) (h2:v3+c * B ^ 3=ts+Ms * m+c2) (h10:r10+B * r102=r4+c) (hT:T'=v3+r10 * B ^ 3+(r42+r102) * B ^ 4) :
  B * T'=T+X * Y+m * Mt:=by
 clear hB
 subst hM hT
 exact Int.ofNat_inj.1 (by
  simp only [Int.natCast_add,Int.natCast_mul,Int.natCast_pow]
  replace ht:=congrArg (Nat.cast (R:=Int)) ht
  replace hU:=congrArg (Nat.cast (R:=Int)) hU
  replace hc2:=congrArg (Nat.cast (R:=Int)) hc2
  replace h2:=congrArg (Nat.cast (R:=Int)) h2
  replace h10:=congrArg (Nat.cast (R:=Int)) h10
  simp only [Int.natCast_add,Int.natCast_mul,Int.natCast_pow] at ht hU hc2 h2 h10
  generalize (B:Int)=B at *
  generalize (X:Int)=X at *
  generalize (Y:Int)=Y at *
  generalize (T:Int)=T at *
  generalize (U:Int)=U at *
  generalize (m:Int)=m at *
  generalize (M0:Int)=M0 at *
  generalize (Ms:Int)=Ms at *
  generalize (t0:Int)=t0 at *
  generalize (ts:Int)=ts at *
  generalize (c2:Int)=c2 at *
  generalize (r4:Int)=r4 at *
  generalize (r42:Int)=r42 at *
  generalize (r10:Int)=r10 at *
  generalize (r102:Int)=r102 at *
  generalize (c:Int)=c at *
  generalize (v3:Int)=v3 at *
  obtain rfl:r4=r10+B * r102 - c:=by rw [h10,Int.add_sub_cancel]
  obtain rfl:ts=v3+c * B ^ 3 - Ms * m - c2:=by rw [h2]; omega
  obtain rfl:t0=B * c2 - m * M0:=by rw [hc2]; omega
  obtain rfl:T=U - X * Y:=by rw [hU]; omega
  rw [ht]
  clear ht hU hc2 h2 h10
  grind)
theorem outer_eq {B w X py yk q m M T T':Nat} (he:T * w=X * py+q * M) (e:B * T'=T+X * yk+m * M):T' * (w * B)=X * (py+yk * w)+(q+m * w) * M:=by
 have e3:T' * (w * B)=(B * T') * w:=by rw [Nat.mul_comm w B, ← Nat.mul_assoc,Nat.mul_comm T' B]
 rw [e3,e,Nat.add_mul,Nat.add_mul,he,Nat.mul_add,Nat.add_mul,Nat.mul_assoc X yk w,Nat.mul_right_comm m M w]
 generalize X * py=a
 generalize q * M=b
 generalize X * (yk * w)=c
 generalize m * w * M=d
 omega
theorem mul_b0 (M:Vx 64 4) (inv:BitVec 64) (hinv:(wv M 0 * inv.toNat+1) % 2 ^ 64=0) (x y:Vx 64 4) (i:Nat) (hi:i<4) (t:Vx 64 6) :
  ∃ t',num_Field_Mul.b0 M inv x y ((i:Int),t)=some (.inl (((i+1:Nat):Int),t')) ∧ ∃ m,m<2 ^ 64∧2 ^ 64 * pv (2 ^ 64) (wv t') 5=pv (2 ^ 64) (wv t) 5+n4 x * wv y i+m * n4 M:=by
 obtain ⟨⟨c,u⟩,hl1,e1,e1'⟩:=mul_b1 x y i hi t
 dsimp only at e1 e1'
 obtain ⟨r4,h4,e4,l4⟩:=add64_ex (vg u 4) c 0#64 (by decide)
 obtain ⟨w,hw⟩ : ∃ w,w=vp (vp u 4 r4.1) 5 r4.2:=⟨_,rfl⟩
 obtain ⟨m,hm⟩ : ∃ m,m=vg w 0 * inv:=⟨_,rfl⟩
 obtain ⟨hl,r6,h5,h6,e6⟩:=mac64' m (vg M 0) (vg w 0)
 obtain ⟨⟨c',v⟩,hl2,e2,e24,e25⟩:=mul_b2 M m (hl.1+r6.2) w
 dsimp only at e2 e24 e25
 obtain ⟨r10,h10,e10,l10⟩:=add64_ex (vg v 4) c' 0#64 (by decide)
 refine ⟨vp (vp v 3 r10.1) 4 ((vg (vp v 3 r10.1) 5)+r10.2),?_,m.toNat,m.isLt,?_⟩
 ·unfold num_Field_Mul.b0
  dsimp only
  refine if_i (by omega) (bind_i hl1 (bind_i (v:=r4) h4 (ltt_i fun v1 hv1=>ltt_i fun v2 hv2=>?_)))
  rw [← hw] at hv1
  subst hv1
  rw [← hm] at hv2
  subst hv2
  refine bind_i (v:=hl) h5 (bind_i (v:=r6) h6 (ltt_i fun v3 hv3=>?_))
  rw [hv3]
  refine bind_i hl2 (bind_i (v:=r10) h10 (ltt_i fun v4 hv4=>?_))
  rw [hv4,w64_s (by omega)]
 ·have hlo:r6.1.toNat=0:=by
   have hmm:m.toNat=wv w 0 * inv.toNat % 2 ^ 64:=by rw [hm,BitVec.toNat_mul]; rfl
   have hd:(m.toNat * wv M 0+wv w 0) % 2 ^ 64=0:=by
    rw [hmm,Nat.add_mod,Nat.mod_mul_mod, ← Nat.add_mod]
    have:wv w 0 * inv.toNat * wv M 0+wv w 0=wv w 0 * (wv M 0 * inv.toNat+1):=by grind
    rw [this,Nat.mul_mod,hinv,Nat.mul_zero,Nat.zero_mod]
   have e6':r6.1.toNat+2 ^ 64 * (hl.1+r6.2).toNat=m.toNat * wv M 0+wv w 0:=e6
   have:=r6.1.isLt
   rw [← e6',Nat.add_mul_mod_self_left] at hd
   rwa [Nat.mod_eq_of_lt this] at hd
  have z:(0#64).toNat=0:=rfl
  rw [z,Nat.add_zero] at e4 e10
  have hw5:wv w 5=r4.2.toNat:=by rw [hw,wv_vp (by decide) (by decide),if_pos rfl]
  have hw4:wv w 4=r4.1.toNat:=by rw [hw,wv_vp (by decide) (by decide),if_neg (by decide),wv_vp (by decide) (by decide),if_pos rfl]
  have hw3:pv (2 ^ 64) (wv w) 4=pv (2 ^ 64) (wv u) 4:=by rw [hw,pv_vp (by decide) (by decide),pv_vp (by decide) (by decide)]
  have hT:pv (2 ^ 64) (wv (vp (vp v 3 r10.1) 4 ((vg (vp v 3 r10.1) 5)+r10.2))) 5=pv (2 ^ 64) (wv v) 3+r10.1.toNat * (2 ^ 64) ^ 3+(r4.2.toNat+r10.2.toNat) * (2 ^ 64) ^ 4:=by
   rw [pv_vp1 (by decide),pv_vp1 (by decide)]
   congr 2
   rw [BitVec.toNat_add]
   have:(vg (vp v 3 r10.1) 5).toNat=r4.2.toNat:=by
    show wv _ 5=_
    rw [wv_vp (by decide) (by decide),if_neg (by decide),e25,hw5]
   rw [this,Nat.mod_eq_of_lt (by omega)]
  have hx:n4 x=pv (2 ^ 64) (wv x) 4:=rfl
  have hM:n4 M=wv M 0+2 ^ 64 * pv (2 ^ 64) (fun j=>wv M (j+1)) 3:=pv_shift 3
  have hws:pv (2 ^ 64) (wv w) 4=wv w 0+2 ^ 64 * pv (2 ^ 64) (fun j=>wv w (j+1)) 3:=pv_shift 3
  have e6':r6.1.toNat+2 ^ 64 * (hl.1+r6.2).toNat=m.toNat * wv M 0+wv w 0:=e6
  rw [hlo,Nat.zero_add] at e6'
  have e4':r4.1.toNat+2 ^ 64 * r4.2.toNat=wv u 4+c.toNat:=e4
  have e10':r10.1.toNat+2 ^ 64 * r10.2.toNat=wv v 4+c'.toNat:=e10
  rw [e24,hw4] at e10'
  rw [e1'] at e4'
  have ht5:pv (2 ^ 64) (wv t) 5=pv (2 ^ 64) (wv t) 4+wv t 4 * (2 ^ 64) ^ 4:=rfl
  generalize hBB:(2 ^ 64:Nat)=B at *
  refine round_eq (B:=B) (U:=wv w 0+B * pv B (fun j=>wv w (j+1)) 3+(r4.1.toNat+B * r4.2.toNat) * B ^ 4) hBB.symm hM rfl ?_ e6' e2 e10' hT
  rw [← hws,hw3,e4',ht5,hx]
  rw [Nat.add_mul]
  have:=e1
  omega
theorem num_Field_Mul_ex (M:Vx 64 4) (inv:BitVec 64) (one two x y:Vx 64 4) (hinv:(wv M 0 * inv.toNat+1) % 2 ^ 64=0) (hxy:n4 x * n4 y<n4 M * 2 ^ 256) :
  ∃ r,num_Field_Mul M inv one two x y=some r∧n4 r<n4 M∧(n4 r * 2 ^ 256) % n4 M=(n4 x * n4 y) % n4 M:=by
 obtain ⟨t,h1,q,hq,e⟩:=loop_inv (body:=num_Field_Mul.b0 M inv x y) (s0:=(0,replicate 6 0#64)) 4
  (fun k s=>s.1=(k:Int) ∧ ∃ q,q<(2 ^ 64) ^ k∧pv (2 ^ 64) (wv s.2) 5 * (2 ^ 64) ^ k=n4 x * pv (2 ^ 64) (wv y) k+q * n4 M)
  (fun t => ∃ q,q<(2 ^ 64) ^ 4∧pv (2 ^ 64) (wv t) 5 * (2 ^ 64) ^ 4=n4 x * pv (2 ^ 64) (wv y) 4+q * n4 M) (by decide)
  ⟨rfl,0,by decide,by
   have:pv (2 ^ 64) (wv (replicate 6 0#64)) 5=0:=by decide
   dsimp only
   rw [this]; simp [pv]⟩
  (fun k s hk hI=>by
   obtain ⟨i,t⟩:=s
   obtain ⟨hi,q,hq,he⟩:=hI
   dsimp only at hi hq he
   subst hi
   obtain ⟨t',h1,m,hm,e⟩:=mul_b0 M inv hinv x y k hk t
   refine ⟨_,h1,rfl,q+m * (2 ^ 64) ^ k,?_,?_⟩
   ·rw [pow_s (2 ^ 64) k]
    generalize hBB:(2 ^ 64:Nat)=B at *
    have:=Nat.mul_le_mul_right (B ^ k) (Nat.succ_le_of_lt hm)
    rw [Nat.succ_mul] at this
    rw [Nat.mul_comm (B ^ k) B]
    omega
   ·dsimp only
    rw [pow_s (2 ^ 64) k]
    show _=n4 x * (pv (2 ^ 64) (wv y) k+wv y k * (2 ^ 64) ^ k)+_
    exact outer_eq he e)
  (fun s hI=>by
   obtain ⟨i,t⟩:=s
   obtain ⟨hi,q,hq,he⟩:=hI
   dsimp only at hi hq he
   subst hi
   exact ⟨t,by unfold num_Field_Mul.b0; exact if_n (by dsimp only; omega) rfl,q,hq,he⟩)
 obtain ⟨z,hz⟩ : ∃ z:Vx 64 4,z = #v[vg t 0,vg t 1,vg t 2,vg t 3]:=⟨_,rfl⟩
 have ez:n4 z=pv (2 ^ 64) (wv t) 4:=by
  refine pv_congr fun j hj=>?_
  rw [hz]
  have:j=0 ∨ j=1 ∨ j=2 ∨ j=3:=by omega
  rcases this with rfl | rfl | rfl | rfl <;> rfl
 have e5:pv (2 ^ 64) (wv t) 5=n4 z+wv t 4 * 2 ^ 256:=by
  rw [ez]
  show pv (2 ^ 64) (wv t) 4+wv t 4 * (2 ^ 64) ^ 4=_
  rw [show (2 ^ 64:Nat) ^ 4=2 ^ 256 by decide]
 rw [show (2 ^ 64:Nat) ^ 4=2 ^ 256 by decide] at hq e
 have ey:pv (2 ^ 64) (wv y) 4=n4 y:=rfl
 rw [e5,ey] at e
 obtain ⟨⟨w,b⟩,hs,es,lb⟩:=num_sub_ex z M
 dsimp only at es lb
 have hzl:=n4_lt z
 have hwl:=n4_lt w
 have hMl:=n4_lt M
 have hlt:n4 z+wv t 4 * 2 ^ 256<2 * n4 M:=by
  have:q * n4 M≤2 ^ 256 * n4 M:=Nat.mul_le_mul_right _ (Nat.le_of_lt hq)
  have h3:(n4 z+wv t 4 * 2 ^ 256) * 2 ^ 256<(2 * n4 M) * 2 ^ 256:=by
   rw [e]
   generalize n4 x * n4 y=p at *
   generalize q * n4 M=p2 at *
   omega
  exact Nat.lt_of_mul_lt_mul_right h3
 have ht4:wv t 4≤1:=by omega
 have hgoal : ∀ r:Vx 64 4,(n4 r=n4 z+wv t 4 * 2 ^ 256 ∨ n4 r+n4 M=n4 z+wv t 4 * 2 ^ 256) → (n4 r * 2 ^ 256) % n4 M=(n4 x * n4 y) % n4 M:=fun r hr=>by
  have key:((n4 z+wv t 4 * 2 ^ 256) * 2 ^ 256) % n4 M=(n4 x * n4 y) % n4 M:=by rw [e,Nat.add_mul_mod_self_right]
  rcases hr with hr | hr
  ·rw [hr]; exact key
  ·rw [← hr,Nat.add_mul,Nat.add_mul_mod_self_left] at key
   exact key
 unfold num_Field_Mul
 by_cases h4:vg t 4=1#64
 ·have h4':wv t 4=1:=by unfold wv; rw [h4]; rfl
  refine ⟨w,bind_i h1 (ltt_i fun v hv=>?_),?_,hgoal w (.inr ?_)⟩
  ·rw [hv, ← hz]
   exact bind_i hs (bind_i (if_i h4 rfl) (if_i rfl rfl))
  ·omega
  ·omega
 ·have h4':wv t 4=0:=by
   have:wv t 4 ≠ 1:=fun h=>h4 (BitVec.eq_of_toNat_eq h)
   omega
  by_cases hb:b=0#64
  ·have hb':b.toNat=0:=by rw [hb]; rfl
   refine ⟨w,bind_i h1 (ltt_i fun v hv=>?_),?_,hgoal w (.inr ?_)⟩
   ·rw [hv, ← hz]
    exact bind_i hs (bind_i (if_n h4 rfl) (if_i (by simp [hb]) rfl))
   ·omega
   ·omega
  ·have hb':b.toNat=1:=by
    have:b.toNat ≠ 0:=fun h=>hb (BitVec.eq_of_toNat_eq h)
    omega
   refine ⟨z,bind_i h1 (ltt_i fun v hv=>?_),?_,hgoal z (.inl ?_)⟩
   ·rw [hv, ← hz]
    exact bind_i hs (bind_i (if_n h4 rfl) (if_n (by simp [hb]) rfl))
   ·omega
   ·omega
end Go.Kx
end

/-
  Part 17 of the proof of what several laws share.
-/
import Derived.Test.YtkgeoekcnlgfnaaGreatDoorKc1
import Derived.Test.YtkgeoekcnlgfnaaGreatDoorKc2
import Derived.Test.YtkgeoekcnlgfnaaGreatDoorKc3
import Derived.Test.YtkgeoekcnlgfnaaGreatDoorKc4
import Derived.Test.YtkgeoekcnlgfnaaGreatDoorKc5
import Derived.Test.YtkgeoekcnlgfnaaGreatDoorKc6
import Derived.Test.YtkgeoekcnlgfnaaGreatDoorKc7
import Derived.Test.YtkgeoekcnlgfnaaGreatDoorKc14
set_option linter.unusedVariables false
set_option linter.unusedSimpArgs false
section
namespace Go.Proofs
open Go Go.Kx
open Vector (replicate)
open TryzI Tryz
def aes_Cipher_Encrypt.b0 (c_keys:List (Vx 8 16)) (s0:Int × Vx 8 16):Option ((Int × Vx 8 16) ⊕ (Vx 8 16)) :=
 if s0.1<16 then (if 0≤s0.1∧s0.1<(16:Int) then (if 0≤(0:Int)∧(0:Int)<((c_keys).length:Int) then (if 0≤s0.1∧s0.1<(16:Int) then (if 0≤s0.1∧s0.1<(16:Int) then (ltt (vp s0.2 ((s0.1).toNat) ((vg s0.2 ((s0.1).toNat)) ^^^ (vg (lg c_keys 0) ((s0.1).toNat)))) fun (m_1:Vx 8 16)=>(some (.inl (w64 (s0.1+1),m_1)))) else none) else none) else none) else none) else (some (.inr s0.2))
def aes_Cipher_Encrypt.b2 (c_table:Vx 8 256) (s1:Int × Vx 8 16) (s2:Int × Vx 8 16):Option ((Int × Vx 8 16) ⊕ (Vx 8 16)) :=
 if s2.1<16 then (if 0≤(w64 (s2.1+(w64 (4 * (s2.1.tmod 4))))).tmod 16∧(w64 (s2.1+(w64 (4 * (s2.1.tmod 4))))).tmod 16<(16:Int) then (if 0≤s2.1∧s2.1<(16:Int) then (ltt (vp s2.2 ((s2.1).toNat) (vg c_table ((vg s1.2 (((w64 (s2.1+(w64 (4 * (s2.1.tmod 4))))).tmod 16).toNat)).toNat))) fun (m_2:Vx 8 16)=>(some (.inl (w64 (s2.1+1),m_2)))) else none) else none) else (some (.inr s2.2))
def aes_Cipher_Encrypt.b3 (c_keys:List (Vx 8 16)) (s1:Int × Vx 8 16) (j1:Vx 8 16) (s3:Int × Vx 8 16):Option ((Int × Vx 8 16) ⊕ (Vx 8 16)) :=
 if s3.1<16 then (if 0≤s3.1∧s3.1<(16:Int) then (if 0≤s1.1∧s1.1<((c_keys).length:Int) then (if 0≤s3.1∧s3.1<(16:Int) then (if 0≤s3.1∧s3.1<(16:Int) then (ltt (vp s3.2 ((s3.1).toNat) ((vg j1 ((s3.1).toNat)) ^^^ (vg (lg c_keys ((s1.1).toNat)) ((s3.1).toNat)))) fun (m_3:Vx 8 16)=>(some (.inl (w64 (s3.1+1),m_3)))) else none) else none) else none) else none) else (some (.inr s3.2))
def aes_Cipher_Encrypt.b4  (s4:Int × Vx 8 16):Option ((Int × Vx 8 16) ⊕ (Vx 8 16)) :=
 if s4.1<16 then (if 0≤s4.1∧s4.1<(16:Int) then (if 0≤w64 (s4.1+1)∧w64 (s4.1+1)<(16:Int) then (if 0≤w64 (s4.1+2)∧w64 (s4.1+2)<(16:Int) then (if 0≤w64 (s4.1+3)∧w64 (s4.1+3)<(16:Int) then (ltt (vg s4.2 ((s4.1).toNat)) fun (p1:BitVec 8)=>(ltt (vg s4.2 ((w64 (s4.1+1)).toNat)) fun (q1:BitVec 8)=>(ltt (vg s4.2 ((w64 (s4.1+2)).toNat)) fun (r_1:BitVec 8)=>(ltt (vg s4.2 ((w64 (s4.1+3)).toNat)) fun (s_1:BitVec 8)=>(ltt (((p1 ^^^ q1) ^^^ r_1) ^^^ s_1) fun (all1:BitVec 8)=>(if 0≤s4.1∧s4.1<(16:Int) then ((aes_twice (p1 ^^^ q1)).bind fun (r_2:BitVec 8)=>(if 0≤s4.1∧s4.1<(16:Int) then (ltt (vp s4.2 ((s4.1).toNat) ((vg s4.2 ((s4.1).toNat)) ^^^ (all1 ^^^ r_2))) fun (m_4:Vx 8 16)=>(if 0≤w64 (s4.1+1)∧w64 (s4.1+1)<(16:Int) then ((aes_twice (q1 ^^^ r_1)).bind fun (r_3:BitVec 8)=>(if 0≤w64 (s4.1+1)∧w64 (s4.1+1)<(16:Int) then (ltt (vp m_4 ((w64 (s4.1+1)).toNat) ((vg m_4 ((w64 (s4.1+1)).toNat)) ^^^ (all1 ^^^ r_3))) fun (m_5:Vx 8 16)=>(if 0≤w64 (s4.1+2)∧w64 (s4.1+2)<(16:Int) then ((aes_twice (r_1 ^^^ s_1)).bind fun (r_4:BitVec 8)=>(if 0≤w64 (s4.1+2)∧w64 (s4.1+2)<(16:Int) then (ltt (vp m_5 ((w64 (s4.1+2)).toNat) ((vg m_5 ((w64 (s4.1+2)).toNat)) ^^^ (all1 ^^^ r_4))) fun (m_6:Vx 8 16)=>(if 0≤w64 (s4.1+3)∧w64 (s4.1+3)<(16:Int) then ((aes_twice (s_1 ^^^ p1)).bind fun (r_5:BitVec 8)=>(if 0≤w64 (s4.1+3)∧w64 (s4.1+3)<(16:Int) then (ltt (vp m_6 ((w64 (s4.1+3)).toNat) ((vg m_6 ((w64 (s4.1+3)).toNat)) ^^^ (all1 ^^^ r_5))) fun (m_7:Vx 8 16)=>(ltt (w64 (s4.1+4)) fun (i1:Int)=>(some (.inl (i1,m_7))))) else none)) else none)) else none)) else none)) else none)) else none)) else none)) else none)))))) else none) else none) else none) else none) else (some (.inr s4.2))
def aes_Cipher_Encrypt.b1 (c_table:Vx 8 256) (c_keys:List (Vx 8 16)) (s1:Int × Vx 8 16):Option ((Int × Vx 8 16) ⊕ (Vx 8 16)) :=
 if s1.1<((c_keys).length:Int) then ((loop (aes_Cipher_Encrypt.b2 c_table s1) BIG (0,replicate 16 0#8)).bind fun (t_3:Vx 8 16)=>((if s1.1<(w64 (((c_keys).length:Int) - 1)) then ((loop (aes_Cipher_Encrypt.b4) BIG (0,t_3)).bind fun (t_5:Vx 8 16)=>(some t_5)) else (some t_3)).bind fun (j1:Vx 8 16)=>((loop (aes_Cipher_Encrypt.b3 c_keys s1 j1) BIG (0,s1.2)).bind fun (t_4:Vx 8 16)=>(ltt (w64 (s1.1+1)) fun (round1:Int)=>(some (.inl (round1,t_4))))))) else (some (.inr s1.2))
def aes_Cipher_Encrypt (c_table:Vx 8 256) (c_keys:List (Vx 8 16)) (b:Vx 8 16):Option (Vx 8 16) :=
 (loop (aes_Cipher_Encrypt.b0 c_keys) BIG (0,b)).bind fun (t_1:Vx 8 16)=>((loop (aes_Cipher_Encrypt.b1 c_table c_keys) BIG (1,t_1)).bind fun (t_2:Vx 8 16)=>(some t_2))
set_option maxHeartbeats 4000000 in
set_option maxRecDepth 20000 in
theorem F142_calls (bc:Nat) (obc:Nat) (Ac_keys:Adr) (cc_keys:Nat) (c_table:Vx 8 256) (c_keys:List (Vx 8 16)) (b:Vx 8 16) (hcc_keys:(c_keys).length≤cc_keys) (r:Vx 8 16) (H:aes_Cipher_Encrypt c_table c_keys b=some r) :
  Does Tryz.prog 142 [ptr (some (bc,obc)) 0,aG [(16,e8 b.toList)]] [] [⟨some (bc,obc),e8 c_table.toList⟩,⟨some (bc,obc+256),[sl Ac_keys ((c_keys).length) cc_keys]⟩,⟨Ac_keys,eF (fun V:Vx 8 16=>e8 V.toList) c_keys⟩] (Γ:=Unit) (fun g=>aG [(16,e8 r.toList)]) (fun g=>[]):=by
 intro w hmem hro hd
 refine calls_of (N:=162) (m0:=[(0,ptr (some (bc,obc)) 0),(1,aG [(16,e8 b.toList)])]) func142 rfl ntmps142 (argM_ok [ptr (some (bc,obc)) 0,aG [(16,e8 b.toList)]]) rfl hmem hro hd ?_
 unfold aes_Cipher_Encrypt at H
 refine TC_seq (TC_region (TLe (E_boxP [(16,e8 b.toList)] rfl rfl ⟨(lenV (f:=v8) b),trivial⟩) (fun b1=>?_)))
 refine TLe (E_allocP [(16,e8 ((replicate 16 0#8).toList))] inf171 zer171 ⟨(lenV (f:=v8) (replicate 16 0#8)),trivial⟩) (fun b2=>?_)
 refine TL_nil (TX_next (TC_seq (TC_seq (TC_region (TVm ?_)))))
 refine TL_nil (TX_next (TC_block ?_))
 obtain ⟨t_1,Hl,H⟩:=bind_elim H
 refine TC.sub (m':=[(0,_),(3,_),(4,_),(16,_)]) ⟨rfl,rfl,rfl,rfl,trivial⟩ ?_
 refine TC.pull (is:=[1,0]) (L':=[_,_]) rfl ?_
 refine TC_loopL (id:=0) (body:=(aes_Cipher_Encrypt.b0 c_keys)) (σ:=Int × Vx 8 16) (Γ:=Unit) (Γx:=Unit) (fun s0 g0_=>[(0,ptr (some (bc,obc)) 0),(3,ptr (some (b1,0)) 0),(4,ptr (some (b2,0)) 0),(16,vi s0.1)]) (fun s0 g0_=>[⟨some (b1,0),e8 s0.2.toList⟩,⟨some (b2,0),e8 ((replicate 16 0#8).toList)⟩]) (fun t g=>[(0,ptr (some (bc,obc)) 0),(3,ptr (some (b1,0)) 0),(4,ptr (some (b2,0)) 0)]) (fun t g=>[⟨some (b1,0),e8 t.toList⟩,⟨some (b2,0),e8 ((replicate 16 0#8).toList)⟩]) ?_ BIG (0,b) () t_1 Hl ?_
 ·intro s0 g0_ r1 H K hK hE
  unfold aes_Cipher_Encrypt.b0 at H
  refine TC_seq (TC_region (TLv (V_bin rfl rfl (fun w=>lssI w s0.1 16)) ?_))
  refine TL_nil (TX_next (TC_seq (TCd H (fun hc H=>?_) (fun hc H=>?_))))
  ·refine TC_skip (TX_next (TC_seq (TC_block (TC_seq (TC_region (TVm ?_))))))
   refine TVa ?_
   refine TL_nil (TX_next ?_)
   obtain ⟨h1,H⟩:=if_elim H
   obtain ⟨h2,H⟩:=if_elim H
   obtain ⟨h3,H⟩:=if_elim H
   obtain ⟨h4,H⟩:=if_elim H
   obtain ⟨m_1,hm_1,H⟩:=ltt_elim H
   refine TA_begin [] 14 (by kernel_rfl) (N:=14) rfl ?_
   refine TA_mix (is:=[]) (done':=dn 14 8191) [itV 0 19 (vi s0.1) [],itV 1 20 (ptr (some (b1,0)) ((s0.1).toNat)) [0],itV 2 21 (v8 (vg s0.2 ((s0.1).toNat))) [1],itV 3 22 (ptr (some (bc,obc)) 0) [],itV 4 23 (ptr (some (bc,obc)) 0) [3],itV 5 24 (ptr (some (bc,obc+256)) 0) [4],itV 6 25 (sl Ac_keys ((c_keys).length) cc_keys) [5],itV 7 26 (vi s0.1) [],itV 8 27 (ptr Ac_keys (0 * 16)) [6],itV 9 28 (ptr Ac_keys (0 * 16+(s0.1).toNat)) [7,8],itV 10 29 (v8 (vg (lg c_keys 0) ((s0.1).toNat))) [9],itV 11 30 (v8 ((vg s0.2 ((s0.1).toNat)) ^^^ (vg (lg c_keys 0) ((s0.1).toNat)))) [10,2],itV 12 31 (ptr (some (b1,0)) ((s0.1).toNat)) [0]] [] 1 (by kernel_rfl) (QP.block (QP.then (QP.then (QP.block (QP.then QP.body))))) (by kernel_rfl) rfl (.v rfl (V_move rfl) (.v rfl (V_idxArr (i:=s0.1) rfl rfl underlying171 inf5 rfl h1.1 h1.2 (k:=(s0.1).toNat) (k01 _)) (.v rfl (V_load rfl (.o 0) (get_vec (f:=v8) (V:=s0.2) (toNat_lt h1.1 h1.2)) isAgg5) (.v rfl (V_move rfl) (.v rfl (V_nilCheck rfl) (.v rfl (V_fe underlying247 inf245) (.v rfl (V_load rfl (.r 1) rfl isAgg245) (.v rfl (V_move rfl) (.v rfl (V_idxSlS (i:=0) rfl rfl underlying245 inf171 rfl (.r 2) (eF_ne2 (s:=16) (fun _=>by simp) rfl (toNat_lt h2.1 h2.2)) h2.1 h2.2 (k:=0 * 16) rfl) (.v rfl (V_idxArr (i:=s0.1) rfl rfl underlying171 inf5 rfl h3.1 h3.2 (k:=0 * 16+(s0.1).toNat) (k1 _ _)) (.v rfl (V_load rfl (.r 2) ((get_eF (g:=fun V:Vx 8 16=>e8 V.toList) (s:=16) (fun _=>by simp) c_keys 0 ((s0.1).toNat) (toNat_lt h2.1 h2.2) (toNat_lt h3.1 h3.2)).trans (get_vec (toNat_lt h3.1 h3.2))) isAgg5) (.v rfl (V_bin rfl rfl (fun w=>xor8 w (vg s0.2 ((s0.1).toNat)) (vg (lg c_keys 0) ((s0.1).toNat)))) (.v rfl (V_idxArr (i:=s0.1) rfl rfl underlying171 inf5 rfl h4.1 h4.2 (k:=(s0.1).toNat) (k01 _)) .nil))))))))))))) .nil (by kernel_rfl) rfl (fun γ=>?_)
   refine TA_cut [(31,ptr (some (b1,0)) ((s0.1).toNat)),(30,v8 ((vg s0.2 ((s0.1).toNat)) ^^^ (vg (lg c_keys 0) ((s0.1).toNat)))),(0,ptr (some (bc,obc)) 0),(3,ptr (some (b1,0)) 0),(4,ptr (some (b2,0)) 0),(16,vi s0.1)] [⟨some (b1,0),e8 s0.2.toList⟩,⟨some (b2,0),e8 ((replicate 16 0#8).toList)⟩] ⟨rfl,rfl,rfl,rfl,rfl,rfl,trivial⟩ rfl ?_
   refine TA_all (rs:=[13]) (by kernel_rfl) rfl ?_
   refine ⟨?_,trivial⟩
   refine TO_n (is:=[]) (done':=dn 14 16383) rfl rfl rfl (by kernel_rfl) (E_store (j:=0) rfl rfl inf5 rfl rfl rfl (by simpa using (toNat_lt h4.1 h4.2)) (cs':=e8 ((vp s0.2 ((s0.1).toNat) ((vg s0.2 ((s0.1).toNat)) ^^^ (vg (lg c_keys 0) ((s0.1).toNat)))).toList)) set_vec) (fun _ _=>rfl) (fun _=>?_)
   refine TA_reE (j:=0) (A:=some (b1,0)) (cs:=e8 ((vp s0.2 ((s0.1).toNat) ((vg s0.2 ((s0.1).toNat)) ^^^ (vg (lg c_keys 0) ((s0.1).toNat)))).toList)) (cs':=e8 m_1.toList) rfl (congrArg (fun z:Vx 8 16=>e8 (Vector.toList z)) hm_1) ?_
   refine TA_done (by kernel_rfl) ?_ 0
   refine TX_block_normal (TX_next (TC_region (TLv (V_bin rfl rfl (fun w=>addI w s0.1 1)) ?_)))
   refine TVm ?_
   refine TL_nil ?_
   obtain rfl:=sj H
   exact TXk [0,0] (hK (w64 (s0.1+1),m_1) rfl ())
  ·refine TC_exit (TX_then_exit (TX_then_exit ?_))
   obtain rfl:=sj H
   exact TXj [0,0] (hE s0.2 rfl ())
 ·intro g
  refine TX_block_exit (TX_next (TC_seq (TC_seq (TC_region (TVa ?_)))))
  refine TL_nil (TX_next (TC_block ?_))
  obtain ⟨t_2,Hl,H⟩:=bind_elim H
  refine TC.sub (m':=[(0,_),(3,_),(4,_),(6,_)]) ⟨rfl,rfl,rfl,rfl,trivial⟩ ?_
  refine TC.pull (is:=[0,0]) (L':=[_,_]) rfl ?_
  refine TC_loopL (id:=2) (body:=(aes_Cipher_Encrypt.b1 c_table c_keys)) (σ:=Int × Vx 8 16) (Γ:=Unit) (Γx:=Unit) (fun s1 g1_=>[(0,ptr (some (bc,obc)) 0),(3,ptr (some (b1,0)) 0),(4,ptr (some (b2,0)) 0),(6,vi s1.1)]) (fun s1 g1_=>[⟨some (b1,0),e8 s1.2.toList⟩,⟨some (b2,0),e8 ((replicate 16 0#8).toList)⟩]) (fun t g=>[(3,ptr (some (b1,0)) 0),(4,ptr (some (b2,0)) 0)]) (fun t g=>[⟨some (b1,0),e8 t.toList⟩,⟨some (b2,0),e8 ((replicate 16 0#8).toList)⟩]) ?_ BIG (1,t_1) () t_2 Hl ?_
  ·intro s1 g1_ r1 H K hK hE
   unfold aes_Cipher_Encrypt.b1 at H
   refine TC_seq (TC_seq (TC_region (TVm ?_)))
   refine TVm ?_
   refine TLv (V_nilCheck rfl) ?_
   refine TLv (V_fieldE rfl underlying247 rfl rfl inf245 rfl (v:=ptr (some (bc,obc+256)) 0) rfl) ?_
   refine TLv (V_load rfl (.r 1) rfl isAgg245) ?_
   refine TLv (V_len_slice rfl underlying245) ?_
   refine TLv (V_bin rfl rfl (fun w=>lssI w s1.1 ((c_keys).length:Int))) ?_
   refine TL_nil (TX_next (TCd H (fun hc H=>?_) (fun hc H=>?_)))
   ·refine TC_skip (TX_next (TC_seq (TC_block (TC_seq (TC_region (TLe (E_allocP [(16,e8 ((replicate 16 0#8).toList))] inf171 zer171 ⟨(lenV (f:=v8) (replicate 16 0#8)),trivial⟩) (fun b3=>?_)))))))
    refine TL_nil (TX_next (TC_seq (TC_seq (TC_region (TVm ?_)))))
    refine TL_nil (TX_next (TC_block ?_))
    obtain ⟨t_3,Hl,H⟩:=bind_elim H
    refine TC.sub (m':=[(0,_),(3,_),(4,_),(6,_),(7,_),(42,_)]) ⟨rfl,rfl,rfl,rfl,rfl,rfl,trivial⟩ ?_
    refine TC.pull (is:=[1,1,0]) (L':=[_,_,_]) rfl ?_
    refine TC_loopL (id:=4) (body:=(aes_Cipher_Encrypt.b2 c_table s1)) (σ:=Int × Vx 8 16) (Γ:=Unit) (Γx:=Unit) (fun s2 g2_=>[(0,ptr (some (bc,obc)) 0),(3,ptr (some (b1,0)) 0),(4,ptr (some (b2,0)) 0),(6,vi s1.1),(7,ptr (some (b3,0)) 0),(42,vi s2.1)]) (fun s2 g2_=>[⟨some (b1,0),e8 s1.2.toList⟩,⟨some (b2,0),e8 ((replicate 16 0#8).toList)⟩,⟨some (b3,0),e8 s2.2.toList⟩]) (fun t g=>[(0,ptr (some (bc,obc)) 0),(3,ptr (some (b1,0)) 0),(4,ptr (some (b2,0)) 0),(6,vi s1.1),(7,ptr (some (b3,0)) 0)]) (fun t g=>[⟨some (b1,0),e8 s1.2.toList⟩,⟨some (b2,0),e8 ((replicate 16 0#8).toList)⟩,⟨some (b3,0),e8 t.toList⟩]) ?_ BIG (0,replicate 16 0#8) () t_3 Hl ?_
    ·intro s2 g2_ r1 H K hK hE
     unfold aes_Cipher_Encrypt.b2 at H
     refine TC_seq (TC_region (TLv (V_bin rfl rfl (fun w=>lssI w s2.1 16)) ?_))
     refine TL_nil (TX_next (TC_seq (TCd H (fun hc H=>?_) (fun hc H=>?_))))
     ·refine TC_skip (TX_next (TC_seq (TC_block (TC_seq (TC_region (TVm ?_))))))
      refine TVa ?_
      refine TL_nil (TX_next ?_)
      obtain ⟨h5,H⟩:=if_elim H
      obtain ⟨h6,H⟩:=if_elim H
      obtain ⟨m_2,hm_2,H⟩:=ltt_elim H
      refine TA_begin [] 16 (by kernel_rfl) (N:=16) rfl ?_
      refine TA_mix (is:=[]) (done':=dn 16 32767) [itV 0 45 (vi s2.1) [],itV 1 46 (ptr (some (bc,obc)) 0) [],itV 2 47 (vi s2.1) [],itV 3 48 (vi s2.1) [],itV 4 49 (vi (s2.1.tmod 4)) [3],itV 5 50 (vi (w64 (4 * (s2.1.tmod 4)))) [4],itV 6 51 (vi (w64 (s2.1+(w64 (4 * (s2.1.tmod 4)))))) [5,2],itV 7 52 (vi ((w64 (s2.1+(w64 (4 * (s2.1.tmod 4))))).tmod 16)) [6],itV 8 53 (ptr (some (b1,0)) (((w64 (s2.1+(w64 (4 * (s2.1.tmod 4))))).tmod 16).toNat)) [7],itV 9 54 (v8 (vg s1.2 (((w64 (s2.1+(w64 (4 * (s2.1.tmod 4))))).tmod 16).toNat))) [8],itV 10 55 (ptr (some (bc,obc)) 0) [1],itV 11 56 (ptr (some (bc,obc)) 0) [10],itV 12 57 (ptr (some (bc,obc)) ((vg s1.2 (((w64 (s2.1+(w64 (4 * (s2.1.tmod 4))))).tmod 16).toNat)).toNat)) [11,9],itV 13 58 (v8 (vg c_table ((vg s1.2 (((w64 (s2.1+(w64 (4 * (s2.1.tmod 4))))).tmod 16).toNat)).toNat))) [12],itV 14 59 (ptr (some (b3,0)) ((s2.1).toNat)) [0]] [] 1 (by kernel_rfl) (QP.block (QP.then (QP.then (QP.block (QP.then (QP.block (QP.then (QP.then (QP.block (QP.then QP.body)))))))))) (by kernel_rfl) rfl (.v rfl (V_move rfl) (.v rfl (V_move rfl) (.v rfl (V_move rfl) (.v rfl (V_move rfl) (.v rfl (V_bin rfl rfl (fun w=>remI w s2.1 4 (by decide))) (.v rfl (V_bin rfl rfl (fun w=>mulI w 4 (s2.1.tmod 4))) (.v rfl (V_bin rfl rfl (fun w=>addI w s2.1 (w64 (4 * (s2.1.tmod 4))))) (.v rfl (V_bin rfl rfl (fun w=>remI w (w64 (s2.1+(w64 (4 * (s2.1.tmod 4))))) 16 (by decide))) (.v rfl (V_idxArr (i:=(w64 (s2.1+(w64 (4 * (s2.1.tmod 4))))).tmod 16) rfl rfl underlying171 inf5 rfl h5.1 h5.2 (k:=((w64 (s2.1+(w64 (4 * (s2.1.tmod 4))))).tmod 16).toNat) (k01 _)) (.v rfl (V_load rfl (.o 0) (get_vec (f:=v8) (V:=s1.2) (toNat_lt h5.1 h5.2)) isAgg5) (.v rfl (V_nilCheck rfl) (.v rfl (V_fe underlying247 inf243) (.v rfl (V_idxArr (i:=((vg s1.2 (((w64 (s2.1+(w64 (4 * (s2.1.tmod 4))))).tmod 16).toNat)).toNat:Int)) rfl rfl underlying243 inf5 rfl (Int.natCast_nonneg _) (zb (n:=8) (k:=256) (vg s1.2 (((w64 (s2.1+(w64 (4 * (s2.1.tmod 4))))).tmod 16).toNat)) (by decide)) (k:=(vg s1.2 (((w64 (s2.1+(w64 (4 * (s2.1.tmod 4))))).tmod 16).toNat)).toNat) (k01 _)) (.v rfl (V_load rfl (.r 0) (get_vec (f:=v8) (V:=c_table) (toNat_lt (Int.natCast_nonneg _) (zb (n:=8) (k:=256) (vg s1.2 (((w64 (s2.1+(w64 (4 * (s2.1.tmod 4))))).tmod 16).toNat)) (by decide)))) isAgg5) (.v rfl (V_idxArr (i:=s2.1) rfl rfl underlying171 inf5 rfl h6.1 h6.2 (k:=(s2.1).toNat) (k01 _)) .nil))))))))))))))) .nil (by kernel_rfl) rfl (fun γ=>?_)
      refine TA_cut [(59,ptr (some (b3,0)) ((s2.1).toNat)),(58,v8 (vg c_table ((vg s1.2 (((w64 (s2.1+(w64 (4 * (s2.1.tmod 4))))).tmod 16).toNat)).toNat))),(0,ptr (some (bc,obc)) 0),(3,ptr (some (b1,0)) 0),(4,ptr (some (b2,0)) 0),(6,vi s1.1),(7,ptr (some (b3,0)) 0),(42,vi s2.1)] [⟨some (b1,0),e8 s1.2.toList⟩,⟨some (b2,0),e8 ((replicate 16 0#8).toList)⟩,⟨some (b3,0),e8 s2.2.toList⟩] ⟨rfl,rfl,rfl,rfl,rfl,rfl,rfl,rfl,trivial⟩ rfl ?_
      refine TA_all (rs:=[15]) (by kernel_rfl) rfl ?_
      refine ⟨?_,trivial⟩
      refine TO_n (is:=[]) (done':=dn 16 65535) rfl rfl rfl (by kernel_rfl) (E_store (j:=2) rfl rfl inf5 rfl rfl rfl (by simpa using (toNat_lt h6.1 h6.2)) (cs':=e8 ((vp s2.2 ((s2.1).toNat) (vg c_table ((vg s1.2 (((w64 (s2.1+(w64 (4 * (s2.1.tmod 4))))).tmod 16).toNat)).toNat))).toList)) set_vec) (fun _ _=>rfl) (fun _=>?_)
      refine TA_reE (j:=2) (A:=some (b3,0)) (cs:=e8 ((vp s2.2 ((s2.1).toNat) (vg c_table ((vg s1.2 (((w64 (s2.1+(w64 (4 * (s2.1.tmod 4))))).tmod 16).toNat)).toNat))).toList)) (cs':=e8 m_2.toList) rfl (congrArg (fun z:Vx 8 16=>e8 (Vector.toList z)) hm_2) ?_
      refine TA_done (by kernel_rfl) ?_ 0
      refine TX_block_normal (TX_next (TC_region (TLv (V_bin rfl rfl (fun w=>addI w s2.1 1)) ?_)))
      refine TVm ?_
      refine TL_nil ?_
      obtain rfl:=sj H
      exact TXk [0,0,0] (hK (w64 (s2.1+1),m_2) rfl ())
     ·refine TC_exit (TX_then_exit (TX_then_exit ?_))
      obtain rfl:=sj H
      exact TXj [0,0,0] (hE s2.2 rfl ())
    ·intro g
     refine TX_block_exit (TX_next (TC_seq (TC_seq (TC_region (TVm ?_)))))
     refine TVm ?_
     refine TLv (V_nilCheck rfl) ?_
     refine TLv (V_fieldE rfl underlying247 rfl rfl inf245 rfl (v:=ptr (some (bc,obc+256)) 0) rfl) ?_
     refine TLv (V_load rfl (.r 1) rfl isAgg245) ?_
     refine TLv (V_len_slice rfl underlying245) ?_
     refine TLv (V_bin rfl rfl (fun w=>subI w ((c_keys).length:Int) 1)) ?_
     refine TLv (V_bin rfl rfl (fun w=>lssI w s1.1 (w64 (((c_keys).length:Int) - 1)))) ?_
     refine TL_nil (TX_next ?_)
     obtain ⟨j1,Hj,H⟩:=bind_elim H
     refine TC_join (Γ:=Unit) (fun gj1=>[(0,ptr (some (bc,obc)) 0),(3,ptr (some (b1,0)) 0),(4,ptr (some (b2,0)) 0),(6,vi s1.1),(7,ptr (some (b3,0)) 0)]) (fun gj1=>[⟨some (b1,0),e8 s1.2.toList⟩,⟨some (b2,0),e8 ((replicate 16 0#8).toList)⟩,⟨some (b3,0),e8 j1.toList⟩]) ?_ ?_
     ·intro gj1
      refine TX_next (TC_seq (TC_region (TVm ?_)))
      refine TL_nil (TX_next (TC_block ?_))
      obtain ⟨t_4,Hl,H⟩:=bind_elim H
      refine TC.sub (m':=[(0,_),(3,_),(4,_),(6,_),(7,_),(142,_)]) ⟨rfl,rfl,rfl,rfl,rfl,rfl,trivial⟩ ?_
      refine TC.pull (is:=[0,0,0]) (L':=[_,_,_]) rfl ?_
      refine TC_loopL (id:=8) (body:=(aes_Cipher_Encrypt.b3 c_keys s1 j1)) (σ:=Int × Vx 8 16) (Γ:=Unit) (Γx:=Unit) (fun s3 g3_=>[(0,ptr (some (bc,obc)) 0),(3,ptr (some (b1,0)) 0),(4,ptr (some (b2,0)) 0),(6,vi s1.1),(7,ptr (some (b3,0)) 0),(142,vi s3.1)]) (fun s3 g3_=>[⟨some (b1,0),e8 s3.2.toList⟩,⟨some (b2,0),e8 ((replicate 16 0#8).toList)⟩,⟨some (b3,0),e8 j1.toList⟩]) (fun t g=>[(0,ptr (some (bc,obc)) 0),(3,ptr (some (b1,0)) 0),(4,ptr (some (b2,0)) 0),(6,vi s1.1)]) (fun t g=>[⟨some (b1,0),e8 t.toList⟩,⟨some (b2,0),e8 ((replicate 16 0#8).toList)⟩]) ?_ BIG (0,s1.2) () t_4 Hl ?_
      ·intro s3 g3_ r1 H K hK hE
       unfold aes_Cipher_Encrypt.b3 at H
       refine TC_seq (TC_region (TLv (V_bin rfl rfl (fun w=>lssI w s3.1 16)) ?_))
       refine TL_nil (TX_next (TC_seq (TCd H (fun hc H=>?_) (fun hc H=>?_))))
       ·refine TC_skip (TX_next (TC_seq (TC_block (TC_seq (TC_region (TVm ?_))))))
        refine TVa ?_
        refine TL_nil (TX_next ?_)
        obtain ⟨h7,H⟩:=if_elim H
        obtain ⟨h8,H⟩:=if_elim H
        obtain ⟨h9,H⟩:=if_elim H
        obtain ⟨h10,H⟩:=if_elim H
        obtain ⟨m_3,hm_3,H⟩:=ltt_elim H
        refine TA_begin [] 16 (by kernel_rfl) (N:=16) rfl ?_
        refine TA_mix (is:=[]) (done':=dn 16 32767) [itV 0 145 (vi s3.1) [],itV 1 146 (vi s3.1) [],itV 2 147 (ptr (some (b3,0)) ((s3.1).toNat)) [1],itV 3 148 (v8 (vg j1 ((s3.1).toNat))) [2],itV 4 149 (ptr (some (bc,obc)) 0) [],itV 5 150 (ptr (some (bc,obc)) 0) [4],itV 6 151 (ptr (some (bc,obc+256)) 0) [5],itV 7 152 (sl Ac_keys ((c_keys).length) cc_keys) [6],itV 8 153 (vi s1.1) [],itV 9 154 (vi s3.1) [],itV 10 155 (ptr Ac_keys (((s1.1).toNat) * 16)) [7,8],itV 11 156 (ptr Ac_keys (((s1.1).toNat) * 16+(s3.1).toNat)) [9,10],itV 12 157 (v8 (vg (lg c_keys ((s1.1).toNat)) ((s3.1).toNat))) [11],itV 13 158 (v8 ((vg j1 ((s3.1).toNat)) ^^^ (vg (lg c_keys ((s1.1).toNat)) ((s3.1).toNat)))) [3,12],itV 14 159 (ptr (some (b1,0)) ((s3.1).toNat)) [0]] [] 1 (by kernel_rfl) (QP.block (QP.then (QP.then (QP.block (QP.block (QP.then (QP.then (QP.block (QP.then QP.body))))))))) (by kernel_rfl) rfl (.v rfl (V_move rfl) (.v rfl (V_move rfl) (.v rfl (V_idxArr (i:=s3.1) rfl rfl underlying171 inf5 rfl h7.1 h7.2 (k:=(s3.1).toNat) (k01 _)) (.v rfl (V_load rfl (.o 2) (get_vec (f:=v8) (V:=j1) (toNat_lt h7.1 h7.2)) isAgg5) (.v rfl (V_move rfl) (.v rfl (V_nilCheck rfl) (.v rfl (V_fe underlying247 inf245) (.v rfl (V_load rfl (.r 1) rfl isAgg245) (.v rfl (V_move rfl) (.v rfl (V_move rfl) (.v rfl (V_idxSlS (i:=s1.1) rfl rfl underlying245 inf171 rfl (.r 2) (eF_ne2 (s:=16) (fun _=>by simp) rfl (toNat_lt h8.1 h8.2)) h8.1 h8.2 (k:=((s1.1).toNat) * 16) rfl) (.v rfl (V_idxArr (i:=s3.1) rfl rfl underlying171 inf5 rfl h9.1 h9.2 (k:=((s1.1).toNat) * 16+(s3.1).toNat) (k1 _ _)) (.v rfl (V_load rfl (.r 2) ((get_eF (g:=fun V:Vx 8 16=>e8 V.toList) (s:=16) (fun _=>by simp) c_keys ((s1.1).toNat) ((s3.1).toNat) (toNat_lt h8.1 h8.2) (toNat_lt h9.1 h9.2)).trans (get_vec (toNat_lt h9.1 h9.2))) isAgg5) (.v rfl (V_bin rfl rfl (fun w=>xor8 w (vg j1 ((s3.1).toNat)) (vg (lg c_keys ((s1.1).toNat)) ((s3.1).toNat)))) (.v rfl (V_idxArr (i:=s3.1) rfl rfl underlying171 inf5 rfl h10.1 h10.2 (k:=(s3.1).toNat) (k01 _)) .nil))))))))))))))) .nil (by kernel_rfl) rfl (fun γ=>?_)
        refine TA_cut [(159,ptr (some (b1,0)) ((s3.1).toNat)),(158,v8 ((vg j1 ((s3.1).toNat)) ^^^ (vg (lg c_keys ((s1.1).toNat)) ((s3.1).toNat)))),(0,ptr (some (bc,obc)) 0),(3,ptr (some (b1,0)) 0),(4,ptr (some (b2,0)) 0),(6,vi s1.1),(7,ptr (some (b3,0)) 0),(142,vi s3.1)] [⟨some (b1,0),e8 s3.2.toList⟩,⟨some (b2,0),e8 ((replicate 16 0#8).toList)⟩,⟨some (b3,0),e8 j1.toList⟩] ⟨rfl,rfl,rfl,rfl,rfl,rfl,rfl,rfl,trivial⟩ rfl ?_
        refine TA_all (rs:=[15]) (by kernel_rfl) rfl ?_
        refine ⟨?_,trivial⟩
        refine TO_n (is:=[]) (done':=dn 16 65535) rfl rfl rfl (by kernel_rfl) (E_store (j:=0) rfl rfl inf5 rfl rfl rfl (by simpa using (toNat_lt h10.1 h10.2)) (cs':=e8 ((vp s3.2 ((s3.1).toNat) ((vg j1 ((s3.1).toNat)) ^^^ (vg (lg c_keys ((s1.1).toNat)) ((s3.1).toNat)))).toList)) set_vec) (fun _ _=>rfl) (fun _=>?_)
        refine TA_reE (j:=0) (A:=some (b1,0)) (cs:=e8 ((vp s3.2 ((s3.1).toNat) ((vg j1 ((s3.1).toNat)) ^^^ (vg (lg c_keys ((s1.1).toNat)) ((s3.1).toNat)))).toList)) (cs':=e8 m_3.toList) rfl (congrArg (fun z:Vx 8 16=>e8 (Vector.toList z)) hm_3) ?_
        refine TA_done (by kernel_rfl) ?_ 0
        refine TX_block_normal (TX_next (TC_region (TLv (V_bin rfl rfl (fun w=>addI w s3.1 1)) ?_)))
        refine TVm ?_
        refine TL_nil ?_
        obtain rfl:=sj H
        exact TXk [0,0,0] (hK (w64 (s3.1+1),m_3) rfl ())
       ·refine TC_exit (TX_then_exit (TX_then_exit ?_))
        obtain rfl:=sj H
        exact TXj [0,0] (hE s3.2 rfl ())
      ·intro g
       refine TX_block_exit (TX_block_normal (TX_next (TC_region (TVm ?_))))
       refine TLv (V_bin rfl rfl (fun w=>addI w s1.1 1)) ?_
       refine TVa ?_
       obtain ⟨round1,hround1,H⟩:=ltt_elim H
       refine TLr 6 (congrArg vi hround1) ?_
       refine TL_nil ?_
       obtain rfl:=sj H
       exact TXk [0,0] (hK (round1,t_4) rfl ())
     ·intro hJ
      replace H:=Hj
      refine TCd H (fun hc H=>?_) (fun hc H=>?_)
      ·refine TC_seq (TC_region (TVa ?_))
       refine TL_nil (TX_next (TC_block ?_))
       obtain ⟨t_5,Hl,H⟩:=bind_elim H
       refine TC.sub (m':=[(0,_),(3,_),(4,_),(6,_),(7,_),(9,_)]) ⟨rfl,rfl,rfl,rfl,rfl,rfl,trivial⟩ ?_
       refine TC.pull (is:=[0,0,0]) (L':=[_,_,_]) rfl ?_
       refine TC_loopL (id:=6) (body:=(aes_Cipher_Encrypt.b4)) (σ:=Int × Vx 8 16) (Γ:=Unit) (Γx:=Unit) (fun s4 g4_=>[(0,ptr (some (bc,obc)) 0),(3,ptr (some (b1,0)) 0),(4,ptr (some (b2,0)) 0),(6,vi s1.1),(7,ptr (some (b3,0)) 0),(9,vi s4.1)]) (fun s4 g4_=>[⟨some (b1,0),e8 s1.2.toList⟩,⟨some (b2,0),e8 ((replicate 16 0#8).toList)⟩,⟨some (b3,0),e8 s4.2.toList⟩]) (fun t g=>[(0,ptr (some (bc,obc)) 0),(3,ptr (some (b1,0)) 0),(4,ptr (some (b2,0)) 0),(6,vi s1.1),(7,ptr (some (b3,0)) 0)]) (fun t g=>[⟨some (b1,0),e8 s1.2.toList⟩,⟨some (b2,0),e8 ((replicate 16 0#8).toList)⟩,⟨some (b3,0),e8 t.toList⟩]) ?_ BIG (0,t_3) () t_5 Hl ?_
       ·intro s4 g4_ r1 H K hK hE
        unfold aes_Cipher_Encrypt.b4 at H
        refine TC_seq (TC_seq (TC_region (TVm ?_)))
        refine TLv (V_bin rfl rfl (fun w=>lssI w s4.1 16)) ?_
        refine TL_nil (TX_next (TCd H (fun hc H=>?_) (fun hc H=>?_)))
        ·refine TC_skip (TX_next (TC_seq (TC_block (TC_seq ?_))))
         obtain ⟨h11,H⟩:=if_elim H
         obtain ⟨h12,H⟩:=if_elim H
         obtain ⟨h13,H⟩:=if_elim H
         obtain ⟨h14,H⟩:=if_elim H
         obtain ⟨p1,hp1,H⟩:=ltt_elim H
         obtain ⟨q1,hq1,H⟩:=ltt_elim H
         obtain ⟨r_1,hr_1,H⟩:=ltt_elim H
         obtain ⟨s_1,hs_1,H⟩:=ltt_elim H
         refine TA_begin [⟨some (b1,0),e8 s1.2.toList⟩,⟨some (b2,0),e8 ((replicate 16 0#8).toList)⟩,⟨some (b3,0),e8 s4.2.toList⟩] 19 (by kernel_rfl) (N:=19) rfl ?_
         refine TA_tk 0 [0,0,0] (dn 19 1) rfl rfl (V_move rfl) ?_
         refine TA_tk 1 [0,0,0] (dn 19 3) rfl rfl (V_idxArr (i:=s4.1) rfl rfl underlying171 inf5 rfl h11.1 h11.2 (k:=(s4.1).toNat) (k01 _)) ?_
         refine TA_tk 2 [0,0,0] (dn 19 7) rfl rfl (V_load rfl (.o 2) (get_vec (f:=v8) (V:=s4.2) (toNat_lt h11.1 h11.2)) isAgg5) ?_
         refine TA_tk 3 [0,0,0] (dn 19 15) rfl rfl (V_move rfl) ?_
         refine TA_tk 4 [0,0,0] (dn 19 31) rfl rfl (V_bin rfl rfl (fun w=>addI w s4.1 1)) ?_
         refine TA_tk 5 [0,0,0] (dn 19 63) rfl rfl (V_idxArr (i:=w64 (s4.1+1)) rfl rfl underlying171 inf5 rfl h12.1 h12.2 (k:=(w64 (s4.1+1)).toNat) (k01 _)) ?_
         refine TA_tk 6 [0,0,0] (dn 19 127) rfl rfl (V_load rfl (.o 2) (get_vec (f:=v8) (V:=s4.2) (toNat_lt h12.1 h12.2)) isAgg5) ?_
         refine TA_tk 7 [0,0,0] (dn 19 255) rfl rfl (V_move rfl) ?_
         refine TA_tk 8 [0,0,0] (dn 19 511) rfl rfl (V_bin rfl rfl (fun w=>addI w s4.1 2)) ?_
         refine TA_tk 9 [0,0,0] (dn 19 1023) rfl rfl (V_idxArr (i:=w64 (s4.1+2)) rfl rfl underlying171 inf5 rfl h13.1 h13.2 (k:=(w64 (s4.1+2)).toNat) (k01 _)) ?_
         refine TA_tk 10 [0,0,0] (dn 19 2047) rfl rfl (V_load rfl (.o 2) (get_vec (f:=v8) (V:=s4.2) (toNat_lt h13.1 h13.2)) isAgg5) ?_
         refine TA_tk 11 [0,0,0] (dn 19 4095) rfl rfl (V_move rfl) ?_
         refine TA_tk 12 [0,0,0] (dn 19 8191) rfl rfl (V_bin rfl rfl (fun w=>addI w s4.1 3)) ?_
         refine TA_tk 13 [0,0,0] (dn 19 16383) rfl rfl (V_idxArr (i:=w64 (s4.1+3)) rfl rfl underlying171 inf5 rfl h14.1 h14.2 (k:=(w64 (s4.1+3)).toNat) (k01 _)) ?_
         refine TA_tk 14 [0,0,0] (dn 19 32767) rfl rfl (V_load rfl (.o 2) (get_vec (f:=v8) (V:=s4.2) (toNat_lt h14.1 h14.2)) isAgg5) ?_
         refine TA_tk 15 [0,0,0] (dn 19 65535) rfl rfl (V_assign rfl) ?_
         refine TA_re (d:=10) (v:=v8 (vg s4.2 ((s4.1).toNat))) (v':=v8 p1) rfl (congrArg v8 hp1) ?_
         refine TA_tk 16 [0,0,0] (dn 19 131071) rfl rfl (V_assign rfl) ?_
         refine TA_re (d:=11) (v:=v8 (vg s4.2 ((w64 (s4.1+1)).toNat))) (v':=v8 q1) rfl (congrArg v8 hq1) ?_
         refine TA_tk 17 [0,0,0] (dn 19 262143) rfl rfl (V_assign rfl) ?_
         refine TA_re (d:=12) (v:=v8 (vg s4.2 ((w64 (s4.1+2)).toNat))) (v':=v8 r_1) rfl (congrArg v8 hr_1) ?_
         refine TA_tk 18 [0,0,0] (dn 19 524287) rfl rfl (V_assign rfl) ?_
         refine TA_re (d:=13) (v:=v8 (vg s4.2 ((w64 (s4.1+3)).toNat))) (v':=v8 s_1) rfl (congrArg v8 hs_1) ?_
         refine TA_done (by kernel_rfl) ?_ 0
         refine TX_next (TC.sub (m':=[(0,_),(3,_),(4,_),(6,_),(7,_),(9,_),(10,_),(11,_),(12,_),(13,_)]) ⟨rfl,rfl,rfl,rfl,rfl,rfl,rfl,rfl,rfl,rfl,trivial⟩ ?_)
         refine TC_seq (TC_region (TVm ?_))
         refine TVm ?_
         refine TLv (V_bin rfl rfl (fun w=>xor8 w p1 q1)) ?_
         refine TVm ?_
         refine TLv (V_bin rfl rfl (fun w=>xor8 w (p1 ^^^ q1) r_1)) ?_
         refine TVm ?_
         refine TLv (V_bin rfl rfl (fun w=>xor8 w ((p1 ^^^ q1) ^^^ r_1) s_1)) ?_
         refine TVa ?_
         obtain ⟨all1,hall1,H⟩:=ltt_elim H
         refine TLr 14 (congrArg v8 hall1) ?_
         refine TL_nil (TX_next (TC_seq ?_))
         obtain ⟨h15,H⟩:=if_elim H
         obtain ⟨r_2,hr_2,H⟩:=bind_elim H
         obtain ⟨h16,H⟩:=if_elim H
         obtain ⟨m_4,hm_4,H⟩:=ltt_elim H
         refine TA_begin [] 12 (by kernel_rfl) (N:=12) rfl ?_
         refine TA_mix (is:=[]) (done':=dn 12 2047) [itV 0 95 (vi s4.1) [],itV 1 96 (ptr (some (b3,0)) ((s4.1).toNat)) [0],itV 2 97 (v8 (vg s4.2 ((s4.1).toNat))) [1],itV 3 98 (v8 all1) [],itV 4 99 (v8 p1) [],itV 5 100 (v8 q1) [],itV 6 101 (v8 (p1 ^^^ q1)) [4,5],itV 7 102 (v8 r_2) [6],itV 8 103 (v8 (all1 ^^^ r_2)) [3,7],itV 9 104 (v8 ((vg s4.2 ((s4.1).toNat)) ^^^ (all1 ^^^ r_2))) [2,8],itV 10 105 (ptr (some (b3,0)) ((s4.1).toNat)) [0]] [] 1 (by kernel_rfl) (QP.then (QP.block (QP.then (QP.then (QP.block (QP.then (QP.block (QP.then (QP.then (QP.block (QP.then QP.body))))))))))) (by kernel_rfl) rfl (.v rfl (V_move rfl) (.v rfl (V_idxArr (i:=s4.1) rfl rfl underlying171 inf5 rfl h15.1 h15.2 (k:=(s4.1).toNat) (k01 _)) (.v rfl (V_load rfl (.o 2) (get_vec (f:=v8) (V:=s4.2) (toNat_lt h15.1 h15.2)) isAgg5) (.v rfl (V_move rfl) (.v rfl (V_move rfl) (.v rfl (V_move rfl) (.v rfl (V_bin rfl rfl (fun w=>xor8 w p1 q1)) (.e rfl (E_cu (F153_calls (p1 ^^^ q1) r_2 hr_2) call153 .z) (.v rfl (V_bin rfl rfl (fun w=>xor8 w all1 r_2)) (.v rfl (V_bin rfl rfl (fun w=>xor8 w (vg s4.2 ((s4.1).toNat)) (all1 ^^^ r_2))) (.v rfl (V_idxArr (i:=s4.1) rfl rfl underlying171 inf5 rfl h16.1 h16.2 (k:=(s4.1).toNat) (k01 _)) .nil))))))))))) .nil (by kernel_rfl) rfl (fun γ=>?_)
         refine TA_cut [(105,ptr (some (b3,0)) ((s4.1).toNat)),(104,v8 ((vg s4.2 ((s4.1).toNat)) ^^^ (all1 ^^^ r_2))),(14,v8 all1),(0,ptr (some (bc,obc)) 0),(3,ptr (some (b1,0)) 0),(4,ptr (some (b2,0)) 0),(6,vi s1.1),(7,ptr (some (b3,0)) 0),(9,vi s4.1),(10,v8 p1),(11,v8 q1),(12,v8 r_1),(13,v8 s_1)] [⟨some (b1,0),e8 s1.2.toList⟩,⟨some (b2,0),e8 ((replicate 16 0#8).toList)⟩,⟨some (b3,0),e8 s4.2.toList⟩] ⟨rfl,rfl,rfl,rfl,rfl,rfl,rfl,rfl,rfl,rfl,rfl,rfl,rfl,trivial⟩ rfl ?_
         refine TA_all (rs:=[11]) (by kernel_rfl) rfl ?_
         refine ⟨?_,trivial⟩
         refine TO_n (is:=[]) (done':=dn 12 4095) rfl rfl rfl (by kernel_rfl) (E_store (j:=2) rfl rfl inf5 rfl rfl rfl (by simpa using (toNat_lt h16.1 h16.2)) (cs':=e8 ((vp s4.2 ((s4.1).toNat) ((vg s4.2 ((s4.1).toNat)) ^^^ (all1 ^^^ r_2))).toList)) set_vec) (fun _ _=>rfl) (fun _=>?_)
         refine TA_reE (j:=2) (A:=some (b3,0)) (cs:=e8 ((vp s4.2 ((s4.1).toNat) ((vg s4.2 ((s4.1).toNat)) ^^^ (all1 ^^^ r_2))).toList)) (cs':=e8 m_4.toList) rfl (congrArg (fun z:Vx 8 16=>e8 (Vector.toList z)) hm_4) ?_
         refine TA_done (by kernel_rfl) ?_ 0
         refine TX_next (TC_seq ?_)
         obtain ⟨h17,H⟩:=if_elim H
         obtain ⟨r_3,hr_3,H⟩:=bind_elim H
         obtain ⟨h18,H⟩:=if_elim H
         obtain ⟨m_5,hm_5,H⟩:=ltt_elim H
         refine TA_begin [] 13 (by kernel_rfl) (N:=13) rfl ?_
         refine TA_mix (is:=[]) (done':=dn 13 4095) [itV 0 106 (vi s4.1) [],itV 1 107 (vi (w64 (s4.1+1))) [0],itV 2 108 (ptr (some (b3,0)) ((w64 (s4.1+1)).toNat)) [1],itV 3 109 (v8 (vg m_4 ((w64 (s4.1+1)).toNat))) [2],itV 4 110 (v8 all1) [],itV 5 111 (v8 q1) [],itV 6 112 (v8 r_1) [],itV 7 113 (v8 (q1 ^^^ r_1)) [6,5],itV 8 114 (v8 r_3) [7],itV 9 115 (v8 (all1 ^^^ r_3)) [8,4],itV 10 116 (v8 ((vg m_4 ((w64 (s4.1+1)).toNat)) ^^^ (all1 ^^^ r_3))) [9,3],itV 11 117 (ptr (some (b3,0)) ((w64 (s4.1+1)).toNat)) [1]] [] 1 (by kernel_rfl) (QP.then (QP.block (QP.then (QP.then (QP.block (QP.then (QP.block (QP.then (QP.then (QP.block (QP.then QP.body))))))))))) (by kernel_rfl) rfl (.v rfl (V_move rfl) (.v rfl (V_bin rfl rfl (fun w=>addI w s4.1 1)) (.v rfl (V_idxArr (i:=w64 (s4.1+1)) rfl rfl underlying171 inf5 rfl h17.1 h17.2 (k:=(w64 (s4.1+1)).toNat) (k01 _)) (.v rfl (V_load rfl (.o 2) (get_vec (f:=v8) (V:=m_4) (toNat_lt h17.1 h17.2)) isAgg5) (.v rfl (V_move rfl) (.v rfl (V_move rfl) (.v rfl (V_move rfl) (.v rfl (V_bin rfl rfl (fun w=>xor8 w q1 r_1)) (.e rfl (E_cu (F153_calls (q1 ^^^ r_1) r_3 hr_3) call153 .z) (.v rfl (V_bin rfl rfl (fun w=>xor8 w all1 r_3)) (.v rfl (V_bin rfl rfl (fun w=>xor8 w (vg m_4 ((w64 (s4.1+1)).toNat)) (all1 ^^^ r_3))) (.v rfl (V_idxArr (i:=w64 (s4.1+1)) rfl rfl underlying171 inf5 rfl h18.1 h18.2 (k:=(w64 (s4.1+1)).toNat) (k01 _)) .nil)))))))))))) .nil (by kernel_rfl) rfl (fun γ=>?_)
         refine TA_cut [(117,ptr (some (b3,0)) ((w64 (s4.1+1)).toNat)),(116,v8 ((vg m_4 ((w64 (s4.1+1)).toNat)) ^^^ (all1 ^^^ r_3))),(14,v8 all1),(0,ptr (some (bc,obc)) 0),(3,ptr (some (b1,0)) 0),(4,ptr (some (b2,0)) 0),(6,vi s1.1),(7,ptr (some (b3,0)) 0),(9,vi s4.1),(10,v8 p1),(12,v8 r_1),(13,v8 s_1)] [⟨some (b1,0),e8 s1.2.toList⟩,⟨some (b2,0),e8 ((replicate 16 0#8).toList)⟩,⟨some (b3,0),e8 m_4.toList⟩] ⟨rfl,rfl,rfl,rfl,rfl,rfl,rfl,rfl,rfl,rfl,rfl,rfl,trivial⟩ rfl ?_
         refine TA_all (rs:=[12]) (by kernel_rfl) rfl ?_
         refine ⟨?_,trivial⟩
         refine TO_n (is:=[]) (done':=dn 13 8191) rfl rfl rfl (by kernel_rfl) (E_store (j:=2) rfl rfl inf5 rfl rfl rfl (by simpa using (toNat_lt h18.1 h18.2)) (cs':=e8 ((vp m_4 ((w64 (s4.1+1)).toNat) ((vg m_4 ((w64 (s4.1+1)).toNat)) ^^^ (all1 ^^^ r_3))).toList)) set_vec) (fun _ _=>rfl) (fun _=>?_)
         refine TA_reE (j:=2) (A:=some (b3,0)) (cs:=e8 ((vp m_4 ((w64 (s4.1+1)).toNat) ((vg m_4 ((w64 (s4.1+1)).toNat)) ^^^ (all1 ^^^ r_3))).toList)) (cs':=e8 m_5.toList) rfl (congrArg (fun z:Vx 8 16=>e8 (Vector.toList z)) hm_5) ?_
         refine TA_done (by kernel_rfl) ?_ 0
         refine TX_next (TC_seq ?_)
         obtain ⟨h19,H⟩:=if_elim H
         obtain ⟨r_4,hr_4,H⟩:=bind_elim H
         obtain ⟨h20,H⟩:=if_elim H
         obtain ⟨m_6,hm_6,H⟩:=ltt_elim H
         refine TA_begin [] 13 (by kernel_rfl) (N:=13) rfl ?_
         refine TA_mix (is:=[]) (done':=dn 13 4095) [itV 0 118 (vi s4.1) [],itV 1 119 (vi (w64 (s4.1+2))) [0],itV 2 120 (ptr (some (b3,0)) ((w64 (s4.1+2)).toNat)) [1],itV 3 121 (v8 (vg m_5 ((w64 (s4.1+2)).toNat))) [2],itV 4 122 (v8 all1) [],itV 5 123 (v8 r_1) [],itV 6 124 (v8 s_1) [],itV 7 125 (v8 (r_1 ^^^ s_1)) [5,6],itV 8 126 (v8 r_4) [7],itV 9 127 (v8 (all1 ^^^ r_4)) [4,8],itV 10 128 (v8 ((vg m_5 ((w64 (s4.1+2)).toNat)) ^^^ (all1 ^^^ r_4))) [3,9],itV 11 129 (ptr (some (b3,0)) ((w64 (s4.1+2)).toNat)) [1]] [] 1 (by kernel_rfl) (QP.then (QP.block (QP.then (QP.then (QP.block (QP.then (QP.block (QP.then (QP.then (QP.block (QP.then QP.body))))))))))) (by kernel_rfl) rfl (.v rfl (V_move rfl) (.v rfl (V_bin rfl rfl (fun w=>addI w s4.1 2)) (.v rfl (V_idxArr (i:=w64 (s4.1+2)) rfl rfl underlying171 inf5 rfl h19.1 h19.2 (k:=(w64 (s4.1+2)).toNat) (k01 _)) (.v rfl (V_load rfl (.o 2) (get_vec (f:=v8) (V:=m_5) (toNat_lt h19.1 h19.2)) isAgg5) (.v rfl (V_move rfl) (.v rfl (V_move rfl) (.v rfl (V_move rfl) (.v rfl (V_bin rfl rfl (fun w=>xor8 w r_1 s_1)) (.e rfl (E_cu (F153_calls (r_1 ^^^ s_1) r_4 hr_4) call153 .z) (.v rfl (V_bin rfl rfl (fun w=>xor8 w all1 r_4)) (.v rfl (V_bin rfl rfl (fun w=>xor8 w (vg m_5 ((w64 (s4.1+2)).toNat)) (all1 ^^^ r_4))) (.v rfl (V_idxArr (i:=w64 (s4.1+2)) rfl rfl underlying171 inf5 rfl h20.1 h20.2 (k:=(w64 (s4.1+2)).toNat) (k01 _)) .nil)))))))))))) .nil (by kernel_rfl) rfl (fun γ=>?_)
         refine TA_cut [(129,ptr (some (b3,0)) ((w64 (s4.1+2)).toNat)),(128,v8 ((vg m_5 ((w64 (s4.1+2)).toNat)) ^^^ (all1 ^^^ r_4))),(14,v8 all1),(0,ptr (some (bc,obc)) 0),(3,ptr (some (b1,0)) 0),(4,ptr (some (b2,0)) 0),(6,vi s1.1),(7,ptr (some (b3,0)) 0),(9,vi s4.1),(10,v8 p1),(13,v8 s_1)] [⟨some (b1,0),e8 s1.2.toList⟩,⟨some (b2,0),e8 ((replicate 16 0#8).toList)⟩,⟨some (b3,0),e8 m_5.toList⟩] ⟨rfl,rfl,rfl,rfl,rfl,rfl,rfl,rfl,rfl,rfl,rfl,trivial⟩ rfl ?_
         refine TA_all (rs:=[12]) (by kernel_rfl) rfl ?_
         refine ⟨?_,trivial⟩
         refine TO_n (is:=[]) (done':=dn 13 8191) rfl rfl rfl (by kernel_rfl) (E_store (j:=2) rfl rfl inf5 rfl rfl rfl (by simpa using (toNat_lt h20.1 h20.2)) (cs':=e8 ((vp m_5 ((w64 (s4.1+2)).toNat) ((vg m_5 ((w64 (s4.1+2)).toNat)) ^^^ (all1 ^^^ r_4))).toList)) set_vec) (fun _ _=>rfl) (fun _=>?_)
         refine TA_reE (j:=2) (A:=some (b3,0)) (cs:=e8 ((vp m_5 ((w64 (s4.1+2)).toNat) ((vg m_5 ((w64 (s4.1+2)).toNat)) ^^^ (all1 ^^^ r_4))).toList)) (cs':=e8 m_6.toList) rfl (congrArg (fun z:Vx 8 16=>e8 (Vector.toList z)) hm_6) ?_
         refine TA_done (by kernel_rfl) ?_ 0
         refine TX_next ?_
         obtain ⟨h21,H⟩:=if_elim H
         obtain ⟨r_5,hr_5,H⟩:=bind_elim H
         obtain ⟨h22,H⟩:=if_elim H
         obtain ⟨m_7,hm_7,H⟩:=ltt_elim H
         refine TA_begin [] 13 (by kernel_rfl) (N:=13) rfl ?_
         refine TA_mix (is:=[]) (done':=dn 13 4095) [itV 0 130 (vi s4.1) [],itV 1 131 (vi (w64 (s4.1+3))) [0],itV 2 132 (ptr (some (b3,0)) ((w64 (s4.1+3)).toNat)) [1],itV 3 133 (v8 (vg m_6 ((w64 (s4.1+3)).toNat))) [2],itV 4 134 (v8 all1) [],itV 5 135 (v8 s_1) [],itV 6 136 (v8 p1) [],itV 7 137 (v8 (s_1 ^^^ p1)) [6,5],itV 8 138 (v8 r_5) [7],itV 9 139 (v8 (all1 ^^^ r_5)) [8,4],itV 10 140 (v8 ((vg m_6 ((w64 (s4.1+3)).toNat)) ^^^ (all1 ^^^ r_5))) [9,3],itV 11 141 (ptr (some (b3,0)) ((w64 (s4.1+3)).toNat)) [1]] [] 1 (by kernel_rfl) (QP.block (QP.then (QP.then (QP.block (QP.then (QP.block (QP.then (QP.then (QP.block (QP.then QP.body)))))))))) (by kernel_rfl) rfl (.v rfl (V_move rfl) (.v rfl (V_bin rfl rfl (fun w=>addI w s4.1 3)) (.v rfl (V_idxArr (i:=w64 (s4.1+3)) rfl rfl underlying171 inf5 rfl h21.1 h21.2 (k:=(w64 (s4.1+3)).toNat) (k01 _)) (.v rfl (V_load rfl (.o 2) (get_vec (f:=v8) (V:=m_6) (toNat_lt h21.1 h21.2)) isAgg5) (.v rfl (V_move rfl) (.v rfl (V_move rfl) (.v rfl (V_move rfl) (.v rfl (V_bin rfl rfl (fun w=>xor8 w s_1 p1)) (.e rfl (E_cu (F153_calls (s_1 ^^^ p1) r_5 hr_5) call153 .z) (.v rfl (V_bin rfl rfl (fun w=>xor8 w all1 r_5)) (.v rfl (V_bin rfl rfl (fun w=>xor8 w (vg m_6 ((w64 (s4.1+3)).toNat)) (all1 ^^^ r_5))) (.v rfl (V_idxArr (i:=w64 (s4.1+3)) rfl rfl underlying171 inf5 rfl h22.1 h22.2 (k:=(w64 (s4.1+3)).toNat) (k01 _)) .nil)))))))))))) .nil (by kernel_rfl) rfl (fun γ=>?_)
         refine TA_cut [(141,ptr (some (b3,0)) ((w64 (s4.1+3)).toNat)),(140,v8 ((vg m_6 ((w64 (s4.1+3)).toNat)) ^^^ (all1 ^^^ r_5))),(0,ptr (some (bc,obc)) 0),(3,ptr (some (b1,0)) 0),(4,ptr (some (b2,0)) 0),(6,vi s1.1),(7,ptr (some (b3,0)) 0),(9,vi s4.1)] [⟨some (b1,0),e8 s1.2.toList⟩,⟨some (b2,0),e8 ((replicate 16 0#8).toList)⟩,⟨some (b3,0),e8 m_6.toList⟩] ⟨rfl,rfl,rfl,rfl,rfl,rfl,rfl,rfl,trivial⟩ rfl ?_
         refine TA_all (rs:=[12]) (by kernel_rfl) rfl ?_
         refine ⟨?_,trivial⟩
         refine TO_n (is:=[]) (done':=dn 13 8191) rfl rfl rfl (by kernel_rfl) (E_store (j:=2) rfl rfl inf5 rfl rfl rfl (by simpa using (toNat_lt h22.1 h22.2)) (cs':=e8 ((vp m_6 ((w64 (s4.1+3)).toNat) ((vg m_6 ((w64 (s4.1+3)).toNat)) ^^^ (all1 ^^^ r_5))).toList)) set_vec) (fun _ _=>rfl) (fun _=>?_)
         refine TA_reE (j:=2) (A:=some (b3,0)) (cs:=e8 ((vp m_6 ((w64 (s4.1+3)).toNat) ((vg m_6 ((w64 (s4.1+3)).toNat)) ^^^ (all1 ^^^ r_5))).toList)) (cs':=e8 m_7.toList) rfl (congrArg (fun z:Vx 8 16=>e8 (Vector.toList z)) hm_7) ?_
         refine TA_done (by kernel_rfl) ?_ 0
         refine TX_block_normal (TX_next (TC_region (TVm ?_)))
         refine TLv (V_bin rfl rfl (fun w=>addI w s4.1 4)) ?_
         refine TVa ?_
         obtain ⟨i1,hi1,H⟩:=ltt_elim H
         refine TLr 9 (congrArg vi hi1) ?_
         refine TL_nil ?_
         obtain rfl:=sj H
         exact TXk [0,0,0] (hK (i1,m_7) rfl ())
        ·refine TC_exit (TX_then_exit (TX_then_exit ?_))
         obtain rfl:=sj H
         exact TXj [0,0,0] (hE s4.2 rfl ())
       ·intro g
        refine TX_block_exit ?_
        obtain rfl:=sj H
        exact TXj [0,0,0] (hJ ())
      ·refine TC_skip ?_
       obtain rfl:=sj H
       exact TXj [0,0,0] (hJ ())
   ·refine TC_exit (TX_then_exit (TX_then_exit ?_))
    obtain rfl:=sj H
    exact TXj [0,0] (hE s1.2 rfl ())
  ·intro g
   refine TX_block_exit (TX_next (TC_seq (TC_region (TLv (V_lag (.o 0) isAgg171 inf171) ?_))))
   refine TLn (E_sv (vs:=e8 t_2.toList) 1 inf171) (fun _=>?_)
   refine TL_nil (TX_next (TC_ret ?_))
   obtain rfl:=sj H
   exact TXr (vs:=[_]) rfl ⟨(Res_agg (n:=16) rfl (by simp) (.o 1) isAgg171 inf171 rfl (lenV (f:=v8) t_2)),trivial⟩
end Go.Proofs
end

section
namespace Go.Proofs
open Go Go.Kx
open TryzI Tryz
def gcm_load.b0 (b:List (BitVec 8)) (s0:Int × BitVec 64 × BitVec 64):Option ((Int × BitVec 64 × BitVec 64) ⊕ (BitVec 64 × BitVec 64)) :=
 if s0.1<8 then (if 0≤s0.1∧s0.1<((b).length:Int) then (if 0≤w64 (8+s0.1)∧w64 (8+s0.1)<((b).length:Int) then (some (.inl (w64 (s0.1+1),(s0.2.1 <<< 8) ||| ((lg b ((s0.1).toNat)).setWidth 64),(s0.2.2 <<< 8) ||| ((lg b ((w64 (8+s0.1)).toNat)).setWidth 64)))) else none) else none) else (some (.inr (s0.2.1,s0.2.2)))
def gcm_load (b:List (BitVec 8)):Option (BitVec 64 × BitVec 64) :=
 (loop (gcm_load.b0 b) BIG (0,0#64,0#64)).bind fun (t_1:BitVec 64 × BitVec 64)=>(some (t_1.1,t_1.2))
set_option maxHeartbeats 4000000 in
set_option maxRecDepth 20000 in
theorem F143_calls (Ab:Adr) (cb:Nat) (b:List (BitVec 8)) (hcb:(b).length≤cb) (r:BitVec 64 × BitVec 64) (H:gcm_load b=some r) :
  Does Tryz.prog 143 [sl Ab ((b).length) cb] [] [⟨Ab,e8 b⟩] (Γ:=Unit) (fun g=>aG [(1,[v64 r.1]),(1,[v64 r.2])]) (fun g=>[]):=by
 intro w hmem hro hd
 refine calls_of (N:=31) (m0:=[(0,sl Ab ((b).length) cb)]) func143 rfl ntmps143 (argM_ok [sl Ab ((b).length) cb]) rfl hmem hro hd ?_
 unfold gcm_load at H
 refine TC_seq (TC_region (TLe (E_allocP [(1,[v64 0#64]),(1,[v64 0#64])] inf216 zer216 ⟨rfl,rfl,trivial⟩) (fun b1=>?_)))
 refine TL_nil (TX_next (TC_seq (TC_region (TLe (E_allocP [(1,[v64 0#64]),(1,[v64 0#64])] inf216 zer216 ⟨rfl,rfl,trivial⟩) (fun b2=>?_)))))
 refine TL_nil (TX_next (TC_seq (TC_seq (TC_region (TVm ?_)))))
 refine TL_nil (TX_next (TC_block ?_))
 obtain ⟨t_1,Hl,H⟩:=bind_elim H
 refine TC.sub (m':=[(0,_),(2,_),(3,_),(5,_)]) ⟨rfl,rfl,rfl,rfl,trivial⟩ ?_
 refine TC.pull (is:=[2,2,0,0]) (L':=[_,_,_,_]) rfl ?_
 refine TC_loopL (id:=0) (body:=(gcm_load.b0 b)) (σ:=Int × BitVec 64 × BitVec 64) (Γ:=Unit) (Γx:=Unit) (fun s0 g0_=>[(0,sl Ab ((b).length) cb),(2,ptr (some (b1,0)) 0),(3,ptr (some (b2,0)) 0),(5,vi s0.1)]) (fun s0 g0_=>[⟨some (b1,0),[v64 0#64]⟩,⟨some (b1,1),[v64 0#64]⟩,⟨some (b2,0),[v64 s0.2.1]⟩,⟨some (b2,1),[v64 s0.2.2]⟩]) (fun t g=>[(2,ptr (some (b1,0)) 0),(3,ptr (some (b2,0)) 0)]) (fun t g=>[⟨some (b1,0),[v64 0#64]⟩,⟨some (b1,1),[v64 0#64]⟩,⟨some (b2,0),[v64 t.1]⟩,⟨some (b2,1),[v64 t.2]⟩]) ?_ BIG (0,0#64,0#64) () t_1 Hl ?_
 ·intro s0 g0_ r1 H K hK hE
  unfold gcm_load.b0 at H
  refine TC_seq (TC_region (TLv (V_bin rfl rfl (fun w=>lssI w s0.1 8)) ?_))
  refine TL_nil (TX_next (TC_seq (TCd H (fun hc H=>?_) (fun hc H=>?_))))
  ·refine TC_skip (TX_next (TC_seq (TC_block (TC_seq (TC_region (TVm ?_))))))
   refine TVa ?_
   refine TL_nil (TX_next (TC_seq ?_))
   obtain ⟨h1,H⟩:=if_elim H
   refine TA_begin [] 11 (by kernel_rfl) (N:=11) rfl ?_
   refine TA_mix (is:=[]) (done':=dn 11 1023) [itV 0 8 (ptr (some (b2,0)) 0) [],itV 1 9 (v64 s0.2.1) [0],itV 2 10 (v64 (s0.2.1 <<< 8)) [1],itV 3 11 (sl Ab ((b).length) cb) [],itV 4 12 (vi s0.1) [],itV 5 13 (ptr Ab ((s0.1).toNat)) [3,4],itV 6 14 (v8 (lg b ((s0.1).toNat))) [5],itV 7 15 (v64 ((lg b ((s0.1).toNat)).setWidth 64)) [6],itV 8 16 (v64 ((s0.2.1 <<< 8) ||| ((lg b ((s0.1).toNat)).setWidth 64))) [2,7],itV 9 17 (ptr (some (b2,0)) 0) []] [] 1 (by kernel_rfl) (QP.then (QP.block (QP.then (QP.then (QP.block (QP.then QP.body)))))) (by kernel_rfl) rfl (.v rfl (V_fe underlying216 inf115) (.v rfl (V_load rfl (.o 2) rfl isAgg115) (.v rfl (V_bin rfl rfl (fun w=>shl64 w s0.2.1 .u64 8 (by decide))) (.v rfl (V_move rfl) (.v rfl (V_move rfl) (.v rfl (V_idxSlS (i:=s0.1) rfl rfl underlying86 inf5 rfl (.r 0) (map_ne (toNat_lt h1.1 h1.2)) h1.1 h1.2 (k:=(s0.1).toNat) (km1 _)) (.v rfl (V_load rfl (.r 0) (get_map (f:=v8) (l:=b) (toNat_lt h1.1 h1.2)) isAgg5) (.v rfl (V_conv rfl (fun w=>cv8to64 w _ _ underlying115 (und5) (lg b ((s0.1).toNat)))) (.v rfl (V_bin rfl rfl (fun w=>or64 w (s0.2.1 <<< 8) ((lg b ((s0.1).toNat)).setWidth 64))) (.v rfl (V_fe underlying216 inf115) .nil)))))))))) .nil (by kernel_rfl) rfl (fun γ=>?_)
   refine TA_cut [(17,ptr (some (b2,0)) 0),(16,v64 ((s0.2.1 <<< 8) ||| ((lg b ((s0.1).toNat)).setWidth 64))),(4,vi s0.1),(0,sl Ab ((b).length) cb),(2,ptr (some (b1,0)) 0),(3,ptr (some (b2,0)) 0),(5,vi s0.1)] [⟨some (b1,0),[v64 0#64]⟩,⟨some (b1,1),[v64 0#64]⟩,⟨some (b2,0),[v64 s0.2.1]⟩,⟨some (b2,1),[v64 s0.2.2]⟩] ⟨rfl,rfl,rfl,rfl,rfl,rfl,rfl,trivial⟩ rfl ?_
   refine TA_all (rs:=[10]) (by kernel_rfl) rfl ?_
   refine ⟨?_,trivial⟩
   refine TO_n (is:=[]) (done':=dn 11 2047) rfl rfl rfl (by kernel_rfl) (E_store (j:=2) rfl rfl inf115 rfl rfl rfl (Nat.lt_succ_self 0) (cs':=[v64 ((s0.2.1 <<< 8) ||| ((lg b ((s0.1).toNat)).setWidth 64))]) rfl) (fun _ _=>rfl) (fun _=>?_)
   refine TA_done (by kernel_rfl) ?_ 0
   refine TX_next ?_
   obtain ⟨h2,H⟩:=if_elim H
   refine TA_begin [] 12 (by kernel_rfl) (N:=12) rfl ?_
   refine TA_mix (is:=[]) (done':=dn 12 2047) [itV 0 18 (ptr (some (b2,1)) 0) [],itV 1 19 (v64 s0.2.2) [0],itV 2 20 (v64 (s0.2.2 <<< 8)) [1],itV 3 21 (sl Ab ((b).length) cb) [],itV 4 22 (vi s0.1) [],itV 5 23 (vi (w64 (8+s0.1))) [4],itV 6 24 (ptr Ab ((w64 (8+s0.1)).toNat)) [3,5],itV 7 25 (v8 (lg b ((w64 (8+s0.1)).toNat))) [6],itV 8 26 (v64 ((lg b ((w64 (8+s0.1)).toNat)).setWidth 64)) [7],itV 9 27 (v64 ((s0.2.2 <<< 8) ||| ((lg b ((w64 (8+s0.1)).toNat)).setWidth 64))) [8,2],itV 10 28 (ptr (some (b2,1)) 0) []] [] 1 (by kernel_rfl) (QP.block (QP.then (QP.then (QP.block (QP.then QP.body))))) (by kernel_rfl) rfl (.v rfl (V_fe underlying216 inf115) (.v rfl (V_load rfl (.o 3) rfl isAgg115) (.v rfl (V_bin rfl rfl (fun w=>shl64 w s0.2.2 .u64 8 (by decide))) (.v rfl (V_move rfl) (.v rfl (V_move rfl) (.v rfl (V_bin rfl rfl (fun w=>addI w 8 s0.1)) (.v rfl (V_idxSlS (i:=w64 (8+s0.1)) rfl rfl underlying86 inf5 rfl (.r 0) (map_ne (toNat_lt h2.1 h2.2)) h2.1 h2.2 (k:=(w64 (8+s0.1)).toNat) (km1 _)) (.v rfl (V_load rfl (.r 0) (get_map (f:=v8) (l:=b) (toNat_lt h2.1 h2.2)) isAgg5) (.v rfl (V_conv rfl (fun w=>cv8to64 w _ _ underlying115 (und5) (lg b ((w64 (8+s0.1)).toNat)))) (.v rfl (V_bin rfl rfl (fun w=>or64 w (s0.2.2 <<< 8) ((lg b ((w64 (8+s0.1)).toNat)).setWidth 64))) (.v rfl (V_fe underlying216 inf115) .nil))))))))))) .nil (by kernel_rfl) rfl (fun γ=>?_)
   refine TA_cut [(28,ptr (some (b2,1)) 0),(27,v64 ((s0.2.2 <<< 8) ||| ((lg b ((w64 (8+s0.1)).toNat)).setWidth 64))),(0,sl Ab ((b).length) cb),(2,ptr (some (b1,0)) 0),(3,ptr (some (b2,0)) 0),(5,vi s0.1)] [⟨some (b1,0),[v64 0#64]⟩,⟨some (b1,1),[v64 0#64]⟩,⟨some (b2,0),[v64 ((s0.2.1 <<< 8) ||| ((lg b ((s0.1).toNat)).setWidth 64))]⟩,⟨some (b2,1),[v64 s0.2.2]⟩] ⟨rfl,rfl,rfl,rfl,rfl,rfl,trivial⟩ rfl ?_
   refine TA_all (rs:=[11]) (by kernel_rfl) rfl ?_
   refine ⟨?_,trivial⟩
   refine TO_n (is:=[]) (done':=dn 12 4095) rfl rfl rfl (by kernel_rfl) (E_store (j:=3) rfl rfl inf115 rfl rfl rfl (Nat.lt_succ_self 0) (cs':=[v64 ((s0.2.2 <<< 8) ||| ((lg b ((w64 (8+s0.1)).toNat)).setWidth 64))]) rfl) (fun _ _=>rfl) (fun _=>?_)
   refine TA_done (by kernel_rfl) ?_ 0
   refine TX_block_normal (TX_next (TC_region (TLv (V_bin rfl rfl (fun w=>addI w s0.1 1)) ?_)))
   refine TVm ?_
   refine TL_nil ?_
   obtain rfl:=sj H
   exact TXk [0,0,0,0] (hK (w64 (s0.1+1),(s0.2.1 <<< 8) ||| ((lg b ((s0.1).toNat)).setWidth 64),(s0.2.2 <<< 8) ||| ((lg b ((w64 (8+s0.1)).toNat)).setWidth 64)) rfl ())
  ·refine TC_exit (TX_then_exit (TX_then_exit ?_))
   obtain rfl:=sj H
   exact TXj [0,0,0,0] (hE (s0.2.1,s0.2.2) rfl ())
 ·intro g
  refine TX_block_exit (TX_next (TC_seq (TC_region (TLv (V_lp (b:=b2) (o:=0) (n:=2) (ps:=[(1,_),(1,_)]) ⟨.o 2, .o 3,trivial⟩ isAgg216 inf216) ?_))))
  refine TLn (E_sq (b:=b1) (o:=0) [0,0] [(1,_),(1,_)] rfl inf216) (fun _=>?_)
  refine TL_nil (TX_next (TC_ret ?_))
  obtain rfl:=sj H
  exact TXr (vs:=[_]) rfl ⟨(Res_lp (b:=b1) (o:=0) (n:=2) (ps:=[(1,_),(1,_)]) ⟨.o 0, .o 1,trivial⟩ isAgg216 inf216),trivial⟩
end Go.Proofs
end

/-
  Part 6 of the proof of GcmForms.
-/
import Derived.Test.YtdhnelpiiobekaaGcmFormsA1
import Derived.Test.YtdhnelpiiobekaaGcmFormsA2
import Derived.Test.YtdhnelpiiobekaaGcmFormsA3
import Derived.Test.YtdhnelpiiobekaaGcmFormsA4
import Derived.Test.YtdhnelpiiobekaaGcmFormsA5
set_option linter.unusedVariables false
set_option linter.unusedSimpArgs false
section
namespace Go.Proofs
open Go Go.Kx
open Vector (replicate)
open TryI Try
def aes_Cipher_Encrypt.b0 (c_keys:List (Vx 8 16)) (s0:Int × Vx 8 16):Option ((Int × Vx 8 16) ⊕ (Vx 8 16)) :=
 if s0.1<16 then (if 0≤s0.1∧s0.1<(16:Int) then (if 0≤(0:Int)∧(0:Int)<((c_keys).length:Int) then (if 0≤s0.1∧s0.1<(16:Int) then (if 0≤s0.1∧s0.1<(16:Int) then (ltt (vp s0.2 ((s0.1).toNat) ((vg s0.2 ((s0.1).toNat)) ^^^ (vg (lg c_keys 0) ((s0.1).toNat)))) fun (m_1:Vx 8 16)=>(some (.inl (w64 (s0.1+1),m_1)))) else none) else none) else none) else none) else (some (.inr s0.2))
def aes_Cipher_Encrypt.b2 (c_table:Vx 8 256) (s1:Int × Vx 8 16) (s2:Int × Vx 8 16):Option ((Int × Vx 8 16) ⊕ (Vx 8 16)) :=
 if s2.1<16 then (if 0≤(w64 (s2.1+(w64 (4 * (s2.1.tmod 4))))).tmod 16∧(w64 (s2.1+(w64 (4 * (s2.1.tmod 4))))).tmod 16<(16:Int) then (if 0≤s2.1∧s2.1<(16:Int) then (ltt (vp s2.2 ((s2.1).toNat) (vg c_table ((vg s1.2 (((w64 (s2.1+(w64 (4 * (s2.1.tmod 4))))).tmod 16).toNat)).toNat))) fun (m_2:Vx 8 16)=>(some (.inl (w64 (s2.1+1),m_2)))) else none) else none) else (some (.inr s2.2))
def aes_Cipher_Encrypt.b3 (c_keys:List (Vx 8 16)) (s1:Int × Vx 8 16) (j1:Vx 8 16) (s3:Int × Vx 8 16):Option ((Int × Vx 8 16) ⊕ (Vx 8 16)) :=
 if s3.1<16 then (if 0≤s3.1∧s3.1<(16:Int) then (if 0≤s1.1∧s1.1<((c_keys).length:Int) then (if 0≤s3.1∧s3.1<(16:Int) then (if 0≤s3.1∧s3.1<(16:Int) then (ltt (vp s3.2 ((s3.1).toNat) ((vg j1 ((s3.1).toNat)) ^^^ (vg (lg c_keys ((s1.1).toNat)) ((s3.1).toNat)))) fun (m_3:Vx 8 16)=>(some (.inl (w64 (s3.1+1),m_3)))) else none) else none) else none) else none) else (some (.inr s3.2))
def aes_Cipher_Encrypt.b4  (s4:Int × Vx 8 16):Option ((Int × Vx 8 16) ⊕ (Vx 8 16)) :=
 if s4.1<16 then (if 0≤s4.1∧s4.1<(16:Int) then (if 0≤w64 (s4.1+1)∧w64 (s4.1+1)<(16:Int) then (if 0≤w64 (s4.1+2)∧w64 (s4.1+2)<(16:Int) then (if 0≤w64 (s4.1+3)∧w64 (s4.1+3)<(16:Int) then (ltt (vg s4.2 ((s4.1).toNat)) fun (p1:BitVec 8)=>(ltt (vg s4.2 ((w64 (s4.1+1)).toNat)) fun (q1:BitVec 8)=>(ltt (vg s4.2 ((w64 (s4.1+2)).toNat)) fun (r_1:BitVec 8)=>(ltt (vg s4.2 ((w64 (s4.1+3)).toNat)) fun (s_1:BitVec 8)=>(ltt (((p1 ^^^ q1) ^^^ r_1) ^^^ s_1) fun (all1:BitVec 8)=>(if 0≤s4.1∧s4.1<(16:Int) then ((aes_twice (p1 ^^^ q1)).bind fun (r_2:BitVec 8)=>(if 0≤s4.1∧s4.1<(16:Int) then (ltt (vp s4.2 ((s4.1).toNat) ((vg s4.2 ((s4.1).toNat)) ^^^ (all1 ^^^ r_2))) fun (m_4:Vx 8 16)=>(if 0≤w64 (s4.1+1)∧w64 (s4.1+1)<(16:Int) then ((aes_twice (q1 ^^^ r_1)).bind fun (r_3:BitVec 8)=>(if 0≤w64 (s4.1+1)∧w64 (s4.1+1)<(16:Int) then (ltt (vp m_4 ((w64 (s4.1+1)).toNat) ((vg m_4 ((w64 (s4.1+1)).toNat)) ^^^ (all1 ^^^ r_3))) fun (m_5:Vx 8 16)=>(if 0≤w64 (s4.1+2)∧w64 (s4.1+2)<(16:Int) then ((aes_twice (r_1 ^^^ s_1)).bind fun (r_4:BitVec 8)=>(if 0≤w64 (s4.1+2)∧w64 (s4.1+2)<(16:Int) then (ltt (vp m_5 ((w64 (s4.1+2)).toNat) ((vg m_5 ((w64 (s4.1+2)).toNat)) ^^^ (all1 ^^^ r_4))) fun (m_6:Vx 8 16)=>(if 0≤w64 (s4.1+3)∧w64 (s4.1+3)<(16:Int) then ((aes_twice (s_1 ^^^ p1)).bind fun (r_5:BitVec 8)=>(if 0≤w64 (s4.1+3)∧w64 (s4.1+3)<(16:Int) then (ltt (vp m_6 ((w64 (s4.1+3)).toNat) ((vg m_6 ((w64 (s4.1+3)).toNat)) ^^^ (all1 ^^^ r_5))) fun (m_7:Vx 8 16)=>(ltt (w64 (s4.1+4)) fun (i1:Int)=>(some (.inl (i1,m_7))))) else none)) else none)) else none)) else none)) else none)) else none)) else none)) else none)))))) else none) else none) else none) else none) else (some (.inr s4.2))
def aes_Cipher_Encrypt.b1 (c_table:Vx 8 256) (c_keys:List (Vx 8 16)) (s1:Int × Vx 8 16):Option ((Int × Vx 8 16) ⊕ (Vx 8 16)) :=
 if s1.1<((c_keys).length:Int) then ((loop (aes_Cipher_Encrypt.b2 c_table s1) BIG (0,replicate 16 0#8)).bind fun (t_3:Vx 8 16)=>((if s1.1<(w64 (((c_keys).length:Int) - 1)) then ((loop (aes_Cipher_Encrypt.b4) BIG (0,t_3)).bind fun (t_5:Vx 8 16)=>(some t_5)) else (some t_3)).bind fun (j1:Vx 8 16)=>((loop (aes_Cipher_Encrypt.b3 c_keys s1 j1) BIG (0,s1.2)).bind fun (t_4:Vx 8 16)=>(ltt (w64 (s1.1+1)) fun (round1:Int)=>(some (.inl (round1,t_4))))))) else (some (.inr s1.2))
def aes_Cipher_Encrypt (c_table:Vx 8 256) (c_keys:List (Vx 8 16)) (b:Vx 8 16):Option (Vx 8 16) :=
 (loop (aes_Cipher_Encrypt.b0 c_keys) BIG (0,b)).bind fun (t_1:Vx 8 16)=>((loop (aes_Cipher_Encrypt.b1 c_table c_keys) BIG (1,t_1)).bind fun (t_2:Vx 8 16)=>(some t_2))
set_option maxHeartbeats 4000000 in
set_option maxRecDepth 20000 in
theorem F18_calls (bc:Nat) (obc:Nat) (Ac_keys:Adr) (cc_keys:Nat) (c_table:Vx 8 256) (c_keys:List (Vx 8 16)) (b:Vx 8 16) (hcc_keys:(c_keys).length≤cc_keys) (r:Vx 8 16) (H:aes_Cipher_Encrypt c_table c_keys b=some r) :
  Does Try.prog 18 [ptr (some (bc,obc)) 0,aG [(16,e8 b.toList)]] [] [⟨some (bc,obc),e8 c_table.toList⟩,⟨some (bc,obc+256),[sl Ac_keys ((c_keys).length) cc_keys]⟩,⟨Ac_keys,eF (fun V:Vx 8 16=>e8 V.toList) c_keys⟩] (Γ:=Unit) (fun g=>aG [(16,e8 r.toList)]) (fun g=>[]):=by
 intro w hmem hro hd
 refine calls_of (N:=162) (m0:=[(0,ptr (some (bc,obc)) 0),(1,aG [(16,e8 b.toList)])]) func18 rfl ntmps18 (argM_ok [ptr (some (bc,obc)) 0,aG [(16,e8 b.toList)]]) rfl hmem hro hd ?_
 unfold aes_Cipher_Encrypt at H
 refine TC_seq (TC_region (TLe (E_boxP [(16,e8 b.toList)] rfl rfl ⟨(lenV (f:=v8) b),trivial⟩) (fun b1=>?_)))
 refine TLe (E_allocP [(16,e8 ((replicate 16 0#8).toList))] inf38 zer38 ⟨(lenV (f:=v8) (replicate 16 0#8)),trivial⟩) (fun b2=>?_)
 refine TL_nil (TX_next (TC_seq (TC_seq (TC_region (TVm ?_)))))
 refine TL_nil (TX_next (TC_block ?_))
 obtain ⟨t_1,Hl,H⟩:=bind_elim H
 refine TC.sub (m':=[(0,_),(3,_),(4,_),(16,_)]) ⟨rfl,rfl,rfl,rfl,trivial⟩ ?_
 refine TC.pull (is:=[1,0]) (L':=[_,_]) rfl ?_
 refine TC_loopL (id:=0) (body:=(aes_Cipher_Encrypt.b0 c_keys)) (σ:=Int × Vx 8 16) (Γ:=Unit) (Γx:=Unit) (fun s0 g0_=>[(0,ptr (some (bc,obc)) 0),(3,ptr (some (b1,0)) 0),(4,ptr (some (b2,0)) 0),(16,vi s0.1)]) (fun s0 g0_=>[⟨some (b1,0),e8 s0.2.toList⟩,⟨some (b2,0),e8 ((replicate 16 0#8).toList)⟩]) (fun t g=>[(0,ptr (some (bc,obc)) 0),(3,ptr (some (b1,0)) 0),(4,ptr (some (b2,0)) 0)]) (fun t g=>[⟨some (b1,0),e8 t.toList⟩,⟨some (b2,0),e8 ((replicate 16 0#8).toList)⟩]) ?_ BIG (0,b) () t_1 Hl ?_
 ·intro s0 g0_ r1 H K hK hE
  unfold aes_Cipher_Encrypt.b0 at H
  refine TC_seq (TC_region (TLv (V_bin rfl rfl (fun w=>lssI w s0.1 16)) ?_))
  refine TL_nil (TX_next (TC_seq (TCd H (fun hc H=>?_) (fun hc H=>?_))))
  ·refine TC_skip (TX_next (TC_seq (TC_block (TC_seq (TC_region (TVm ?_))))))
   refine TVa ?_
   refine TL_nil (TX_next ?_)
   obtain ⟨h1,H⟩:=if_elim H
   obtain ⟨h2,H⟩:=if_elim H
   obtain ⟨h3,H⟩:=if_elim H
   obtain ⟨h4,H⟩:=if_elim H
   obtain ⟨m_1,hm_1,H⟩:=ltt_elim H
   refine TA_begin [] 14 (by kernel_rfl) (N:=14) rfl ?_
   refine TA_mix (is:=[]) (done':=dn 14 8191) [itV 0 19 (vi s0.1) [],itV 1 20 (ptr (some (b1,0)) ((s0.1).toNat)) [0],itV 2 21 (v8 (vg s0.2 ((s0.1).toNat))) [1],itV 3 22 (ptr (some (bc,obc)) 0) [],itV 4 23 (ptr (some (bc,obc)) 0) [3],itV 5 24 (ptr (some (bc,obc+256)) 0) [4],itV 6 25 (sl Ac_keys ((c_keys).length) cc_keys) [5],itV 7 26 (vi s0.1) [],itV 8 27 (ptr Ac_keys (0 * 16)) [6],itV 9 28 (ptr Ac_keys (0 * 16+(s0.1).toNat)) [7,8],itV 10 29 (v8 (vg (lg c_keys 0) ((s0.1).toNat))) [9],itV 11 30 (v8 ((vg s0.2 ((s0.1).toNat)) ^^^ (vg (lg c_keys 0) ((s0.1).toNat)))) [10,2],itV 12 31 (ptr (some (b1,0)) ((s0.1).toNat)) [0]] [] 1 (by kernel_rfl) (QP.block (QP.then (QP.then (QP.block (QP.then QP.body))))) (by kernel_rfl) rfl (.v rfl (V_move rfl) (.v rfl (V_idxArr (i:=s0.1) rfl rfl underlying38 inf5 rfl h1.1 h1.2 (k:=(s0.1).toNat) (k01 _)) (.v rfl (V_load rfl (.o 0) (get_vec (f:=v8) (V:=s0.2) (toNat_lt h1.1 h1.2)) isAgg5) (.v rfl (V_move rfl) (.v rfl (V_nilCheck rfl) (.v rfl (V_fe underlying69 inf67) (.v rfl (V_load rfl (.r 1) rfl isAgg67) (.v rfl (V_move rfl) (.v rfl (V_idxSlS (i:=0) rfl rfl underlying67 inf38 rfl (.r 2) (eF_ne2 (s:=16) (fun _=>by simp) rfl (toNat_lt h2.1 h2.2)) h2.1 h2.2 (k:=0 * 16) rfl) (.v rfl (V_idxArr (i:=s0.1) rfl rfl underlying38 inf5 rfl h3.1 h3.2 (k:=0 * 16+(s0.1).toNat) (k1 _ _)) (.v rfl (V_load rfl (.r 2) ((get_eF (g:=fun V:Vx 8 16=>e8 V.toList) (s:=16) (fun _=>by simp) c_keys 0 ((s0.1).toNat) (toNat_lt h2.1 h2.2) (toNat_lt h3.1 h3.2)).trans (get_vec (toNat_lt h3.1 h3.2))) isAgg5) (.v rfl (V_bin rfl rfl (fun w=>xor8 w (vg s0.2 ((s0.1).toNat)) (vg (lg c_keys 0) ((s0.1).toNat)))) (.v rfl (V_idxArr (i:=s0.1) rfl rfl underlying38 inf5 rfl h4.1 h4.2 (k:=(s0.1).toNat) (k01 _)) .nil))))))))))))) .nil (by kernel_rfl) rfl (fun γ=>?_)
   refine TA_cut [(31,ptr (some (b1,0)) ((s0.1).toNat)),(30,v8 ((vg s0.2 ((s0.1).toNat)) ^^^ (vg (lg c_keys 0) ((s0.1).toNat)))),(0,ptr (some (bc,obc)) 0),(3,ptr (some (b1,0)) 0),(4,ptr (some (b2,0)) 0),(16,vi s0.1)] [⟨some (b1,0),e8 s0.2.toList⟩,⟨some (b2,0),e8 ((replicate 16 0#8).toList)⟩] ⟨rfl,rfl,rfl,rfl,rfl,rfl,trivial⟩ rfl ?_
   refine TA_all (rs:=[13]) (by kernel_rfl) rfl ?_
   refine ⟨?_,trivial⟩
   refine TO_n (is:=[]) (done':=dn 14 16383) rfl rfl rfl (by kernel_rfl) (E_store (j:=0) rfl rfl inf5 rfl rfl rfl (by simpa using (toNat_lt h4.1 h4.2)) (cs':=e8 ((vp s0.2 ((s0.1).toNat) ((vg s0.2 ((s0.1).toNat)) ^^^ (vg (lg c_keys 0) ((s0.1).toNat)))).toList)) set_vec) (fun _ _=>rfl) (fun _=>?_)
   refine TA_reE (j:=0) (A:=some (b1,0)) (cs:=e8 ((vp s0.2 ((s0.1).toNat) ((vg s0.2 ((s0.1).toNat)) ^^^ (vg (lg c_keys 0) ((s0.1).toNat)))).toList)) (cs':=e8 m_1.toList) rfl (congrArg (fun z:Vx 8 16=>e8 (Vector.toList z)) hm_1) ?_
   refine TA_done (by kernel_rfl) ?_ 0
   refine TX_block_normal (TX_next (TC_region (TLv (V_bin rfl rfl (fun w=>addI w s0.1 1)) ?_)))
   refine TVm ?_
   refine TL_nil ?_
   obtain rfl:=sj H
   exact TXk [0,0] (hK (w64 (s0.1+1),m_1) rfl ())
  ·refine TC_exit (TX_then_exit (TX_then_exit ?_))
   obtain rfl:=sj H
   exact TXj [0,0] (hE s0.2 rfl ())
 ·intro g
  refine TX_block_exit (TX_next (TC_seq (TC_seq (TC_region (TVa ?_)))))
  refine TL_nil (TX_next (TC_block ?_))
  obtain ⟨t_2,Hl,H⟩:=bind_elim H
  refine TC.sub (m':=[(0,_),(3,_),(4,_),(6,_)]) ⟨rfl,rfl,rfl,rfl,trivial⟩ ?_
  refine TC.pull (is:=[0,0]) (L':=[_,_]) rfl ?_
  refine TC_loopL (id:=2) (body:=(aes_Cipher_Encrypt.b1 c_table c_keys)) (σ:=Int × Vx 8 16) (Γ:=Unit) (Γx:=Unit) (fun s1 g1_=>[(0,ptr (some (bc,obc)) 0),(3,ptr (some (b1,0)) 0),(4,ptr (some (b2,0)) 0),(6,vi s1.1)]) (fun s1 g1_=>[⟨some (b1,0),e8 s1.2.toList⟩,⟨some (b2,0),e8 ((replicate 16 0#8).toList)⟩]) (fun t g=>[(3,ptr (some (b1,0)) 0),(4,ptr (some (b2,0)) 0)]) (fun t g=>[⟨some (b1,0),e8 t.toList⟩,⟨some (b2,0),e8 ((replicate 16 0#8).toList)⟩]) ?_ BIG (1,t_1) () t_2 Hl ?_
  ·intro s1 g1_ r1 H K hK hE
   unfold aes_Cipher_Encrypt.b1 at H
   refine TC_seq (TC_seq (TC_region (TVm ?_)))
   refine TVm ?_
   refine TLv (V_nilCheck rfl) ?_
   refine TLv (V_fieldE rfl underlying69 rfl rfl inf67 rfl (v:=ptr (some (bc,obc+256)) 0) rfl) ?_
   refine TLv (V_load rfl (.r 1) rfl isAgg67) ?_
   refine TLv (V_len_slice rfl underlying67) ?_
   refine TLv (V_bin rfl rfl (fun w=>lssI w s1.1 ((c_keys).length:Int))) ?_
   refine TL_nil (TX_next (TCd H (fun hc H=>?_) (fun hc H=>?_)))
   ·refine TC_skip (TX_next (TC_seq (TC_block (TC_seq (TC_region (TLe (E_allocP [(16,e8 ((replicate 16 0#8).toList))] inf38 zer38 ⟨(lenV (f:=v8) (replicate 16 0#8)),trivial⟩) (fun b3=>?_)))))))
    refine TL_nil (TX_next (TC_seq (TC_seq (TC_region (TVm ?_)))))
    refine TL_nil (TX_next (TC_block ?_))
    obtain ⟨t_3,Hl,H⟩:=bind_elim H
    refine TC.sub (m':=[(0,_),(3,_),(4,_),(6,_),(7,_),(42,_)]) ⟨rfl,rfl,rfl,rfl,rfl,rfl,trivial⟩ ?_
    refine TC.pull (is:=[1,1,0]) (L':=[_,_,_]) rfl ?_
    refine TC_loopL (id:=4) (body:=(aes_Cipher_Encrypt.b2 c_table s1)) (σ:=Int × Vx 8 16) (Γ:=Unit) (Γx:=Unit) (fun s2 g2_=>[(0,ptr (some (bc,obc)) 0),(3,ptr (some (b1,0)) 0),(4,ptr (some (b2,0)) 0),(6,vi s1.1),(7,ptr (some (b3,0)) 0),(42,vi s2.1)]) (fun s2 g2_=>[⟨some (b1,0),e8 s1.2.toList⟩,⟨some (b2,0),e8 ((replicate 16 0#8).toList)⟩,⟨some (b3,0),e8 s2.2.toList⟩]) (fun t g=>[(0,ptr (some (bc,obc)) 0),(3,ptr (some (b1,0)) 0),(4,ptr (some (b2,0)) 0),(6,vi s1.1),(7,ptr (some (b3,0)) 0)]) (fun t g=>[⟨some (b1,0),e8 s1.2.toList⟩,⟨some (b2,0),e8 ((replicate 16 0#8).toList)⟩,⟨some (b3,0),e8 t.toList⟩]) ?_ BIG (0,replicate 16 0#8) () t_3 Hl ?_
    ·intro s2 g2_ r1 H K hK hE
     unfold aes_Cipher_Encrypt.b2 at H
     refine TC_seq (TC_region (TLv (V_bin rfl rfl (fun w=>lssI w s2.1 16)) ?_))
     refine TL_nil (TX_next (TC_seq (TCd H (fun hc H=>?_) (fun hc H=>?_))))
     ·refine TC_skip (TX_next (TC_seq (TC_block (TC_seq (TC_region (TVm ?_))))))
      refine TVa ?_
      refine TL_nil (TX_next ?_)
      obtain ⟨h5,H⟩:=if_elim H
      obtain ⟨h6,H⟩:=if_elim H
      obtain ⟨m_2,hm_2,H⟩:=ltt_elim H
      refine TA_begin [] 16 (by kernel_rfl) (N:=16) rfl ?_
      refine TA_mix (is:=[]) (done':=dn 16 32767) [itV 0 45 (vi s2.1) [],itV 1 46 (ptr (some (bc,obc)) 0) [],itV 2 47 (vi s2.1) [],itV 3 48 (vi s2.1) [],itV 4 49 (vi (s2.1.tmod 4)) [3],itV 5 50 (vi (w64 (4 * (s2.1.tmod 4)))) [4],itV 6 51 (vi (w64 (s2.1+(w64 (4 * (s2.1.tmod 4)))))) [5,2],itV 7 52 (vi ((w64 (s2.1+(w64 (4 * (s2.1.tmod 4))))).tmod 16)) [6],itV 8 53 (ptr (some (b1,0)) (((w64 (s2.1+(w64 (4 * (s2.1.tmod 4))))).tmod 16).toNat)) [7],itV 9 54 (v8 (vg s1.2 (((w64 (s2.1+(w64 (4 * (s2.1.tmod 4))))).tmod 16).toNat))) [8],itV 10 55 (ptr (some (bc,obc)) 0) [1],itV 11 56 (ptr (some (bc,obc)) 0) [10],itV 12 57 (ptr (some (bc,obc)) ((vg s1.2 (((w64 (s2.1+(w64 (4 * (s2.1.tmod 4))))).tmod 16).toNat)).toNat)) [11,9],itV 13 58 (v8 (vg c_table ((vg s1.2 (((w64 (s2.1+(w64 (4 * (s2.1.tmod 4))))).tmod 16).toNat)).toNat))) [12],itV 14 59 (ptr (some (b3,0)) ((s2.1).toNat)) [0]] [] 1 (by kernel_rfl) (QP.block (QP.then (QP.then (QP.block (QP.then (QP.block (QP.then (QP.then (QP.block (QP.then QP.body)))))))))) (by kernel_rfl) rfl (.v rfl (V_move rfl) (.v rfl (V_move rfl) (.v rfl (V_move rfl) (.v rfl (V_move rfl) (.v rfl (V_bin rfl rfl (fun w=>remI w s2.1 4 (by decide))) (.v rfl (V_bin rfl rfl (fun w=>mulI w 4 (s2.1.tmod 4))) (.v rfl (V_bin rfl rfl (fun w=>addI w s2.1 (w64 (4 * (s2.1.tmod 4))))) (.v rfl (V_bin rfl rfl (fun w=>remI w (w64 (s2.1+(w64 (4 * (s2.1.tmod 4))))) 16 (by decide))) (.v rfl (V_idxArr (i:=(w64 (s2.1+(w64 (4 * (s2.1.tmod 4))))).tmod 16) rfl rfl underlying38 inf5 rfl h5.1 h5.2 (k:=((w64 (s2.1+(w64 (4 * (s2.1.tmod 4))))).tmod 16).toNat) (k01 _)) (.v rfl (V_load rfl (.o 0) (get_vec (f:=v8) (V:=s1.2) (toNat_lt h5.1 h5.2)) isAgg5) (.v rfl (V_nilCheck rfl) (.v rfl (V_fe underlying69 inf65) (.v rfl (V_idxArr (i:=((vg s1.2 (((w64 (s2.1+(w64 (4 * (s2.1.tmod 4))))).tmod 16).toNat)).toNat:Int)) rfl rfl underlying65 inf5 rfl (Int.natCast_nonneg _) (zb (n:=8) (k:=256) (vg s1.2 (((w64 (s2.1+(w64 (4 * (s2.1.tmod 4))))).tmod 16).toNat)) (by decide)) (k:=(vg s1.2 (((w64 (s2.1+(w64 (4 * (s2.1.tmod 4))))).tmod 16).toNat)).toNat) (k01 _)) (.v rfl (V_load rfl (.r 0) (get_vec (f:=v8) (V:=c_table) (toNat_lt (Int.natCast_nonneg _) (zb (n:=8) (k:=256) (vg s1.2 (((w64 (s2.1+(w64 (4 * (s2.1.tmod 4))))).tmod 16).toNat)) (by decide)))) isAgg5) (.v rfl (V_idxArr (i:=s2.1) rfl rfl underlying38 inf5 rfl h6.1 h6.2 (k:=(s2.1).toNat) (k01 _)) .nil))))))))))))))) .nil (by kernel_rfl) rfl (fun γ=>?_)
      refine TA_cut [(59,ptr (some (b3,0)) ((s2.1).toNat)),(58,v8 (vg c_table ((vg s1.2 (((w64 (s2.1+(w64 (4 * (s2.1.tmod 4))))).tmod 16).toNat)).toNat))),(0,ptr (some (bc,obc)) 0),(3,ptr (some (b1,0)) 0),(4,ptr (some (b2,0)) 0),(6,vi s1.1),(7,ptr (some (b3,0)) 0),(42,vi s2.1)] [⟨some (b1,0),e8 s1.2.toList⟩,⟨some (b2,0),e8 ((replicate 16 0#8).toList)⟩,⟨some (b3,0),e8 s2.2.toList⟩] ⟨rfl,rfl,rfl,rfl,rfl,rfl,rfl,rfl,trivial⟩ rfl ?_
      refine TA_all (rs:=[15]) (by kernel_rfl) rfl ?_
      refine ⟨?_,trivial⟩
      refine TO_n (is:=[]) (done':=dn 16 65535) rfl rfl rfl (by kernel_rfl) (E_store (j:=2) rfl rfl inf5 rfl rfl rfl (by simpa using (toNat_lt h6.1 h6.2)) (cs':=e8 ((vp s2.2 ((s2.1).toNat) (vg c_table ((vg s1.2 (((w64 (s2.1+(w64 (4 * (s2.1.tmod 4))))).tmod 16).toNat)).toNat))).toList)) set_vec) (fun _ _=>rfl) (fun _=>?_)
      refine TA_reE (j:=2) (A:=some (b3,0)) (cs:=e8 ((vp s2.2 ((s2.1).toNat) (vg c_table ((vg s1.2 (((w64 (s2.1+(w64 (4 * (s2.1.tmod 4))))).tmod 16).toNat)).toNat))).toList)) (cs':=e8 m_2.toList) rfl (congrArg (fun z:Vx 8 16=>e8 (Vector.toList z)) hm_2) ?_
      refine TA_done (by kernel_rfl) ?_ 0
      refine TX_block_normal (TX_next (TC_region (TLv (V_bin rfl rfl (fun w=>addI w s2.1 1)) ?_)))
      refine TVm ?_
      refine TL_nil ?_
      obtain rfl:=sj H
      exact TXk [0,0,0] (hK (w64 (s2.1+1),m_2) rfl ())
     ·refine TC_exit (TX_then_exit (TX_then_exit ?_))
      obtain rfl:=sj H
      exact TXj [0,0,0] (hE s2.2 rfl ())
    ·intro g
     refine TX_block_exit (TX_next (TC_seq (TC_seq (TC_region (TVm ?_)))))
     refine TVm ?_
     refine TLv (V_nilCheck rfl) ?_
     refine TLv (V_fieldE rfl underlying69 rfl rfl inf67 rfl (v:=ptr (some (bc,obc+256)) 0) rfl) ?_
     refine TLv (V_load rfl (.r 1) rfl isAgg67) ?_
     refine TLv (V_len_slice rfl underlying67) ?_
     refine TLv (V_bin rfl rfl (fun w=>subI w ((c_keys).length:Int) 1)) ?_
     refine TLv (V_bin rfl rfl (fun w=>lssI w s1.1 (w64 (((c_keys).length:Int) - 1)))) ?_
     refine TL_nil (TX_next ?_)
     obtain ⟨j1,Hj,H⟩:=bind_elim H
     refine TC_join (Γ:=Unit) (fun gj1=>[(0,ptr (some (bc,obc)) 0),(3,ptr (some (b1,0)) 0),(4,ptr (some (b2,0)) 0),(6,vi s1.1),(7,ptr (some (b3,0)) 0)]) (fun gj1=>[⟨some (b1,0),e8 s1.2.toList⟩,⟨some (b2,0),e8 ((replicate 16 0#8).toList)⟩,⟨some (b3,0),e8 j1.toList⟩]) ?_ ?_
     ·intro gj1
      refine TX_next (TC_seq (TC_region (TVm ?_)))
      refine TL_nil (TX_next (TC_block ?_))
      obtain ⟨t_4,Hl,H⟩:=bind_elim H
      refine TC.sub (m':=[(0,_),(3,_),(4,_),(6,_),(7,_),(142,_)]) ⟨rfl,rfl,rfl,rfl,rfl,rfl,trivial⟩ ?_
      refine TC.pull (is:=[0,0,0]) (L':=[_,_,_]) rfl ?_
      refine TC_loopL (id:=8) (body:=(aes_Cipher_Encrypt.b3 c_keys s1 j1)) (σ:=Int × Vx 8 16) (Γ:=Unit) (Γx:=Unit) (fun s3 g3_=>[(0,ptr (some (bc,obc)) 0),(3,ptr (some (b1,0)) 0),(4,ptr (some (b2,0)) 0),(6,vi s1.1),(7,ptr (some (b3,0)) 0),(142,vi s3.1)]) (fun s3 g3_=>[⟨some (b1,0),e8 s3.2.toList⟩,⟨some (b2,0),e8 ((replicate 16 0#8).toList)⟩,⟨some (b3,0),e8 j1.toList⟩]) (fun t g=>[(0,ptr (some (bc,obc)) 0),(3,ptr (some (b1,0)) 0),(4,ptr (some (b2,0)) 0),(6,vi s1.1)]) (fun t g=>[⟨some (b1,0),e8 t.toList⟩,⟨some (b2,0),e8 ((replicate 16 0#8).toList)⟩]) ?_ BIG (0,s1.2) () t_4 Hl ?_
      ·intro s3 g3_ r1 H K hK hE
       unfold aes_Cipher_Encrypt.b3 at H
       refine TC_seq (TC_region (TLv (V_bin rfl rfl (fun w=>lssI w s3.1 16)) ?_))
       refine TL_nil (TX_next (TC_seq (TCd H (fun hc H=>?_) (fun hc H=>?_))))
       ·refine TC_skip (TX_next (TC_seq (TC_block (TC_seq (TC_region (TVm ?_))))))
        refine TVa ?_
        refine TL_nil (TX_next ?_)
        obtain ⟨h7,H⟩:=if_elim H
        obtain ⟨h8,H⟩:=if_elim H
        obtain ⟨h9,H⟩:=if_elim H
        obtain ⟨h10,H⟩:=if_elim H
        obtain ⟨m_3,hm_3,H⟩:=ltt_elim H
        refine TA_begin [] 16 (by kernel_rfl) (N:=16) rfl ?_
        refine TA_mix (is:=[]) (done':=dn 16 32767) [itV 0 145 (vi s3.1) [],itV 1 146 (vi s3.1) [],itV 2 147 (ptr (some (b3,0)) ((s3.1).toNat)) [1],itV 3 148 (v8 (vg j1 ((s3.1).toNat))) [2],itV 4 149 (ptr (some (bc,obc)) 0) [],itV 5 150 (ptr (some (bc,obc)) 0) [4],itV 6 151 (ptr (some (bc,obc+256)) 0) [5],itV 7 152 (sl Ac_keys ((c_keys).length) cc_keys) [6],itV 8 153 (vi s1.1) [],itV 9 154 (vi s3.1) [],itV 10 155 (ptr Ac_keys (((s1.1).toNat) * 16)) [7,8],itV 11 156 (ptr Ac_keys (((s1.1).toNat) * 16+(s3.1).toNat)) [9,10],itV 12 157 (v8 (vg (lg c_keys ((s1.1).toNat)) ((s3.1).toNat))) [11],itV 13 158 (v8 ((vg j1 ((s3.1).toNat)) ^^^ (vg (lg c_keys ((s1.1).toNat)) ((s3.1).toNat)))) [3,12],itV 14 159 (ptr (some (b1,0)) ((s3.1).toNat)) [0]] [] 1 (by kernel_rfl) (QP.block (QP.then (QP.then (QP.block (QP.block (QP.then (QP.then (QP.block (QP.then QP.body))))))))) (by kernel_rfl) rfl (.v rfl (V_move rfl) (.v rfl (V_move rfl) (.v rfl (V_idxArr (i:=s3.1) rfl rfl underlying38 inf5 rfl h7.1 h7.2 (k:=(s3.1).toNat) (k01 _)) (.v rfl (V_load rfl (.o 2) (get_vec (f:=v8) (V:=j1) (toNat_lt h7.1 h7.2)) isAgg5) (.v rfl (V_move rfl) (.v rfl (V_nilCheck rfl) (.v rfl (V_fe underlying69 inf67) (.v rfl (V_load rfl (.r 1) rfl isAgg67) (.v rfl (V_move rfl) (.v rfl (V_move rfl) (.v rfl (V_idxSlS (i:=s1.1) rfl rfl underlying67 inf38 rfl (.r 2) (eF_ne2 (s:=16) (fun _=>by simp) rfl (toNat_lt h8.1 h8.2)) h8.1 h8.2 (k:=((s1.1).toNat) * 16) rfl) (.v rfl (V_idxArr (i:=s3.1) rfl rfl underlying38 inf5 rfl h9.1 h9.2 (k:=((s1.1).toNat) * 16+(s3.1).toNat) (k1 _ _)) (.v rfl (V_load rfl (.r 2) ((get_eF (g:=fun V:Vx 8 16=>e8 V.toList) (s:=16) (fun _=>by simp) c_keys ((s1.1).toNat) ((s3.1).toNat) (toNat_lt h8.1 h8.2) (toNat_lt h9.1 h9.2)).trans (get_vec (toNat_lt h9.1 h9.2))) isAgg5) (.v rfl (V_bin rfl rfl (fun w=>xor8 w (vg j1 ((s3.1).toNat)) (vg (lg c_keys ((s1.1).toNat)) ((s3.1).toNat)))) (.v rfl (V_idxArr (i:=s3.1) rfl rfl underlying38 inf5 rfl h10.1 h10.2 (k:=(s3.1).toNat) (k01 _)) .nil))))))))))))))) .nil (by kernel_rfl) rfl (fun γ=>?_)
        refine TA_cut [(159,ptr (some (b1,0)) ((s3.1).toNat)),(158,v8 ((vg j1 ((s3.1).toNat)) ^^^ (vg (lg c_keys ((s1.1).toNat)) ((s3.1).toNat)))),(0,ptr (some (bc,obc)) 0),(3,ptr (some (b1,0)) 0),(4,ptr (some (b2,0)) 0),(6,vi s1.1),(7,ptr (some (b3,0)) 0),(142,vi s3.1)] [⟨some (b1,0),e8 s3.2.toList⟩,⟨some (b2,0),e8 ((replicate 16 0#8).toList)⟩,⟨some (b3,0),e8 j1.toList⟩] ⟨rfl,rfl,rfl,rfl,rfl,rfl,rfl,rfl,trivial⟩ rfl ?_
        refine TA_all (rs:=[15]) (by kernel_rfl) rfl ?_
        refine ⟨?_,trivial⟩
        refine TO_n (is:=[]) (done':=dn 16 65535) rfl rfl rfl (by kernel_rfl) (E_store (j:=0) rfl rfl inf5 rfl rfl rfl (by simpa using (toNat_lt h10.1 h10.2)) (cs':=e8 ((vp s3.2 ((s3.1).toNat) ((vg j1 ((s3.1).toNat)) ^^^ (vg (lg c_keys ((s1.1).toNat)) ((s3.1).toNat)))).toList)) set_vec) (fun _ _=>rfl) (fun _=>?_)
        refine TA_reE (j:=0) (A:=some (b1,0)) (cs:=e8 ((vp s3.2 ((s3.1).toNat) ((vg j1 ((s3.1).toNat)) ^^^ (vg (lg c_keys ((s1.1).toNat)) ((s3.1).toNat)))).toList)) (cs':=e8 m_3.toList) rfl (congrArg (fun z:Vx 8 16=>e8 (Vector.toList z)) hm_3) ?_
        refine TA_done (by kernel_rfl) ?_ 0
        refine TX_block_normal (TX_next (TC_region (TLv (V_bin rfl rfl (fun w=>addI w s3.1 1)) ?_)))
        refine TVm ?_
        refine TL_nil ?_
        obtain rfl:=sj H
        exact TXk [0,0,0] (hK (w64 (s3.1+1),m_3) rfl ())
       ·refine TC_exit (TX_then_exit (TX_then_exit ?_))
        obtain rfl:=sj H
        exact TXj [0,0] (hE s3.2 rfl ())
      ·intro g
       refine TX_block_exit (TX_block_normal (TX_next (TC_region (TVm ?_))))
       refine TLv (V_bin rfl rfl (fun w=>addI w s1.1 1)) ?_
       refine TVa ?_
       obtain ⟨round1,hround1,H⟩:=ltt_elim H
       refine TLr 6 (congrArg vi hround1) ?_
       refine TL_nil ?_
       obtain rfl:=sj H
       exact TXk [0,0] (hK (round1,t_4) rfl ())
     ·intro hJ
      replace H:=Hj
      refine TCd H (fun hc H=>?_) (fun hc H=>?_)
      ·refine TC_seq (TC_region (TVa ?_))
       refine TL_nil (TX_next (TC_block ?_))
       obtain ⟨t_5,Hl,H⟩:=bind_elim H
       refine TC.sub (m':=[(0,_),(3,_),(4,_),(6,_),(7,_),(9,_)]) ⟨rfl,rfl,rfl,rfl,rfl,rfl,trivial⟩ ?_
       refine TC.pull (is:=[0,0,0]) (L':=[_,_,_]) rfl ?_
       refine TC_loopL (id:=6) (body:=(aes_Cipher_Encrypt.b4)) (σ:=Int × Vx 8 16) (Γ:=Unit) (Γx:=Unit) (fun s4 g4_=>[(0,ptr (some (bc,obc)) 0),(3,ptr (some (b1,0)) 0),(4,ptr (some (b2,0)) 0),(6,vi s1.1),(7,ptr (some (b3,0)) 0),(9,vi s4.1)]) (fun s4 g4_=>[⟨some (b1,0),e8 s1.2.toList⟩,⟨some (b2,0),e8 ((replicate 16 0#8).toList)⟩,⟨some (b3,0),e8 s4.2.toList⟩]) (fun t g=>[(0,ptr (some (bc,obc)) 0),(3,ptr (some (b1,0)) 0),(4,ptr (some (b2,0)) 0),(6,vi s1.1),(7,ptr (some (b3,0)) 0)]) (fun t g=>[⟨some (b1,0),e8 s1.2.toList⟩,⟨some (b2,0),e8 ((replicate 16 0#8).toList)⟩,⟨some (b3,0),e8 t.toList⟩]) ?_ BIG (0,t_3) () t_5 Hl ?_
       ·intro s4 g4_ r1 H K hK hE
        unfold aes_Cipher_Encrypt.b4 at H
        refine TC_seq (TC_seq (TC_region (TVm ?_)))
        refine TLv (V_bin rfl rfl (fun w=>lssI w s4.1 16)) ?_
        refine TL_nil (TX_next (TCd H (fun hc H=>?_) (fun hc H=>?_)))
        ·refine TC_skip (TX_next (TC_seq (TC_block (TC_seq ?_))))
         obtain ⟨h11,H⟩:=if_elim H
         obtain ⟨h12,H⟩:=if_elim H
         obtain ⟨h13,H⟩:=if_elim H
         obtain ⟨h14,H⟩:=if_elim H
         obtain ⟨p1,hp1,H⟩:=ltt_elim H
         obtain ⟨q1,hq1,H⟩:=ltt_elim H
         obtain ⟨r_1,hr_1,H⟩:=ltt_elim H
         obtain ⟨s_1,hs_1,H⟩:=ltt_elim H
         refine TA_begin [⟨some (b1,0),e8 s1.2.toList⟩,⟨some (b2,0),e8 ((replicate 16 0#8).toList)⟩,⟨some (b3,0),e8 s4.2.toList⟩] 19 (by kernel_rfl) (N:=19) rfl ?_
         refine TA_tk 0 [0,0,0] (dn 19 1) rfl rfl (V_move rfl) ?_
         refine TA_tk 1 [0,0,0] (dn 19 3) rfl rfl (V_idxArr (i:=s4.1) rfl rfl underlying38 inf5 rfl h11.1 h11.2 (k:=(s4.1).toNat) (k01 _)) ?_
         refine TA_tk 2 [0,0,0] (dn 19 7) rfl rfl (V_load rfl (.o 2) (get_vec (f:=v8) (V:=s4.2) (toNat_lt h11.1 h11.2)) isAgg5) ?_
         refine TA_tk 3 [0,0,0] (dn 19 15) rfl rfl (V_move rfl) ?_
         refine TA_tk 4 [0,0,0] (dn 19 31) rfl rfl (V_bin rfl rfl (fun w=>addI w s4.1 1)) ?_
         refine TA_tk 5 [0,0,0] (dn 19 63) rfl rfl (V_idxArr (i:=w64 (s4.1+1)) rfl rfl underlying38 inf5 rfl h12.1 h12.2 (k:=(w64 (s4.1+1)).toNat) (k01 _)) ?_
         refine TA_tk 6 [0,0,0] (dn 19 127) rfl rfl (V_load rfl (.o 2) (get_vec (f:=v8) (V:=s4.2) (toNat_lt h12.1 h12.2)) isAgg5) ?_
         refine TA_tk 7 [0,0,0] (dn 19 255) rfl rfl (V_move rfl) ?_
         refine TA_tk 8 [0,0,0] (dn 19 511) rfl rfl (V_bin rfl rfl (fun w=>addI w s4.1 2)) ?_
         refine TA_tk 9 [0,0,0] (dn 19 1023) rfl rfl (V_idxArr (i:=w64 (s4.1+2)) rfl rfl underlying38 inf5 rfl h13.1 h13.2 (k:=(w64 (s4.1+2)).toNat) (k01 _)) ?_
         refine TA_tk 10 [0,0,0] (dn 19 2047) rfl rfl (V_load rfl (.o 2) (get_vec (f:=v8) (V:=s4.2) (toNat_lt h13.1 h13.2)) isAgg5) ?_
         refine TA_tk 11 [0,0,0] (dn 19 4095) rfl rfl (V_move rfl) ?_
         refine TA_tk 12 [0,0,0] (dn 19 8191) rfl rfl (V_bin rfl rfl (fun w=>addI w s4.1 3)) ?_
         refine TA_tk 13 [0,0,0] (dn 19 16383) rfl rfl (V_idxArr (i:=w64 (s4.1+3)) rfl rfl underlying38 inf5 rfl h14.1 h14.2 (k:=(w64 (s4.1+3)).toNat) (k01 _)) ?_
         refine TA_tk 14 [0,0,0] (dn 19 32767) rfl rfl (V_load rfl (.o 2) (get_vec (f:=v8) (V:=s4.2) (toNat_lt h14.1 h14.2)) isAgg5) ?_
         refine TA_tk 15 [0,0,0] (dn 19 65535) rfl rfl (V_assign rfl) ?_
         refine TA_re (d:=10) (v:=v8 (vg s4.2 ((s4.1).toNat))) (v':=v8 p1) rfl (congrArg v8 hp1) ?_
         refine TA_tk 16 [0,0,0] (dn 19 131071) rfl rfl (V_assign rfl) ?_
         refine TA_re (d:=11) (v:=v8 (vg s4.2 ((w64 (s4.1+1)).toNat))) (v':=v8 q1) rfl (congrArg v8 hq1) ?_
         refine TA_tk 17 [0,0,0] (dn 19 262143) rfl rfl (V_assign rfl) ?_
         refine TA_re (d:=12) (v:=v8 (vg s4.2 ((w64 (s4.1+2)).toNat))) (v':=v8 r_1) rfl (congrArg v8 hr_1) ?_
         refine TA_tk 18 [0,0,0] (dn 19 524287) rfl rfl (V_assign rfl) ?_
         refine TA_re (d:=13) (v:=v8 (vg s4.2 ((w64 (s4.1+3)).toNat))) (v':=v8 s_1) rfl (congrArg v8 hs_1) ?_
         refine TA_done (by kernel_rfl) ?_ 0
         refine TX_next (TC.sub (m':=[(0,_),(3,_),(4,_),(6,_),(7,_),(9,_),(10,_),(11,_),(12,_),(13,_)]) ⟨rfl,rfl,rfl,rfl,rfl,rfl,rfl,rfl,rfl,rfl,trivial⟩ ?_)
         refine TC_seq (TC_region (TVm ?_))
         refine TVm ?_
         refine TLv (V_bin rfl rfl (fun w=>xor8 w p1 q1)) ?_
         refine TVm ?_
         refine TLv (V_bin rfl rfl (fun w=>xor8 w (p1 ^^^ q1) r_1)) ?_
         refine TVm ?_
         refine TLv (V_bin rfl rfl (fun w=>xor8 w ((p1 ^^^ q1) ^^^ r_1) s_1)) ?_
         refine TVa ?_
         obtain ⟨all1,hall1,H⟩:=ltt_elim H
         refine TLr 14 (congrArg v8 hall1) ?_
         refine TL_nil (TX_next (TC_seq ?_))
         obtain ⟨h15,H⟩:=if_elim H
         obtain ⟨r_2,hr_2,H⟩:=bind_elim H
         obtain ⟨h16,H⟩:=if_elim H
         obtain ⟨m_4,hm_4,H⟩:=ltt_elim H
         refine TA_begin [] 12 (by kernel_rfl) (N:=12) rfl ?_
         refine TA_mix (is:=[]) (done':=dn 12 2047) [itV 0 95 (vi s4.1) [],itV 1 96 (ptr (some (b3,0)) ((s4.1).toNat)) [0],itV 2 97 (v8 (vg s4.2 ((s4.1).toNat))) [1],itV 3 98 (v8 all1) [],itV 4 99 (v8 p1) [],itV 5 100 (v8 q1) [],itV 6 101 (v8 (p1 ^^^ q1)) [4,5],itV 7 102 (v8 r_2) [6],itV 8 103 (v8 (all1 ^^^ r_2)) [3,7],itV 9 104 (v8 ((vg s4.2 ((s4.1).toNat)) ^^^ (all1 ^^^ r_2))) [2,8],itV 10 105 (ptr (some (b3,0)) ((s4.1).toNat)) [0]] [] 1 (by kernel_rfl) (QP.then (QP.block (QP.then (QP.then (QP.block (QP.then (QP.block (QP.then (QP.then (QP.block (QP.then QP.body))))))))))) (by kernel_rfl) rfl (.v rfl (V_move rfl) (.v rfl (V_idxArr (i:=s4.1) rfl rfl underlying38 inf5 rfl h15.1 h15.2 (k:=(s4.1).toNat) (k01 _)) (.v rfl (V_load rfl (.o 2) (get_vec (f:=v8) (V:=s4.2) (toNat_lt h15.1 h15.2)) isAgg5) (.v rfl (V_move rfl) (.v rfl (V_move rfl) (.v rfl (V_move rfl) (.v rfl (V_bin rfl rfl (fun w=>xor8 w p1 q1)) (.e rfl (E_cu (F34_calls (p1 ^^^ q1) r_2 hr_2) call34 .z) (.v rfl (V_bin rfl rfl (fun w=>xor8 w all1 r_2)) (.v rfl (V_bin rfl rfl (fun w=>xor8 w (vg s4.2 ((s4.1).toNat)) (all1 ^^^ r_2))) (.v rfl (V_idxArr (i:=s4.1) rfl rfl underlying38 inf5 rfl h16.1 h16.2 (k:=(s4.1).toNat) (k01 _)) .nil))))))))))) .nil (by kernel_rfl) rfl (fun γ=>?_)
         refine TA_cut [(105,ptr (some (b3,0)) ((s4.1).toNat)),(104,v8 ((vg s4.2 ((s4.1).toNat)) ^^^ (all1 ^^^ r_2))),(14,v8 all1),(0,ptr (some (bc,obc)) 0),(3,ptr (some (b1,0)) 0),(4,ptr (some (b2,0)) 0),(6,vi s1.1),(7,ptr (some (b3,0)) 0),(9,vi s4.1),(10,v8 p1),(11,v8 q1),(12,v8 r_1),(13,v8 s_1)] [⟨some (b1,0),e8 s1.2.toList⟩,⟨some (b2,0),e8 ((replicate 16 0#8).toList)⟩,⟨some (b3,0),e8 s4.2.toList⟩] ⟨rfl,rfl,rfl,rfl,rfl,rfl,rfl,rfl,rfl,rfl,rfl,rfl,rfl,trivial⟩ rfl ?_
         refine TA_all (rs:=[11]) (by kernel_rfl) rfl ?_
         refine ⟨?_,trivial⟩
         refine TO_n (is:=[]) (done':=dn 12 4095) rfl rfl rfl (by kernel_rfl) (E_store (j:=2) rfl rfl inf5 rfl rfl rfl (by simpa using (toNat_lt h16.1 h16.2)) (cs':=e8 ((vp s4.2 ((s4.1).toNat) ((vg s4.2 ((s4.1).toNat)) ^^^ (all1 ^^^ r_2))).toList)) set_vec) (fun _ _=>rfl) (fun _=>?_)
         refine TA_reE (j:=2) (A:=some (b3,0)) (cs:=e8 ((vp s4.2 ((s4.1).toNat) ((vg s4.2 ((s4.1).toNat)) ^^^ (all1 ^^^ r_2))).toList)) (cs':=e8 m_4.toList) rfl (congrArg (fun z:Vx 8 16=>e8 (Vector.toList z)) hm_4) ?_
         refine TA_done (by kernel_rfl) ?_ 0
         refine TX_next (TC_seq ?_)
         obtain ⟨h17,H⟩:=if_elim H
         obtain ⟨r_3,hr_3,H⟩:=bind_elim H
         obtain ⟨h18,H⟩:=if_elim H
         obtain ⟨m_5,hm_5,H⟩:=ltt_elim H
         refine TA_begin [] 13 (by kernel_rfl) (N:=13) rfl ?_
         refine TA_mix (is:=[]) (done':=dn 13 4095) [itV 0 106 (vi s4.1) [],itV 1 107 (vi (w64 (s4.1+1))) [0],itV 2 108 (ptr (some (b3,0)) ((w64 (s4.1+1)).toNat)) [1],itV 3 109 (v8 (vg m_4 ((w64 (s4.1+1)).toNat))) [2],itV 4 110 (v8 all1) [],itV 5 111 (v8 q1) [],itV 6 112 (v8 r_1) [],itV 7 113 (v8 (q1 ^^^ r_1)) [6,5],itV 8 114 (v8 r_3) [7],itV 9 115 (v8 (all1 ^^^ r_3)) [8,4],itV 10 116 (v8 ((vg m_4 ((w64 (s4.1+1)).toNat)) ^^^ (all1 ^^^ r_3))) [9,3],itV 11 117 (ptr (some (b3,0)) ((w64 (s4.1+1)).toNat)) [1]] [] 1 (by kernel_rfl) (QP.then (QP.block (QP.then (QP.then (QP.block (QP.then (QP.block (QP.then (QP.then (QP.block (QP.then QP.body))))))))))) (by kernel_rfl) rfl (.v rfl (V_move rfl) (.v rfl (V_bin rfl rfl (fun w=>addI w s4.1 1)) (.v rfl (V_idxArr (i:=w64 (s4.1+1)) rfl rfl underlying38 inf5 rfl h17.1 h17.2 (k:=(w64 (s4.1+1)).toNat) (k01 _)) (.v rfl (V_load rfl (.o 2) (get_vec (f:=v8) (V:=m_4) (toNat_lt h17.1 h17.2)) isAgg5) (.v rfl (V_move rfl) (.v rfl (V_move rfl) (.v rfl (V_move rfl) (.v rfl (V_bin rfl rfl (fun w=>xor8 w q1 r_1)) (.e rfl (E_cu (F34_calls (q1 ^^^ r_1) r_3 hr_3) call34 .z) (.v rfl (V_bin rfl rfl (fun w=>xor8 w all1 r_3)) (.v rfl (V_bin rfl rfl (fun w=>xor8 w (vg m_4 ((w64 (s4.1+1)).toNat)) (all1 ^^^ r_3))) (.v rfl (V_idxArr (i:=w64 (s4.1+1)) rfl rfl underlying38 inf5 rfl h18.1 h18.2 (k:=(w64 (s4.1+1)).toNat) (k01 _)) .nil)))))))))))) .nil (by kernel_rfl) rfl (fun γ=>?_)
         refine TA_cut [(117,ptr (some (b3,0)) ((w64 (s4.1+1)).toNat)),(116,v8 ((vg m_4 ((w64 (s4.1+1)).toNat)) ^^^ (all1 ^^^ r_3))),(14,v8 all1),(0,ptr (some (bc,obc)) 0),(3,ptr (some (b1,0)) 0),(4,ptr (some (b2,0)) 0),(6,vi s1.1),(7,ptr (some (b3,0)) 0),(9,vi s4.1),(10,v8 p1),(12,v8 r_1),(13,v8 s_1)] [⟨some (b1,0),e8 s1.2.toList⟩,⟨some (b2,0),e8 ((replicate 16 0#8).toList)⟩,⟨some (b3,0),e8 m_4.toList⟩] ⟨rfl,rfl,rfl,rfl,rfl,rfl,rfl,rfl,rfl,rfl,rfl,rfl,trivial⟩ rfl ?_
         refine TA_all (rs:=[12]) (by kernel_rfl) rfl ?_
         refine ⟨?_,trivial⟩
         refine TO_n (is:=[]) (done':=dn 13 8191) rfl rfl rfl (by kernel_rfl) (E_store (j:=2) rfl rfl inf5 rfl rfl rfl (by simpa using (toNat_lt h18.1 h18.2)) (cs':=e8 ((vp m_4 ((w64 (s4.1+1)).toNat) ((vg m_4 ((w64 (s4.1+1)).toNat)) ^^^ (all1 ^^^ r_3))).toList)) set_vec) (fun _ _=>rfl) (fun _=>?_)
         refine TA_reE (j:=2) (A:=some (b3,0)) (cs:=e8 ((vp m_4 ((w64 (s4.1+1)).toNat) ((vg m_4 ((w64 (s4.1+1)).toNat)) ^^^ (all1 ^^^ r_3))).toList)) (cs':=e8 m_5.toList) rfl (congrArg (fun z:Vx 8 16=>e8 (Vector.toList z)) hm_5) ?_
         refine TA_done (by kernel_rfl) ?_ 0
         refine TX_next (TC_seq ?_)
         obtain ⟨h19,H⟩:=if_elim H
         obtain ⟨r_4,hr_4,H⟩:=bind_elim H
         obtain ⟨h20,H⟩:=if_elim H
         obtain ⟨m_6,hm_6,H⟩:=ltt_elim H
         refine TA_begin [] 13 (by kernel_rfl) (N:=13) rfl ?_
         refine TA_mix (is:=[]) (done':=dn 13 4095) [itV 0 118 (vi s4.1) [],itV 1 119 (vi (w64 (s4.1+2))) [0],itV 2 120 (ptr (some (b3,0)) ((w64 (s4.1+2)).toNat)) [1],itV 3 121 (v8 (vg m_5 ((w64 (s4.1+2)).toNat))) [2],itV 4 122 (v8 all1) [],itV 5 123 (v8 r_1) [],itV 6 124 (v8 s_1) [],itV 7 125 (v8 (r_1 ^^^ s_1)) [5,6],itV 8 126 (v8 r_4) [7],itV 9 127 (v8 (all1 ^^^ r_4)) [4,8],itV 10 128 (v8 ((vg m_5 ((w64 (s4.1+2)).toNat)) ^^^ (all1 ^^^ r_4))) [3,9],itV 11 129 (ptr (some (b3,0)) ((w64 (s4.1+2)).toNat)) [1]] [] 1 (by kernel_rfl) (QP.then (QP.block (QP.then (QP.then (QP.block (QP.then (QP.block (QP.then (QP.then (QP.block (QP.then QP.body))))))))))) (by kernel_rfl) rfl (.v rfl (V_move rfl) (.v rfl (V_bin rfl rfl (fun w=>addI w s4.1 2)) (.v rfl (V_idxArr (i:=w64 (s4.1+2)) rfl rfl underlying38 inf5 rfl h19.1 h19.2 (k:=(w64 (s4.1+2)).toNat) (k01 _)) (.v rfl (V_load rfl (.o 2) (get_vec (f:=v8) (V:=m_5) (toNat_lt h19.1 h19.2)) isAgg5) (.v rfl (V_move rfl) (.v rfl (V_move rfl) (.v rfl (V_move rfl) (.v rfl (V_bin rfl rfl (fun w=>xor8 w r_1 s_1)) (.e rfl (E_cu (F34_calls (r_1 ^^^ s_1) r_4 hr_4) call34 .z) (.v rfl (V_bin rfl rfl (fun w=>xor8 w all1 r_4)) (.v rfl (V_bin rfl rfl (fun w=>xor8 w (vg m_5 ((w64 (s4.1+2)).toNat)) (all1 ^^^ r_4))) (.v rfl (V_idxArr (i:=w64 (s4.1+2)) rfl rfl underlying38 inf5 rfl h20.1 h20.2 (k:=(w64 (s4.1+2)).toNat) (k01 _)) .nil)))))))))))) .nil (by kernel_rfl) rfl (fun γ=>?_)
         refine TA_cut [(129,ptr (some (b3,0)) ((w64 (s4.1+2)).toNat)),(128,v8 ((vg m_5 ((w64 (s4.1+2)).toNat)) ^^^ (all1 ^^^ r_4))),(14,v8 all1),(0,ptr (some (bc,obc)) 0),(3,ptr (some (b1,0)) 0),(4,ptr (some (b2,0)) 0),(6,vi s1.1),(7,ptr (some (b3,0)) 0),(9,vi s4.1),(10,v8 p1),(13,v8 s_1)] [⟨some (b1,0),e8 s1.2.toList⟩,⟨some (b2,0),e8 ((replicate 16 0#8).toList)⟩,⟨some (b3,0),e8 m_5.toList⟩] ⟨rfl,rfl,rfl,rfl,rfl,rfl,rfl,rfl,rfl,rfl,rfl,trivial⟩ rfl ?_
         refine TA_all (rs:=[12]) (by kernel_rfl) rfl ?_
         refine ⟨?_,trivial⟩
         refine TO_n (is:=[]) (done':=dn 13 8191) rfl rfl rfl (by kernel_rfl) (E_store (j:=2) rfl rfl inf5 rfl rfl rfl (by simpa using (toNat_lt h20.1 h20.2)) (cs':=e8 ((vp m_5 ((w64 (s4.1+2)).toNat) ((vg m_5 ((w64 (s4.1+2)).toNat)) ^^^ (all1 ^^^ r_4))).toList)) set_vec) (fun _ _=>rfl) (fun _=>?_)
         refine TA_reE (j:=2) (A:=some (b3,0)) (cs:=e8 ((vp m_5 ((w64 (s4.1+2)).toNat) ((vg m_5 ((w64 (s4.1+2)).toNat)) ^^^ (all1 ^^^ r_4))).toList)) (cs':=e8 m_6.toList) rfl (congrArg (fun z:Vx 8 16=>e8 (Vector.toList z)) hm_6) ?_
         refine TA_done (by kernel_rfl) ?_ 0
         refine TX_next ?_
         obtain ⟨h21,H⟩:=if_elim H
         obtain ⟨r_5,hr_5,H⟩:=bind_elim H
         obtain ⟨h22,H⟩:=if_elim H
         obtain ⟨m_7,hm_7,H⟩:=ltt_elim H
         refine TA_begin [] 13 (by kernel_rfl) (N:=13) rfl ?_
         refine TA_mix (is:=[]) (done':=dn 13 4095) [itV 0 130 (vi s4.1) [],itV 1 131 (vi (w64 (s4.1+3))) [0],itV 2 132 (ptr (some (b3,0)) ((w64 (s4.1+3)).toNat)) [1],itV 3 133 (v8 (vg m_6 ((w64 (s4.1+3)).toNat))) [2],itV 4 134 (v8 all1) [],itV 5 135 (v8 s_1) [],itV 6 136 (v8 p1) [],itV 7 137 (v8 (s_1 ^^^ p1)) [6,5],itV 8 138 (v8 r_5) [7],itV 9 139 (v8 (all1 ^^^ r_5)) [8,4],itV 10 140 (v8 ((vg m_6 ((w64 (s4.1+3)).toNat)) ^^^ (all1 ^^^ r_5))) [9,3],itV 11 141 (ptr (some (b3,0)) ((w64 (s4.1+3)).toNat)) [1]] [] 1 (by kernel_rfl) (QP.block (QP.then (QP.then (QP.block (QP.then (QP.block (QP.then (QP.then (QP.block (QP.then QP.body)))))))))) (by kernel_rfl) rfl (.v rfl (V_move rfl) (.v rfl (V_bin rfl rfl (fun w=>addI w s4.1 3)) (.v rfl (V_idxArr (i:=w64 (s4.1+3)) rfl rfl underlying38 inf5 rfl h21.1 h21.2 (k:=(w64 (s4.1+3)).toNat) (k01 _)) (.v rfl (V_load rfl (.o 2) (get_vec (f:=v8) (V:=m_6) (toNat_lt h21.1 h21.2)) isAgg5) (.v rfl (V_move rfl) (.v rfl (V_move rfl) (.v rfl (V_move rfl) (.v rfl (V_bin rfl rfl (fun w=>xor8 w s_1 p1)) (.e rfl (E_cu (F34_calls (s_1 ^^^ p1) r_5 hr_5) call34 .z) (.v rfl (V_bin rfl rfl (fun w=>xor8 w all1 r_5)) (.v rfl (V_bin rfl rfl (fun w=>xor8 w (vg m_6 ((w64 (s4.1+3)).toNat)) (all1 ^^^ r_5))) (.v rfl (V_idxArr (i:=w64 (s4.1+3)) rfl rfl underlying38 inf5 rfl h22.1 h22.2 (k:=(w64 (s4.1+3)).toNat) (k01 _)) .nil)))))))))))) .nil (by kernel_rfl) rfl (fun γ=>?_)
         refine TA_cut [(141,ptr (some (b3,0)) ((w64 (s4.1+3)).toNat)),(140,v8 ((vg m_6 ((w64 (s4.1+3)).toNat)) ^^^ (all1 ^^^ r_5))),(0,ptr (some (bc,obc)) 0),(3,ptr (some (b1,0)) 0),(4,ptr (some (b2,0)) 0),(6,vi s1.1),(7,ptr (some (b3,0)) 0),(9,vi s4.1)] [⟨some (b1,0),e8 s1.2.toList⟩,⟨some (b2,0),e8 ((replicate 16 0#8).toList)⟩,⟨some (b3,0),e8 m_6.toList⟩] ⟨rfl,rfl,rfl,rfl,rfl,rfl,rfl,rfl,trivial⟩ rfl ?_
         refine TA_all (rs:=[12]) (by kernel_rfl) rfl ?_
         refine ⟨?_,trivial⟩
         refine TO_n (is:=[]) (done':=dn 13 8191) rfl rfl rfl (by kernel_rfl) (E_store (j:=2) rfl rfl inf5 rfl rfl rfl (by simpa using (toNat_lt h22.1 h22.2)) (cs':=e8 ((vp m_6 ((w64 (s4.1+3)).toNat) ((vg m_6 ((w64 (s4.1+3)).toNat)) ^^^ (all1 ^^^ r_5))).toList)) set_vec) (fun _ _=>rfl) (fun _=>?_)
         refine TA_reE (j:=2) (A:=some (b3,0)) (cs:=e8 ((vp m_6 ((w64 (s4.1+3)).toNat) ((vg m_6 ((w64 (s4.1+3)).toNat)) ^^^ (all1 ^^^ r_5))).toList)) (cs':=e8 m_7.toList) rfl (congrArg (fun z:Vx 8 16=>e8 (Vector.toList z)) hm_7) ?_
         refine TA_done (by kernel_rfl) ?_ 0
         refine TX_block_normal (TX_next (TC_region (TVm ?_)))
         refine TLv (V_bin rfl rfl (fun w=>addI w s4.1 4)) ?_
         refine TVa ?_
         obtain ⟨i1,hi1,H⟩:=ltt_elim H
         refine TLr 9 (congrArg vi hi1) ?_
         refine TL_nil ?_
         obtain rfl:=sj H
         exact TXk [0,0,0] (hK (i1,m_7) rfl ())
        ·refine TC_exit (TX_then_exit (TX_then_exit ?_))
         obtain rfl:=sj H
         exact TXj [0,0,0] (hE s4.2 rfl ())
       ·intro g
        refine TX_block_exit ?_
        obtain rfl:=sj H
        exact TXj [0,0,0] (hJ ())
      ·refine TC_skip ?_
       obtain rfl:=sj H
       exact TXj [0,0,0] (hJ ())
   ·refine TC_exit (TX_then_exit (TX_then_exit ?_))
    obtain rfl:=sj H
    exact TXj [0,0] (hE s1.2 rfl ())
  ·intro g
   refine TX_block_exit (TX_next (TC_seq (TC_region (TLv (V_lag (.o 0) isAgg38 inf38) ?_))))
   refine TLn (E_sv (vs:=e8 t_2.toList) 1 inf38) (fun _=>?_)
   refine TL_nil (TX_next (TC_ret ?_))
   obtain rfl:=sj H
   exact TXr (vs:=[_]) rfl ⟨(Res_agg (n:=16) rfl (by simp) (.o 1) isAgg38 inf38 rfl (lenV (f:=v8) t_2)),trivial⟩
end Go.Proofs
end

section
namespace Go.Proofs
open Go Go.Kx
open TryI Try
def halberdref4_double (x:BitVec 8):Option (BitVec 8) :=
 if (127#8).toNat<(x).toNat then (ltt ((x <<< 1) ^^^ 27#8) fun (x1:BitVec 8)=>(some x1)) else (some (x <<< 1))
end Go.Proofs
end

section
namespace Go.Proofs
open Go Go.Kx
open TryI Try
def halberdref4_schedule.k1:Str:=([99#8,124#8,119#8,123#8,242#8,107#8,111#8,197#8,48#8,1#8,103#8,43#8,254#8,215#8,171#8,118#8,202#8,130#8,201#8,125#8,250#8,89#8,71#8,240#8,173#8,212#8,162#8,175#8,156#8,164#8,114#8,192#8,183#8,253#8,147#8,38#8,54#8,63#8,247#8,204#8,52#8,165#8,229#8,241#8,113#8,216#8,49#8,21#8,4#8,199#8,35#8,195#8,24#8,150#8,5#8,154#8,7#8,18#8,128#8,226#8,235#8,39#8,178#8,117#8,9#8,131#8,44#8,26#8,27#8,110#8,90#8,160#8,82#8,59#8,214#8,179#8,41#8,227#8,47#8,132#8,83#8,209#8,0#8,237#8,32#8,252#8,177#8,91#8,106#8,203#8,190#8,57#8,74#8,76#8,88#8,207#8,208#8,239#8,170#8,251#8,67#8,77#8,51#8,133#8,69#8,249#8,2#8,127#8,80#8,60#8,159#8,168#8,81#8,163#8,64#8,143#8,146#8,157#8,56#8,245#8,188#8,182#8,218#8,33#8,16#8,255#8,243#8,210#8,205#8,12#8,19#8,236#8,95#8,151#8,68#8,23#8,196#8,167#8,126#8,61#8,100#8,93#8,25#8,115#8,96#8,129#8,79#8,220#8,34#8,42#8,144#8,136#8,70#8,238#8,184#8,20#8,222#8,94#8,11#8,219#8,224#8,50#8,58#8,10#8,73#8,6#8,36#8,92#8,194#8,211#8,172#8,98#8,145#8,149#8,228#8,121#8,231#8,200#8,55#8,109#8,141#8,213#8,78#8,169#8,108#8,86#8,244#8,234#8,101#8,122#8,174#8,8#8,186#8,120#8,37#8,46#8,28#8,166#8,180#8,198#8,232#8,221#8,116#8,31#8,75#8,189#8,139#8,138#8,112#8,62#8,181#8,102#8,72#8,3#8,246#8,14#8,97#8,53#8,87#8,185#8,134#8,193#8,29#8,158#8,225#8,248#8,152#8,17#8,105#8,217#8,142#8,148#8,155#8,30#8,135#8,233#8,206#8,85#8,40#8,223#8,140#8,161#8,137#8,13#8,191#8,230#8,66#8,104#8,65#8,153#8,45#8,15#8,176#8,84#8,187#8,22#8]:Str)
def halberdref4_schedule.b0 (key:Str) (k_1:Int) (s0:Int × List (Vx 8 4)):Option ((Int × List (Vx 8 4)) ⊕ (List (Vx 8 4))) :=
 if s0.1<k_1 then (if 0≤w64 (4 * s0.1)∧w64 (4 * s0.1)<((key).length:Int) then (if 0≤w64 ((w64 (4 * s0.1))+1)∧w64 ((w64 (4 * s0.1))+1)<((key).length:Int) then (if 0≤w64 ((w64 (4 * s0.1))+2)∧w64 ((w64 (4 * s0.1))+2)<((key).length:Int) then (if 0≤w64 ((w64 (4 * s0.1))+3)∧w64 ((w64 (4 * s0.1))+3)<((key).length:Int) then (if (s0.2).length+(([(#v[sg key (w64 (4 * s0.1)),sg key (w64 ((w64 (4 * s0.1))+1)),sg key (w64 ((w64 (4 * s0.1))+2)),sg key (w64 ((w64 (4 * s0.1))+3))]:Vx 8 4)]:List (Vx 8 4))).length≤35184372088832 then (ltt (s0.2++([(#v[sg key (w64 (4 * s0.1)),sg key (w64 ((w64 (4 * s0.1))+1)),sg key (w64 ((w64 (4 * s0.1))+2)),sg key (w64 ((w64 (4 * s0.1))+3))]:Vx 8 4)]:List (Vx 8 4))) fun (l1:List (Vx 8 4))=>(ltt (w64 (s0.1+1)) fun (i1:Int)=>(some (.inl (i1,l1))))) else none) else none) else none) else none) else none) else (some (.inr s0.2))
def halberdref4_schedule.b2 (k_1:Int) (s1:BitVec 8 × Int × List (Vx 8 4)) (s2:Int × Vx 8 4):Option ((Int × Vx 8 4) ⊕ (Vx 8 4)) :=
 if s2.1<4 then (if 0≤s2.1∧s2.1<(4:Int) then (if 0≤w64 (s1.2.1 - k_1)∧w64 (s1.2.1 - k_1)<((s1.2.2).length:Int) then (if 0≤s2.1∧s2.1<(4:Int) then (if 0≤s2.1∧s2.1<(4:Int) then (ltt (vp s2.2 ((s2.1).toNat) ((vg s2.2 ((s2.1).toNat)) ^^^ (vg (lg s1.2.2 ((w64 (s1.2.1 - k_1)).toNat)) ((s2.1).toNat)))) fun (m_2:Vx 8 4)=>(ltt (w64 (s2.1+1)) fun (j2:Int)=>(some (.inl (j2,m_2))))) else none) else none) else none) else none) else (some (.inr s2.2))
def halberdref4_schedule.b1 (k_1:Int) (s1:BitVec 8 × Int × List (Vx 8 4)):Option ((BitVec 8 × Int × List (Vx 8 4)) ⊕ (List (Vx 8 4))) :=
 if s1.2.1<(w64 (4 * (w64 (k_1+7)))) then (if 0≤w64 (s1.2.1 - 1)∧w64 (s1.2.1 - 1)<((s1.2.2).length:Int) then (ltt (lg s1.2.2 ((w64 (s1.2.1 - 1)).toNat)) fun (m_1:Vx 8 4)=>(if k_1 ≠ 0 then (ltt (decide ((s1.2.1.tmod k_1)=0)) fun (x1:Bool)=>((if x1=true then (if 0≤((vg m_1 1).toNat:Int)∧((vg m_1 1).toNat:Int)<((halberdref4_schedule.k1).length:Int) then (if 0≤((vg m_1 2).toNat:Int)∧((vg m_1 2).toNat:Int)<((halberdref4_schedule.k1).length:Int) then (if 0≤((vg m_1 3).toNat:Int)∧((vg m_1 3).toNat:Int)<((halberdref4_schedule.k1).length:Int) then (if 0≤((vg m_1 0).toNat:Int)∧((vg m_1 0).toNat:Int)<((halberdref4_schedule.k1).length:Int) then (ltt ((#v[(sg halberdref4_schedule.k1 ((vg m_1 1).toNat:Int)) ^^^ s1.1,sg halberdref4_schedule.k1 ((vg m_1 2).toNat:Int),sg halberdref4_schedule.k1 ((vg m_1 3).toNat:Int),sg halberdref4_schedule.k1 ((vg m_1 0).toNat:Int)]:Vx 8 4)) fun (m_3:Vx 8 4)=>((halberdref4_double s1.1).bind fun (r_1:BitVec 8)=>(some (r_1,m_3)))) else none) else none) else none) else none) else (if 6<k_1 then (if k_1 ≠ 0 then (ltt (decide ((s1.2.1.tmod k_1)=4)) fun (x2:Bool)=>(if x2=true then (if 0≤((vg m_1 0).toNat:Int)∧((vg m_1 0).toNat:Int)<((halberdref4_schedule.k1).length:Int) then (if 0≤((vg m_1 1).toNat:Int)∧((vg m_1 1).toNat:Int)<((halberdref4_schedule.k1).length:Int) then (if 0≤((vg m_1 2).toNat:Int)∧((vg m_1 2).toNat:Int)<((halberdref4_schedule.k1).length:Int) then (if 0≤((vg m_1 3).toNat:Int)∧((vg m_1 3).toNat:Int)<((halberdref4_schedule.k1).length:Int) then (ltt ((#v[sg halberdref4_schedule.k1 ((vg m_1 0).toNat:Int),sg halberdref4_schedule.k1 ((vg m_1 1).toNat:Int),sg halberdref4_schedule.k1 ((vg m_1 2).toNat:Int),sg halberdref4_schedule.k1 ((vg m_1 3).toNat:Int)]:Vx 8 4)) fun (m_4:Vx 8 4)=>(some (s1.1,m_4))) else none) else none) else none) else none) else (some (s1.1,m_1)))) else none) else (some (s1.1,m_1)))).bind fun (j1:BitVec 8 × Vx 8 4)=>((loop (halberdref4_schedule.b2 k_1 s1) BIG (0,j1.2)).bind fun (t_3:Vx 8 4)=>(if (s1.2.2).length+(([t_3]:List (Vx 8 4))).length≤35184372088832 then (ltt (s1.2.2++([t_3]:List (Vx 8 4))) fun (l2:List (Vx 8 4))=>(ltt (w64 (s1.2.1+1)) fun (i2:Int)=>(some (.inl (j1.1,i2,l2))))) else none)))) else none)) else none) else (some (.inr s1.2.2))
def halberdref4_schedule (key:Str):Option (List (Vx 8 4)) :=
 ltt (w64 (((key).length:Int).tdiv 4)) fun (k_1:Int)=>((loop (halberdref4_schedule.b0 key k_1) BIG (0,([]:List (Vx 8 4)))).bind fun (t_1:List (Vx 8 4))=>((loop (halberdref4_schedule.b1 k_1) BIG (1#8,k_1,t_1)).bind fun (t_2:List (Vx 8 4))=>(some t_2)))
end Go.Proofs
end

section
namespace Go.Proofs
open Go Go.Kx
open Vector (replicate)
open TryI Try
def halberdref4_cipher.k1:Str:=([99#8,124#8,119#8,123#8,242#8,107#8,111#8,197#8,48#8,1#8,103#8,43#8,254#8,215#8,171#8,118#8,202#8,130#8,201#8,125#8,250#8,89#8,71#8,240#8,173#8,212#8,162#8,175#8,156#8,164#8,114#8,192#8,183#8,253#8,147#8,38#8,54#8,63#8,247#8,204#8,52#8,165#8,229#8,241#8,113#8,216#8,49#8,21#8,4#8,199#8,35#8,195#8,24#8,150#8,5#8,154#8,7#8,18#8,128#8,226#8,235#8,39#8,178#8,117#8,9#8,131#8,44#8,26#8,27#8,110#8,90#8,160#8,82#8,59#8,214#8,179#8,41#8,227#8,47#8,132#8,83#8,209#8,0#8,237#8,32#8,252#8,177#8,91#8,106#8,203#8,190#8,57#8,74#8,76#8,88#8,207#8,208#8,239#8,170#8,251#8,67#8,77#8,51#8,133#8,69#8,249#8,2#8,127#8,80#8,60#8,159#8,168#8,81#8,163#8,64#8,143#8,146#8,157#8,56#8,245#8,188#8,182#8,218#8,33#8,16#8,255#8,243#8,210#8,205#8,12#8,19#8,236#8,95#8,151#8,68#8,23#8,196#8,167#8,126#8,61#8,100#8,93#8,25#8,115#8,96#8,129#8,79#8,220#8,34#8,42#8,144#8,136#8,70#8,238#8,184#8,20#8,222#8,94#8,11#8,219#8,224#8,50#8,58#8,10#8,73#8,6#8,36#8,92#8,194#8,211#8,172#8,98#8,145#8,149#8,228#8,121#8,231#8,200#8,55#8,109#8,141#8,213#8,78#8,169#8,108#8,86#8,244#8,234#8,101#8,122#8,174#8,8#8,186#8,120#8,37#8,46#8,28#8,166#8,180#8,198#8,232#8,221#8,116#8,31#8,75#8,189#8,139#8,138#8,112#8,62#8,181#8,102#8,72#8,3#8,246#8,14#8,97#8,53#8,87#8,185#8,134#8,193#8,29#8,158#8,225#8,248#8,152#8,17#8,105#8,217#8,142#8,148#8,155#8,30#8,135#8,233#8,206#8,85#8,40#8,223#8,140#8,161#8,137#8,13#8,191#8,230#8,66#8,104#8,65#8,153#8,45#8,15#8,176#8,84#8,187#8,22#8]:Str)
def halberdref4_cipher.b0 (w_:List (Vx 8 4)) (s_:Str) (s0:Int × Vx 8 16):Option ((Int × Vx 8 16) ⊕ (Vx 8 16)) :=
 if s0.1<16 then (if 0≤s0.1∧s0.1<((s_).length:Int) then (if 0≤w64 (s0.1.tdiv 4)∧w64 (s0.1.tdiv 4)<((w_).length:Int) then (if 0≤s0.1.tmod 4∧s0.1.tmod 4<(4:Int) then (if 0≤s0.1∧s0.1<(16:Int) then (ltt (vp s0.2 ((s0.1).toNat) ((sg s_ s0.1) ^^^ (vg (lg w_ ((w64 (s0.1.tdiv 4)).toNat)) ((s0.1.tmod 4).toNat)))) fun (m_1:Vx 8 16)=>(ltt (w64 (s0.1+1)) fun (i1:Int)=>(some (.inl (i1,m_1))))) else none) else none) else none) else none) else (some (.inr s0.2))
def halberdref4_cipher.b2 (s1:Int × Vx 8 16) (s2:Int × Vx 8 16):Option ((Int × Vx 8 16) ⊕ (Vx 8 16)) :=
 if s2.1<16 then (if 0≤(w64 (s2.1+(w64 (4 * (s2.1.tmod 4))))).tmod 16∧(w64 (s2.1+(w64 (4 * (s2.1.tmod 4))))).tmod 16<(16:Int) then (if 0≤((vg s1.2 (((w64 (s2.1+(w64 (4 * (s2.1.tmod 4))))).tmod 16).toNat)).toNat:Int)∧((vg s1.2 (((w64 (s2.1+(w64 (4 * (s2.1.tmod 4))))).tmod 16).toNat)).toNat:Int)<((halberdref4_cipher.k1).length:Int) then (if 0≤s2.1∧s2.1<(16:Int) then (ltt (vp s2.2 ((s2.1).toNat) (sg halberdref4_cipher.k1 ((vg s1.2 (((w64 (s2.1+(w64 (4 * (s2.1.tmod 4))))).tmod 16).toNat)).toNat:Int))) fun (m_2:Vx 8 16)=>(ltt (w64 (s2.1+1)) fun (i2:Int)=>(some (.inl (i2,m_2))))) else none) else none) else none) else (some (.inr s2.2))
def halberdref4_cipher.b3 (w_:List (Vx 8 4)) (s1:Int × Vx 8 16) (j1:Vx 8 16) (s3:Int × Vx 8 16):Option ((Int × Vx 8 16) ⊕ (Vx 8 16)) :=
 if s3.1<16 then (if 0≤s3.1∧s3.1<(16:Int) then (if 0≤w64 ((w64 (4 * s1.1))+(w64 (s3.1.tdiv 4)))∧w64 ((w64 (4 * s1.1))+(w64 (s3.1.tdiv 4)))<((w_).length:Int) then (if 0≤s3.1.tmod 4∧s3.1.tmod 4<(4:Int) then (if 0≤s3.1∧s3.1<(16:Int) then (ltt (vp s3.2 ((s3.1).toNat) ((vg j1 ((s3.1).toNat)) ^^^ (vg (lg w_ ((w64 ((w64 (4 * s1.1))+(w64 (s3.1.tdiv 4)))).toNat)) ((s3.1.tmod 4).toNat)))) fun (m_3:Vx 8 16)=>(ltt (w64 (s3.1+1)) fun (i3:Int)=>(some (.inl (i3,m_3))))) else none) else none) else none) else none) else (some (.inr s3.2))
def halberdref4_cipher.b5 (s4:Int × Vx 8 16) (all1:BitVec 8) (s5:Int × Vx 8 16):Option ((Int × Vx 8 16) ⊕ (Vx 8 16)) :=
 if s5.1<3 then (if 0≤w64 (s4.1+s5.1)∧w64 (s4.1+s5.1)<(16:Int) then (if 0≤w64 (s4.1+s5.1)∧w64 (s4.1+s5.1)<(16:Int) then (if 0≤w64 ((w64 (s4.1+s5.1))+1)∧w64 ((w64 (s4.1+s5.1))+1)<(16:Int) then ((halberdref4_double ((vg s5.2 ((w64 (s4.1+s5.1)).toNat)) ^^^ (vg s5.2 ((w64 ((w64 (s4.1+s5.1))+1)).toNat)))).bind fun (r_2:BitVec 8)=>(if 0≤w64 (s4.1+s5.1)∧w64 (s4.1+s5.1)<(16:Int) then (ltt (vp s5.2 ((w64 (s4.1+s5.1)).toNat) (((vg s5.2 ((w64 (s4.1+s5.1)).toNat)) ^^^ all1) ^^^ r_2)) fun (m_4:Vx 8 16)=>(ltt (w64 (s5.1+1)) fun (i4:Int)=>(some (.inl (i4,m_4))))) else none)) else none) else none) else none) else (some (.inr s5.2))
def halberdref4_cipher.b4  (s4:Int × Vx 8 16):Option ((Int × Vx 8 16) ⊕ (Vx 8 16)) :=
 if s4.1<16 then (if 0≤s4.1∧s4.1<(16:Int) then (if 0≤w64 (s4.1+1)∧w64 (s4.1+1)<(16:Int) then (if 0≤w64 (s4.1+2)∧w64 (s4.1+2)<(16:Int) then (if 0≤w64 (s4.1+3)∧w64 (s4.1+3)<(16:Int) then (ltt ((((vg s4.2 ((s4.1).toNat)) ^^^ (vg s4.2 ((w64 (s4.1+1)).toNat))) ^^^ (vg s4.2 ((w64 (s4.1+2)).toNat))) ^^^ (vg s4.2 ((w64 (s4.1+3)).toNat))) fun (all1:BitVec 8)=>(if 0≤s4.1∧s4.1<(16:Int) then (ltt (vg s4.2 ((s4.1).toNat)) fun (first1:BitVec 8)=>((loop (halberdref4_cipher.b5 s4 all1) BIG (0,s4.2)).bind fun (t_6:Vx 8 16)=>(if 0≤w64 (s4.1+3)∧w64 (s4.1+3)<(16:Int) then (if 0≤w64 (s4.1+3)∧w64 (s4.1+3)<(16:Int) then ((halberdref4_double ((vg t_6 ((w64 (s4.1+3)).toNat)) ^^^ first1)).bind fun (r_3:BitVec 8)=>(if 0≤w64 (s4.1+3)∧w64 (s4.1+3)<(16:Int) then (ltt (vp t_6 ((w64 (s4.1+3)).toNat) (((vg t_6 ((w64 (s4.1+3)).toNat)) ^^^ all1) ^^^ r_3)) fun (m_5:Vx 8 16)=>(ltt (w64 (s4.1+4)) fun (c1:Int)=>(some (.inl (c1,m_5))))) else none)) else none) else none))) else none)) else none) else none) else none) else none) else (some (.inr s4.2))
def halberdref4_cipher.b1 (w_:List (Vx 8 4)) (rounds1:Int) (s1:Int × Vx 8 16):Option ((Int × Vx 8 16) ⊕ (Vx 8 16)) :=
 if s1.1≤rounds1 then ((loop (halberdref4_cipher.b2 s1) BIG (0,replicate 16 0#8)).bind fun (t_3:Vx 8 16)=>((if s1.1<rounds1 then ((loop (halberdref4_cipher.b4) BIG (0,t_3)).bind fun (t_5:Vx 8 16)=>(some t_5)) else (some t_3)).bind fun (j1:Vx 8 16)=>((loop (halberdref4_cipher.b3 w_ s1 j1) BIG (0,s1.2)).bind fun (t_4:Vx 8 16)=>(ltt (w64 (s1.1+1)) fun (r_1:Int)=>(some (.inl (r_1,t_4))))))) else (some (.inr s1.2))
def halberdref4_cipher (w_:List (Vx 8 4)) (s_:Str):Option (Str) :=
 (loop (halberdref4_cipher.b0 w_ s_) BIG (0,replicate 16 0#8)).bind fun (t_1:Vx 8 16)=>(ltt (w64 ((w64 (((w_).length:Int).tdiv 4)) - 1)) fun (rounds1:Int)=>((loop (halberdref4_cipher.b1 w_ rounds1) BIG (1,t_1)).bind fun (t_2:Vx 8 16)=>(some t_2.toList)))
end Go.Proofs
end

section
namespace Go.Proofs
open Go Go.Kx
open TryI Try
def halberdlaw0_Num (e:Int):Option (Int) :=
 some e
set_option maxHeartbeats 4000000 in
set_option maxRecDepth 20000 in
theorem F8_calls (e:Int) (r:Int) (H:halberdlaw0_Num e=some r) :
  Does Try.prog 8 [vi e] [] [] (Γ:=Unit) (fun g=>vi r) (fun g=>[]):=by
 intro w hmem hro hd
 refine calls_of (N:=4) (m0:=[(0,vi e)]) func8 rfl ntmps8 (argM_ok [vi e]) rfl hmem hro hd ?_
 unfold halberdlaw0_Num at H
 refine TC_seq (TC_region (TVa ?_))
 refine TL_nil (TX_next (TC_seq (TC_region (TVm ?_))))
 refine TVa ?_
 refine TL_nil (TX_next (TC_ret ?_))
 obtain rfl:=sj H
 exact TX1
end Go.Proofs
end

section
namespace Go.Proofs
open Go Go.Kx
def BOXV:Vx 8 256:=⟨halberdref4_schedule.k1.toArray,by kernel_rfl⟩
set_option maxRecDepth 100000 in
theorem table_eq:aes_table=some BOXV:=by kernel_rfl
end Go.Proofs
end

section
namespace Go.Proofs
open Go Go.Kx
open Vector (replicate)
abbrev V16:=Vx 8 16
abbrev V4:=Vx 8 4
def xorV (a b:V16):V16:=Vector.ofFn fun i=>vg a i.val ^^^ vg b i.val
def subV (s:V16):V16:=Vector.ofFn fun i=>vg BOXV (vg s ((i.val+4 * (i.val % 4)) % 16)).toNat
theorem enc_b0 (keys:List V16) (b:V16) (h:0<keys.length) (h2:keys.length<1000):loop (aes_Cipher_Encrypt.b0 keys) BIG (0,b)=some (xorV b (lg keys 0)):=by
 refine loop_fill b (fun i=>vg b i ^^^ vg (lg keys 0) i) id (by omega) (fun k v hk hv=>?_) (fun v=>?_)
 ·have e:=hv k (Nat.le_refl _) hk
  simp (disch:=omega) only [aes_Cipher_Encrypt.b0,ltt,if_pos,w64_id,Int.toNat_natCast,e]
  rfl
 ·simp (disch:=omega) only [aes_Cipher_Encrypt.b0,ltt,if_neg,id]
theorem enc_b2 (s1:Int × V16):loop (aes_Cipher_Encrypt.b2 BOXV s1) BIG (0,replicate 16 0#8)=some (subV s1.2):=by
 refine loop_fill _ (fun i=>vg BOXV (vg s1.2 ((i+4 * (i % 4)) % 16)).toNat) id (by omega) (fun k v hk hv=>?_) (fun v=>?_)
 ·have e1:((k:Int).tmod 4)=((k % 4:Nat):Int):=by rw [Int.tmod_eq_emod_of_nonneg (by omega)]; omega
  have e2:((k:Int)+4 * ((k % 4:Nat):Int)).tmod 16=(((k+4 * (k % 4)) % 16:Nat):Int):=by rw [Int.tmod_eq_emod_of_nonneg (by omega)]; omega
  simp (disch:=omega) only [aes_Cipher_Encrypt.b2,ltt,w64_id,e1,e2,if_pos,Int.toNat_natCast]
  rfl
 ·simp (disch:=omega) only [aes_Cipher_Encrypt.b2,ltt,if_neg,id]
theorem enc_b3 (keys:List V16) (s1:Int × V16) (j:V16) (h0:0≤s1.1) (h1:s1.1<keys.length):loop (aes_Cipher_Encrypt.b3 keys s1 j) BIG (0,s1.2)=some (xorV j (lg keys s1.1.toNat)):=by
 refine loop_fill _ (fun i=>vg j i ^^^ vg (lg keys s1.1.toNat) i) id (by omega) (fun k v hk hv=>?_) (fun v=>?_)
 ·simp (disch:=omega) only [aes_Cipher_Encrypt.b3,ltt,w64_id,if_pos,Int.toNat_natCast]
  rfl
 ·simp (disch:=omega) only [aes_Cipher_Encrypt.b3,ltt,if_neg,id]
def tw (x:BitVec 8):BitVec 8:=(x <<< 1) ^^^ (27#8 &&& (-(x >>> 7)))
theorem twice_eq (x:BitVec 8):aes_twice x=some (tw x):=rfl
def mixS (k:Nat) (v:V16):V16 :=
 vp (vp (vp (vp v (4 * k) (vg v (4 * k) ^^^ (vg v (4 * k) ^^^ vg v (4 * k+1) ^^^ vg v (4 * k+2) ^^^ vg v (4 * k+3) ^^^ tw (vg v (4 * k) ^^^ vg v (4 * k+1)))))
  (4 * k+1) (vg v (4 * k+1) ^^^ (vg v (4 * k) ^^^ vg v (4 * k+1) ^^^ vg v (4 * k+2) ^^^ vg v (4 * k+3) ^^^ tw (vg v (4 * k+1) ^^^ vg v (4 * k+2)))))
  (4 * k+2) (vg v (4 * k+2) ^^^ (vg v (4 * k) ^^^ vg v (4 * k+1) ^^^ vg v (4 * k+2) ^^^ vg v (4 * k+3) ^^^ tw (vg v (4 * k+2) ^^^ vg v (4 * k+3)))))
  (4 * k+3) (vg v (4 * k+3) ^^^ (vg v (4 * k) ^^^ vg v (4 * k+1) ^^^ vg v (4 * k+2) ^^^ vg v (4 * k+3) ^^^ tw (vg v (4 * k+3) ^^^ vg v (4 * k))))
def mixV (v:V16):V16:=iter mixS 4 v
theorem enc_b4_step (k:Nat) (hk:k<4) (u:V16):aes_Cipher_Encrypt.b4 (((4 * k:Nat):Int),u)=some (.inl (((4 * (k+1):Nat):Int),mixS k u)):=by
 have e1:w64 (((4 * k:Nat):Int)+1)=((4 * k+1:Nat):Int):=by rw [w64_id (by omega) (by omega)]; omega
 have e2:w64 (((4 * k:Nat):Int)+2)=((4 * k+2:Nat):Int):=by rw [w64_id (by omega) (by omega)]; omega
 have e3:w64 (((4 * k:Nat):Int)+3)=((4 * k+3:Nat):Int):=by rw [w64_id (by omega) (by omega)]; omega
 have e4:w64 (((4 * k:Nat):Int)+4)=((4 * (k+1):Nat):Int):=by rw [w64_id (by omega) (by omega)]; omega
 unfold aes_Cipher_Encrypt.b4
 simp only [e1,e2,e3,e4]
 iterate 5 refine if_i (by omega) ?_
 refine ltt_i fun p hp=>ltt_i fun q hq=>ltt_i fun r hr=>ltt_i fun s hs=>ltt_i fun all hall=>if_i (by omega) (bind_i (twice_eq _) (if_i (by omega) ?_))
 refine ltt_i fun m4 h4=>if_i (by omega) (bind_i (twice_eq _) (if_i (by omega) ?_))
 refine ltt_i fun m5 h5=>if_i (by omega) (bind_i (twice_eq _) (if_i (by omega) ?_))
 refine ltt_i fun m6 h6=>if_i (by omega) (bind_i (twice_eq _) (if_i (by omega) ?_))
 refine ltt_i fun m7 h7=>ltt_i fun i hi=>?_
 subst hi
 simp only [Int.toNat_natCast] at *
 have a5:vg m4 (4 * k+1)=q:=by rw [h4,vg_vp (by omega) (by omega),if_neg (by omega),hq]
 have a6:vg m5 (4 * k+2)=r:=by rw [h5,vg_vp (by omega) (by omega),if_neg (by omega),h4,vg_vp (by omega) (by omega),if_neg (by omega),hr]
 have a7:vg m6 (4 * k+3)=s:=by rw [h6,vg_vp (by omega) (by omega),if_neg (by omega),h5,vg_vp (by omega) (by omega),if_neg (by omega),h4,vg_vp (by omega) (by omega),if_neg (by omega),hs]
 have:m7=mixS k u:=by
  rw [h7,a7,h6,a6,h5,a5,h4, ← hp,hall]
  unfold mixS
  rw [← hp, ← hq, ← hr, ← hs]
 rw [this]
theorem enc_b4 (v:V16):loop aes_Cipher_Encrypt.b4 BIG (0,v)=some (mixV v):=by
 refine loop_iter (fun k=>(((4 * k:Nat):Int),iter mixS k v)) 4 _ (by omega) (fun k hk=>enc_b4_step k hk _) ?_
 show (if (((4 * 4:Nat):Int))<16 then _ else _)=_
 rw [if_neg (by omega)]
 rfl
def roundV (keys:List V16) (r:Nat) (v:V16):V16:=xorV (if r+1<keys.length then mixV (subV v) else subV v) (lg keys r)
def encV (keys:List V16) (b:V16):V16:=iter (fun k v=>roundV keys (k+1) v) (keys.length - 1) (xorV b (lg keys 0))
theorem enc_eq (keys:List V16) (b:V16) (h:0<keys.length) (h2:keys.length<1000):aes_Cipher_Encrypt BOXV keys b=some (encV keys b):=by
 have hl:loop (aes_Cipher_Encrypt.b1 BOXV keys) BIG (1,xorV b (lg keys 0))=some (encV keys b):=by
  refine loop_iter (fun k=>(((k+1:Nat):Int),iter (fun k v=>roundV keys (k+1) v) k (xorV b (lg keys 0)))) (keys.length - 1) _ (by omega) (fun k hk=>?_) ?_
  ·generalize hu:iter (fun k v=>roundV keys (k+1) v) k (xorV b (lg keys 0))=u
   have hu2:iter (fun k v=>roundV keys (k+1) v) (k+1) (xorV b (lg keys 0))=roundV keys (k+1) u:=by rw [← hu]; rfl
   have e1:w64 (((k+1:Nat):Int)+1)=((k+1+1:Nat):Int):=by rw [w64_id (by omega) (by omega)]; omega
   have e2:w64 ((keys.length:Int) - 1)=(keys.length:Int) - 1:=w64_id (by omega) (by omega)
   have h3:=fun j=>enc_b3 keys (((k+1:Nat):Int),u) j (by omega) (by show ((k+1:Nat):Int)<_; omega)
   simp only [hu2,aes_Cipher_Encrypt.b1,ltt,enc_b2,enc_b4,h3,Option.bind_some,e1,e2,Int.toNat_natCast]
   rw [if_pos (by omega)]
   by_cases hc:k+1+1<keys.length
   ·rw [if_pos (by omega)]
    simp only [Option.bind_some,h3,roundV,if_pos hc]
   ·rw [if_neg (by omega)]
    simp only [Option.bind_some,h3,roundV,if_neg hc]
  ·have e:(((keys.length - 1+1:Nat)):Int)=keys.length:=by omega
   simp (disch:=omega) only [aes_Cipher_Encrypt.b1,if_neg]
   rfl
 unfold aes_Cipher_Encrypt
 rw [enc_b0 keys b h h2]
 simp only [Option.bind_some,hl]
end Go.Proofs
end

section
namespace Go.Proofs
open Go Go.Kx
def keyV (w:List V4) (r:Nat):V16:=Vector.ofFn fun i=>vg (lg w (4 * r+i.val / 4)) (i.val % 4)
def keysOf (w:List V4):List V16:=(List.range (w.length / 4)).map (keyV w)
theorem keysOf_length (w:List V4):(keysOf w).length=w.length / 4:=by simp [keysOf]
theorem keysOf_lg (w:List V4) (r:Nat) (h:r<w.length / 4):lg (keysOf w) r=keyV w r:=by
 simp [lg,keysOf,List.getElem?_range h]
def toV (s:Str):V16:=Vector.ofFn fun i=>s.getD i.val 0#8
theorem tmodN (k m:Nat):((k:Int).tmod (m:Int))=((k % m:Nat):Int):=by
 rw [Int.tmod_eq_emod_of_nonneg (by omega)]; omega
theorem tdivN (k m:Nat):((k:Int).tdiv (m:Int))=((k / m:Nat):Int):=by
 rw [Int.tdiv_eq_ediv_of_nonneg (by omega)]; omega
end Go.Proofs
end

section
namespace Go.Proofs
open Go Go.Kx
def subW (t:V4):V4 := #v[vg BOXV (vg t 0).toNat,vg BOXV (vg t 1).toNat,vg BOXV (vg t 2).toNat,vg BOXV (vg t 3).toNat]
def rotW (t:V4) (r:BitVec 8):V4 := #v[vg BOXV (vg t 1).toNat ^^^ r,vg BOXV (vg t 2).toNat,vg BOXV (vg t 3).toNat,vg BOXV (vg t 0).toNat]
def tempW (n i:Nat) (s:BitVec 8 × List V4):BitVec 8 × V4 :=
 if i % n=0 then (tw s.1,rotW (lg s.2 (i - 1)) s.1) else if n=8∧i % n=4 then (s.1,subW (lg s.2 (i - 1))) else (s.1,lg s.2 (i - 1))
def kwV (key:Str) (i:Nat):V4 := #v[key.getD (4 * i) 0#8,key.getD (4 * i+1) 0#8,key.getD (4 * i+2) 0#8,key.getD (4 * i+3) 0#8]
def xorW (a b:V4):V4:=Vector.ofFn fun k=>vg a k.val ^^^ vg b k.val
def stepK (key:Str) (n i:Nat) (s:BitVec 8 × List V4):BitVec 8 × List V4 :=
 if i<n then (s.1,s.2++[kwV key i]) else ((tempW n i s).1,s.2++[xorW (tempW n i s).2 (lg s.2 (i - n))])
def Wst (key:Str) (n i:Nat):BitVec 8 × List V4:=iter (stepK key n) i (1#8,[])
theorem Wst_succ (key:Str) (n i:Nat):Wst key n (i+1)=stepK key n i (Wst key n i):=rfl
theorem Wst_len (key:Str) (n:Nat) : ∀ i,(Wst key n i).2.length=i
 | 0=>rfl
 | i+1=>by
  rw [Wst_succ]; unfold stepK
  have:=Wst_len key n i
  split <;> simp [this]
end Go.Proofs
end

section
namespace Go.Proofs
open Go Go.Kx
open Vector (replicate)
theorem vg_vsp {α:Type} [Inhabited α] {n:Nat} : ∀ (l:List α) (V:Vector α n) (o i:Nat),o+l.length≤n → i<n → vg (vsp V o l) i=if o≤i∧i<o+l.length then l.getD (i - o) default else vg V i
 | [],V,o,i,h,hi=>by
  rw [if_neg (by simp)]; rfl
 | x :: r,V,o,i,h,hi=>by
  simp only [List.length_cons] at h
  show vg (vsp (vp V o x) (o+1) r) i=_
  rw [vg_vsp r (vp V o x) (o+1) i (by omega) hi,vg_vp (by omega) hi]
  simp only [List.length_cons]
  by_cases h1:o=i
  ·subst h1
   rw [if_neg (by omega),if_pos rfl,if_pos (by omega)]
   simp
  ·by_cases h2:o+1≤i∧i<o+1+r.length
   ·rw [if_pos h2,if_pos (by omega)]
    have:i - o=(i - (o+1))+1:=by omega
    rw [this]; simp
   ·rw [if_neg h2,if_neg h1,if_neg (by omega)]
theorem vec_take {α:Type} [Inhabited α] {n:Nat} {V:Vector α n} {l:List α} (h:l.length=n) (i:Nat) (hi:i<n):vg (vsp V 0 l) i=l.getD i default:=by
 rw [vg_vsp l V 0 i (by omega) hi,if_pos (by omega),Nat.sub_zero]
theorem lg_app_l {α:Type} [Inhabited α] {a b:List α} {i:Nat} (h:i<a.length):lg (a++b) i=lg a i:=by
 simp [lg,List.getElem?_append_left h]
theorem lg_app_r {α:Type} [Inhabited α] {a:List α} {b:List α} {x:α}:lg (a++x :: b) a.length=x:=by
 simp [lg]
theorem set_app {α:Type} {a b:List α} {x y:α}:(a++x :: b).set a.length y=a++y :: b:=by
 rw [List.set_append_right _ _ (Nat.le_refl _),Nat.sub_self]; rfl
def zW:V4:=replicate 4 0#8
def padW (ws:List V4) (N:Nat):List V4:=ws++List.replicate (N - ws.length) zW
theorem padW_length (ws:List V4) (N:Nat) (h:ws.length≤N):(padW ws N).length=N:=by simp [padW]; omega
theorem padW_lg (ws:List V4) (N i:Nat) (h:i<ws.length):lg (padW ws N) i=lg ws i:=lg_app_l h
theorem padW_split (ws:List V4) (N:Nat) (h:ws.length<N):padW ws N=ws++zW :: List.replicate (N - ws.length - 1) zW:=by
 unfold padW
 have:N - ws.length=(N - ws.length - 1)+1:=by omega
 rw [this,List.replicate_succ]; simp
theorem padW_set (ws:List V4) (N:Nat) (x:V4) (h:ws.length<N):(padW ws N).set ws.length x=padW (ws++[x]) N:=by
 rw [padW_split ws N h,set_app]
 unfold padW
 simp [Nat.sub_sub]
theorem getD_take_sub (key:Str) (a k:Nat) (hk:k<4) (h:a+4≤key.length):((sub key a key.length).take 4).getD k default=key.getD (a+k) 0#8:=by
 simp only [sub,List.getD_eq_getElem?_getD]
 rw [List.getElem?_take,if_pos hk,List.getElem?_take,if_pos (by omega),List.getElem?_drop]
 rfl
theorem kw_at (key:Str) (i k:Nat) (hk:k<4):vg (kwV key i) k=key.getD (4 * i+k) 0#8:=by
 have:k=0 ∨ k=1 ∨ k=2 ∨ k=3:=by omega
 rcases this with rfl | rfl | rfl | rfl <;> rfl
theorem new_b1 (n i N:Nat) (r r0:BitVec 8) (ws:List V4) (t:V4) (h:n≤i) (hi:ws.length=i) (hn:0<n) (h2:i<N) (hN:N=4 * (n+7)) (h3:N<1000) :
  loop (aes_New.b1 (n:Int) (r0,(i:Int),padW ws N) (r,t)) BIG (0,padW ws N)=some (padW (ws++[xorW t (lg ws (i - n))]) N):=by
 have hlen : ∀ x:V4,(ws++x :: List.replicate (N - ws.length - 1) zW).length=N:=fun x=>by simp; omega
 have e1:w64 ((i:Int) - (n:Int))=((i - n:Nat):Int):=by rw [w64_id (by omega) (by omega)]; omega
 have e0:w64 (4 * w64 ((n:Int)+7))=(N:Int):=by rw [w64_id (x:=(n:Int)+7) (by omega) (by omega),w64_id (by omega) (by omega)]; omega
 let g:Nat → BitVec 8:=fun k=>vg (lg ws (i - n)) k ^^^ vg t k
 have hg:iter (fun k v=>vp v k (g k)) 4 zW=xorW t (lg ws (i - n)):=by
  refine vec_ext fun k hk=>?_
  have:k=0 ∨ k=1 ∨ k=2 ∨ k=3:=by omega
  have hx:vg (xorW t (lg ws (i - n))) k=g k:=by
   unfold xorW; rw [vg_ofFn hk]; exact BitVec.xor_comm _ _
  rw [hx]
  show vg (vp (vp (vp (vp zW 0 (g 0)) 1 (g 1)) 2 (g 2)) 3 (g 3)) k=g k
  rcases this with rfl | rfl | rfl | rfl <;> simp (disch:=omega) only [vg_vp,if_pos,if_neg] <;> simp
 have:=loop_iter (body:=aes_New.b1 (n:Int) (r0,(i:Int),padW ws N) (r,t)) (fun k=>((k:Int),ws++(iter (fun k v=>vp v k (g k)) k zW) :: List.replicate (N - ws.length - 1) zW)) 4 (padW (ws++[xorW t (lg ws (i - n))]) N) (by omega) (fun k hk=>?_) ?_
 ·rw [padW_split ws N (by omega)]
  rw [padW_split ws N (by omega)] at this
  exact this
 ·generalize hu:iter (fun k v=>vp v k (g k)) k zW=u
  have hu2:iter (fun k v=>vp v k (g k)) (k+1) zW=vp u k (g k):=by rw [← hu]; rfl
  have e2:w64 ((k:Int)+1)=((k+1:Nat):Int):=by rw [w64_id (by omega) (by omega)]; omega
  have hl:=hlen u
  unfold aes_New.b1
  simp only [e0,e1,e2,Int.toNat_natCast,hl]
  iterate 8 refine if_i (by omega) ?_
  refine ltt_i fun m hm=>?_
  have a1:lg (ws++u :: List.replicate (N - ws.length - 1) zW) i=u:=by rw [← hi]; exact lg_app_r
  have a2:lg (ws++u :: List.replicate (N - ws.length - 1) zW) (i - n)=lg ws (i - n):=lg_app_l (by omega)
  have a3 : ∀ x:V4,(ws++u :: List.replicate (N - ws.length - 1) zW).set i x=ws++x :: List.replicate (N - ws.length - 1) zW:=fun x=>by rw [← hi]; exact set_app
  rw [hm,a1,a2,a3,hu2]
 ·unfold aes_New.b1
  refine if_n (by omega) ?_
  rw [hg]
  have:=padW_set ws N (xorW t (lg ws (i - n))) (by omega)
  rw [padW_split ws N (by omega),set_app] at this
  rw [this]
theorem new_b2 (t:V4):loop (aes_New.b2 BOXV) BIG (0,t)=some (subW t):=by
 have h:=loop_fill (body:=aes_New.b2 BOXV) t (fun k=>vg BOXV (vg t k).toNat) id (by omega) (fun k v hk hv=>?_) (fun v=>?_)
 ·refine h.trans (congrArg some (vec_ext fun k hk=>?_))
  have:k=0 ∨ k=1 ∨ k=2 ∨ k=3:=by omega
  simp only [id,vg_ofFn hk]
  rcases this with rfl | rfl | rfl | rfl <;> rfl
 ·have e:=hv k (Nat.le_refl _) hk
  have e2:w64 ((k:Int)+1)=((k+1:Nat):Int):=by rw [w64_id (by omega) (by omega)]; omega
  unfold aes_New.b2
  simp only [e2,Int.toNat_natCast]
  iterate 3 refine if_i (by omega) ?_
  refine ltt_i fun m hm=>?_
  rw [hm,e]
 ·unfold aes_New.b2
  exact if_n (by omega) rfl
end Go.Proofs
end

section
namespace Go.Proofs
open Go Go.Kx
open Vector (replicate)
theorem new_b0_step (key:Str) (n i N:Nat) (hn:n=4 ∨ n=8) (hk:key.length=4 * n) (hN:N=4 * (n+7)) (hi:i<N) :
  aes_New.b0 key BOXV (n:Int) ((Wst key n i).1,(i:Int),padW (Wst key n i).2 N)=some (.inl ((Wst key n (i+1)).1,((i+1:Nat):Int),padW (Wst key n (i+1)).2 N)):=by
 have hl:=Wst_len key n i
 rw [Wst_succ]
 generalize Wst key n i=s at hl
 obtain ⟨r,ws⟩:=s
 simp only at hl
 have hp:=padW_length ws N (by omega)
 have e0:w64 (4 * w64 ((n:Int)+7))=(N:Int):=by rw [w64_id (x:=(n:Int)+7) (by omega) (by omega),w64_id (by omega) (by omega)]; omega
 have e2:(i:Int).tmod (n:Int)=((i % n:Nat):Int):=tmodN i n
 have e3:w64 ((i:Int)+1)=((i+1:Nat):Int):=by rw [w64_id (by omega) (by omega)]; omega
 by_cases hc:i<n
 ·have e4:w64 (4 * (i:Int))=((4 * i:Nat):Int):=by rw [w64_id (by omega) (by omega)]; omega
  unfold aes_New.b0
  simp only [e0,e3,e4,Int.toNat_natCast]
  refine if_i (by omega) (if_i (by omega) ?_)
  iterate 4 refine if_i (by omega) ?_
  refine ltt_i fun m hm=>?_
  have a1:lg (padW ws N) i=zW:=by rw [padW_split ws N (by omega), ← hl]; exact lg_app_r
  have hs:(sub key (4 * i) key.length).length=4 * n - 4 * i:=by rw [sub_length (Nat.le_refl _),hk]
  have hmin:min (sub key (4 * i) key.length).length (4 - 0)=4:=by rw [hs]; omega
  have a2:vsp zW 0 ((sub key (4 * i) key.length).take 4)=kwV key i:=by
   refine vec_ext fun k hk2=>?_
   rw [vec_take (by rw [List.length_take,hs]; omega) k hk2,getD_take_sub key (4 * i) k hk2 (by omega),kw_at key i k hk2]
  have a3:=padW_set ws N (kwV key i) (by omega)
  rw [hl] at a3
  rw [hm,a1,hmin,a2,a3]
  unfold stepK
  rw [if_pos hc]
 ·have e1:w64 ((i:Int) - 1)=((i - 1:Nat):Int):=by rw [w64_id (by omega) (by omega)]; omega
  unfold aes_New.b0
  simp only [e0,e1,e2,e3,Int.toNat_natCast]
  refine if_i (by omega) (if_n (by omega) ?_)
  iterate 2 refine if_i (by omega) ?_
  refine ltt_i fun m hm=>if_i (by omega) ?_
  rw [padW_lg ws N (i - 1) (by omega)] at hm
  have key2 : ∀ j:BitVec 8 × V4,j=tempW n i (r,ws) → ((loop (aes_New.b1 (n:Int) (r,(i:Int),padW ws N) j) BIG (0,padW ws N)).bind fun (t_2:List V4)=>(some (Sum.inl (β:=List V4) (j.1,((i+1:Nat):Int),t_2))))=some (.inl ((stepK key n i (r,ws)).1,((i+1:Nat):Int),padW (stepK key n i (r,ws)).2 N)):=by
   intro j hj
   refine bind_i (new_b1 n i N j.1 r ws j.2 (by omega) hl (by omega) (by omega) hN (by omega)) ?_
   rw [hj]
   unfold stepK
   rw [if_neg (by omega)]
  by_cases c0:i % n=0
  ·refine bind_i (v:=(tw r,rotW m r)) (if_i (by omega) ?_) (key2 _ ?_)
   ·exact ltt_i fun m3 h3=>bind_i (twice_eq _) (by rw [h3]; rfl)
   ·unfold tempW; rw [if_pos c0,hm]
  ·by_cases c1:n=8∧i % n=4
   ·refine bind_i (v:=(r,subW m)) (if_n (by omega) (if_i (by omega) (if_i (by omega) (if_i (by omega) (bind_i (new_b2 m) rfl))))) (key2 _ ?_)
    unfold tempW; rw [if_neg c0,if_pos c1,hm]
   ·refine bind_i (v:=(r,m)) (if_n (by omega) ?_) (key2 _ ?_)
    ·by_cases c2:(n:Int)=8
     ·exact if_i c2 (if_i (by omega) (if_n (by omega) rfl))
     ·exact if_n c2 rfl
    ·unfold tempW; rw [if_neg c0,if_neg c1,hm]
theorem new_b0 (key:Str) (n N:Nat) (hn:n=4 ∨ n=8) (hk:key.length=4 * n) (hN:N=4 * (n+7)):loop (aes_New.b0 key BOXV (n:Int)) BIG (1#8,0,List.replicate N zW)=some (Wst key n N).2:=by
 have e0:w64 (4 * w64 ((n:Int)+7))=(N:Int):=by rw [w64_id (x:=(n:Int)+7) (by omega) (by omega),w64_id (by omega) (by omega)]; omega
 have:=loop_iter (body:=aes_New.b0 key BOXV (n:Int)) (fun i=>((Wst key n i).1,(i:Int),padW (Wst key n i).2 N)) N (Wst key n N).2 (by omega) (fun i hi=>new_b0_step key n i N hn hk hN hi) ?_
 ·exact this
 ·unfold aes_New.b0
  simp only [e0,Int.toNat_natCast]
  refine if_n (by omega) ?_
  have hl:=Wst_len key n N
  have:padW (Wst key n N).2 N=(Wst key n N).2:=by unfold padW; rw [hl,Nat.sub_self]; simp
  rw [this]
theorem new_b3 (w:List V4) (n N:Nat) (hn:n=4 ∨ n=8) (hw:w.length=N) (hN:N=4 * (n+7)):loop (aes_New.b3 (n:Int) w) BIG (0,List.replicate (n+7) (replicate 16 0#8))=some (keysOf w):=by
 have e0:w64 (4 * w64 ((n:Int)+7))=(N:Int):=by rw [w64_id (x:=(n:Int)+7) (by omega) (by omega),w64_id (by omega) (by omega)]; omega
 have e7:w64 ((n:Int)+7)=((n+7:Nat):Int):=by rw [w64_id (by omega) (by omega)]; omega
 refine loop_count N (fun k ks=>ks.set (k / 4) (vsp (lg ks (k / 4)) (4 * (k % 4)) (lg w k).toList)) _ _ (fun k ks=>ks.length=n+7 ∧ ∀ r i,r<n+7 → i<16 → vg (lg ks r) i=if 4 * r+i / 4<k then vg (lg w (4 * r+i / 4)) (i % 4) else 0#8) (by omega) ⟨by simp,fun r i hr hi=>?_⟩ (fun k ks hk ⟨h1,h2⟩=>⟨?_,by simp [h1],fun r i hr hi=>?_⟩) (fun ks ⟨h1,h2⟩ _=>?_)
 ·rw [if_neg (by omega)]
  have:lg (List.replicate (n+7) (replicate 16 0#8)) r=replicate 16 0#8:=by simp [lg,hr]
  rw [this,vg_eq' hi]; simp
 ·have e1:w64 ((k:Int).tdiv 4)=((k / 4:Nat):Int):=by rw [show (4:Int)=((4:Nat):Int) from rfl,tdivN,w64_nat (by omega)]
  have e2:(k:Int).tmod 4=((k % 4:Nat):Int):=tmodN k 4
  have e3:w64 (4 * ((k % 4:Nat):Int))=((4 * (k % 4):Nat):Int):=by rw [w64_id (by omega) (by omega)]; omega
  have e4:w64 ((k:Int)+1)=((k+1:Nat):Int):=by rw [w64_id (by omega) (by omega)]; omega
  have e8:w64 (4 * ((n+7:Nat):Int))=(N:Int):=by rw [w64_id (by omega) (by omega)]; omega
  unfold aes_New.b3
  simp only [e7,e8,e1,e2,e3,e4,Int.toNat_natCast]
  clear e0 e1 e2 e3 e4 e7 e8
  iterate 8 refine if_i (by omega) ?_
  refine ltt_i fun m hm=>?_
  have a1:(sub ((lg w k).toList) 0 4).take (min (4 - 0) (16 - 4 * (k % 4)))=(lg w k).toList:=by
   have hm:min (4 - 0) (16 - 4 * (k % 4))=4:=by omega
   have hl4:(lg w k).toList.length=4:=by simp
   rw [hm]
   unfold sub
   rw [List.drop_zero,Nat.sub_zero,List.take_of_length_le (l:=(lg w k).toList) (by omega),List.take_of_length_le (by omega)]
  rw [hm,a1]
 ·have hlw:(lg w k).toList.length=4:=by simp
  by_cases hr2:k / 4=r
  ·subst hr2
   have e:lg (ks.set (k / 4) (vsp (lg ks (k / 4)) (4 * (k % 4)) (lg w k).toList)) (k / 4)=vsp (lg ks (k / 4)) (4 * (k % 4)) (lg w k).toList:=by
    simp [lg,h1,hr]
   rw [e,vg_vsp _ _ _ _ (by rw [hlw]; omega) hi,hlw]
   by_cases c:4 * (k % 4)≤i∧i<4 * (k % 4)+4
   ·have e4:4 * (k / 4)+i / 4=k:=by omega
    rw [if_pos c,if_pos (by omega),e4]
    have e5:i - 4 * (k % 4)=i % 4:=by omega
    rw [e5]
    rfl
   ·rw [if_neg c,h2 (k / 4) i hr hi]
    by_cases c2:4 * (k / 4)+i / 4<k
    ·rw [if_pos c2,if_pos (by omega)]
    ·rw [if_neg c2,if_neg (by omega)]
  ·have e:lg (ks.set (k / 4) (vsp (lg ks (k / 4)) (4 * (k % 4)) (lg w k).toList)) r=lg ks r:=by
    simp [lg,List.getElem?_set,hr2]
   rw [e,h2 r i hr hi]
   by_cases c2:4 * r+i / 4<k
   ·rw [if_pos c2,if_pos (by omega)]
   ·rw [if_neg c2,if_neg (by omega)]
 ·unfold aes_New.b3
  simp only [e0,Int.toNat_natCast]
  refine if_n (by omega) (congrArg some (congrArg Sum.inr ?_))
  refine List.ext_getElem (by rw [keysOf_length,h1]; omega) fun r p1 p2=>?_
  have e1:ks[r]=lg ks r:=by simp [lg,p1]
  have e2:(keysOf w)[r]=lg (keysOf w) r:=by simp [lg,p2]
  rw [e1,e2,keysOf_lg w r (by omega)]
  refine vec_ext fun i hi=>?_
  rw [h2 r i (by omega) hi,if_pos (by omega)]
  simp only [keyV,vg_ofFn hi]
theorem New_eq (key:Str) (n:Nat) (hn:n=4 ∨ n=8) (hk:key.length=4 * n):aes_New key=some (.inr (BOXV,n+7,keysOf (Wst key n (4 * (n+7))).2)):=by
 have e0:w64 ((key.length:Int).tdiv 4)=(n:Int):=by
  rw [show (4:Int)=((4:Nat):Int) from rfl,tdivN,w64_nat (by omega)]; omega
 have e1:w64 ((n:Int)+7)=((n+7:Nat):Int):=by rw [w64_id (by omega) (by omega)]; omega
 have e2:w64 (4 * ((n+7:Nat):Int))=((4 * (n+7):Nat):Int):=by rw [w64_id (by omega) (by omega)]; omega
 have b0:=new_b0 key n (4 * (n+7)) hn hk rfl
 have b3:=new_b3 (Wst key n (4 * (n+7))).2 n (4 * (n+7)) hn (Wst_len key n _) rfl
 have hb4:aes_New.b4=aes_New.b0:=rfl
 have hb7:aes_New.b7=aes_New.b3:=rfl
 unfold aes_New
 rw [hb4,hb7,e0]
 have rest:(aes_table).bind (fun (r_1:Vx 8 256)=>(ltt (n:Int) fun (n1:Int)=>(if 0≤w64 (4 * (w64 (n1+7)))∧w64 (4 * (w64 (n1+7)))≤17592186044416 then ((loop (aes_New.b0 key r_1 n1) BIG (1#8,0,List.replicate ((w64 (4 * (w64 (n1+7)))).toNat) (replicate 4 0#8))).bind fun (t_1:List (Vx 8 4))=>(if 0≤w64 (n1+7)∧w64 (n1+7)≤17592186044416 then ((loop (aes_New.b3 n1 t_1) BIG (0,List.replicate ((w64 (n1+7)).toNat) (replicate 16 0#8))).bind fun (t_4:List (Vx 8 16))=>(some (Sum.inr (α:=Unit) (r_1,(w64 (n1+7)).toNat,t_4)))) else none)) else none)))=some (.inr (BOXV,n+7,keysOf (Wst key n (4 * (n+7))).2)):=by
  refine bind_i table_eq (ltt_i fun n1 hn1=>?_)
  rw [hn1,e1,e2,Int.toNat_natCast,Int.toNat_natCast]
  refine if_i (by omega) (bind_i b0 (if_i (by omega) (bind_i b3 rfl)))
 rcases hn with h4 | h8
 ·subst h4
  exact if_n (by omega) rest
 ·subst h8
  exact if_i (by omega) (if_n (by omega) rest)
end Go.Proofs
end

section
namespace Go.Proofs
open Go Go.Kx
open Vector (replicate)
open TryI Try
def gcm_New (key:Str):Option ((Unit) ⊕ (Vx 8 256 × Nat × List (Vx 8 16) × BitVec 64 × BitVec 64)) :=
 (aes_New key).bind fun (r_1:(Unit) ⊕ (Vx 8 256 × Nat × List (Vx 8 16)))=>(match r_1 with | .inl r_1=>(some (.inl ())) | .inr r_1=>(if r_1.2.1=(r_1.2.2).length then ((aes_Cipher_Encrypt r_1.1 r_1.2.2 (replicate 16 0#8:Vx 8 16)).bind fun (r_2:Vx 8 16)=>((gcm_load r_2.toList).bind fun (r_3:BitVec 64 × BitVec 64)=>(some (.inr (r_1.1,(r_1.2.2).length,r_1.2.2,r_3.1,r_3.2))))) else none))
set_option maxHeartbeats 4000000 in
set_option maxRecDepth 20000 in
theorem F21_calls (key:Str) (r:(Unit) ⊕ (Vx 8 256 × Nat × List (Vx 8 16) × BitVec 64 × BitVec 64)) (H:gcm_New key=some r) :
  Does Try.prog 21 [vs key] [] [] (Γ:=Unit × (Nat × Nat × Nat)) (fun g=>match r with | .inl r=>Value.tuple [Value.pointer none,vb false].toArray | .inr r=>Value.tuple [ptr (some (g.2.1,0)) 0,vb true].toArray) (fun g=>match r with | .inl r=>[] | .inr r=>[⟨some (g.2.1,0),[ptr (some (g.2.2.1,0)) 0]⟩,⟨some (g.2.2.1,0),e8 r.1.toList⟩,⟨some (g.2.2.1,256),[sl (some (g.2.2.2,0)) r.2.1 r.2.1]⟩,⟨some (g.2.2.2,0),eF (fun V:Vx 8 16=>e8 V.toList) r.2.2.1⟩,⟨some (g.2.1,1),[v64 r.2.2.2.1]⟩,⟨some (g.2.1,2),[v64 r.2.2.2.2]⟩]):=by
 intro w hmem hro hd
 refine calls_of (N:=22) (m0:=[(0,vs key)]) func21 rfl ntmps21 (argM_ok [vs key]) rfl hmem hro hd ?_
 unfold gcm_New at H
 refine TC_seq (TC_region (TVa ?_))
 refine TVa ?_
 refine TL_nil (TX_next (TC_seq (TC_region (TVm ?_))))
 obtain ⟨r_1,hr_1,H⟩:=bind_elim H
 rcases r_1 with r_1 | r_1
 ·dsimp only at H
  refine TL_e rfl rfl rfl (E_call (Γ:=Unit × (Nat × Nat)) (val:=fun g=>Value.tuple [Value.pointer none,vb false].toArray) (mem:=fun g=>[]) (vs:=[vs key]) (Lin:=[]) (Ro:=[]) (is:=[]) rfl call17 (F17_calls key (.inl r_1) hr_1) rfl trivial) (fun g_1=>?_)
  refine TVm ?_
  refine TLv V_ex ?_
  refine TLv V_ex ?_
  refine TVa ?_
  refine TVa ?_
  refine TL_nil (TX_next (TC_seq (TC_seq (TC_region (TVm ?_)))))
  refine TLv (V_un rfl (fun w=>notB w false)) ?_
  refine TL_nil (TX_next (TC_cond_t rfl ?_))
  refine TC_seq (TC_region (TVa ?_))
  refine TVa ?_
  refine TL_nil (TX_next (TC_ret (TX_then_ret ?_)))
  obtain rfl:=sj H
  exact TX_ret (rs:=[.tmp 2, .tmp 3]) (vs:=[Value.pointer none,vb false]) rfl ⟨rfl,rfl,trivial⟩ (fun w' hs'=>⟨((),((default:Nat),(default:Nat),(default:Nat))),rfl,Step.left (Step.pulled (is:=[]) (A:=[]) hs' rfl)⟩)
 ·dsimp only at H
  refine TL_e rfl rfl rfl (E_call (Γ:=Unit × (Nat × Nat)) (val:=fun g=>Value.tuple [ptr (some (g.2.1,0)) 0,vb true].toArray) (mem:=fun g=>[⟨some (g.2.1,0),e8 r_1.1.toList⟩,⟨some (g.2.1,256),[sl (some (g.2.2,0)) r_1.2.1 r_1.2.1]⟩,⟨some (g.2.2,0),eF (fun V:Vx 8 16=>e8 V.toList) r_1.2.2⟩]) (vs:=[vs key]) (Lin:=[]) (Ro:=[]) (is:=[]) rfl call17 (F17_calls key (.inr r_1) hr_1) rfl trivial) (fun g_2=>?_)
  refine TVm ?_
  refine TLv V_ex ?_
  refine TLv V_ex ?_
  refine TVa ?_
  refine TVa ?_
  refine TL_nil (TX_next (TC_seq (TC_seq (TC_region (TVm ?_)))))
  refine TLv (V_un rfl (fun w=>notB w true)) ?_
  refine TL_nil (TX_next (TC_cond_f rfl ?_))
  refine TC_skip (TX_next (TC_seq (TC_region (TVm ?_))))
  refine TLv (V_buildArr (pv:=[]) rfl rfl underlying38 inf38 inf5 rfl zer38 (cs:=e8 ((replicate 16 0#8:Vx 8 16).toList)) (by kernel_rfl)) ?_
  obtain ⟨h1,H⟩:=if_elim H
  refine TL_reE (j:=1) (A:=some (g_2.2.1,256)) (cs:=[sl (some (g_2.2.2,0)) r_1.2.1 r_1.2.1]) (cs':=[sl (some (g_2.2.2,0)) ((r_1.2.2).length) ((r_1.2.2).length)]) rfl (congrArg (fun n=>[sl (some (g_2.2.2,0)) n n]) h1) ?_
  obtain ⟨r_2,hr_2,H⟩:=bind_elim H
  refine TLe (E_c0 (F18_calls g_2.2.1 0 (some (g_2.2.2,0)) ((r_1.2.2).length) r_1.1 r_1.2.2 (replicate 16 0#8:Vx 8 16) (Nat.le_refl _) r_2 hr_2) call18 ⟨.o 0, .o 1, .o 2,trivial⟩) (fun g_3=>?_)
  refine TLe (E_allocP [(16,e8 ((replicate 16 0#8).toList))] inf38 zer38 ⟨(lenV (f:=v8) (replicate 16 0#8)),trivial⟩) (fun b1=>?_)
  refine TLn (E_sv (vs:=e8 r_2.toList) 0 inf38) (fun _=>?_)
  refine TL_nil (TX_next (TC_seq (TC_region (TVm ?_))))
  refine TLv (V_sliceArr0 rfl (by simp) underlying38 inf5 rfl) ?_
  refine TL_re (d:=18) (v:=sl (some (b1,0)) 16 16) (v':=sl (some (b1,0)) ((r_2.toList).length) ((r_2.toList).length)) rfl (congrArg (fun n=>sl (some (b1,0)) n n) vec_tl.symm) ?_
  obtain ⟨r_3,hr_3,H⟩:=bind_elim H
  refine TLe (E_c0 (F29_calls (some (b1,0)) ((r_2.toList).length) r_2.toList (Nat.le_refl _) r_3 hr_3) call29 ⟨.o 0,trivial⟩) (fun g_4=>?_)
  refine TLv (V_buildStruct (pv:=[(0,ptr (some (g_2.2.1,0)) 0),(1,aG [(1,[v64 r_3.1]),(1,[v64 r_3.2])])]) (pl:=[(0,1),(1,2)]) rfl rfl underlying73 inf73 places73 zer73 (cs:=flat [(1,[ptr (some (g_2.2.1,0)) 0]),(1,[v64 r_3.1]),(1,[v64 r_3.2])]) (fill_part [] [(2,flat [(1,[v64 0#64]),(1,[v64 0#64])])] rfl rfl trivial rfl rfl rfl (fill_part [(1,[ptr (some (g_2.2.1,0)) 0])] [] rfl rfl ⟨rfl,trivial⟩ rfl (flat_len ⟨rfl,rfl,trivial⟩ rfl) (flat_len ⟨rfl,rfl,trivial⟩ rfl) fill_end))) ?_
  refine TLe (E_boxP [(1,[ptr (some (g_2.2.1,0)) 0]),(1,[v64 r_3.1]),(1,[v64 r_3.2])] rfl rfl ⟨rfl,rfl,rfl,trivial⟩) (fun b2=>?_)
  refine TVa ?_
  refine TVa ?_
  refine TL_nil (TX_next (TC_ret ?_))
  obtain rfl:=sj H
  exact TX_ret (rs:=[.tmp 2, .tmp 3]) (vs:=[ptr (some (b2,0)) 0,vb true]) rfl ⟨rfl,rfl,trivial⟩ (fun w' hs'=>⟨((),(b2,g_2.2.1,g_2.2.2)),rfl,Step.left (Step.pulled (is:=[0,3,3,3,0,0]) (A:=[⟨some (b2,0),[ptr (some (g_2.2.1,0)) 0]⟩,⟨some (g_2.2.1,0),e8 r_1.1.toList⟩,⟨some (g_2.2.1,256),[sl (some (g_2.2.2,0)) ((r_1.2.2).length) ((r_1.2.2).length)]⟩,⟨some (g_2.2.2,0),eF (fun V:Vx 8 16=>e8 V.toList) r_1.2.2⟩,⟨some (b2,1),[v64 r_3.1]⟩,⟨some (b2,2),[v64 r_3.2]⟩]) hs' rfl)⟩)
end Go.Proofs
end

section
namespace Go.Proofs
open Go Go.Kx
open TryI Try
def gcm_may (nonce:Str) (aad:Str) (most:Int) (long:Int):Option (Bool) :=
 if ((nonce).length:Int)=12 then (if ((aad).length:Int)≤65536 then (ltt (decide (long≤most)) fun (x1:Bool)=>(some x1)) else (some false)) else (some false)
set_option maxHeartbeats 4000000 in
set_option maxRecDepth 20000 in
theorem F22_calls (nonce:Str) (aad:Str) (most:Int) (long:Int) (r:Bool) (H:gcm_may nonce aad most long=some r) :
  Does Try.prog 22 [vs nonce,vs aad,vi most,vi long] [] [] (Γ:=Unit) (fun g=>vb r) (fun g=>[]):=by
 intro w hmem hro hd
 refine calls_of (N:=22) (m0:=[(0,vs nonce),(1,vs aad),(2,vi most),(3,vi long)]) func22 rfl ntmps22 (argM_ok [vs nonce,vs aad,vi most,vi long]) rfl hmem hro hd ?_
 unfold gcm_may at H
 refine TC_seq (TC_region (TVa ?_))
 refine TL_nil (TX_next (TC_seq (TC_region (TVm ?_))))
 refine TLv (V_len_str rfl underlying9) ?_
 refine TLv (V_bin rfl rfl (fun w=>eqlI w ((nonce).length:Int) 12)) ?_
 refine TVm ?_
 refine TFd (d:=12) H (fun hc H=>?_) (fun hc H=>?_)
 ·refine TLw (V_move rfl) ?_
  refine TLw (V_len_str rfl underlying9) ?_
  refine TLw (V_bin rfl rfl (fun w=>leqI w ((aad).length:Int) 65536)) ?_
  refine TVt ?_
  refine TVm ?_
  refine TFd (d:=17) H (fun hc H=>?_) (fun hc H=>?_)
  ·refine TLw (V_move rfl) ?_
   refine TLw (V_move rfl) ?_
   refine TLw (V_bin rfl rfl (fun w=>leqI w long most)) ?_
   refine TVt ?_
   refine TVa ?_
   obtain ⟨x1,hx1,H⟩:=ltt_elim H
   refine TLr 8 (congrArg vb hx1) ?_
   refine TL_nil (TX_next (TC_ret ?_))
   obtain rfl:=sj H
   exact TX1
  ·refine TLs ?_
   refine TLs ?_
   refine TLs ?_
   refine TVf ?_
   refine TVa ?_
   refine TL_nil (TX_next (TC_ret ?_))
   obtain rfl:=sj H
   exact TX1
 ·refine TLs ?_
  refine TLs ?_
  refine TLs ?_
  refine TVf ?_
  refine TVm ?_
  refine TLs ?_
  refine TLs ?_
  refine TLs ?_
  refine TVf ?_
  refine TVa ?_
  refine TL_nil (TX_next (TC_ret ?_))
  obtain rfl:=sj H
  exact TX1
end Go.Proofs
end

section
namespace Go.Proofs
open Go Go.Kx
open Vector (replicate)
open TryI Try
def gcm_counter.b0 (n:BitVec 32) (s0:Int × Vx 8 16):Option ((Int × Vx 8 16) ⊕ (Vx 8 16)) :=
 if s0.1<4 then (if 0≤w64 (8 * s0.1) then (if 0≤w64 (15 - s0.1)∧w64 (15 - s0.1)<(16:Int) then (ltt (vp s0.2 ((w64 (15 - s0.1)).toNat) ((n >>> (w64 (8 * s0.1)).toNat).setWidth 8)) fun (m_2:Vx 8 16)=>(some (.inl (w64 (s0.1+1),m_2)))) else none) else none) else (some (.inr s0.2))
def gcm_counter (nonce:Str) (n:BitVec 32):Option (Vx 8 16) :=
 ltt (vsp (replicate 16 0#8) 0 (nonce.take (min ((nonce).length) 16))) fun (m_1:Vx 8 16)=>((loop (gcm_counter.b0 n) BIG (0,m_1)).bind fun (t_1:Vx 8 16)=>(some t_1))
set_option maxHeartbeats 4000000 in
set_option maxRecDepth 20000 in
theorem F36_calls (nonce:Str) (n:BitVec 32) (r:Vx 8 16) (H:gcm_counter nonce n=some r) :
  Does Try.prog 36 [vs nonce,v32 n] [] [] (Γ:=Unit) (fun g=>aG [(16,e8 r.toList)]) (fun g=>[]):=by
 intro w hmem hro hd
 refine calls_of (N:=23) (m0:=[(0,vs nonce),(1,v32 n)]) func36 rfl ntmps36 (argM_ok [vs nonce,v32 n]) rfl hmem hro hd ?_
 unfold gcm_counter at H
 refine TC_seq (TC_region (TLe (E_allocP [(16,e8 ((replicate 16 0#8).toList))] inf38 zer38 ⟨(lenV (f:=v8) (replicate 16 0#8)),trivial⟩) (fun b1=>?_)))
 refine TL_nil (TX_next (TC_seq (TC_region (TLe (E_allocP [(16,e8 ((replicate 16 0#8).toList))] inf38 zer38 ⟨(lenV (f:=v8) (replicate 16 0#8)),trivial⟩) (fun b2=>?_)))))
 refine TL_nil (TX_next (TC_seq (TC_region (TLv (V_sliceArr0 rfl (by simp) underlying38 inf5 rfl) ?_))))
 refine TVm ?_
 refine TLe (E_copyStr (o:=0) (j:=0) (copyA rfl) rfl (by simp) underlying33 inf5 rfl rfl (copy_vec (l:=0) (d:=16) (by omega)) (cs':=e8 ((vsp (replicate 16 0#8) 0 (nonce.take (min ((nonce).length) 16))).toList)) (splice_vec (take_room (n:=16) (l:=0) (d:=16) (by omega)))) (fun _=>?_)
 obtain ⟨m_1,hm_1,H⟩:=ltt_elim H
 refine TL_reE (j:=0) (A:=some (b2,0)) (cs:=e8 ((vsp (replicate 16 0#8) 0 (nonce.take (min ((nonce).length) 16))).toList)) (cs':=e8 m_1.toList) rfl (congrArg (fun z:Vx 8 16=>e8 (Vector.toList z)) hm_1) ?_
 refine TL_nil (TX_next (TC_seq (TC_seq (TC_region (TVm ?_)))))
 refine TL_nil (TX_next (TC_block ?_))
 obtain ⟨t_1,Hl,H⟩:=bind_elim H
 refine TC.sub (m':=[(1,_),(4,_),(5,_),(10,_)]) ⟨rfl,rfl,rfl,rfl,trivial⟩ ?_
 refine TC.pull (is:=[1,0]) (L':=[_,_]) rfl ?_
 refine TC_loopL (id:=0) (body:=(gcm_counter.b0 n)) (σ:=Int × Vx 8 16) (Γ:=Unit) (Γx:=Unit) (fun s0 g0_=>[(1,v32 n),(4,ptr (some (b1,0)) 0),(5,ptr (some (b2,0)) 0),(10,vi s0.1)]) (fun s0 g0_=>[⟨some (b1,0),e8 ((replicate 16 0#8).toList)⟩,⟨some (b2,0),e8 s0.2.toList⟩]) (fun t g=>[(4,ptr (some (b1,0)) 0),(5,ptr (some (b2,0)) 0)]) (fun t g=>[⟨some (b1,0),e8 ((replicate 16 0#8).toList)⟩,⟨some (b2,0),e8 t.toList⟩]) ?_ BIG (0,m_1) () t_1 Hl ?_
 ·intro s0 g0_ r1 H K hK hE
  unfold gcm_counter.b0 at H
  refine TC_seq (TC_region (TLv (V_bin rfl rfl (fun w=>lssI w s0.1 4)) ?_))
  refine TL_nil (TX_next (TC_seq (TCd H (fun hc H=>?_) (fun hc H=>?_))))
  ·refine TC_skip (TX_next (TC_seq (TC_block (TC_seq (TC_region (TVm ?_))))))
   refine TVa ?_
   refine TL_nil (TX_next (TC_region (TVm ?_)))
   refine TLv (V_bin rfl rfl (fun w=>subI w 15 s0.1)) ?_
   refine TVm ?_
   refine TVm ?_
   refine TLv (V_bin rfl rfl (fun w=>mulI w 8 s0.1)) ?_
   obtain ⟨h1,H⟩:=if_elim H
   refine TLv (V_bin rfl rfl (fun w=>shr32 w n .i64 (w64 (8 * s0.1)) h1)) ?_
   refine TLv (V_conv rfl (fun w=>cv32to8 w _ _ underlying5 (und74) (n >>> (w64 (8 * s0.1)).toNat))) ?_
   obtain ⟨h2,H⟩:=if_elim H
   refine TLv (V_idxArr (i:=w64 (15 - s0.1)) rfl rfl underlying38 inf5 rfl h2.1 h2.2 (k:=(w64 (15 - s0.1)).toNat) (k01 _)) ?_
   refine TLn (E_store (j:=1) rfl rfl inf5 rfl rfl rfl (by simpa using (toNat_lt h2.1 h2.2)) (cs':=e8 ((vp s0.2 ((w64 (15 - s0.1)).toNat) ((n >>> (w64 (8 * s0.1)).toNat).setWidth 8)).toList)) set_vec) (fun _=>?_)
   obtain ⟨m_2,hm_2,H⟩:=ltt_elim H
   refine TL_reE (j:=1) (A:=some (b2,0)) (cs:=e8 ((vp s0.2 ((w64 (15 - s0.1)).toNat) ((n >>> (w64 (8 * s0.1)).toNat).setWidth 8)).toList)) (cs':=e8 m_2.toList) rfl (congrArg (fun z:Vx 8 16=>e8 (Vector.toList z)) hm_2) ?_
   refine TL_nil (TX_block_normal (TX_next (TC_region (TLv (V_bin rfl rfl (fun w=>addI w s0.1 1)) ?_))))
   refine TVm ?_
   refine TL_nil ?_
   obtain rfl:=sj H
   exact TXk [0,0] (hK (w64 (s0.1+1),m_2) rfl ())
  ·refine TC_exit (TX_then_exit (TX_then_exit ?_))
   obtain rfl:=sj H
   exact TXj [0,0] (hE s0.2 rfl ())
 ·intro g
  refine TX_block_exit (TX_next (TC_seq (TC_region (TLv (V_lag (.o 1) isAgg38 inf38) ?_))))
  refine TLn (E_sv (vs:=e8 t_1.toList) 0 inf38) (fun _=>?_)
  refine TL_nil (TX_next (TC_ret ?_))
  obtain rfl:=sj H
  exact TXr (vs:=[_]) rfl ⟨(Res_agg (n:=16) rfl (by simp) (.o 0) isAgg38 inf38 rfl (lenV (f:=v8) t_1)),trivial⟩
end Go.Proofs
end

/-
  Part 7 of the proof of GcmForms.
-/
import Derived.Test.YtdhnelpiiobekaaGcmFormsA1
import Derived.Test.YtdhnelpiiobekaaGcmFormsA2
import Derived.Test.YtdhnelpiiobekaaGcmFormsA3
import Derived.Test.YtdhnelpiiobekaaGcmFormsA4
import Derived.Test.YtdhnelpiiobekaaGcmFormsA5
import Derived.Test.YtdhnelpiiobekaaGcmFormsA6
set_option linter.unusedVariables false
set_option linter.unusedSimpArgs false
section
namespace Go.Proofs
open Go Go.Kx
open Vector (replicate)
open TryI Try
def gcm_Cipher_Xor.b1 (b:List (BitVec 8)) (s0:Nat × BitVec 32 × List (BitVec 8)) (r_2:Vx 8 16) (m_1:Int) (s1:Int × List (BitVec 8)):Option ((Int × List (BitVec 8)) ⊕ (List (BitVec 8))) :=
 if s1.1<m_1 then (if (b).length≤(s1.2).length then (if (b).length≤(s1.2).length then (if 0≤s1.1∧s1.1<(((((b).length) - s0.1:Nat):Int):Int) then (if 0≤s1.1∧s1.1<(16:Int) then (if (b).length≤(s1.2).length then (if (b).length≤(s1.2).length then (if 0≤s1.1∧s1.1<(((((b).length) - s0.1:Nat):Int):Int) then (ltt (s1.2.set (s0.1+((s1.1).toNat)) ((lg s1.2 (s0.1+((s1.1).toNat))) ^^^ (vg r_2 ((s1.1).toNat)))) fun (m_2:List (BitVec 8))=>(some (.inl (w64 (s1.1+1),m_2)))) else none) else none) else none) else none) else none) else none) else none) else (some (.inr s1.2))
def gcm_Cipher_Xor.b0 (c_aes_table:Vx 8 256) (c_aes_keys:List (Vx 8 16)) (nonce:Str) (b:List (BitVec 8)) (s0:Nat × BitVec 32 × List (BitVec 8)):Option ((Nat × BitVec 32 × List (BitVec 8)) ⊕ (List (BitVec 8))) :=
 if 0<((((b).length) - s0.1:Nat):Int) then ((gcm_counter nonce s0.2.1).bind fun (r_1:Vx 8 16)=>((aes_Cipher_Encrypt c_aes_table c_aes_keys r_1).bind fun (r_2:Vx 8 16)=>(ltt (min ((((b).length) - s0.1:Nat):Int) 16) fun (m_1:Int)=>((loop (gcm_Cipher_Xor.b1 b s0 r_2 m_1) BIG (0,s0.2.2)).bind fun (t_2:List (BitVec 8))=>(if 0≤m_1 then (if (b).length≤(t_2).length then (if s0.1≤(b).length then (if (m_1).toNat≤((b).length) - s0.1 then (ltt (s0.2.1+1#32) fun (n1:BitVec 32)=>(some (.inl (s0.1+((m_1).toNat),n1,t_2)))) else none) else none) else none) else none))))) else (some (.inr s0.2.2))
def gcm_Cipher_Xor (c_aes_table:Vx 8 256) (c_aes_keys:List (Vx 8 16)) (c_h_high:BitVec 64) (c_h_low:BitVec 64) (nonce:Str) (b:List (BitVec 8)):Option (List (BitVec 8)) :=
 (loop (gcm_Cipher_Xor.b0 c_aes_table c_aes_keys nonce b) BIG (0,2#32,b)).bind fun (t_1:List (BitVec 8))=>(some t_1)
set_option maxHeartbeats 4000000 in
set_option maxRecDepth 20000 in
theorem F23_calls (bc:Nat) (obc:Nat) (bc_aes:Nat) (obc_aes:Nat) (Ac_aes_keys:Adr) (cc_aes_keys:Nat) (Ab:Adr) (spb:List (BitVec 8)) (c_aes_table:Vx 8 256) (c_aes_keys:List (Vx 8 16)) (c_h_high:BitVec 64) (c_h_low:BitVec 64) (nonce:Str) (b:List (BitVec 8)) (hcc_aes_keys:(c_aes_keys).length≤cc_aes_keys) (r:List (BitVec 8)) (H:gcm_Cipher_Xor c_aes_table c_aes_keys c_h_high c_h_low nonce b=some r) :
  Does Try.prog 23 [ptr (some (bc,obc)) 0,vs nonce,sl Ab ((b).length) ((b++spb).length)] [⟨Ab,e8 (b++spb)⟩] [⟨some (bc,obc),[ptr (some (bc_aes,obc_aes)) 0]⟩,⟨some (bc,obc+1),[v64 c_h_high]⟩,⟨some (bc,obc+2),[v64 c_h_low]⟩,⟨some (bc_aes,obc_aes),e8 c_aes_table.toList⟩,⟨some (bc_aes,obc_aes+256),[sl Ac_aes_keys ((c_aes_keys).length) cc_aes_keys]⟩,⟨Ac_aes_keys,eF (fun V:Vx 8 16=>e8 V.toList) c_aes_keys⟩] (Γ:=Unit) (fun g=>Value.tuple [].toArray) (fun g=>[⟨Ab,e8 (r++spb)⟩]):=by
 intro w hmem hro hd
 refine calls_of (N:=43) (m0:=[(0,ptr (some (bc,obc)) 0),(1,vs nonce),(2,sl Ab ((b).length) ((b++spb).length))]) func23 rfl ntmps23 (argM_ok [ptr (some (bc,obc)) 0,vs nonce,sl Ab ((b).length) ((b++spb).length)]) rfl hmem hro hd ?_
 unfold gcm_Cipher_Xor at H
 refine TC_seq (TC_region (TVa ?_))
 refine TL_nil (TX_next (TC_block (TC_re (d:=2) (v:=sl Ab ((b).length) ((b++spb).length)) (v':=sl (cutB Ab ((b++spb).length) 0 0 1) (((b).length) - 0) (((b++spb).length) - 0)) rfl (vw_seed 1) ?_)))
 obtain ⟨t_1,Hl,H⟩:=bind_elim H
 refine TC.sub (m':=[(0,_),(1,_),(2,_),(6,_)]) ⟨rfl,rfl,rfl,rfl,trivial⟩ ?_
 refine TC.pull (is:=[0]) (L':=[_]) rfl ?_
 refine TC_loopL (id:=0) (body:=(gcm_Cipher_Xor.b0 c_aes_table c_aes_keys nonce b)) (σ:=Nat × BitVec 32 × List (BitVec 8)) (Γ:=Nat) (Γx:=Unit) (fun s0 g0_=>[(0,ptr (some (bc,obc)) 0),(1,vs nonce),(2,sl (cutB Ab ((s0.2.2++spb).length) s0.1 g0_ 1) (((b).length) - s0.1) (((s0.2.2++spb).length) - s0.1)),(6,v32 s0.2.1)]) (fun s0 g0_=>[⟨Ab,e8 (s0.2.2++spb)⟩]) (fun t g=>[]) (fun t g=>[⟨Ab,e8 (t++spb)⟩]) ?_ BIG (0,2#32,b) 0 t_1 Hl ?_
 ·intro s0 g0_ r1 H K hK hE
  unfold gcm_Cipher_Xor.b0 at H
  refine TC_seq (TC_seq (TC_region (TVm ?_)))
  refine TLv (V_len_slice rfl underlying33) ?_
  refine TLv (V_bin rfl rfl (fun w=>gtrI w ((((b).length) - s0.1:Nat):Int) 0)) ?_
  refine TL_nil (TX_next (TCd H (fun hc H=>?_) (fun hc H=>?_)))
  ·refine TC_skip (TX_next (TC_seq (TC_block (TC_seq ?_))))
   obtain ⟨r_1,hr_1,H⟩:=bind_elim H
   obtain ⟨r_2,hr_2,H⟩:=bind_elim H
   refine TA_begin [] 10 (by kernel_rfl) (N:=10) rfl ?_
   refine TA_mix (is:=[]) (done':=dn 10 511) [itV 0 15 (ptr (some (bc,obc)) 0) [],itV 1 16 (ptr (some (bc,obc)) 0) [0],itV 2 17 (ptr (some (bc,obc)) 0) [1],itV 3 18 (ptr (some (bc_aes,obc_aes)) 0) [2],itV 4 19 (vs nonce) [],itV 5 20 (v32 s0.2.1) [],itV 6 21 (aG [(16,e8 r_1.toList)]) [4,5],itV 7 22 (aG [(16,e8 r_2.toList)]) [3,6],⟨8,7,fun b1=>ptr (some (b1,0)) 0,fun b1=>[⟨some (b1,0),e8 ((replicate 16 0#8).toList)⟩],[],none⟩] [] 1 (by kernel_rfl) (QP.then (QP.block (QP.then (QP.then (QP.block QP.body))))) (by kernel_rfl) rfl (.v rfl (V_move rfl) (.v rfl (V_nilCheck rfl) (.v rfl (V_fe underlying73 inf35) (.v rfl (V_load rfl (.r 0) rfl isAgg35) (.v rfl (V_move rfl) (.v rfl (V_move rfl) (.e rfl (E_cu (F36_calls nonce s0.2.1 r_1 hr_1) call36 .z) (.e rfl (E_cu (F18_calls bc_aes obc_aes Ac_aes_keys cc_aes_keys c_aes_table c_aes_keys r_1 hcc_aes_keys r_2 hr_2) call18 ⟨.r 3, .r 4, .r 5,trivial⟩) (.c rfl (fun _ _=>(E_allocP [(16,e8 ((replicate 16 0#8).toList))] inf38 zer38 ⟨(lenV (f:=v8) (replicate 16 0#8)),trivial⟩)) .nil))))))))) .nil (by kernel_rfl) rfl (fun γ=>?_)
   refine TA_cut [(7,ptr (some ((γ 8),0)) 0),(22,aG [(16,e8 r_2.toList)]),(0,ptr (some (bc,obc)) 0),(1,vs nonce),(2,sl (cutB Ab ((s0.2.2++spb).length) s0.1 g0_ 1) (((b).length) - s0.1) (((s0.2.2++spb).length) - s0.1)),(6,v32 s0.2.1)] [⟨some ((γ 8),0),e8 ((replicate 16 0#8).toList)⟩,⟨Ab,e8 (s0.2.2++spb)⟩] ⟨rfl,rfl,rfl,rfl,rfl,rfl,trivial⟩ rfl ?_
   generalize γ 8=b1
   refine TA_all (rs:=[9]) (by kernel_rfl) rfl ?_
   refine ⟨?_,trivial⟩
   refine TO_n (is:=[]) (done':=dn 10 1023) rfl rfl rfl (by kernel_rfl) (E_sv (vs:=e8 r_2.toList) 0 inf38) (fun _ _=>rfl) (fun _=>?_)
   refine TA_done (by kernel_rfl) ?_ 0
   refine TX_next (TC_seq (TC_region (TVm ?_)))
   refine TLv (V_len_slice rfl underlying33) ?_
   refine TLv (V_min rfl rfl) ?_
   refine TVa ?_
   obtain ⟨m_1,hm_1,H⟩:=ltt_elim H
   refine TLr 8 (congrArg vi hm_1) ?_
   refine TL_nil (TX_next (TC_seq (TC_seq (TC_region (TVm ?_)))))
   refine TVm ?_
   refine TL_nil (TX_next (TC_block ?_))
   obtain ⟨t_2,Hl,H⟩:=bind_elim H
   refine TC.sub (m':=[(0,_),(1,_),(2,_),(6,_),(7,_),(8,_),(26,_),(27,_)]) ⟨rfl,rfl,rfl,rfl,rfl,rfl,rfl,rfl,trivial⟩ ?_
   refine TC.pull (is:=[1,0]) (L':=[_,_]) rfl ?_
   refine TC_loopL (id:=2) (body:=(gcm_Cipher_Xor.b1 b s0 r_2 m_1)) (σ:=Int × List (BitVec 8)) (Γ:=Unit) (Γx:=Unit) (fun s1 g1_=>[(0,ptr (some (bc,obc)) 0),(1,vs nonce),(2,sl (cutB Ab ((s1.2++spb).length) s0.1 g0_ 1) (((b).length) - s0.1) (((s1.2++spb).length) - s0.1)),(6,v32 s0.2.1),(7,ptr (some (b1,0)) 0),(8,vi m_1),(26,vi m_1),(27,vi s1.1)]) (fun s1 g1_=>[⟨Ab,e8 (s1.2++spb)⟩,⟨some (b1,0),e8 r_2.toList⟩]) (fun t g=>[(0,ptr (some (bc,obc)) 0),(1,vs nonce),(2,sl (cutB Ab ((t++spb).length) s0.1 g0_ 1) (((b).length) - s0.1) (((t++spb).length) - s0.1)),(6,v32 s0.2.1),(8,vi m_1)]) (fun t g=>[⟨Ab,e8 (t++spb)⟩]) ?_ BIG (0,s0.2.2) () t_2 Hl ?_
   ·intro s1 g1_ r1 H K hK hE
    unfold gcm_Cipher_Xor.b1 at H
    refine TC_seq (TC_region (TLv (V_bin rfl rfl (fun w=>lssI w s1.1 m_1)) ?_))
    refine TL_nil (TX_next (TC_seq (TCd H (fun hc H=>?_) (fun hc H=>?_))))
    ·refine TC_skip (TX_next (TC_seq (TC_block (TC_seq (TC_region (TVm ?_))))))
     refine TVa ?_
     refine TL_nil (TX_next ?_)
     obtain ⟨h1,H⟩:=if_elim H
     obtain ⟨h2,H⟩:=if_elim H
     obtain ⟨h3,H⟩:=if_elim H
     obtain ⟨h4,H⟩:=if_elim H
     obtain ⟨h5,H⟩:=if_elim H
     obtain ⟨h6,H⟩:=if_elim H
     obtain ⟨h7,H⟩:=if_elim H
     obtain ⟨m_2,hm_2,H⟩:=ltt_elim H
     refine TA_begin [] 10 (by kernel_rfl) (N:=10) rfl ?_
     refine TA_mix (is:=[]) (done':=dn 10 511) [itV 0 30 (sl (cutB Ab ((s1.2++spb).length) s0.1 g0_ 1) (((b).length) - s0.1) (((s1.2++spb).length) - s0.1)) [],itV 1 31 (vi s1.1) [],itV 2 32 (ptr Ab (s0.1+((s1.1).toNat))) [0,1],itV 3 33 (v8 (lg s1.2 (s0.1+((s1.1).toNat)))) [2],itV 4 34 (vi s1.1) [],itV 5 35 (ptr (some (b1,0)) ((s1.1).toNat)) [4],itV 6 36 (v8 (vg r_2 ((s1.1).toNat))) [5],itV 7 37 (v8 ((lg s1.2 (s0.1+((s1.1).toNat))) ^^^ (vg r_2 ((s1.1).toNat)))) [3,6],itV 8 38 (ptr Ab (s0.1+((s1.1).toNat))) [0,1]] [] 1 (by kernel_rfl) (QP.block (QP.then (QP.then (QP.block (QP.then (QP.block (QP.then (QP.then (QP.block QP.body))))))))) (by kernel_rfl) rfl (.v rfl (V_move rfl) (.v rfl (V_move rfl) (.v rfl (V_idxVw (i:=s1.1) rfl rfl underlying33 inf5 rfl (.o 0) (map_ne (lt_app (idx_lt h3.2 h3.1 h2))) h3.1 h3.2 (Nat.le_trans h1 (row_le _ _)) (k:=s0.1+((s1.1).toNat)) (km1 _)) (.v rfl (V_load rfl (.o 0) (get_row (f:=v8) (l:=s1.2) (sp:=spb) (idx_lt h3.2 h3.1 h2)) isAgg5) (.v rfl (V_move rfl) (.v rfl (V_idxArr (i:=s1.1) rfl rfl underlying38 inf5 rfl h4.1 h4.2 (k:=(s1.1).toNat) (k01 _)) (.v rfl (V_load rfl (.o 1) (get_vec (f:=v8) (V:=r_2) (toNat_lt h4.1 h4.2)) isAgg5) (.v rfl (V_bin rfl rfl (fun w=>xor8 w (lg s1.2 (s0.1+((s1.1).toNat))) (vg r_2 ((s1.1).toNat)))) (.v rfl (V_idxVw (i:=s1.1) rfl rfl underlying33 inf5 rfl (.o 0) (map_ne (lt_app (idx_lt h7.2 h7.1 h6))) h7.1 h7.2 (Nat.le_trans h5 (row_le _ _)) (k:=s0.1+((s1.1).toNat)) (km1 _)) .nil))))))))) .nil (by kernel_rfl) rfl (fun γ=>?_)
     refine TA_cut [(38,ptr Ab (s0.1+((s1.1).toNat))),(37,v8 ((lg s1.2 (s0.1+((s1.1).toNat))) ^^^ (vg r_2 ((s1.1).toNat)))),(0,ptr (some (bc,obc)) 0),(1,vs nonce),(2,sl (cutB Ab ((s1.2++spb).length) s0.1 g0_ 1) (((b).length) - s0.1) (((s1.2++spb).length) - s0.1)),(6,v32 s0.2.1),(7,ptr (some (b1,0)) 0),(8,vi m_1),(26,vi m_1),(27,vi s1.1)] [⟨Ab,e8 (s1.2++spb)⟩,⟨some (b1,0),e8 r_2.toList⟩] ⟨rfl,rfl,rfl,rfl,rfl,rfl,rfl,rfl,rfl,rfl,trivial⟩ rfl ?_
     refine TA_all (rs:=[9]) (by kernel_rfl) rfl ?_
     refine ⟨?_,trivial⟩
     refine TO_n (is:=[]) (done':=dn 10 1023) rfl rfl rfl (by kernel_rfl) (E_store (j:=0) rfl rfl inf5 rfl rfl rfl (by rw [List.length_map]; exact lt_app (idx_lt h7.2 h7.1 h6)) (cs':=e8 ((s1.2.set (s0.1+((s1.1).toNat)) ((lg s1.2 (s0.1+((s1.1).toNat))) ^^^ (vg r_2 ((s1.1).toNat))))++spb)) (set_row (idx_lt h7.2 h7.1 h6))) (fun _ _=>rfl) (fun _=>?_)
     refine TA_reE (j:=0) (A:=Ab) (cs:=e8 ((s1.2.set (s0.1+((s1.1).toNat)) ((lg s1.2 (s0.1+((s1.1).toNat))) ^^^ (vg r_2 ((s1.1).toNat))))++spb)) (cs':=e8 (m_2++spb)) rfl (congrArg (fun z=>e8 (z++spb)) hm_2) ?_
     refine TA_re (d:=2) (v:=sl (cutB Ab ((s1.2++spb).length) s0.1 g0_ 1) (((b).length) - s0.1) (((s1.2++spb).length) - s0.1)) (v':=sl (cutB Ab ((m_2++spb).length) s0.1 g0_ 1) (((b).length) - s0.1) (((m_2++spb).length) - s0.1)) rfl (vw_c (s:=1) (cap_set hm_2)) ?_
     refine TA_done (by kernel_rfl) ?_ 0
     refine TX_block_normal (TX_next (TC_region (TLv (V_bin rfl rfl (fun w=>addI w s1.1 1)) ?_)))
     refine TVm ?_
     refine TL_nil ?_
     obtain rfl:=sj H
     exact TXk [0,0] (hK (w64 (s1.1+1),m_2) rfl ())
    ·refine TC_exit (TX_then_exit (TX_then_exit ?_))
     obtain rfl:=sj H
     exact TXj [0] (hE s1.2 rfl ())
   ·intro g
    refine TX_block_exit (TX_next (TC_region (TVm ?_)))
    refine TVm ?_
    obtain ⟨h8,H⟩:=if_elim H
    obtain ⟨h9,H⟩:=if_elim H
    obtain ⟨h10,H⟩:=if_elim H
    obtain ⟨h11,H⟩:=if_elim H
    refine TLv (V_sliceVw (l:=(m_1).toNat) (h:=((b).length) - s0.1) rfl underlying33 inf5 rfl (Bnd.some' (i:=m_1) rfl h8) Bnd.none' h11 (Nat.le_refl _) (Nat.le_trans h9 (row_le _ _)) (Nat.add_sub_cancel' h10)) ?_
    refine TVa ?_
    refine TL_nil (TX_block_normal (TX_next (TC_region (TVm ?_))))
    refine TLv (V_bin rfl rfl (fun w=>add32 w s0.2.1 1#32)) ?_
    refine TVa ?_
    obtain ⟨n1,hn1,H⟩:=ltt_elim H
    refine TLr 6 (congrArg v32 hn1) ?_
    refine TL_nil ?_
    obtain rfl:=sj H
    exact TXk [0] (hK (s0.1+((m_1).toNat),n1,t_2) rfl (if (t_2++spb).length=s0.1 then g0_ else s0.1))
  ·refine TC_exit (TX_then_exit (TX_then_exit ?_))
   obtain rfl:=sj H
   exact TXj [0] (hE s0.2.2 rfl ())
 ·intro g
  refine TX_block_exit ?_
  obtain rfl:=sj H
  exact TX_end (rs:=[]) (vs:=[]) rfl trivial (fun w' hs'=>⟨(),rfl,Step.left (Step.pulled (is:=[0]) (A:=[⟨Ab,e8 (t_1++spb)⟩]) hs' rfl)⟩)
end Go.Proofs
end

section
namespace Go.Proofs
open Go Go.Kx
open Vector (replicate)
open TryI Try
def gcm_Cipher_Tag.b0 (r_8:Vx 8 16) (s0:Int × Vx 8 16):Option ((Int × Vx 8 16) ⊕ (Vx 8 16)) :=
 if s0.1<16 then (if 0≤s0.1∧s0.1<(16:Int) then (if 0≤s0.1∧s0.1<(16:Int) then (if 0≤s0.1∧s0.1<(16:Int) then (ltt (vp s0.2 ((s0.1).toNat) ((vg s0.2 ((s0.1).toNat)) ^^^ (vg r_8 ((s0.1).toNat)))) fun (m_1:Vx 8 16)=>(some (.inl (w64 (s0.1+1),m_1)))) else none) else none) else none) else (some (.inr s0.2))
def gcm_Cipher_Tag (c_aes_table:Vx 8 256) (c_aes_keys:List (Vx 8 16)) (c_h_high:BitVec 64) (c_h_low:BitVec 64) (nonce:Str) (aad:Str) (b:List (BitVec 8)):Option (Str) :=
 (gcm_newSum c_h_high c_h_low).bind fun (r_1:(Vector (BitVec 64 × BitVec 64) 16) × Vx 64 16)=>((gcm_sum_all r_1.1 r_1.2 0#64 0#64 aad).bind fun (r_2:BitVec 64 × BitVec 64)=>((gcm_sum_all r_1.1 r_1.2 r_2.1 r_2.2 b).bind fun (r_3:BitVec 64 × BitVec 64)=>((gcm_element_bytes ((BitVec.ofInt 64 ((aad).length:Int)) * 8#64) ((BitVec.ofInt 64 ((b).length:Int)) * 8#64)).bind fun (r_4:Vx 8 16)=>((gcm_sum_add r_1.1 r_1.2 r_3.1 r_3.2 r_4.toList).bind fun (r_5:BitVec 64 × BitVec 64)=>((gcm_element_bytes r_5.1 r_5.2).bind fun (r_6:Vx 8 16)=>((gcm_counter nonce 1#32).bind fun (r_7:Vx 8 16)=>((aes_Cipher_Encrypt c_aes_table c_aes_keys r_7).bind fun (r_8:Vx 8 16)=>((loop (gcm_Cipher_Tag.b0 r_8) BIG (0,r_6)).bind fun (t_1:Vx 8 16)=>(some t_1.toList)))))))))
set_option maxHeartbeats 4000000 in
set_option maxRecDepth 20000 in
theorem F24_calls (bc:Nat) (obc:Nat) (bc_aes:Nat) (obc_aes:Nat) (Ac_aes_keys:Adr) (cc_aes_keys:Nat) (Ab:Adr) (cb:Nat) (c_aes_table:Vx 8 256) (c_aes_keys:List (Vx 8 16)) (c_h_high:BitVec 64) (c_h_low:BitVec 64) (nonce:Str) (aad:Str) (b:List (BitVec 8)) (hcc_aes_keys:(c_aes_keys).length≤cc_aes_keys) (hcb:(b).length≤cb) (r:Str) (H:gcm_Cipher_Tag c_aes_table c_aes_keys c_h_high c_h_low nonce aad b=some r) :
  Does Try.prog 24 [ptr (some (bc,obc)) 0,vs nonce,vs aad,sl Ab ((b).length) cb] [] [⟨some (bc,obc),[ptr (some (bc_aes,obc_aes)) 0]⟩,⟨some (bc,obc+1),[v64 c_h_high]⟩,⟨some (bc,obc+2),[v64 c_h_low]⟩,⟨some (bc_aes,obc_aes),e8 c_aes_table.toList⟩,⟨some (bc_aes,obc_aes+256),[sl Ac_aes_keys ((c_aes_keys).length) cc_aes_keys]⟩,⟨Ac_aes_keys,eF (fun V:Vx 8 16=>e8 V.toList) c_aes_keys⟩,⟨Ab,e8 b⟩] (Γ:=Unit) (fun g=>vs r) (fun g=>[]):=by
 intro w hmem hro hd
 refine calls_of (N:=67) (m0:=[(0,ptr (some (bc,obc)) 0),(1,vs nonce),(2,vs aad),(3,sl Ab ((b).length) cb)]) func24 rfl ntmps24 (argM_ok [ptr (some (bc,obc)) 0,vs nonce,vs aad,sl Ab ((b).length) cb]) rfl hmem hro hd ?_
 unfold gcm_Cipher_Tag at H
 refine TC_seq (TC_region (TVa ?_))
 refine TL_nil (TX_next (TC_seq (TC_region (TVm ?_))))
 refine TLv (V_nilCheck rfl) ?_
 refine TLv (V_fieldE rfl underlying73 rfl rfl inf56 rfl (v:=ptr (some (bc,obc+1)) 0) rfl) ?_
 refine TLv (V_loadAgg (n:=2) (cs:=flat [(1,[v64 c_h_high]),(1,[v64 c_h_low])]) rfl (by simp) (SrcEnts (b:=bc) [(1,[v64 c_h_high]),(1,[v64 c_h_low])] (obc+1) ⟨rfl,rfl,trivial⟩ (AllSrc.all (M:=ents bc (obc+1) [(1,[v64 c_h_high]),(1,[v64 c_h_low])]) ⟨Src.ro (j:=1) rfl,Src.ro (j:=2) rfl,trivial⟩)) isAgg56 inf56 rfl (flat_len ⟨rfl,rfl,trivial⟩ rfl)) ?_
 obtain ⟨r_1,hr_1,H⟩:=bind_elim H
 refine TLe (E_call (Γ:=Nat) (val:=fun g=>ptr (some (g,0)) 0) (mem:=fun g=>[⟨some (g,0),eF (fun p:BitVec 64 × BitVec 64=>[v64 p.1,v64 p.2]) r_1.1.toList⟩,⟨some (g,32),e64 r_1.2.toList⟩,⟨some (g,48),[v64 0#64]⟩,⟨some (g,49),[v64 0#64]⟩]) (vs:=[aG [(1,[v64 c_h_high]),(1,[v64 c_h_low])]]) (Lin:=[]) (Ro:=[]) (is:=[]) rfl call28 (F28_calls c_h_high c_h_low r_1 hr_1) rfl trivial) (fun g_1=>?_)
 refine TVa ?_
 refine TL_nil (TX_next (TC_seq (TC_region (TVm ?_))))
 refine TVm ?_
 refine TLe (E_s2bR rfl underlying9 underlying33 underlying5) (fun g_2=>?_)
 obtain ⟨r_2,hr_2,H⟩:=bind_elim H
 refine TLe (E_call (Γ:=Unit) (val:=fun g=>Value.tuple [].toArray) (mem:=fun g=>[⟨some (g_1,48),[v64 r_2.1]⟩,⟨some (g_1,49),[v64 r_2.2]⟩]) (vs:=[ptr (some (g_1,0)) 0,sl (some (g_2.1,0)) ((aad).length) ((aad++g_2.2).length)]) (Lin:=[⟨some (g_1,48),[v64 0#64]⟩,⟨some (g_1,49),[v64 0#64]⟩]) (Ro:=[⟨some (g_1,0),eF (fun p:BitVec 64 × BitVec 64=>[v64 p.1,v64 p.2]) r_1.1.toList⟩,⟨some (g_1,32),e64 r_1.2.toList⟩,⟨some (g_2.1,0),e8 aad⟩]) (is:=[3,3]) rfl call30 (F30_calls g_1 0 (some (g_2.1,0)) ((aad++g_2.2).length) r_1.1 r_1.2 0#64 0#64 aad (row_le _ _) r_2 hr_2) rfl ⟨.o 1, .o 2,(srcdRow (.o 0)),trivial⟩) (fun g_3=>?_)
 refine TL_nil (TX_next (TC_seq (TC_region (TVm ?_))))
 refine TVm ?_
 obtain ⟨r_3,hr_3,H⟩:=bind_elim H
 refine TLe (E_call (Γ:=Unit) (val:=fun g=>Value.tuple [].toArray) (mem:=fun g=>[⟨some (g_1,48),[v64 r_3.1]⟩,⟨some (g_1,49),[v64 r_3.2]⟩]) (vs:=[ptr (some (g_1,0)) 0,sl Ab ((b).length) cb]) (Lin:=[⟨some (g_1,48),[v64 r_2.1]⟩,⟨some (g_1,49),[v64 r_2.2]⟩]) (Ro:=[⟨some (g_1,0),eF (fun p:BitVec 64 × BitVec 64=>[v64 p.1,v64 p.2]) r_1.1.toList⟩,⟨some (g_1,32),e64 r_1.2.toList⟩,⟨Ab,e8 b⟩]) (is:=[0,0]) rfl call30 (F30_calls g_1 0 Ab cb r_1.1 r_1.2 r_2.1 r_2.2 b hcb r_3 hr_3) rfl ⟨.o 1, .o 2, .r 6,trivial⟩) (fun g_4=>?_)
 refine TL_nil (TX_next (TC_seq (TC_region (TVm ?_))))
 refine TLv (V_len_str rfl underlying9) ?_
 refine TLv (V_conv rfl (fun w=>cvI64 w _ _ underlying54 (und3) .i64 ((aad).length:Int))) ?_
 refine TLv (V_bin rfl rfl (fun w=>mul64 w (BitVec.ofInt 64 ((aad).length:Int)) 8#64)) ?_
 refine TVm ?_
 refine TLv (V_len_slice rfl underlying33) ?_
 refine TLv (V_conv rfl (fun w=>cvI64 w _ _ underlying54 (und3) .i64 ((b).length:Int))) ?_
 refine TLv (V_bin rfl rfl (fun w=>mul64 w (BitVec.ofInt 64 ((b).length:Int)) 8#64)) ?_
 refine TLv (V_buildStruct (pv:=[(0,v64 ((BitVec.ofInt 64 ((aad).length:Int)) * 8#64)),(1,v64 ((BitVec.ofInt 64 ((b).length:Int)) * 8#64))]) (pl:=[(0,1),(1,1)]) rfl rfl underlying56 inf56 places56 zer56 (cs:=flat [(1,[v64 ((BitVec.ofInt 64 ((aad).length:Int)) * 8#64)]),(1,[v64 ((BitVec.ofInt 64 ((b).length:Int)) * 8#64)])]) (by kernel_rfl)) ?_
 refine TLe (E_allocP [(1,[v64 0#64]),(1,[v64 0#64])] inf56 zer56 ⟨rfl,rfl,trivial⟩) (fun b1=>?_)
 refine TLn (E_sp (b:=b1) (o:=0) [0,0] [(1,[v64 0#64]),(1,[v64 0#64])] [(1,[v64 ((BitVec.ofInt 64 ((aad).length:Int)) * 8#64)]),(1,[v64 ((BitVec.ofInt 64 ((b).length:Int)) * 8#64)])] rfl inf56 ⟨rfl,rfl,trivial⟩ ⟨rfl,rfl,trivial⟩ ⟨(OneC.cons rfl OneC.nil),(OneC.cons rfl OneC.nil),trivial⟩) (fun _=>?_)
 refine TL_nil (TX_next (TC_seq (TC_region (TLv (V_loadAgg (n:=2) (cs:=flat [(1,[v64 ((BitVec.ofInt 64 ((aad).length:Int)) * 8#64)]),(1,[v64 ((BitVec.ofInt 64 ((b).length:Int)) * 8#64)])]) rfl (by simp) (SrcEnts (b:=b1) [(1,[v64 ((BitVec.ofInt 64 ((aad).length:Int)) * 8#64)]),(1,[v64 ((BitVec.ofInt 64 ((b).length:Int)) * 8#64)])] 0 ⟨rfl,rfl,trivial⟩ (AllSrc.all (M:=ents b1 0 [(1,[v64 ((BitVec.ofInt 64 ((aad).length:Int)) * 8#64)]),(1,[v64 ((BitVec.ofInt 64 ((b).length:Int)) * 8#64)])]) ⟨Src.own (j:=0) rfl,Src.own (j:=1) rfl,trivial⟩)) isAgg56 inf56 rfl (flat_len ⟨rfl,rfl,trivial⟩ rfl)) ?_))))
 obtain ⟨r_4,hr_4,H⟩:=bind_elim H
 refine TLe (E_c0 (F31_calls ((BitVec.ofInt 64 ((aad).length:Int)) * 8#64) ((BitVec.ofInt 64 ((b).length:Int)) * 8#64) r_4 hr_4) call31 .z) (fun g_5=>?_)
 refine TLe (E_allocP [(16,e8 ((replicate 16 0#8).toList))] inf38 zer38 ⟨(lenV (f:=v8) (replicate 16 0#8)),trivial⟩) (fun b2=>?_)
 refine TLn (E_sv (vs:=e8 r_4.toList) 0 inf38) (fun _=>?_)
 refine TL_nil (TX_next (TC.sub (m':=[(0,_),(1,_),(9,_),(11,_)]) ⟨rfl,rfl,rfl,rfl,trivial⟩ ?_))
 refine TC_seq (TC_region (TVm ?_))
 refine TLv (V_sliceArr0 rfl (by simp) underlying38 inf5 rfl) ?_
 refine TL_re (d:=39) (v:=sl (some (b2,0)) 16 16) (v':=sl (some (b2,0)) ((r_4.toList).length) ((r_4.toList).length)) rfl (congrArg (fun n=>sl (some (b2,0)) n n) vec_tl.symm) ?_
 obtain ⟨r_5,hr_5,H⟩:=bind_elim H
 refine TLe (E_call (Γ:=Unit) (val:=fun g=>Value.tuple [].toArray) (mem:=fun g=>[⟨some (g_1,48),[v64 r_5.1]⟩,⟨some (g_1,49),[v64 r_5.2]⟩]) (vs:=[ptr (some (g_1,0)) 0,sl (some (b2,0)) ((r_4.toList).length) ((r_4.toList).length)]) (Lin:=[⟨some (g_1,48),[v64 r_3.1]⟩,⟨some (g_1,49),[v64 r_3.2]⟩]) (Ro:=[⟨some (g_1,0),eF (fun p:BitVec 64 × BitVec 64=>[v64 p.1,v64 p.2]) r_1.1.toList⟩,⟨some (g_1,32),e64 r_1.2.toList⟩,⟨some (b2,0),e8 r_4.toList⟩]) (is:=[3,3]) rfl call37 (F37_calls g_1 0 (some (b2,0)) ((r_4.toList).length) r_1.1 r_1.2 r_3.1 r_3.2 r_4.toList (Nat.le_refl _) r_5 hr_5) rfl ⟨.o 4, .o 5, .o 0,trivial⟩) (fun g_6=>?_)
 refine TL_nil (TX_next (TC_seq (TC_region (TVm ?_))))
 refine TLv (V_nilCheck rfl) ?_
 refine TLv (V_fieldE rfl underlying62 rfl rfl inf56 rfl (v:=ptr (some (g_1,48)) 0) rfl) ?_
 refine TLv (V_loadAgg (n:=2) (cs:=flat [(1,[v64 r_5.1]),(1,[v64 r_5.2])]) rfl (by simp) (SrcEnts (b:=g_1) [(1,[v64 r_5.1]),(1,[v64 r_5.2])] 48 ⟨rfl,rfl,trivial⟩ (AllSrc.all (M:=ents g_1 48 [(1,[v64 r_5.1]),(1,[v64 r_5.2])]) ⟨Src.own (j:=0) rfl,Src.own (j:=1) rfl,trivial⟩)) isAgg56 inf56 rfl (flat_len ⟨rfl,rfl,trivial⟩ rfl)) ?_
 obtain ⟨r_6,hr_6,H⟩:=bind_elim H
 refine TLe (E_c0 (F31_calls r_5.1 r_5.2 r_6 hr_6) call31 .z) (fun g_7=>?_)
 refine TLe (E_allocP [(16,e8 ((replicate 16 0#8).toList))] inf38 zer38 ⟨(lenV (f:=v8) (replicate 16 0#8)),trivial⟩) (fun b3=>?_)
 refine TLn (E_sv (vs:=e8 r_6.toList) 0 inf38) (fun _=>?_)
 refine TL_nil (TX_next (TC_seq ?_))
 obtain ⟨r_7,hr_7,H⟩:=bind_elim H
 obtain ⟨r_8,hr_8,H⟩:=bind_elim H
 refine TA_begin [] 9 (by kernel_rfl) (N:=9) rfl ?_
 refine TA_mix (is:=[]) (done':=dn 9 255) [itV 0 46 (ptr (some (bc,obc)) 0) [],itV 1 47 (ptr (some (bc,obc)) 0) [0],itV 2 48 (ptr (some (bc,obc)) 0) [1],itV 3 49 (ptr (some (bc_aes,obc_aes)) 0) [2],itV 4 50 (vs nonce) [],itV 5 51 (aG [(16,e8 r_7.toList)]) [4],itV 6 52 (aG [(16,e8 r_8.toList)]) [3,5],⟨7,13,fun b4=>ptr (some (b4,0)) 0,fun b4=>[⟨some (b4,0),e8 ((replicate 16 0#8).toList)⟩],[],none⟩] [] 1 (by kernel_rfl) (QP.then QP.body) (by kernel_rfl) rfl (.v rfl (V_move rfl) (.v rfl (V_nilCheck rfl) (.v rfl (V_fe underlying73 inf35) (.v rfl (V_load rfl (.r 0) rfl isAgg35) (.v rfl (V_move rfl) (.e rfl (E_cu (F36_calls nonce 1#32 r_7 hr_7) call36 .z) (.e rfl (E_cu (F18_calls bc_aes obc_aes Ac_aes_keys cc_aes_keys c_aes_table c_aes_keys r_7 hcc_aes_keys r_8 hr_8) call18 ⟨.r 3, .r 4, .r 5,trivial⟩) (.c rfl (fun _ _=>(E_allocP [(16,e8 ((replicate 16 0#8).toList))] inf38 zer38 ⟨(lenV (f:=v8) (replicate 16 0#8)),trivial⟩)) .nil)))))))) .nil (by kernel_rfl) rfl (fun γ=>?_)
 refine TA_cut [(13,ptr (some ((γ 7),0)) 0),(52,aG [(16,e8 r_8.toList)]),(12,ptr (some (b3,0)) 0)] [⟨some ((γ 7),0),e8 ((replicate 16 0#8).toList)⟩,⟨some (b3,0),e8 r_6.toList⟩,⟨some (g_1,48),[v64 r_5.1]⟩,⟨some (g_1,49),[v64 r_5.2]⟩,⟨some (b2,0),e8 r_4.toList⟩,⟨some (b1,0),[v64 ((BitVec.ofInt 64 ((aad).length:Int)) * 8#64)]⟩,⟨some (b1,1),[v64 ((BitVec.ofInt 64 ((b).length:Int)) * 8#64)]⟩,⟨some (g_2.1,0),e8 (aad++g_2.2)⟩,⟨some (g_1,0),eF (fun p:BitVec 64 × BitVec 64=>[v64 p.1,v64 p.2]) r_1.1.toList⟩,⟨some (g_1,32),e64 r_1.2.toList⟩] ⟨rfl,rfl,rfl,trivial⟩ rfl ?_
 generalize γ 7=b4
 refine TA_all (rs:=[8]) (by kernel_rfl) rfl ?_
 refine ⟨?_,trivial⟩
 refine TO_n (is:=[]) (done':=dn 9 511) rfl rfl rfl (by kernel_rfl) (E_sv (vs:=e8 r_8.toList) 0 inf38) (fun _ _=>rfl) (fun _=>?_)
 refine TA_done (by kernel_rfl) ?_ 0
 refine TX_next (TC_seq (TC_seq (TC_region (TVm ?_))))
 refine TL_nil (TX_next (TC_block ?_))
 obtain ⟨t_1,Hl,H⟩:=bind_elim H
 refine TC.sub (m':=[(12,_),(13,_),(53,_)]) ⟨rfl,rfl,rfl,trivial⟩ ?_
 refine TC.pull (is:=[1,0]) (L':=[_,_]) rfl ?_
 refine TC_loopL (id:=0) (body:=(gcm_Cipher_Tag.b0 r_8)) (σ:=Int × Vx 8 16) (Γ:=Unit) (Γx:=Unit) (fun s0 g0_=>[(12,ptr (some (b3,0)) 0),(13,ptr (some (b4,0)) 0),(53,vi s0.1)]) (fun s0 g0_=>[⟨some (b3,0),e8 s0.2.toList⟩,⟨some (b4,0),e8 r_8.toList⟩]) (fun t g=>[(12,ptr (some (b3,0)) 0)]) (fun t g=>[⟨some (b3,0),e8 t.toList⟩]) ?_ BIG (0,r_6) () t_1 Hl ?_
 ·intro s0 g0_ r1 H K hK hE
  unfold gcm_Cipher_Tag.b0 at H
  refine TC_seq (TC_region (TLv (V_bin rfl rfl (fun w=>lssI w s0.1 16)) ?_))
  refine TL_nil (TX_next (TC_seq (TCd H (fun hc H=>?_) (fun hc H=>?_))))
  ·refine TC_skip (TX_next (TC_seq (TC_block (TC_seq (TC_region (TVm ?_))))))
   refine TVa ?_
   refine TL_nil (TX_next ?_)
   obtain ⟨h1,H⟩:=if_elim H
   obtain ⟨h2,H⟩:=if_elim H
   obtain ⟨h3,H⟩:=if_elim H
   obtain ⟨m_1,hm_1,H⟩:=ltt_elim H
   refine TA_begin [] 9 (by kernel_rfl) (N:=9) rfl ?_
   refine TA_mix (is:=[]) (done':=dn 9 255) [itV 0 56 (vi s0.1) [],itV 1 57 (ptr (some (b3,0)) ((s0.1).toNat)) [0],itV 2 58 (v8 (vg s0.2 ((s0.1).toNat))) [1],itV 3 59 (vi s0.1) [],itV 4 60 (ptr (some (b4,0)) ((s0.1).toNat)) [3],itV 5 61 (v8 (vg r_8 ((s0.1).toNat))) [4],itV 6 62 (v8 ((vg s0.2 ((s0.1).toNat)) ^^^ (vg r_8 ((s0.1).toNat)))) [2,5],itV 7 63 (ptr (some (b3,0)) ((s0.1).toNat)) [0]] [] 1 (by kernel_rfl) (QP.block (QP.then (QP.then (QP.block (QP.then QP.body))))) (by kernel_rfl) rfl (.v rfl (V_move rfl) (.v rfl (V_idxArr (i:=s0.1) rfl rfl underlying38 inf5 rfl h1.1 h1.2 (k:=(s0.1).toNat) (k01 _)) (.v rfl (V_load rfl (.o 0) (get_vec (f:=v8) (V:=s0.2) (toNat_lt h1.1 h1.2)) isAgg5) (.v rfl (V_move rfl) (.v rfl (V_idxArr (i:=s0.1) rfl rfl underlying38 inf5 rfl h2.1 h2.2 (k:=(s0.1).toNat) (k01 _)) (.v rfl (V_load rfl (.o 1) (get_vec (f:=v8) (V:=r_8) (toNat_lt h2.1 h2.2)) isAgg5) (.v rfl (V_bin rfl rfl (fun w=>xor8 w (vg s0.2 ((s0.1).toNat)) (vg r_8 ((s0.1).toNat)))) (.v rfl (V_idxArr (i:=s0.1) rfl rfl underlying38 inf5 rfl h3.1 h3.2 (k:=(s0.1).toNat) (k01 _)) .nil)))))))) .nil (by kernel_rfl) rfl (fun γ=>?_)
   refine TA_cut [(63,ptr (some (b3,0)) ((s0.1).toNat)),(62,v8 ((vg s0.2 ((s0.1).toNat)) ^^^ (vg r_8 ((s0.1).toNat)))),(12,ptr (some (b3,0)) 0),(13,ptr (some (b4,0)) 0),(53,vi s0.1)] [⟨some (b3,0),e8 s0.2.toList⟩,⟨some (b4,0),e8 r_8.toList⟩] ⟨rfl,rfl,rfl,rfl,rfl,trivial⟩ rfl ?_
   refine TA_all (rs:=[8]) (by kernel_rfl) rfl ?_
   refine ⟨?_,trivial⟩
   refine TO_n (is:=[]) (done':=dn 9 511) rfl rfl rfl (by kernel_rfl) (E_store (j:=0) rfl rfl inf5 rfl rfl rfl (by simpa using (toNat_lt h3.1 h3.2)) (cs':=e8 ((vp s0.2 ((s0.1).toNat) ((vg s0.2 ((s0.1).toNat)) ^^^ (vg r_8 ((s0.1).toNat)))).toList)) set_vec) (fun _ _=>rfl) (fun _=>?_)
   refine TA_reE (j:=0) (A:=some (b3,0)) (cs:=e8 ((vp s0.2 ((s0.1).toNat) ((vg s0.2 ((s0.1).toNat)) ^^^ (vg r_8 ((s0.1).toNat)))).toList)) (cs':=e8 m_1.toList) rfl (congrArg (fun z:Vx 8 16=>e8 (Vector.toList z)) hm_1) ?_
   refine TA_done (by kernel_rfl) ?_ 0
   refine TX_block_normal (TX_next (TC_region (TLv (V_bin rfl rfl (fun w=>addI w s0.1 1)) ?_)))
   refine TVm ?_
   refine TL_nil ?_
   obtain rfl:=sj H
   exact TXk [0,0] (hK (w64 (s0.1+1),m_1) rfl ())
  ·refine TC_exit (TX_then_exit (TX_then_exit ?_))
   obtain rfl:=sj H
   exact TXj [0] (hE s0.2 rfl ())
 ·intro g
  refine TX_block_exit (TX_next (TC_seq (TC_region (TLv (V_sliceArr0 rfl (by simp) underlying38 inf5 rfl) ?_))))
  refine TLv (V_b2s rfl underlying33 underlying5 underlying9 (.o 0) (by simp)) ?_
  refine TVa ?_
  refine TL_nil (TX_next (TC_ret ?_))
  obtain rfl:=sj H
  exact TX1
end Go.Proofs
end

section
namespace Go.Proofs
open Go Go.Kx
open TryI Try
def gcm_Seal (key:Str) (nonce:Str) (aad:Str) (s_:Str):Option (Str × Int) :=
 (gcm_New key).bind fun (r_1:(Unit) ⊕ (Vx 8 256 × Nat × List (Vx 8 16) × BitVec 64 × BitVec 64))=>(match r_1 with | .inl r_1=>(some (([]:Str),500)) | .inr r_1=>((gcm_may nonce aad 65536 ((s_).length:Int)).bind fun (r_2:Bool)=>(if (!r_2)=true then (some (([]:Str),500)) else (if r_1.2.1=(r_1.2.2.1).length then ((gcm_Cipher_Xor r_1.1 r_1.2.2.1 r_1.2.2.2.1 r_1.2.2.2.2 nonce s_).bind fun (r_3:List (BitVec 8))=>(if (r_3).length=(s_).length then ((gcm_Cipher_Tag r_1.1 r_1.2.2.1 r_1.2.2.2.1 r_1.2.2.2.2 nonce aad r_3).bind fun (r_4:Str)=>(if (r_3).length+(r_4).length≤4611686018427387904 then (some (r_3++r_4,0)) else none)) else none)) else none))))
set_option maxHeartbeats 4000000 in
set_option maxRecDepth 20000 in
theorem F10_calls (key:Str) (nonce:Str) (aad:Str) (s_:Str) (r:Str × Int) (H:gcm_Seal key nonce aad s_=some r) :
  Does Try.prog 10 [vs key,vs nonce,vs aad,vs s_] [] [] (Γ:=Unit) (fun g=>Value.tuple [vs r.1,vi r.2].toArray) (fun g=>[]):=by
 intro w hmem hro hd
 refine calls_of (N:=42) (m0:=[(0,vs key),(1,vs nonce),(2,vs aad),(3,vs s_)]) func10 rfl ntmps10 (argM_ok [vs key,vs nonce,vs aad,vs s_]) rfl hmem hro hd ?_
 unfold gcm_Seal at H
 refine TC_seq (TC_region (TVa ?_))
 refine TVa ?_
 refine TL_nil (TX_next (TC_seq (TC_region (TVm ?_))))
 obtain ⟨r_1,hr_1,H⟩:=bind_elim H
 rcases r_1 with r_1 | r_1
 ·dsimp only at H
  refine TL_e rfl rfl rfl (E_call (Γ:=Unit × (Nat × Nat × Nat)) (val:=fun g=>Value.tuple [Value.pointer none,vb false].toArray) (mem:=fun g=>[]) (vs:=[vs key]) (Lin:=[]) (Ro:=[]) (is:=[]) rfl call21 (F21_calls key (.inl r_1) hr_1) rfl trivial) (fun g_1=>?_)
  refine TVm ?_
  refine TLv V_ex ?_
  refine TLv V_ex ?_
  refine TVa ?_
  refine TVa ?_
  refine TL_nil (TX_next (TC_seq (TC_seq (TC_region (TVm ?_)))))
  refine TLv (V_un rfl (fun w=>notB w false)) ?_
  refine TVm ?_
  refine TLs ?_
  refine TLs ?_
  refine TLs ?_
  refine TLs ?_
  refine TLs ?_
  refine TLs ?_
  refine TVt ?_
  refine TL_nil (TX_next (TC_cond_t rfl ?_))
  refine TC_seq (TC_region (TVa ?_))
  refine TVa ?_
  refine TL_nil (TX_next (TC_ret (TX_then_ret ?_)))
  obtain rfl:=sj H
  exact TX2
 ·dsimp only at H
  refine TL_e rfl rfl rfl (E_call (Γ:=Unit × (Nat × Nat × Nat)) (val:=fun g=>Value.tuple [ptr (some (g.2.1,0)) 0,vb true].toArray) (mem:=fun g=>[⟨some (g.2.1,0),[ptr (some (g.2.2.1,0)) 0]⟩,⟨some (g.2.2.1,0),e8 r_1.1.toList⟩,⟨some (g.2.2.1,256),[sl (some (g.2.2.2,0)) r_1.2.1 r_1.2.1]⟩,⟨some (g.2.2.2,0),eF (fun V:Vx 8 16=>e8 V.toList) r_1.2.2.1⟩,⟨some (g.2.1,1),[v64 r_1.2.2.2.1]⟩,⟨some (g.2.1,2),[v64 r_1.2.2.2.2]⟩]) (vs:=[vs key]) (Lin:=[]) (Ro:=[]) (is:=[]) rfl call21 (F21_calls key (.inr r_1) hr_1) rfl trivial) (fun g_2=>?_)
  refine TVm ?_
  refine TLv V_ex ?_
  refine TLv V_ex ?_
  refine TVa ?_
  refine TVa ?_
  refine TL_nil (TX_next (TC_seq (TC_seq (TC_region (TVm ?_)))))
  refine TLv (V_un rfl (fun w=>notB w true)) ?_
  refine TVm ?_
  refine TLw (V_move rfl) ?_
  refine TLw (V_move rfl) ?_
  refine TLw (V_move rfl) ?_
  refine TLw (V_len_str rfl underlying9) ?_
  obtain ⟨r_2,hr_2,H⟩:=bind_elim H
  refine TLu (E_c0 (F22_calls nonce aad 65536 ((s_).length:Int) r_2 hr_2) call22 .z) (fun g_3=>?_)
  refine TLw (V_un rfl (fun w=>notB w r_2)) ?_
  refine TVf ?_
  refine TL_nil (TX_next (TCb H (fun hc H=>?_) (fun hc H=>?_)))
  ·refine TC_seq (TC_region (TVa ?_))
   refine TVa ?_
   refine TL_nil (TX_next (TC_ret (TX_then_ret ?_)))
   obtain rfl:=sj H
   exact TX2
  ·refine TC_skip (TX_next (TC_seq (TC_region (TVm ?_))))
   refine TLe (E_s2bR rfl underlying9 underlying33 underlying5) (fun g_4=>?_)
   refine TVa ?_
   refine TL_nil (TX_next (TC_seq (TC_region (TVm ?_))))
   refine TVm ?_
   refine TVm ?_
   obtain ⟨h1,H⟩:=if_elim H
   refine TL_reE (j:=3) (A:=some (g_2.2.2.1,256)) (cs:=[sl (some (g_2.2.2.2,0)) r_1.2.1 r_1.2.1]) (cs':=[sl (some (g_2.2.2.2,0)) ((r_1.2.2.1).length) ((r_1.2.2.1).length)]) rfl (congrArg (fun n=>[sl (some (g_2.2.2.2,0)) n n]) h1) ?_
   obtain ⟨r_3,hr_3,H⟩:=bind_elim H
   refine TLe (E_call (Γ:=Unit) (val:=fun g=>Value.tuple [].toArray) (mem:=fun g=>[⟨some (g_4.1,0),e8 (r_3++g_4.2)⟩]) (vs:=[ptr (some (g_2.2.1,0)) 0,vs nonce,sl (some (g_4.1,0)) ((s_).length) ((s_++g_4.2).length)]) (Lin:=[⟨some (g_4.1,0),e8 (s_++g_4.2)⟩]) (Ro:=[⟨some (g_2.2.1,0),[ptr (some (g_2.2.2.1,0)) 0]⟩,⟨some (g_2.2.1,1),[v64 r_1.2.2.2.1]⟩,⟨some (g_2.2.1,2),[v64 r_1.2.2.2.2]⟩,⟨some (g_2.2.2.1,0),e8 r_1.1.toList⟩,⟨some (g_2.2.2.1,256),[sl (some (g_2.2.2.2,0)) ((r_1.2.2.1).length) ((r_1.2.2.1).length)]⟩,⟨some (g_2.2.2.2,0),eF (fun V:Vx 8 16=>e8 V.toList) r_1.2.2.1⟩]) (is:=[0]) rfl call23 (F23_calls g_2.2.1 0 g_2.2.2.1 0 (some (g_2.2.2.2,0)) ((r_1.2.2.1).length) (some (g_4.1,0)) g_4.2 r_1.1 r_1.2.2.1 r_1.2.2.2.1 r_1.2.2.2.2 nonce s_ (Nat.le_refl _) r_3 hr_3) rfl ⟨.o 0, .o 4, .o 5, .o 1, .o 2, .o 3,trivial⟩) (fun g_5=>?_)
   obtain ⟨h2,H⟩:=if_elim H
   refine TL_re (d:=29) (v:=sl (some (g_4.1,0)) ((s_).length) ((s_++g_4.2).length)) (v':=sl (some (g_4.1,0)) ((r_3).length) ((r_3++g_4.2).length)) rfl (row_len h2) ?_
   refine TL_re (d:=12) (v:=sl (some (g_4.1,0)) ((s_).length) ((s_++g_4.2).length)) (v':=sl (some (g_4.1,0)) ((r_3).length) ((r_3++g_4.2).length)) rfl (row_len h2) ?_
   refine TL_re (d:=32) (v:=sl (some (g_4.1,0)) ((s_).length) ((s_++g_4.2).length)) (v':=sl (some (g_4.1,0)) ((r_3).length) ((r_3++g_4.2).length)) rfl (row_len h2) ?_
   refine TL_nil (TX_next (TC.sub (m':=[(1,_),(2,_),(10,_),(12,_)]) ⟨rfl,rfl,rfl,rfl,trivial⟩ ?_))
   refine TC_seq ?_
   obtain ⟨r_4,hr_4,H⟩:=bind_elim H
   obtain ⟨h3,H⟩:=if_elim H
   refine TA_begin [] 10 (by kernel_rfl) (N:=10) rfl ?_
   refine TA_mix (is:=[]) (done':=dn 10 1023) [itV 0 34 (sl (some (g_4.1,0)) ((r_3).length) ((r_3++g_4.2).length)) [],itV 1 35 (vs r_3) [0],itV 2 36 (ptr (some (g_2.2.1,0)) 0) [],itV 3 37 (vs nonce) [],itV 4 38 (vs aad) [],itV 5 39 (sl (some (g_4.1,0)) ((r_3).length) ((r_3++g_4.2).length)) [],itV 6 40 (vs r_4) [2,3,4,5],itV 7 41 (vs (r_3++r_4)) [6,1],itV 8 8 (vs (r_3++r_4)) [7],itV 9 9 (vi 0) []] [] 0 (by kernel_rfl) (QP.then QP.body) (by kernel_rfl) rfl (.v rfl (V_move rfl) (.v rfl (V_b2s rfl underlying33 underlying5 underlying9 (srcRow (.o 0)) rfl) (.v rfl (V_move rfl) (.v rfl (V_move rfl) (.v rfl (V_move rfl) (.v rfl (V_move rfl) (.e rfl (E_cu (F24_calls g_2.2.1 0 g_2.2.2.1 0 (some (g_2.2.2.2,0)) ((r_1.2.2.1).length) (some (g_4.1,0)) ((r_3++g_4.2).length) r_1.1 r_1.2.2.1 r_1.2.2.2.1 r_1.2.2.2.2 nonce aad r_3 (Nat.le_refl _) (row_le _ _) r_4 hr_4) call24 ⟨.o 1, .o 5, .o 6, .o 2, .o 3, .o 4,(srcdRow (.o 0)),trivial⟩) (.v rfl (V_bin rfl rfl (fun w=>addS w r_3 r_4 h3)) (.v rfl (V_assign rfl) (.v rfl (V_assign rfl) .nil)))))))))) .nil (by kernel_rfl) rfl (fun γ=>?_)
   refine TA_cut [(9,vi 0),(8,vs (r_3++r_4))] [⟨some (g_4.1,0),e8 (r_3++g_4.2)⟩,⟨some (g_2.2.1,0),[ptr (some (g_2.2.2.1,0)) 0]⟩,⟨some (g_2.2.2.1,0),e8 r_1.1.toList⟩,⟨some (g_2.2.2.1,256),[sl (some (g_2.2.2.2,0)) ((r_1.2.2.1).length) ((r_1.2.2.1).length)]⟩,⟨some (g_2.2.2.2,0),eF (fun V:Vx 8 16=>e8 V.toList) r_1.2.2.1⟩,⟨some (g_2.2.1,1),[v64 r_1.2.2.2.1]⟩,⟨some (g_2.2.1,2),[v64 r_1.2.2.2.2]⟩] ⟨rfl,rfl,trivial⟩ rfl ?_
   refine TA_done (by kernel_rfl) ?_ 0
   refine TX_next (TC_ret ?_)
   obtain rfl:=sj H
   exact TX2
end Go.Proofs
end

section
namespace Go.Proofs
open Go Go.Kx
open TryI Try
def halberdref4_counter.b1 (s_:Str) (s0:Int × List (BitVec 8)) (r_2:Str) (s1:Int × List (BitVec 8)):Option ((Int × List (BitVec 8)) ⊕ (List (BitVec 8))) :=
 if s1.1<16 then (if (w64 (s0.1+s1.1))<((s_).length:Int) then (if 0≤w64 (s0.1+s1.1)∧w64 (s0.1+s1.1)<((s_).length:Int) then (if 0≤s1.1∧s1.1<((r_2).length:Int) then (if 0≤w64 (s0.1+s1.1)∧w64 (s0.1+s1.1)<((((s_).length:Int)).toNat:Int) then (if (w64 (s0.1+s1.1)).toNat<(s1.2).length then (ltt (s1.2.set ((w64 (s0.1+s1.1)).toNat) ((sg s_ (w64 (s0.1+s1.1))) ^^^ (sg r_2 s1.1))) fun (m_1:List (BitVec 8))=>(ltt (w64 (s1.1+1)) fun (j1:Int)=>(some (.inl (j1,m_1))))) else none) else none) else none) else none) else (some (.inr s1.2))) else (some (.inr s1.2))
def halberdref4_counter.b0 (w_:List (Vx 8 4)) (nonce:Str) (from_:Int) (s_:Str) (s0:Int × List (BitVec 8)):Option ((Int × List (BitVec 8)) ⊕ (List (BitVec 8))) :=
 if s0.1<((s_).length:Int) then ((halberdref1_Be (w64 (from_+(w64 (s0.1.tdiv 16)))) 4).bind fun (r_1:Str)=>(if (nonce).length+(r_1).length≤4611686018427387904 then ((halberdref4_cipher w_ (nonce++r_1)).bind fun (r_2:Str)=>((loop (halberdref4_counter.b1 s_ s0 r_2) BIG (0,s0.2)).bind fun (t_2:List (BitVec 8))=>(ltt (w64 (s0.1+16)) fun (i1:Int)=>(some (.inl (i1,t_2)))))) else none)) else (some (.inr s0.2))
def halberdref4_counter (w_:List (Vx 8 4)) (nonce:Str) (from_:Int) (s_:Str):Option (Str) :=
 if 0≤((s_).length:Int)∧((s_).length:Int)≤17592186044416 then ((loop (halberdref4_counter.b0 w_ nonce from_ s_) BIG (0,List.replicate ((((s_).length:Int)).toNat) 0#8)).bind fun (t_1:List (BitVec 8))=>(if (t_1).length=(((s_).length:Int)).toNat then (some t_1) else none)) else none
end Go.Proofs
end

section
namespace Go.Proofs
open Go Go.Kx
open TryI Try
def gcm_Open (key:Str) (nonce:Str) (aad:Str) (s_:Str):Option (Str × Int) :=
 (gcm_New key).bind fun (r_1:(Unit) ⊕ (Vx 8 256 × Nat × List (Vx 8 16) × BitVec 64 × BitVec 64))=>(match r_1 with | .inl r_1=>(some (([]:Str),500)) | .inr r_1=>((gcm_may nonce aad 65552 ((s_).length:Int)).bind fun (r_2:Bool)=>(if (!r_2)=true then (some (([]:Str),500)) else (ltt (w64 (((s_).length:Int) - 16)) fun (n1:Int)=>(if n1<0 then (some (([]:Str),501)) else (if 0≤n1 then (if (n1).toNat≤(s_).length then (if r_1.2.1=(r_1.2.2.1).length then ((gcm_Cipher_Tag r_1.1 r_1.2.2.1 r_1.2.2.2.1 r_1.2.2.2.2 nonce aad (sub s_ 0 ((n1).toNat))).bind fun (r_3:Str)=>(if 0≤n1 then (if (n1).toNat≤(s_).length then (if r_3 ≠ sub s_ ((n1).toNat) ((s_).length) then (some (([]:Str),501)) else ((gcm_Cipher_Xor r_1.1 r_1.2.2.1 r_1.2.2.2.1 r_1.2.2.2.2 nonce (sub s_ 0 ((n1).toNat))).bind fun (r_4:List (BitVec 8))=>(if (r_4).length=(sub s_ 0 ((n1).toNat)).length then (some (r_4,0)) else none))) else none) else none)) else none) else none) else none))))))
set_option maxHeartbeats 4000000 in
set_option maxRecDepth 20000 in
theorem F12_calls (key:Str) (nonce:Str) (aad:Str) (s_:Str) (r:Str × Int) (H:gcm_Open key nonce aad s_=some r) :
  Does Try.prog 12 [vs key,vs nonce,vs aad,vs s_] [] [] (Γ:=Unit) (fun g=>Value.tuple [vs r.1,vi r.2].toArray) (fun g=>[]):=by
 intro w hmem hro hd
 refine calls_of (N:=53) (m0:=[(0,vs key),(1,vs nonce),(2,vs aad),(3,vs s_)]) func12 rfl ntmps12 (argM_ok [vs key,vs nonce,vs aad,vs s_]) rfl hmem hro hd ?_
 unfold gcm_Open at H
 refine TC_seq (TC_region (TVa ?_))
 refine TVa ?_
 refine TL_nil (TX_next (TC_seq (TC_region (TVm ?_))))
 obtain ⟨r_1,hr_1,H⟩:=bind_elim H
 rcases r_1 with r_1 | r_1
 ·dsimp only at H
  refine TL_e rfl rfl rfl (E_call (Γ:=Unit × (Nat × Nat × Nat)) (val:=fun g=>Value.tuple [Value.pointer none,vb false].toArray) (mem:=fun g=>[]) (vs:=[vs key]) (Lin:=[]) (Ro:=[]) (is:=[]) rfl call21 (F21_calls key (.inl r_1) hr_1) rfl trivial) (fun g_1=>?_)
  refine TVm ?_
  refine TLv V_ex ?_
  refine TLv V_ex ?_
  refine TVa ?_
  refine TVa ?_
  refine TL_nil (TX_next (TC_seq (TC_seq (TC_region (TVm ?_)))))
  refine TLv (V_un rfl (fun w=>notB w false)) ?_
  refine TVm ?_
  refine TLs ?_
  refine TLs ?_
  refine TLs ?_
  refine TLs ?_
  refine TLs ?_
  refine TLs ?_
  refine TVt ?_
  refine TL_nil (TX_next (TC_cond_t rfl ?_))
  refine TC_seq (TC_region (TVa ?_))
  refine TVa ?_
  refine TL_nil (TX_next (TC_ret (TX_then_ret ?_)))
  obtain rfl:=sj H
  exact TX2
 ·dsimp only at H
  refine TL_e rfl rfl rfl (E_call (Γ:=Unit × (Nat × Nat × Nat)) (val:=fun g=>Value.tuple [ptr (some (g.2.1,0)) 0,vb true].toArray) (mem:=fun g=>[⟨some (g.2.1,0),[ptr (some (g.2.2.1,0)) 0]⟩,⟨some (g.2.2.1,0),e8 r_1.1.toList⟩,⟨some (g.2.2.1,256),[sl (some (g.2.2.2,0)) r_1.2.1 r_1.2.1]⟩,⟨some (g.2.2.2,0),eF (fun V:Vx 8 16=>e8 V.toList) r_1.2.2.1⟩,⟨some (g.2.1,1),[v64 r_1.2.2.2.1]⟩,⟨some (g.2.1,2),[v64 r_1.2.2.2.2]⟩]) (vs:=[vs key]) (Lin:=[]) (Ro:=[]) (is:=[]) rfl call21 (F21_calls key (.inr r_1) hr_1) rfl trivial) (fun g_2=>?_)
  refine TVm ?_
  refine TLv V_ex ?_
  refine TLv V_ex ?_
  refine TVa ?_
  refine TVa ?_
  refine TL_nil (TX_next (TC_seq (TC_seq (TC_region (TVm ?_)))))
  refine TLv (V_un rfl (fun w=>notB w true)) ?_
  refine TVm ?_
  refine TLw (V_move rfl) ?_
  refine TLw (V_move rfl) ?_
  refine TLw (V_move rfl) ?_
  refine TLw (V_len_str rfl underlying9) ?_
  obtain ⟨r_2,hr_2,H⟩:=bind_elim H
  refine TLu (E_c0 (F22_calls nonce aad 65552 ((s_).length:Int) r_2 hr_2) call22 .z) (fun g_3=>?_)
  refine TLw (V_un rfl (fun w=>notB w r_2)) ?_
  refine TVf ?_
  refine TL_nil (TX_next (TCb H (fun hc H=>?_) (fun hc H=>?_)))
  ·refine TC_seq (TC_region (TVa ?_))
   refine TVa ?_
   refine TL_nil (TX_next (TC_ret (TX_then_ret ?_)))
   obtain rfl:=sj H
   exact TX2
  ·refine TC_skip (TX_next (TC_seq (TC_region (TVm ?_))))
   refine TLv (V_len_str rfl underlying9) ?_
   refine TLv (V_bin rfl rfl (fun w=>subI w ((s_).length:Int) 16)) ?_
   refine TVa ?_
   obtain ⟨n1,hn1,H⟩:=ltt_elim H
   refine TLr 12 (congrArg vi hn1) ?_
   refine TL_nil (TX_next (TC_seq (TC_seq (TC_region (TVm ?_)))))
   refine TLv (V_bin rfl rfl (fun w=>lssI w n1 0)) ?_
   refine TL_nil (TX_next (TCd H (fun hc H=>?_) (fun hc H=>?_)))
   ·refine TC_seq (TC_region (TVa ?_))
    refine TVa ?_
    refine TL_nil (TX_next (TC.sub (m':=[(8,_),(9,_)]) ⟨rfl,rfl,trivial⟩ ?_))
    refine TC_ret (TX_then_ret ?_)
    obtain rfl:=sj H
    exact TX2
   ·refine TC_skip (TX_next (TC_seq (TC_region (TVm ?_))))
    refine TVm ?_
    obtain ⟨h1,H⟩:=if_elim H
    obtain ⟨h2,H⟩:=if_elim H
    refine TLv (V_sliceStr (l:=0) (h:=(n1).toNat) rfl underlying9 Bnd.none' (Bnd.some' (i:=n1) rfl h1) (Nat.zero_le _) h2) ?_
    refine TLe (E_s2bR rfl underlying9 underlying33 underlying5) (fun g_4=>?_)
    refine TVa ?_
    refine TL_nil (TX_next (TC.sub (m':=[(1,_),(2,_),(3,_),(10,_),(12,_),(13,_)]) ⟨rfl,rfl,rfl,rfl,rfl,rfl,trivial⟩ ?_))
    refine TC_seq (TC_seq ?_)
    obtain ⟨h3,H⟩:=if_elim H
    obtain ⟨r_3,hr_3,H⟩:=bind_elim H
    obtain ⟨h4,H⟩:=if_elim H
    obtain ⟨h5,H⟩:=if_elim H
    refine TA_begin [⟨some (g_4.1,0),e8 ((sub s_ 0 ((n1).toNat))++g_4.2)⟩,⟨some (g_2.2.1,0),[ptr (some (g_2.2.2.1,0)) 0]⟩,⟨some (g_2.2.2.1,0),e8 r_1.1.toList⟩,⟨some (g_2.2.2.2,0),eF (fun V:Vx 8 16=>e8 V.toList) r_1.2.2.1⟩,⟨some (g_2.2.1,1),[v64 r_1.2.2.2.1]⟩,⟨some (g_2.2.1,2),[v64 r_1.2.2.2.2]⟩] 9 (by kernel_rfl) (N:=9) rfl ?_
    refine TA_tk 0 [0,0,0,1,1,1] (dn 9 1) rfl rfl (V_move rfl) ?_
    refine TA_tk 1 [0,0,0,1,1,1] (dn 9 3) rfl rfl (V_move rfl) ?_
    refine TA_tk 2 [0,0,0,1,1,1] (dn 9 7) rfl rfl (V_move rfl) ?_
    refine TA_tk 3 [0,0,0,1,1,1] (dn 9 15) rfl rfl (V_move rfl) ?_
    refine TA_tk 5 [0,0,0,1,1,1] (dn 9 47) rfl rfl (V_move rfl) ?_
    refine TA_tk 6 [0,0,0,1,1,1] (dn 9 111) rfl rfl (V_move rfl) ?_
    refine TA_tk 7 [0,0,0,1,1,1] (dn 9 239) rfl rfl (V_sliceStr (l:=(n1).toNat) (h:=(s_).length) rfl underlying9 (Bnd.some' (i:=n1) rfl h4) Bnd.none' h5 (Nat.le_refl _)) ?_
    refine TA_all (rs:=[4]) (by kernel_rfl) rfl ?_
    refine ⟨?_,trivial⟩
    refine TO_reE (j:=3) (A:=some (g_2.2.2.1,256)) (cs:=[sl (some (g_2.2.2.2,0)) r_1.2.1 r_1.2.1]) (cs':=[sl (some (g_2.2.2.2,0)) ((r_1.2.2.1).length) ((r_1.2.2.1).length)]) rfl (congrArg (fun n=>[sl (some (g_2.2.2.2,0)) n n]) h3) ?_
    refine TO_e (is:=[0,0,0,1,1,1]) (done':=dn 9 255) rfl rfl rfl rfl (by kernel_rfl) (E_c0 (F24_calls g_2.2.1 0 g_2.2.2.1 0 (some (g_2.2.2.2,0)) ((r_1.2.2.1).length) (some (g_4.1,0)) (((sub s_ 0 ((n1).toNat))++g_4.2).length) r_1.1 r_1.2.2.1 r_1.2.2.2.1 r_1.2.2.2.2 nonce aad (sub s_ 0 ((n1).toNat)) (Nat.le_refl _) (row_le _ _) r_3 hr_3) call24 ⟨.o 1, .o 5, .o 6, .o 2, .o 3, .o 4,(srcdRow (.o 0)),trivial⟩) (fun _ _=>rfl) (fun g_5=>?_)
    refine TA_tk 8 [0,0,0,1,1,1] (dn 9 511) rfl rfl (V_bin rfl rfl (fun w=>neqS w r_3 (sub s_ ((n1).toNat) ((s_).length)))) ?_
    refine TA_done (by kernel_rfl) ?_ 0
    refine TX_next (TCd H (fun hc H=>?_) (fun hc H=>?_))
    ·refine TC_seq (TC_region (TVa ?_))
     refine TVa ?_
     refine TL_nil (TX_next (TC_ret (TX_then_ret ?_)))
     obtain rfl:=sj H
     exact TX2
    ·refine TC_skip (TX_next (TC_seq (TC_region (TVm ?_))))
     refine TVm ?_
     refine TVm ?_
     obtain ⟨r_4,hr_4,H⟩:=bind_elim H
     refine TLe (E_call (Γ:=Unit) (val:=fun g=>Value.tuple [].toArray) (mem:=fun g=>[⟨some (g_4.1,0),e8 (r_4++g_4.2)⟩]) (vs:=[ptr (some (g_2.2.1,0)) 0,vs nonce,sl (some (g_4.1,0)) ((sub s_ 0 ((n1).toNat)).length) (((sub s_ 0 ((n1).toNat))++g_4.2).length)]) (Lin:=[⟨some (g_4.1,0),e8 ((sub s_ 0 ((n1).toNat))++g_4.2)⟩]) (Ro:=[⟨some (g_2.2.1,0),[ptr (some (g_2.2.2.1,0)) 0]⟩,⟨some (g_2.2.1,1),[v64 r_1.2.2.2.1]⟩,⟨some (g_2.2.1,2),[v64 r_1.2.2.2.2]⟩,⟨some (g_2.2.2.1,0),e8 r_1.1.toList⟩,⟨some (g_2.2.2.1,256),[sl (some (g_2.2.2.2,0)) ((r_1.2.2.1).length) ((r_1.2.2.1).length)]⟩,⟨some (g_2.2.2.2,0),eF (fun V:Vx 8 16=>e8 V.toList) r_1.2.2.1⟩]) (is:=[0]) rfl call23 (F23_calls g_2.2.1 0 g_2.2.2.1 0 (some (g_2.2.2.2,0)) ((r_1.2.2.1).length) (some (g_4.1,0)) g_4.2 r_1.1 r_1.2.2.1 r_1.2.2.2.1 r_1.2.2.2.2 nonce (sub s_ 0 ((n1).toNat)) (Nat.le_refl _) r_4 hr_4) rfl ⟨.o 0, .o 4, .o 5, .o 1, .o 2, .o 3,trivial⟩) (fun g_6=>?_)
     obtain ⟨h6,H⟩:=if_elim H
     refine TL_re (d:=13) (v:=sl (some (g_4.1,0)) ((sub s_ 0 ((n1).toNat)).length) (((sub s_ 0 ((n1).toNat))++g_4.2).length)) (v':=sl (some (g_4.1,0)) ((r_4).length) ((r_4++g_4.2).length)) rfl (row_len h6) ?_
     refine TL_re (d:=41) (v:=sl (some (g_4.1,0)) ((sub s_ 0 ((n1).toNat)).length) (((sub s_ 0 ((n1).toNat))++g_4.2).length)) (v':=sl (some (g_4.1,0)) ((r_4).length) ((r_4++g_4.2).length)) rfl (row_len h6) ?_
     refine TL_re (d:=49) (v:=sl (some (g_4.1,0)) ((sub s_ 0 ((n1).toNat)).length) (((sub s_ 0 ((n1).toNat))++g_4.2).length)) (v':=sl (some (g_4.1,0)) ((r_4).length) ((r_4++g_4.2).length)) rfl (row_len h6) ?_
     refine TL_nil (TX_next (TC_seq (TC_region (TVm ?_))))
     refine TLv (V_b2s rfl underlying33 underlying5 underlying9 (srcRow (.o 0)) rfl) ?_
     refine TVa ?_
     refine TVa ?_
     refine TL_nil (TX_next (TC_ret ?_))
     obtain rfl:=sj H
     exact TX2
end Go.Proofs
end

section
namespace Go.Proofs
open Go Go.Kx
open Vector (replicate)
abbrev okKey (key:Str):Prop:=key.length=16 ∨ key.length=32
def kw (key:Str):List V4:=(Wst key (key.length / 4) (4 * (key.length / 4+7))).2
def ek (key:Str) (b:V16):V16:=encV (keysOf (kw key)) b
theorem kw_len (key:Str):(kw key).length=4 * (key.length / 4+7):=Wst_len key _ _
theorem keys_len (key:Str):(keysOf (kw key)).length=key.length / 4+7:=by rw [keysOf_length,kw_len]; omega
theorem Enc_eq (key:Str) (hk:okKey key) (b:V16):aes_Cipher_Encrypt BOXV (keysOf (kw key)) b=some (ek key b) :=
 enc_eq _ b (by rw [keys_len]; omega) (by rw [keys_len]; unfold okKey at hk; omega)
def hE (key:Str):E2:=ld (ek key (replicate 16 0#8)).toList 0
theorem gNew_eq (key:Str) (hk:okKey key):gcm_New key=some (.inr (BOXV,key.length / 4+7,keysOf (kw key),(hE key).1,(hE key).2)):=by
 unfold gcm_New
 have hn:key.length / 4=4 ∨ key.length / 4=8:=by unfold okKey at hk; omega
 have h4:key.length=4 * (key.length / 4):=by unfold okKey at hk; omega
 refine bind_i (New_eq key _ hn h4) (if_i (keys_len key).symm (bind_i (Enc_eq key hk _) (bind_i (load_eq _ (by simp) (by simp)) ?_)))
 simp only
 rw [show (keysOf (Wst key (key.length / 4) (4 * (key.length / 4+7))).2).length=key.length / 4+7 from keys_len key]
 rfl
theorem gNew_none (key:Str) (hk : ¬ okKey key):gcm_New key=some (.inl ()):=by
 unfold gcm_New
 refine bind_i (v := .inl ()) ?_ rfl
 unfold okKey at hk
 unfold aes_New
 exact if_i (by omega) (if_i (by omega) rfl)
def cb (nonce:Str) (n:Nat):V16:=toV (nonce++bytesI (n:Int) 4)
theorem counter_eq (nonce:Str) (n:Nat) (hn:nonce.length=12) (h:n<4294967296):gcm_counter nonce (BitVec.ofNat 32 n)=some (cb nonce n):=by
 have hb:=bytesI_length (n:Int) 4
 have hbt : ∀ i,i<4 → (bytesI (n:Int) 4).getD i 0#8=((BitVec.ofNat 32 n) >>> (8 * (3 - i))).setWidth 8:=fun i hi=>by
  unfold bytesI
  rw [List.getD_eq_getElem?_getD,List.getElem?_map,List.getElem?_range hi]
  apply BitVec.eq_of_toNat_eq
  have h3:((n:Int) / 256 ^ (4 - 1 - i))=((n / 2 ^ (8 * (3 - i)):Nat):Int):=by
   rw [Nat.pow_mul]; simp
  simp only [Option.map_some,Option.getD_some,h3,BitVec.toNat_ofInt,BitVec.toNat_setWidth,BitVec.toNat_ushiftRight,BitVec.toNat_ofNat,Nat.shiftRight_eq_div_pow]
  rw [Nat.mod_eq_of_lt (a:=n) (by omega)]
  omega
 unfold gcm_counter
 refine ltt_i fun m hm=>bind_i (v:=cb nonce n) (loop_fn (fun k=>((k:Int),(Vector.ofFn fun i=>if 12≤i.val∧i.val+k<16 then 0#8 else (nonce++bytesI (n:Int) 4).getD i.val 0#8:V16))) 4 _ (by omega) ?_ (fun k hk=>?_) ?_) rfl
 ·refine Prod.ext rfl (vec_ext fun i hi=>?_)
  have ht:nonce.take (min nonce.length 16)=nonce:=List.take_of_length_le (by omega)
  rw [hm,ht,vg_vsp _ _ _ _ (by omega) hi,vg_ofFn hi]
  dsimp only
  by_cases c:i<12
  ·rw [if_pos (by omega),if_neg (by omega),List.getD_eq_getElem?_getD,List.getD_eq_getElem?_getD,List.getElem?_append_left (by omega),Nat.sub_zero]
   rfl
  ·rw [if_neg (by omega),if_pos (by omega),vg_eq' hi]; simp
 ·have e1:w64 ((k:Int)+1)=((k+1:Nat):Int):=w64_add (b:=1) (by omega)
  have e2:w64 (8 * (k:Int))=((8 * k:Nat):Int):=w64_mul (a:=8) (by omega)
  have e3:w64 (15 - (k:Int))=((15 - k:Nat):Int):=w64_sub (a:=15) (by omega) (by omega)
  unfold gcm_counter.b0
  simp only [e1,e2,e3,Int.toNat_natCast]
  clear e1 e2 e3
  refine if_i (by omega) (if_i (by omega) (if_i (by omega) (ltt_i fun m2 hm2=>?_)))
  have:m2=(Vector.ofFn fun i=>if 12≤i.val∧i.val+(k+1)<16 then 0#8 else (nonce++bytesI (n:Int) 4).getD i.val 0#8:V16):=by
   rw [hm2]
   refine vec_ext fun i hi=>?_
   rw [vg_vp (by omega) hi,vg_ofFn hi,vg_ofFn hi]
   dsimp only
   by_cases c:15 - k=i
   ·rw [if_pos c,if_neg (by omega),List.getD_eq_getElem?_getD,List.getElem?_append_right (by omega), ← List.getD_eq_getElem?_getD,hbt _ (by omega),show 8 * (3 - (i - nonce.length))=8 * k by omega]
   ·rw [if_neg c]
    by_cases c2:12≤i∧i+k<16
    ·rw [if_pos c2,if_pos (by omega)]
    ·rw [if_neg c2,if_neg (by omega)]
  rw [this]
 ·refine if_n (by show ¬ (((4:Nat):Int)<4); omega) (congrArg some (congrArg Sum.inr ?_))
  refine vec_ext fun i hi=>?_
  rw [vg_ofFn hi,cb,toV,vg_ofFn hi,if_neg (by omega)]
def xoB (key nonce:Str) (from_:Nat) (s:Str) (i:Nat):BitVec 8:=s.getD i 0#8 ^^^ vg (ek key (cb nonce (from_+i / 16))) (i % 16)
def xo (key nonce:Str) (from_:Nat) (s:Str):Str:=(List.range s.length).map (xoB key nonce from_ s)
theorem xo_length (key nonce:Str) (f:Nat) (s:Str):(xo key nonce f s).length=s.length:=by simp [xo]
def xoP (key nonce:Str) (s:Str) (m:Nat):Str:=(List.range s.length).map fun i=>if i<m then xoB key nonce 2 s i else s.getD i 0#8
theorem xoP_length (key nonce s:Str) (m:Nat):(xoP key nonce s m).length=s.length:=by simp [xoP]
theorem xoP_at (key nonce s:Str) (m i:Nat) (hi:i<s.length):lg (xoP key nonce s m) i=if i<m then xoB key nonce 2 s i else s.getD i 0#8:=by
 simp [lg,xoP,hi]
theorem xoP_set (key nonce s:Str) (m:Nat) (hm:m<s.length):(xoP key nonce s m).set m (xoB key nonce 2 s m)=xoP key nonce s (m+1):=by
 unfold xoP
 refine List.ext_getElem (by simp) fun i h1 h2=>?_
 simp only [List.getElem_set,List.getElem_map,List.getElem_range]
 by_cases c:m=i
 ·subst c; rw [if_pos rfl,if_pos (by omega)]
 ·rw [if_neg c]
  by_cases c2:i<m
  ·rw [if_pos c2,if_pos (by omega)]
  ·rw [if_neg c2,if_neg (by omega)]
theorem xor_b1 (key nonce b:Str) (k:Nat) (n:BitVec 32) (t0:Str) (hk:16 * k<b.length) (hl:b.length<1000000) :
  loop (gcm_Cipher_Xor.b1 b (16 * k,n,t0) (ek key (cb nonce (2+k))) ((min (b.length - 16 * k) 16:Nat):Int)) BIG (0,xoP key nonce b (16 * k))=some (xoP key nonce b (min (16 * (k+1)) b.length)):=by
 refine loop_fn (fun j=>((j:Int),xoP key nonce b (16 * k+j))) (min (b.length - 16 * k) 16) _ (by omega) rfl (fun j hj=>?_) ?_
 ·have e1:w64 ((j:Int)+1)=((j+1:Nat):Int):=w64_add (b:=1) (by omega)
  have hlen:=xoP_length key nonce b (16 * k+j)
  unfold gcm_Cipher_Xor.b1
  simp only [e1,Int.toNat_natCast]
  clear e1
  refine if_i (by omega) (if_i (by omega) (if_i (by omega) (if_i (by omega) (if_i (by omega) (if_i (by omega) (if_i (by omega) (if_i (by omega) (ltt_i fun m hm=>?_))))))))
  have:m=xoP key nonce b (16 * k+(j+1)):=by
   rw [hm,xoP_at _ _ _ _ _ (by omega),if_neg (by omega), ← Nat.add_assoc, ← xoP_set key nonce b (16 * k+j) (by omega)]
   unfold xoB
   rw [show (16 * k+j) / 16=k by omega,show (16 * k+j) % 16=j by omega]
  rw [this]
 ·unfold gcm_Cipher_Xor.b1
  refine if_n (by simp only; omega) ?_
  rw [show 16 * k+min (b.length - 16 * k) 16=min (16 * (k+1)) b.length by omega]
theorem Xor_eq (key nonce:Str) (hk:okKey key) (hn:nonce.length=12) (h:E2) (b:Str) (hl:b.length<1000000):gcm_Cipher_Xor BOXV (keysOf (kw key)) h.1 h.2 nonce b=some (xo key nonce 2 b):=by
 unfold gcm_Cipher_Xor
 refine bind_i (v:=xo key nonce 2 b) (loop_fn (fun k=>(min (16 * k) b.length,BitVec.ofNat 32 (2+k),xoP key nonce b (min (16 * k) b.length))) ((b.length+15) / 16) _ (by omega) ?_ (fun k hk2=>?_) ?_) rfl
 ·refine Prod.ext (by simp) (Prod.ext rfl ?_)
  show b=xoP key nonce b (min (16 * 0) b.length)
  unfold xoP
  refine List.ext_getElem (by simp) fun i h1 h2=>?_
  simp [h1]
 ·have hkb:16 * k<b.length:=by omega
  have hm1:min (16 * k) b.length=16 * k:=by omega
  rw [hm1]
  unfold gcm_Cipher_Xor.b0
  simp only
  refine if_i (by omega) (bind_i (counter_eq nonce (2+k) hn (by omega)) (bind_i (Enc_eq key hk _) (ltt_i fun m hm=>?_)))
  have hm2:m=((min (b.length - 16 * k) 16:Nat):Int):=by rw [hm]; omega
  rw [hm2]
  refine bind_i (xor_b1 key nonce b k _ _ hkb hl) ?_
  have hlen:=xoP_length key nonce b (min (16 * (k+1)) b.length)
  simp only [Int.toNat_natCast]
  refine if_i (by omega) (if_i (by omega) (if_i (by omega) (if_i (by omega) (ltt_i fun n1 hn1=>?_))))
  have h2k:BitVec.ofNat 32 (2+(k+1))=BitVec.ofNat 32 (2+k)+1#32:=by rw [show 2+(k+1)=(2+k)+1 by omega,BitVec.ofNat_add]
  rw [hn1,h2k,show 16 * k+min (b.length - 16 * k) 16=min (16 * (k+1)) b.length by omega]
 ·unfold gcm_Cipher_Xor.b0
  refine if_n (by simp only; omega) (congrArg some (congrArg Sum.inr ?_))
  simp only
  unfold xoP xo
  refine List.map_congr_left fun i hi=>?_
  have:i<b.length:=by simpa using hi
  rw [if_pos (by omega)]
theorem ofN_byte (x:BitVec 64):((x >>> 8) <<< 8) ||| ((x.setWidth 8).setWidth 64)=x:=by
 apply BitVec.eq_of_getLsbD_eq
 intro i hi
 simp only [BitVec.getLsbD_or,BitVec.getLsbD_shiftLeft,BitVec.getLsbD_ushiftRight,BitVec.getLsbD_setWidth]
 by_cases c:i<8
 ·simp [c,hi]
 ·simp [c,hi,show 8+(i - 8)=i by omega]
theorem be8_word (s:Str) (a:Nat) (w:BitVec 64) (h : ∀ i,i<8 → s.getD (a+i) 0#8=(w >>> (8 * (7 - i))).setWidth 8):be8 s a 8=w:=by
 have : ∀ j,j≤8 → be8 s a j=w >>> (8 * (8 - j)):=by
  intro j
  induction j with
  | zero=>intro _; exact (BitVec.ushiftRight_eq_zero (Nat.le_refl _)).symm
  | succ j ih =>
   intro hj
   simp only [be8]
   rw [ih (by omega),h j (by omega)]
   have:=ofN_byte (w >>> (8 * (8 - (j+1))))
   rw [← BitVec.shiftRight_add,show 8 * (8 - (j+1))+8=8 * (8 - j) by omega] at this
   rw [show 8 * (7 - j)=8 * (8 - (j+1)) by omega]
   exact this
 have:=this 8 (Nat.le_refl _)
 simpa using this
theorem ld_by16 (e:E2):ld (by16 e) 0=e:=by
 unfold ld
 refine Prod.ext ?_ ?_
 ·exact be8_word _ _ _ fun i hi=>by rw [Nat.zero_add,byV_at e i (by omega),if_pos hi]
 ·exact be8_word _ _ _ fun i hi=>by rw [Nat.zero_add,byV_at e (8+i) (by omega),if_neg (by omega),show 8+i - 8=i by omega]
def szs (aad c:Str):E2:=(BitVec.ofNat 64 (8 * aad.length),BitVec.ofNat 64 (8 * c.length))
def tagY (key aad c:Str):E2:=ghs (hE key) (fil aad++fil c++by16 (szs aad c)) z2
def tagE (key nonce aad c:Str):Str:=xo key nonce 1 (by16 (tagY key aad c))
theorem ghs16 (h:E2) (s:Str) (y:E2) (hs:s.length=16):ghs h s y=prod (xr (ld s 0) y) h:=by
 unfold ghs
 rw [hs,show 16 / 16=0+1 from rfl]
 simp only [iter]
 unfold gh
 rw [Nat.mul_zero]
theorem tagY_eq (key aad c:Str):tagY key aad c=prod (xr (szs aad c) (ghs (hE key) (fil c) (ghs (hE key) (fil aad) z2))) (hE key):=by
 have h1:(fil aad).length % 16=0:=by rw [fil_length]; omega
 have h2:(fil c).length % 16=0:=by rw [fil_length]; omega
 unfold tagY
 rw [ghs_app _ _ _ _ (by rw [List.length_append]; omega),ghs_app _ _ _ _ h1,ghs16 _ _ _ (by16_length _),ld_by16]
theorem tag_b0 (V W:V16):loop (gcm_Cipher_Tag.b0 W) BIG (0,V)=some (Vector.ofFn fun i=>vg V i.val ^^^ vg W i.val):=by
 refine loop_fill _ (fun i=>vg V i ^^^ vg W i) id (by omega) (fun k v hk hv=>?_) (fun v=>?_)
 ·have e1:w64 ((k:Int)+1)=((k+1:Nat):Int):=w64_add (b:=1) (by omega)
  unfold gcm_Cipher_Tag.b0
  simp only [e1,Int.toNat_natCast]
  refine if_i (by omega) (if_i (by omega) (if_i (by omega) (if_i (by omega) (ltt_i fun m hm=>?_))))
  rw [hm,hv k (Nat.le_refl _) hk]
 ·unfold gcm_Cipher_Tag.b0
  exact if_n (by omega) rfl
theorem Tag_eq (key nonce:Str) (hk:okKey key) (hn:nonce.length=12) (aad b:Str) (ha:aad.length<1000000) (hb:b.length<1000000):gcm_Cipher_Tag BOXV (keysOf (kw key)) (hE key).1 (hE key).2 nonce aad b=some (tagE key nonce aad b):=by
 unfold gcm_Cipher_Tag
 obtain ⟨V1,hV1,he1⟩:=ebytes_eq (szs aad b)
 obtain ⟨V2,hV2,he2⟩:=ebytes_eq (tagY key aad b)
 have hsz : ∀ n:Nat,(BitVec.ofInt 64 (n:Int)) * 8#64=BitVec.ofNat 64 (8 * n):=fun n=>by
  rw [BitVec.ofInt_natCast,Nat.mul_comm,BitVec.ofNat_mul]
 refine bind_i (newSum_eq (hE key)) (bind_i (all_eq (hE key) z2 aad (by omega)) (bind_i (all_eq (hE key) _ b (by omega)) ?_))
 rw [hsz,hsz]
 refine bind_i he1 (bind_i (add_eq (hE key) _ _ (by simp) (by simp)) ?_)
 rw [hV1,ld_by16, ← tagY_eq]
 refine bind_i he2 (bind_i (counter_eq nonce 1 hn (by decide)) (bind_i (Enc_eq key hk _) (bind_i (tag_b0 _ _) (congrArg some ?_))))
 have hV2i : ∀ i,vg V2 i=(by16 (tagY key aad b)).getD i 0#8:=fun i=>by
  show V2.toList.getD i 0#8=_
  rw [hV2]
 unfold tagE xo
 generalize tagY key aad b=Y at hV2i
 rw [by16_length]
 refine List.ext_getElem (by simp) fun i h1 h2=>?_
 have hi:i<16:=by simpa using h1
 simp only [Vector.getElem_toList,Vector.getElem_ofFn,List.getElem_map,List.getElem_range]
 unfold xoB
 rw [show 1+i / 16=1 by omega,show i % 16=i by omega,hV2i]
abbrev okG (key nonce aad:Str) (n most:Nat):Prop:=okKey key∧nonce.length=12∧aad.length≤65536∧n≤most
theorem may_eq (nonce aad:Str) (most long:Nat):gcm_may nonce aad (most:Int) (long:Int)=some (decide (nonce.length=12∧aad.length≤65536∧long≤most)):=by
 unfold gcm_may
 by_cases c1:nonce.length=12
 ·refine if_i (by omega) ?_
  by_cases c2:aad.length≤65536
  ·refine if_i (by omega) (ltt_i fun x hx=>?_)
   rw [hx]
   refine congrArg some ?_
   rw [decide_eq_decide]
   omega
  ·refine if_n (by omega) (congrArg some ?_)
   rw [eq_comm,decide_eq_false_iff_not]; omega
 ·refine if_n (by omega) (congrArg some ?_)
  rw [eq_comm,decide_eq_false_iff_not]; omega
def sealE (key nonce aad s:Str):Str × Int:=if okG key nonce aad s.length 65536 then (xo key nonce 2 s++tagE key nonce aad (xo key nonce 2 s),0) else ([],500)
theorem tagE_length (key nonce aad c:Str):(tagE key nonce aad c).length=16:=by rw [tagE,xo_length,by16_length]
theorem Seal_eq (key nonce aad s:Str):gcm_Seal key nonce aad s=some (sealE key nonce aad s):=by
 unfold gcm_Seal sealE
 by_cases hk:okKey key
 ·refine bind_i (gNew_eq key hk) (bind_i (may_eq nonce aad 65536 s.length) ?_)
  by_cases c:nonce.length=12∧aad.length≤65536∧s.length≤65536
  ·have hx:=xo_length key nonce 2 s
   have ht:=tagE_length key nonce aad (xo key nonce 2 s)
   rw [if_pos (⟨hk,c⟩:okG key nonce aad s.length 65536)]
   refine if_n (by simp [c]) (if_i (keys_len key).symm (bind_i (Xor_eq key nonce hk c.1 _ s (by omega)) (if_i hx (bind_i (Tag_eq key nonce hk c.1 aad _ (by omega) (by omega)) (if_i (by omega) rfl)))))
  ·rw [if_neg (show ¬ okG key nonce aad s.length 65536 from fun h=>c h.2)]
   exact if_i (by simp [c]) rfl
 ·rw [if_neg (show ¬ okG key nonce aad s.length 65536 from fun h=>hk h.1)]
  exact bind_i (gNew_none key hk) rfl
def openE (key nonce aad s:Str):Str × Int :=
 if okG key nonce aad s.length 65552 then (if s.length<16 then ([],501) else if tagE key nonce aad (sub s 0 (s.length - 16)) ≠ sub s (s.length - 16) s.length then ([],501) else (xo key nonce 2 (sub s 0 (s.length - 16)),0)) else ([],500)
theorem Open_eq (key nonce aad s:Str):gcm_Open key nonce aad s=some (openE key nonce aad s):=by
 unfold gcm_Open openE
 by_cases hk:okKey key
 ·refine bind_i (gNew_eq key hk) (bind_i (may_eq nonce aad 65552 s.length) ?_)
  by_cases c:nonce.length=12∧aad.length≤65536∧s.length≤65552
  ·rw [if_pos (⟨hk,c⟩:okG key nonce aad s.length 65552)]
   have e0:w64 ((s.length:Int) - 16)=(s.length:Int) - 16:=w64_id (by omega) (by omega)
   refine if_n (by simp [c]) (ltt_i fun n1 hn1=>?_)
   rw [e0] at hn1
   clear e0
   by_cases c2:s.length<16
   ·rw [if_pos c2]
    exact if_i (by omega) rfl
   ·rw [if_neg c2]
    have hn:n1.toNat=s.length - 16:=by omega
    rw [hn]
    have hsl:(sub s 0 (s.length - 16)).length=s.length - 16:=by rw [sub_length (by omega)]; omega
    refine if_n (by omega) (if_i (by omega) (if_i (by omega) (if_i (keys_len key).symm (bind_i (Tag_eq key nonce hk c.1 aad _ (by omega) (by omega)) (if_i (by omega) (if_i (by omega) ?_))))))
    by_cases c3:tagE key nonce aad (sub s 0 (s.length - 16)) ≠ sub s (s.length - 16) s.length
    ·rw [if_pos c3,if_pos c3]
    ·rw [if_neg c3,if_neg c3]
     exact bind_i (Xor_eq key nonce hk c.1 _ _ (by omega)) (if_i (xo_length _ _ _ _) rfl)
  ·rw [if_neg (show ¬ okG key nonce aad s.length 65552 from fun h=>c h.2)]
   exact if_i (by simp [c]) rfl
 ·rw [if_neg (show ¬ okG key nonce aad s.length 65552 from fun h=>hk h.1)]
  exact bind_i (gNew_none key hk) rfl
end Go.Proofs
end

section
namespace Go.Proofs
open Go Go.Kx
open TryI Try
def halberdlaw5_awake:Option (Bool) :=
 if (List.replicate 16 0#8).length=16 then (ltt (List.replicate 16 0#8) fun (z1:Str)=>(if 12≤(z1).length then ((gcm_Seal z1 (sub z1 0 12) ([]:Str) ([]:Str)).bind fun (r_1:Str × Int)=>(if 12≤(z1).length then ((gcm_Open z1 (sub z1 0 12) ([]:Str) r_1.1).bind fun (r_2:Str × Int)=>(if 12≤(z1).length then ((gcm_Open z1 (sub z1 0 12) ([120#8]:Str) r_1.1).bind fun (r_3:Str × Int)=>((gcm_Seal ([]:Str) ([]:Str) ([]:Str) ([]:Str)).bind fun (r_4:Str × Int)=>((gcm_Hash z1 z1).bind fun (r_5:Str × Int)=>(if ((r_1.1).length:Int)=16 then (if 0≤(0:Int)∧(0:Int)<((r_1.1).length:Int) then (if (sg r_1.1 0)=88#8 then (if 0≤(1:Int)∧(1:Int)<((r_1.1).length:Int) then (if (sg r_1.1 1)=226#8 then ((halberdlaw0_Num r_1.2).bind fun (r_6:Int)=>(if r_6=0 then (if r_2.1=([]:Str) then ((halberdlaw0_Num r_2.2).bind fun (r_7:Int)=>(if r_7=0 then ((halberdlaw0_Num r_3.2).bind fun (r_8:Int)=>(if r_8=501 then ((halberdlaw0_Num r_4.2).bind fun (r_9:Int)=>(if r_9=500 then (if r_5.1=z1 then ((halberdlaw0_Num r_5.2).bind fun (r_10:Int)=>(ltt (decide (r_10=0)) fun (x1:Bool)=>(some x1))) else (some false)) else (some false))) else (some false))) else (some false))) else (some false)) else (some false))) else (some false)) else none) else (some false)) else none) else (some false))))) else none)) else none)) else none)) else none
set_option maxHeartbeats 4000000 in
set_option maxRecDepth 20000 in
theorem F16_calls (r:Bool) (H:halberdlaw5_awake=some r) :
  Does Try.prog 16 [] [] [] (Γ:=Unit) (fun g=>vb r) (fun g=>[]):=by
 intro w hmem hro hd
 refine calls_of (N:=94) (m0:=[]) func16 rfl ntmps16 (argM_ok []) rfl hmem hro hd ?_
 unfold halberdlaw5_awake at H
 refine TC_seq (TC_region (TVa ?_))
 refine TL_nil (TX_next (TC_seq (TC_region (TLe (E_mk1 rfl rfl underlying33 inf5 (z:=v8 0#8) rfl rfl rfl (B:=1) rfl (by decide) (Int.le_refl _) (by decide) (by decide) (n':=16) (c':=16) rfl rfl (cs:=e8 (List.replicate 16 0#8)) (rep_map (f:=v8))) (fun b1=>?_)))))
 obtain ⟨h1,H⟩:=if_elim H
 refine TLv (V_b2s rfl underlying33 underlying5 underlying9 (.o 0) h1) ?_
 refine TVa ?_
 obtain ⟨z1,hz1,H⟩:=ltt_elim H
 refine TLr 1 (congrArg vs hz1) ?_
 refine TL_nil (TX_next (TC_seq (TC_region (TVm ?_))))
 refine TVm ?_
 obtain ⟨h2,H⟩:=if_elim H
 refine TLv (V_sliceStr (l:=0) (h:=12) rfl underlying9 Bnd.none' (Bnd.some' (i:=12) rfl (by decide)) (Nat.zero_le _) h2) ?_
 obtain ⟨r_1,hr_1,H⟩:=bind_elim H
 refine TLe (E_c0 (F10_calls z1 (sub z1 0 12) ([]:Str) ([]:Str) r_1 hr_1) call10 .z) (fun g_1=>?_)
 refine TVm ?_
 refine TLv V_ex ?_
 refine TLv V_ex ?_
 refine TVa ?_
 refine TVa ?_
 refine TL_nil (TX_next (TC_seq (TC_region (TVm ?_))))
 refine TVm ?_
 obtain ⟨h3,H⟩:=if_elim H
 refine TLv (V_sliceStr (l:=0) (h:=12) rfl underlying9 Bnd.none' (Bnd.some' (i:=12) rfl (by decide)) (Nat.zero_le _) h3) ?_
 refine TVm ?_
 obtain ⟨r_2,hr_2,H⟩:=bind_elim H
 refine TLe (E_c0 (F12_calls z1 (sub z1 0 12) ([]:Str) r_1.1 r_2 hr_2) call12 .z) (fun g_2=>?_)
 refine TVm ?_
 refine TLv V_ex ?_
 refine TLv V_ex ?_
 refine TVa ?_
 refine TVa ?_
 refine TL_nil (TX_next (TC_seq (TC_region (TVm ?_))))
 refine TVm ?_
 obtain ⟨h4,H⟩:=if_elim H
 refine TLv (V_sliceStr (l:=0) (h:=12) rfl underlying9 Bnd.none' (Bnd.some' (i:=12) rfl (by decide)) (Nat.zero_le _) h4) ?_
 refine TVm ?_
 obtain ⟨r_3,hr_3,H⟩:=bind_elim H
 refine TLe (E_c0 (F12_calls z1 (sub z1 0 12) ([120#8]:Str) r_1.1 r_3 hr_3) call12 .z) (fun g_3=>?_)
 refine TVm ?_
 refine TLv V_ex ?_
 refine TLv V_ex ?_
 refine TVa ?_
 refine TVa ?_
 refine TL_nil (TX_next (TC.sub (m':=[(1,_),(2,_),(3,_),(4,_),(5,_),(7,_)]) ⟨rfl,rfl,rfl,rfl,rfl,rfl,trivial⟩ ?_))
 refine TC_seq (TC_region ?_)
 obtain ⟨r_4,hr_4,H⟩:=bind_elim H
 refine TLe (E_c0 (F10_calls ([]:Str) ([]:Str) ([]:Str) ([]:Str) r_4 hr_4) call10 .z) (fun g_4=>?_)
 refine TVm ?_
 refine TLv V_ex ?_
 refine TLv V_ex ?_
 refine TVa ?_
 refine TVa ?_
 refine TL_nil (TX_next (TC_seq (TC_region (TVm ?_))))
 refine TVm ?_
 obtain ⟨r_5,hr_5,H⟩:=bind_elim H
 refine TLe (E_c0 (F14_calls z1 z1 r_5 hr_5) call14 .z) (fun g_5=>?_)
 refine TVm ?_
 refine TLv V_ex ?_
 refine TLv V_ex ?_
 refine TVa ?_
 refine TVa ?_
 refine TL_nil (TX_next (TC_seq (TC_region (TVm ?_))))
 refine TLv (V_len_str rfl underlying9) ?_
 refine TLv (V_bin rfl rfl (fun w=>eqlI w ((r_1.1).length:Int) 16)) ?_
 refine TVm ?_
 refine TFd (d:=50) H (fun hc H=>?_) (fun hc H=>?_)
 ·refine TLw (V_move rfl) ?_
  obtain ⟨h5,H⟩:=if_elim H
  refine TLw (V_idxStr rfl rfl (i:=0) underlying9 h5.1 h5.2) ?_
  refine TLw (V_bin rfl rfl (fun w=>eql8 w (sg r_1.1 0) 88#8)) ?_
  refine TVt ?_
  refine TVm ?_
  refine TFd (d:=55) H (fun hc H=>?_) (fun hc H=>?_)
  ·refine TLw (V_move rfl) ?_
   obtain ⟨h6,H⟩:=if_elim H
   refine TLw (V_idxStr rfl rfl (i:=1) underlying9 h6.1 h6.2) ?_
   refine TLw (V_bin rfl rfl (fun w=>eql8 w (sg r_1.1 1) 226#8)) ?_
   refine TVt ?_
   refine TVm ?_
   refine TFd (d:=60) H (fun hc H=>?_) (fun hc H=>?_)
   ·refine TLw (V_move rfl) ?_
    obtain ⟨r_6,hr_6,H⟩:=bind_elim H
    refine TLu (E_c0 (F8_calls r_1.2 r_6 hr_6) call8 .z) (fun g_6=>?_)
    refine TLw (V_bin rfl rfl (fun w=>eqlI w r_6 0)) ?_
    refine TVt ?_
    refine TVm ?_
    refine TFd (d:=65) H (fun hc H=>?_) (fun hc H=>?_)
    ·refine TLw (V_move rfl) ?_
     refine TLw (V_bin rfl rfl (fun w=>eqlS w r_2.1 ([]:Str))) ?_
     refine TVt ?_
     refine TVm ?_
     refine TFd (d:=69) H (fun hc H=>?_) (fun hc H=>?_)
     ·refine TLw (V_move rfl) ?_
      obtain ⟨r_7,hr_7,H⟩:=bind_elim H
      refine TLu (E_c0 (F8_calls r_2.2 r_7 hr_7) call8 .z) (fun g_7=>?_)
      refine TLw (V_bin rfl rfl (fun w=>eqlI w r_7 0)) ?_
      refine TVt ?_
      refine TVm ?_
      refine TFd (d:=74) H (fun hc H=>?_) (fun hc H=>?_)
      ·refine TLw (V_move rfl) ?_
       obtain ⟨r_8,hr_8,H⟩:=bind_elim H
       refine TLu (E_c0 (F8_calls r_3.2 r_8 hr_8) call8 .z) (fun g_8=>?_)
       refine TLw (V_bin rfl rfl (fun w=>eqlI w r_8 501)) ?_
       refine TVt ?_
       refine TVm ?_
       refine TFd (d:=79) H (fun hc H=>?_) (fun hc H=>?_)
       ·refine TLw (V_move rfl) ?_
        obtain ⟨r_9,hr_9,H⟩:=bind_elim H
        refine TLu (E_c0 (F8_calls r_4.2 r_9 hr_9) call8 .z) (fun g_9=>?_)
        refine TLw (V_bin rfl rfl (fun w=>eqlI w r_9 500)) ?_
        refine TVt ?_
        refine TVm ?_
        refine TFd (d:=84) H (fun hc H=>?_) (fun hc H=>?_)
        ·refine TLw (V_move rfl) ?_
         refine TLw (V_move rfl) ?_
         refine TLw (V_bin rfl rfl (fun w=>eqlS w r_5.1 z1)) ?_
         refine TVt ?_
         refine TVm ?_
         refine TFd (d:=89) H (fun hc H=>?_) (fun hc H=>?_)
         ·refine TLw (V_move rfl) ?_
          obtain ⟨r_10,hr_10,H⟩:=bind_elim H
          refine TLu (E_c0 (F8_calls r_5.2 r_10 hr_10) call8 .z) (fun g_10=>?_)
          refine TLw (V_bin rfl rfl (fun w=>eqlI w r_10 0)) ?_
          refine TVt ?_
          refine TVa ?_
          obtain ⟨x1,hx1,H⟩:=ltt_elim H
          refine TLr 0 (congrArg vb hx1) ?_
          refine TL_nil (TX_next (TC.sub (m':=[(0,_)]) ⟨rfl,trivial⟩ ?_))
          refine TC_ret ?_
          obtain rfl:=sj H
          exact TX1
         ·refine TLs ?_
          refine TLs ?_
          refine TLs ?_
          refine TVf ?_
          refine TVa ?_
          refine TL_nil (TX_next (TC.sub (m':=[(0,_)]) ⟨rfl,trivial⟩ ?_))
          refine TC_ret ?_
          obtain rfl:=sj H
          exact TX1
        ·refine TLs ?_
         refine TLs ?_
         refine TLs ?_
         refine TVf ?_
         refine TVm ?_
         refine TLs ?_
         refine TLs ?_
         refine TLs ?_
         refine TVf ?_
         refine TVa ?_
         refine TL_nil (TX_next (TC.sub (m':=[(0,_)]) ⟨rfl,trivial⟩ ?_))
         refine TC_ret ?_
         obtain rfl:=sj H
         exact TX1
       ·refine TLs ?_
        refine TLs ?_
        refine TLs ?_
        refine TVf ?_
        refine TVm ?_
        refine TLs ?_
        refine TLs ?_
        refine TLs ?_
        refine TVf ?_
        refine TVm ?_
        refine TLs ?_
        refine TLs ?_
        refine TLs ?_
        refine TVf ?_
        refine TVa ?_
        refine TL_nil (TX_next (TC.sub (m':=[(0,_)]) ⟨rfl,trivial⟩ ?_))
        refine TC_ret ?_
        obtain rfl:=sj H
        exact TX1
      ·refine TLs ?_
       refine TLs ?_
       refine TLs ?_
       refine TVf ?_
       refine TVm ?_
       refine TLs ?_
       refine TLs ?_
       refine TLs ?_
       refine TVf ?_
       refine TVm ?_
       refine TLs ?_
       refine TLs ?_
       refine TLs ?_
       refine TVf ?_
       refine TVm ?_
       refine TLs ?_
       refine TLs ?_
       refine TLs ?_
       refine TVf ?_
       refine TVa ?_
       refine TL_nil (TX_next (TC.sub (m':=[(0,_)]) ⟨rfl,trivial⟩ ?_))
       refine TC_ret ?_
       obtain rfl:=sj H
       exact TX1
     ·refine TLs ?_
      refine TLs ?_
      refine TLs ?_
      refine TVf ?_
      refine TVm ?_
      refine TLs ?_
      refine TLs ?_
      refine TLs ?_
      refine TVf ?_
      refine TVm ?_
      refine TLs ?_
      refine TLs ?_
      refine TLs ?_
      refine TVf ?_
      refine TVm ?_
      refine TLs ?_
      refine TLs ?_
      refine TLs ?_
      refine TVf ?_
      refine TVm ?_
      refine TLs ?_
      refine TLs ?_
      refine TLs ?_
      refine TVf ?_
      refine TVa ?_
      refine TL_nil (TX_next (TC.sub (m':=[(0,_)]) ⟨rfl,trivial⟩ ?_))
      refine TC_ret ?_
      obtain rfl:=sj H
      exact TX1
    ·refine TLs ?_
     refine TLs ?_
     refine TVf ?_
     refine TVm ?_
     refine TLs ?_
     refine TLs ?_
     refine TLs ?_
     refine TVf ?_
     refine TVm ?_
     refine TLs ?_
     refine TLs ?_
     refine TLs ?_
     refine TVf ?_
     refine TVm ?_
     refine TLs ?_
     refine TLs ?_
     refine TLs ?_
     refine TVf ?_
     refine TVm ?_
     refine TLs ?_
     refine TLs ?_
     refine TLs ?_
     refine TVf ?_
     refine TVm ?_
     refine TLs ?_
     refine TLs ?_
     refine TLs ?_
     refine TVf ?_
     refine TVa ?_
     refine TL_nil (TX_next (TC.sub (m':=[(0,_)]) ⟨rfl,trivial⟩ ?_))
     refine TC_ret ?_
     obtain rfl:=sj H
     exact TX1
   ·refine TLs ?_
    refine TLs ?_
    refine TLs ?_
    refine TVf ?_
    refine TVm ?_
    refine TLs ?_
    refine TLs ?_
    refine TVf ?_
    refine TVm ?_
    refine TLs ?_
    refine TLs ?_
    refine TLs ?_
    refine TVf ?_
    refine TVm ?_
    refine TLs ?_
    refine TLs ?_
    refine TLs ?_
    refine TVf ?_
    refine TVm ?_
    refine TLs ?_
    refine TLs ?_
    refine TLs ?_
    refine TVf ?_
    refine TVm ?_
    refine TLs ?_
    refine TLs ?_
    refine TLs ?_
    refine TVf ?_
    refine TVm ?_
    refine TLs ?_
    refine TLs ?_
    refine TLs ?_
    refine TVf ?_
    refine TVa ?_
    refine TL_nil (TX_next (TC.sub (m':=[(0,_)]) ⟨rfl,trivial⟩ ?_))
    refine TC_ret ?_
    obtain rfl:=sj H
    exact TX1
  ·refine TLs ?_
   refine TLs ?_
   refine TLs ?_
   refine TVf ?_
   refine TVm ?_
   refine TLs ?_
   refine TLs ?_
   refine TLs ?_
   refine TVf ?_
   refine TVm ?_
   refine TLs ?_
   refine TLs ?_
   refine TVf ?_
   refine TVm ?_
   refine TLs ?_
   refine TLs ?_
   refine TLs ?_
   refine TVf ?_
   refine TVm ?_
   refine TLs ?_
   refine TLs ?_
   refine TLs ?_
   refine TVf ?_
   refine TVm ?_
   refine TLs ?_
   refine TLs ?_
   refine TLs ?_
   refine TVf ?_
   refine TVm ?_
   refine TLs ?_
   refine TLs ?_
   refine TLs ?_
   refine TVf ?_
   refine TVm ?_
   refine TLs ?_
   refine TLs ?_
   refine TLs ?_
   refine TVf ?_
   refine TVa ?_
   refine TL_nil (TX_next (TC.sub (m':=[(0,_)]) ⟨rfl,trivial⟩ ?_))
   refine TC_ret ?_
   obtain rfl:=sj H
   exact TX1
 ·refine TLs ?_
  refine TLs ?_
  refine TLs ?_
  refine TVf ?_
  refine TVm ?_
  refine TLs ?_
  refine TLs ?_
  refine TLs ?_
  refine TVf ?_
  refine TVm ?_
  refine TLs ?_
  refine TLs ?_
  refine TLs ?_
  refine TVf ?_
  refine TVm ?_
  refine TLs ?_
  refine TLs ?_
  refine TVf ?_
  refine TVm ?_
  refine TLs ?_
  refine TLs ?_
  refine TLs ?_
  refine TVf ?_
  refine TVm ?_
  refine TLs ?_
  refine TLs ?_
  refine TLs ?_
  refine TVf ?_
  refine TVm ?_
  refine TLs ?_
  refine TLs ?_
  refine TLs ?_
  refine TVf ?_
  refine TVm ?_
  refine TLs ?_
  refine TLs ?_
  refine TLs ?_
  refine TVf ?_
  refine TVm ?_
  refine TLs ?_
  refine TLs ?_
  refine TLs ?_
  refine TVf ?_
  refine TVa ?_
  refine TL_nil (TX_next (TC.sub (m':=[(0,_)]) ⟨rfl,trivial⟩ ?_))
  refine TC_ret ?_
  obtain rfl:=sj H
  exact TX1
end Go.Proofs
end

section
namespace Go.Proofs
open Go Go.Kx
set_option maxRecDepth 100000 in
theorem awake5:halberdlaw5_awake=some true:=by kernel_rfl
end Go.Proofs
end

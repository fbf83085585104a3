/-
  Part 20 of the proof of what several laws share.
-/
import Derived.Test.YtkgeoekcnlgfnaaGreatDoorKc1
import Derived.Test.YtkgeoekcnlgfnaaGreatDoorKc2
import Derived.Test.YtkgeoekcnlgfnaaGreatDoorKc3
import Derived.Test.YtkgeoekcnlgfnaaGreatDoorKc4
import Derived.Test.YtkgeoekcnlgfnaaGreatDoorKc5
import Derived.Test.YtkgeoekcnlgfnaaGreatDoorKc6
import Derived.Test.YtkgeoekcnlgfnaaGreatDoorKc7
import Derived.Test.YtkgeoekcnlgfnaaGreatDoorKc14
import Derived.Test.YtkgeoekcnlgfnaaGreatDoorKc15
import Derived.Test.YtkgeoekcnlgfnaaGreatDoorKc16
import Derived.Test.YtkgeoekcnlgfnaaGreatDoorKc17
import Derived.Test.YtkgeoekcnlgfnaaGreatDoorKc18
import Derived.Test.YtkgeoekcnlgfnaaGreatDoorKc19
set_option linter.unusedVariables false
set_option linter.unusedSimpArgs false
section
namespace Go.Proofs
open Go Go.Kx
open Vector (replicate)
open TryzI Tryz
def gcm_Cipher_Tag.b0 (r_8:Vx 8 16) (s0:Int × Vx 8 16):Option ((Int × Vx 8 16) ⊕ (Vx 8 16)) :=
 if s0.1<16 then (if 0≤s0.1∧s0.1<(16:Int) then (if 0≤s0.1∧s0.1<(16:Int) then (if 0≤s0.1∧s0.1<(16:Int) then (ltt (vp s0.2 ((s0.1).toNat) ((vg s0.2 ((s0.1).toNat)) ^^^ (vg r_8 ((s0.1).toNat)))) fun (m_1:Vx 8 16)=>(some (.inl (w64 (s0.1+1),m_1)))) else none) else none) else none) else (some (.inr s0.2))
def gcm_Cipher_Tag (c_aes_table:Vx 8 256) (c_aes_keys:List (Vx 8 16)) (c_h_high:BitVec 64) (c_h_low:BitVec 64) (nonce:Str) (aad:Str) (b:List (BitVec 8)):Option (Str) :=
 (gcm_newSum c_h_high c_h_low).bind fun (r_1:(Vector (BitVec 64 × BitVec 64) 16) × Vx 64 16)=>((gcm_sum_all r_1.1 r_1.2 0#64 0#64 aad).bind fun (r_2:BitVec 64 × BitVec 64)=>((gcm_sum_all r_1.1 r_1.2 r_2.1 r_2.2 b).bind fun (r_3:BitVec 64 × BitVec 64)=>((gcm_element_bytes ((BitVec.ofInt 64 ((aad).length:Int)) * 8#64) ((BitVec.ofInt 64 ((b).length:Int)) * 8#64)).bind fun (r_4:Vx 8 16)=>((gcm_sum_add r_1.1 r_1.2 r_3.1 r_3.2 r_4.toList).bind fun (r_5:BitVec 64 × BitVec 64)=>((gcm_element_bytes r_5.1 r_5.2).bind fun (r_6:Vx 8 16)=>((gcm_counter nonce 1#32).bind fun (r_7:Vx 8 16)=>((aes_Cipher_Encrypt c_aes_table c_aes_keys r_7).bind fun (r_8:Vx 8 16)=>((loop (gcm_Cipher_Tag.b0 r_8) BIG (0,r_6)).bind fun (t_1:Vx 8 16)=>(some t_1.toList)))))))))
set_option maxHeartbeats 4000000 in
set_option maxRecDepth 20000 in
theorem F130_calls (bc:Nat) (obc:Nat) (bc_aes:Nat) (obc_aes:Nat) (Ac_aes_keys:Adr) (cc_aes_keys:Nat) (Ab:Adr) (cb:Nat) (c_aes_table:Vx 8 256) (c_aes_keys:List (Vx 8 16)) (c_h_high:BitVec 64) (c_h_low:BitVec 64) (nonce:Str) (aad:Str) (b:List (BitVec 8)) (hcc_aes_keys:(c_aes_keys).length≤cc_aes_keys) (hcb:(b).length≤cb) (r:Str) (H:gcm_Cipher_Tag c_aes_table c_aes_keys c_h_high c_h_low nonce aad b=some r) :
  Does Tryz.prog 130 [ptr (some (bc,obc)) 0,vs nonce,vs aad,sl Ab ((b).length) cb] [] [⟨some (bc,obc),[ptr (some (bc_aes,obc_aes)) 0]⟩,⟨some (bc,obc+1),[v64 c_h_high]⟩,⟨some (bc,obc+2),[v64 c_h_low]⟩,⟨some (bc_aes,obc_aes),e8 c_aes_table.toList⟩,⟨some (bc_aes,obc_aes+256),[sl Ac_aes_keys ((c_aes_keys).length) cc_aes_keys]⟩,⟨Ac_aes_keys,eF (fun V:Vx 8 16=>e8 V.toList) c_aes_keys⟩,⟨Ab,e8 b⟩] (Γ:=Unit) (fun g=>vs r) (fun g=>[]):=by
 intro w hmem hro hd
 refine calls_of (N:=67) (m0:=[(0,ptr (some (bc,obc)) 0),(1,vs nonce),(2,vs aad),(3,sl Ab ((b).length) cb)]) func130 rfl ntmps130 (argM_ok [ptr (some (bc,obc)) 0,vs nonce,vs aad,sl Ab ((b).length) cb]) rfl hmem hro hd ?_
 unfold gcm_Cipher_Tag at H
 refine TC_seq (TC_region (TVa ?_))
 refine TL_nil (TX_next (TC_seq (TC_region (TVm ?_))))
 refine TLv (V_nilCheck rfl) ?_
 refine TLv (V_fieldE rfl underlying219 rfl rfl inf216 rfl (v:=ptr (some (bc,obc+1)) 0) rfl) ?_
 refine TLv (V_lp (b:=bc) (o:=(obc+1)) (n:=2) (ps:=[(1,_),(1,_)]) ⟨.r 1, .r 2,trivial⟩ isAgg216 inf216) ?_
 obtain ⟨r_1,hr_1,H⟩:=bind_elim H
 refine TLe (E_call (Γ:=Nat) (val:=fun g=>ptr (some (g,0)) 0) (mem:=fun g=>[⟨some (g,0),eF (fun p:BitVec 64 × BitVec 64=>[v64 p.1,v64 p.2]) r_1.1.toList⟩,⟨some (g,32),e64 r_1.2.toList⟩,⟨some (g,48),[v64 0#64]⟩,⟨some (g,49),[v64 0#64]⟩]) (vs:=[aG [(1,[v64 c_h_high]),(1,[v64 c_h_low])]]) (Lin:=[]) (Ro:=[]) (is:=[]) rfl call144 (F144_calls c_h_high c_h_low r_1 hr_1) rfl trivial) (fun g_1=>?_)
 refine TVa ?_
 refine TL_nil (TX_next (TC_seq (TC_region (TVm ?_))))
 refine TVm ?_
 refine TLe (E_s2bR rfl underlying9 underlying86 underlying5) (fun g_2=>?_)
 obtain ⟨r_2,hr_2,H⟩:=bind_elim H
 refine TLe (E_call (Γ:=Unit) (val:=fun g=>Value.tuple [].toArray) (mem:=fun g=>[⟨some (g_1,48),[v64 r_2.1]⟩,⟨some (g_1,49),[v64 r_2.2]⟩]) (vs:=[ptr (some (g_1,0)) 0,sl (some (g_2.1,0)) ((aad).length) ((aad++g_2.2).length)]) (Lin:=[⟨some (g_1,48),[v64 0#64]⟩,⟨some (g_1,49),[v64 0#64]⟩]) (Ro:=[⟨some (g_1,0),eF (fun p:BitVec 64 × BitVec 64=>[v64 p.1,v64 p.2]) r_1.1.toList⟩,⟨some (g_1,32),e64 r_1.2.toList⟩,⟨some (g_2.1,0),e8 aad⟩]) (is:=[3,3]) rfl call145 (F145_calls g_1 0 (some (g_2.1,0)) ((aad++g_2.2).length) r_1.1 r_1.2 0#64 0#64 aad (row_le _ _) r_2 hr_2) rfl ⟨.o 1, .o 2,(srcdRow (.o 0)),trivial⟩) (fun g_3=>?_)
 refine TL_nil (TX_next (TC_seq (TC_region (TVm ?_))))
 refine TVm ?_
 obtain ⟨r_3,hr_3,H⟩:=bind_elim H
 refine TLe (E_call (Γ:=Unit) (val:=fun g=>Value.tuple [].toArray) (mem:=fun g=>[⟨some (g_1,48),[v64 r_3.1]⟩,⟨some (g_1,49),[v64 r_3.2]⟩]) (vs:=[ptr (some (g_1,0)) 0,sl Ab ((b).length) cb]) (Lin:=[⟨some (g_1,48),[v64 r_2.1]⟩,⟨some (g_1,49),[v64 r_2.2]⟩]) (Ro:=[⟨some (g_1,0),eF (fun p:BitVec 64 × BitVec 64=>[v64 p.1,v64 p.2]) r_1.1.toList⟩,⟨some (g_1,32),e64 r_1.2.toList⟩,⟨Ab,e8 b⟩]) (is:=[0,0]) rfl call145 (F145_calls g_1 0 Ab cb r_1.1 r_1.2 r_2.1 r_2.2 b hcb r_3 hr_3) rfl ⟨.o 1, .o 2, .r 6,trivial⟩) (fun g_4=>?_)
 refine TL_nil (TX_next (TC_seq (TC_region (TVm ?_))))
 refine TLv (V_len_str rfl underlying9) ?_
 refine TLv (V_conv rfl (fun w=>cvI64 w _ _ underlying115 (und3) .i64 ((aad).length:Int))) ?_
 refine TLv (V_bin rfl rfl (fun w=>mul64 w (BitVec.ofInt 64 ((aad).length:Int)) 8#64)) ?_
 refine TVm ?_
 refine TLv (V_len_slice rfl underlying86) ?_
 refine TLv (V_conv rfl (fun w=>cvI64 w _ _ underlying115 (und3) .i64 ((b).length:Int))) ?_
 refine TLv (V_bin rfl rfl (fun w=>mul64 w (BitVec.ofInt 64 ((b).length:Int)) 8#64)) ?_
 refine TLv (V_buildStruct (pv:=[(0,v64 ((BitVec.ofInt 64 ((aad).length:Int)) * 8#64)),(1,v64 ((BitVec.ofInt 64 ((b).length:Int)) * 8#64))]) (pl:=[(0,1),(1,1)]) rfl rfl underlying216 inf216 places216 zer216 (cs:=flat [(1,[v64 ((BitVec.ofInt 64 ((aad).length:Int)) * 8#64)]),(1,[v64 ((BitVec.ofInt 64 ((b).length:Int)) * 8#64)])]) (by kernel_rfl)) ?_
 refine TLe (E_allocP [(1,[v64 0#64]),(1,[v64 0#64])] inf216 zer216 ⟨rfl,rfl,trivial⟩) (fun b1=>?_)
 refine TLn (E_sq (b:=b1) (o:=0) [0,0] [(1,_),(1,_)] rfl inf216) (fun _=>?_)
 refine TL_nil (TX_next (TC_seq (TC_region (TLv (V_lp (b:=b1) (o:=0) (n:=2) (ps:=[(1,_),(1,_)]) ⟨.o 0, .o 1,trivial⟩ isAgg216 inf216) ?_))))
 obtain ⟨r_4,hr_4,H⟩:=bind_elim H
 refine TLe (E_c0 (F146_calls ((BitVec.ofInt 64 ((aad).length:Int)) * 8#64) ((BitVec.ofInt 64 ((b).length:Int)) * 8#64) r_4 hr_4) call146 .z) (fun g_5=>?_)
 refine TLe (E_allocP [(16,e8 ((replicate 16 0#8).toList))] inf171 zer171 ⟨(lenV (f:=v8) (replicate 16 0#8)),trivial⟩) (fun b2=>?_)
 refine TLn (E_sv (vs:=e8 r_4.toList) 0 inf171) (fun _=>?_)
 refine TL_nil (TX_next (TC.sub (m':=[(0,_),(1,_),(9,_),(11,_)]) ⟨rfl,rfl,rfl,rfl,trivial⟩ ?_))
 refine TC_seq (TC_region (TVm ?_))
 refine TLv (V_sliceArr0 rfl (by simp) underlying171 inf5 rfl) ?_
 refine TL_re (d:=39) (v:=sl (some (b2,0)) 16 16) (v':=sl (some (b2,0)) ((r_4.toList).length) ((r_4.toList).length)) rfl (congrArg (fun n=>sl (some (b2,0)) n n) vec_tl.symm) ?_
 obtain ⟨r_5,hr_5,H⟩:=bind_elim H
 refine TLe (E_call (Γ:=Unit) (val:=fun g=>Value.tuple [].toArray) (mem:=fun g=>[⟨some (g_1,48),[v64 r_5.1]⟩,⟨some (g_1,49),[v64 r_5.2]⟩]) (vs:=[ptr (some (g_1,0)) 0,sl (some (b2,0)) ((r_4.toList).length) ((r_4.toList).length)]) (Lin:=[⟨some (g_1,48),[v64 r_3.1]⟩,⟨some (g_1,49),[v64 r_3.2]⟩]) (Ro:=[⟨some (g_1,0),eF (fun p:BitVec 64 × BitVec 64=>[v64 p.1,v64 p.2]) r_1.1.toList⟩,⟨some (g_1,32),e64 r_1.2.toList⟩,⟨some (b2,0),e8 r_4.toList⟩]) (is:=[3,3]) rfl call147 (F147_calls g_1 0 (some (b2,0)) ((r_4.toList).length) r_1.1 r_1.2 r_3.1 r_3.2 r_4.toList (Nat.le_refl _) r_5 hr_5) rfl ⟨.o 4, .o 5, .o 0,trivial⟩) (fun g_6=>?_)
 refine TL_nil (TX_next (TC_seq (TC_region (TVm ?_))))
 refine TLv (V_nilCheck rfl) ?_
 refine TLv (V_fieldE rfl underlying227 rfl rfl inf216 rfl (v:=ptr (some (g_1,48)) 0) rfl) ?_
 refine TLv (V_lp (b:=g_1) (o:=48) (n:=2) (ps:=[(1,_),(1,_)]) ⟨.o 0, .o 1,trivial⟩ isAgg216 inf216) ?_
 obtain ⟨r_6,hr_6,H⟩:=bind_elim H
 refine TLe (E_c0 (F146_calls r_5.1 r_5.2 r_6 hr_6) call146 .z) (fun g_7=>?_)
 refine TLe (E_allocP [(16,e8 ((replicate 16 0#8).toList))] inf171 zer171 ⟨(lenV (f:=v8) (replicate 16 0#8)),trivial⟩) (fun b3=>?_)
 refine TLn (E_sv (vs:=e8 r_6.toList) 0 inf171) (fun _=>?_)
 refine TL_nil (TX_next (TC_seq ?_))
 obtain ⟨r_7,hr_7,H⟩:=bind_elim H
 obtain ⟨r_8,hr_8,H⟩:=bind_elim H
 refine TA_begin [] 9 (by kernel_rfl) (N:=9) rfl ?_
 refine TA_mix (is:=[]) (done':=dn 9 255) [itV 0 46 (ptr (some (bc,obc)) 0) [],itV 1 47 (ptr (some (bc,obc)) 0) [0],itV 2 48 (ptr (some (bc,obc)) 0) [1],itV 3 49 (ptr (some (bc_aes,obc_aes)) 0) [2],itV 4 50 (vs nonce) [],itV 5 51 (aG [(16,e8 r_7.toList)]) [4],itV 6 52 (aG [(16,e8 r_8.toList)]) [3,5],⟨7,13,fun _ b4=>ptr (some (b4,0)) 0,fun b4=>[⟨some (b4,0),e8 ((replicate 16 0#8).toList)⟩],[],none⟩] [] 1 (by kernel_rfl) (QP.then QP.body) (by kernel_rfl) rfl (.v rfl (V_move rfl) (.v rfl (V_nilCheck rfl) (.v rfl (V_fe underlying219 inf211) (.v rfl (V_load rfl (.r 0) rfl isAgg211) (.v rfl (V_move rfl) (.e rfl (E_cu (F148_calls nonce 1#32 r_7 hr_7) call148 .z) (.e rfl (E_cu (F142_calls bc_aes obc_aes Ac_aes_keys cc_aes_keys c_aes_table c_aes_keys r_7 hcc_aes_keys r_8 hr_8) call142 ⟨.r 3, .r 4, .r 5,trivial⟩) (.c rfl (fun _ _=>(E_allocP [(16,e8 ((replicate 16 0#8).toList))] inf171 zer171 ⟨(lenV (f:=v8) (replicate 16 0#8)),trivial⟩)) .nil)))))))) .nil (by kernel_rfl) rfl (fun γ=>?_)
 refine TA_cut [(13,ptr (some ((γ 7),0)) 0),(52,aG [(16,e8 r_8.toList)]),(12,ptr (some (b3,0)) 0)] [⟨some ((γ 7),0),e8 ((replicate 16 0#8).toList)⟩,⟨some (b3,0),e8 r_6.toList⟩,⟨some (g_1,48),[v64 r_5.1]⟩,⟨some (g_1,49),[v64 r_5.2]⟩,⟨some (b2,0),e8 r_4.toList⟩,⟨some (b1,0),[v64 ((BitVec.ofInt 64 ((aad).length:Int)) * 8#64)]⟩,⟨some (b1,1),[v64 ((BitVec.ofInt 64 ((b).length:Int)) * 8#64)]⟩,⟨some (g_2.1,0),e8 (aad++g_2.2)⟩,⟨some (g_1,0),eF (fun p:BitVec 64 × BitVec 64=>[v64 p.1,v64 p.2]) r_1.1.toList⟩,⟨some (g_1,32),e64 r_1.2.toList⟩] ⟨rfl,rfl,rfl,trivial⟩ rfl ?_
 generalize γ 7=b4
 refine TA_all (rs:=[8]) (by kernel_rfl) rfl ?_
 refine ⟨?_,trivial⟩
 refine TO_n (is:=[]) (done':=dn 9 511) rfl rfl rfl (by kernel_rfl) (E_sv (vs:=e8 r_8.toList) 0 inf171) (fun _ _=>rfl) (fun _=>?_)
 refine TA_done (by kernel_rfl) ?_ 0
 refine TX_next (TC_seq (TC_seq (TC_region (TVm ?_))))
 refine TL_nil (TX_next (TC_block ?_))
 obtain ⟨t_1,Hl,H⟩:=bind_elim H
 refine TC.sub (m':=[(12,_),(13,_),(53,_)]) ⟨rfl,rfl,rfl,trivial⟩ ?_
 refine TC.pull (is:=[1,0]) (L':=[_,_]) rfl ?_
 refine TC_loopL (id:=0) (body:=(gcm_Cipher_Tag.b0 r_8)) (σ:=Int × Vx 8 16) (Γ:=Unit) (Γx:=Unit) (fun s0 g0_=>[(12,ptr (some (b3,0)) 0),(13,ptr (some (b4,0)) 0),(53,vi s0.1)]) (fun s0 g0_=>[⟨some (b3,0),e8 s0.2.toList⟩,⟨some (b4,0),e8 r_8.toList⟩]) (fun t g=>[(12,ptr (some (b3,0)) 0)]) (fun t g=>[⟨some (b3,0),e8 t.toList⟩]) ?_ BIG (0,r_6) () t_1 Hl ?_
 ·intro s0 g0_ r1 H K hK hE
  unfold gcm_Cipher_Tag.b0 at H
  refine TC_seq (TC_region (TLv (V_bin rfl rfl (fun w=>lssI w s0.1 16)) ?_))
  refine TL_nil (TX_next (TC_seq (TCd H (fun hc H=>?_) (fun hc H=>?_))))
  ·refine TC_skip (TX_next (TC_seq (TC_block (TC_seq (TC_region (TVm ?_))))))
   refine TVa ?_
   refine TL_nil (TX_next ?_)
   obtain ⟨h1,H⟩:=if_elim H
   obtain ⟨h2,H⟩:=if_elim H
   obtain ⟨h3,H⟩:=if_elim H
   obtain ⟨m_1,hm_1,H⟩:=ltt_elim H
   refine TA_begin [] 9 (by kernel_rfl) (N:=9) rfl ?_
   refine TA_mix (is:=[]) (done':=dn 9 255) [itV 0 56 (vi s0.1) [],itV 1 57 (ptr (some (b3,0)) ((s0.1).toNat)) [0],itV 2 58 (v8 (vg s0.2 ((s0.1).toNat))) [1],itV 3 59 (vi s0.1) [],itV 4 60 (ptr (some (b4,0)) ((s0.1).toNat)) [3],itV 5 61 (v8 (vg r_8 ((s0.1).toNat))) [4],itV 6 62 (v8 ((vg s0.2 ((s0.1).toNat)) ^^^ (vg r_8 ((s0.1).toNat)))) [2,5],itV 7 63 (ptr (some (b3,0)) ((s0.1).toNat)) [0]] [] 1 (by kernel_rfl) (QP.block (QP.then (QP.then (QP.block (QP.then QP.body))))) (by kernel_rfl) rfl (.v rfl (V_move rfl) (.v rfl (V_idxArr (i:=s0.1) rfl rfl underlying171 inf5 rfl h1.1 h1.2 (k:=(s0.1).toNat) (k01 _)) (.v rfl (V_load rfl (.o 0) (get_vec (f:=v8) (V:=s0.2) (toNat_lt h1.1 h1.2)) isAgg5) (.v rfl (V_move rfl) (.v rfl (V_idxArr (i:=s0.1) rfl rfl underlying171 inf5 rfl h2.1 h2.2 (k:=(s0.1).toNat) (k01 _)) (.v rfl (V_load rfl (.o 1) (get_vec (f:=v8) (V:=r_8) (toNat_lt h2.1 h2.2)) isAgg5) (.v rfl (V_bin rfl rfl (fun w=>xor8 w (vg s0.2 ((s0.1).toNat)) (vg r_8 ((s0.1).toNat)))) (.v rfl (V_idxArr (i:=s0.1) rfl rfl underlying171 inf5 rfl h3.1 h3.2 (k:=(s0.1).toNat) (k01 _)) .nil)))))))) .nil (by kernel_rfl) rfl (fun γ=>?_)
   refine TA_cut [(63,ptr (some (b3,0)) ((s0.1).toNat)),(62,v8 ((vg s0.2 ((s0.1).toNat)) ^^^ (vg r_8 ((s0.1).toNat)))),(12,ptr (some (b3,0)) 0),(13,ptr (some (b4,0)) 0),(53,vi s0.1)] [⟨some (b3,0),e8 s0.2.toList⟩,⟨some (b4,0),e8 r_8.toList⟩] ⟨rfl,rfl,rfl,rfl,rfl,trivial⟩ rfl ?_
   refine TA_all (rs:=[8]) (by kernel_rfl) rfl ?_
   refine ⟨?_,trivial⟩
   refine TO_n (is:=[]) (done':=dn 9 511) rfl rfl rfl (by kernel_rfl) (E_store (j:=0) rfl rfl inf5 rfl rfl rfl (by simpa using (toNat_lt h3.1 h3.2)) (cs':=e8 ((vp s0.2 ((s0.1).toNat) ((vg s0.2 ((s0.1).toNat)) ^^^ (vg r_8 ((s0.1).toNat)))).toList)) set_vec) (fun _ _=>rfl) (fun _=>?_)
   refine TA_reE (j:=0) (A:=some (b3,0)) (cs:=e8 ((vp s0.2 ((s0.1).toNat) ((vg s0.2 ((s0.1).toNat)) ^^^ (vg r_8 ((s0.1).toNat)))).toList)) (cs':=e8 m_1.toList) rfl (congrArg (fun z:Vx 8 16=>e8 (Vector.toList z)) hm_1) ?_
   refine TA_done (by kernel_rfl) ?_ 0
   refine TX_block_normal (TX_next (TC_region (TLv (V_bin rfl rfl (fun w=>addI w s0.1 1)) ?_)))
   refine TVm ?_
   refine TL_nil ?_
   obtain rfl:=sj H
   exact TXk [0,0] (hK (w64 (s0.1+1),m_1) rfl ())
  ·refine TC_exit (TX_then_exit (TX_then_exit ?_))
   obtain rfl:=sj H
   exact TXj [0] (hE s0.2 rfl ())
 ·intro g
  refine TX_block_exit (TX_next (TC_seq (TC_region (TLv (V_sliceArr0 rfl (by simp) underlying171 inf5 rfl) ?_))))
  refine TLv (V_b2s rfl underlying86 underlying5 underlying9 (.o 0) (by simp)) ?_
  refine TVa ?_
  refine TL_nil (TX_next (TC_ret ?_))
  obtain rfl:=sj H
  exact TX1
end Go.Proofs
end

section
namespace Go.Proofs
open Go Go.Kx
open Vector (replicate)
open TryzI Tryz
def gcm_Cipher_Xor.b1 (b:List (BitVec 8)) (s0:Nat × BitVec 32 × List (BitVec 8)) (r_2:Vx 8 16) (m_1:Int) (s1:Int × List (BitVec 8)):Option ((Int × List (BitVec 8)) ⊕ (List (BitVec 8))) :=
 if s1.1<m_1 then (if (b).length≤(s1.2).length then (if (b).length≤(s1.2).length then (if 0≤s1.1∧s1.1<(((((b).length) - s0.1:Nat):Int):Int) then (if 0≤s1.1∧s1.1<(16:Int) then (if (b).length≤(s1.2).length then (if (b).length≤(s1.2).length then (if 0≤s1.1∧s1.1<(((((b).length) - s0.1:Nat):Int):Int) then (ltt (s1.2.set (s0.1+((s1.1).toNat)) ((lg s1.2 (s0.1+((s1.1).toNat))) ^^^ (vg r_2 ((s1.1).toNat)))) fun (m_2:List (BitVec 8))=>(some (.inl (w64 (s1.1+1),m_2)))) else none) else none) else none) else none) else none) else none) else none) else (some (.inr s1.2))
def gcm_Cipher_Xor.b0 (c_aes_table:Vx 8 256) (c_aes_keys:List (Vx 8 16)) (nonce:Str) (b:List (BitVec 8)) (s0:Nat × BitVec 32 × List (BitVec 8)):Option ((Nat × BitVec 32 × List (BitVec 8)) ⊕ (List (BitVec 8))) :=
 if 0<((((b).length) - s0.1:Nat):Int) then ((gcm_counter nonce s0.2.1).bind fun (r_1:Vx 8 16)=>((aes_Cipher_Encrypt c_aes_table c_aes_keys r_1).bind fun (r_2:Vx 8 16)=>(ltt (min ((((b).length) - s0.1:Nat):Int) 16) fun (m_1:Int)=>((loop (gcm_Cipher_Xor.b1 b s0 r_2 m_1) BIG (0,s0.2.2)).bind fun (t_2:List (BitVec 8))=>(if 0≤m_1 then (if (b).length≤(t_2).length then (if s0.1≤(b).length then (if (m_1).toNat≤((b).length) - s0.1 then (ltt (s0.2.1+1#32) fun (n1:BitVec 32)=>(some (.inl (s0.1+((m_1).toNat),n1,t_2)))) else none) else none) else none) else none))))) else (some (.inr s0.2.2))
def gcm_Cipher_Xor (c_aes_table:Vx 8 256) (c_aes_keys:List (Vx 8 16)) (c_h_high:BitVec 64) (c_h_low:BitVec 64) (nonce:Str) (b:List (BitVec 8)):Option (List (BitVec 8)) :=
 (loop (gcm_Cipher_Xor.b0 c_aes_table c_aes_keys nonce b) BIG (0,2#32,b)).bind fun (t_1:List (BitVec 8))=>(some t_1)
set_option maxHeartbeats 4000000 in
set_option maxRecDepth 20000 in
theorem F131_calls (bc:Nat) (obc:Nat) (bc_aes:Nat) (obc_aes:Nat) (Ac_aes_keys:Adr) (cc_aes_keys:Nat) (Ab:Adr) (spb:List (BitVec 8)) (c_aes_table:Vx 8 256) (c_aes_keys:List (Vx 8 16)) (c_h_high:BitVec 64) (c_h_low:BitVec 64) (nonce:Str) (b:List (BitVec 8)) (hcc_aes_keys:(c_aes_keys).length≤cc_aes_keys) (r:List (BitVec 8)) (H:gcm_Cipher_Xor c_aes_table c_aes_keys c_h_high c_h_low nonce b=some r) :
  Does Tryz.prog 131 [ptr (some (bc,obc)) 0,vs nonce,sl Ab ((b).length) ((b++spb).length)] [⟨Ab,e8 (b++spb)⟩] [⟨some (bc,obc),[ptr (some (bc_aes,obc_aes)) 0]⟩,⟨some (bc,obc+1),[v64 c_h_high]⟩,⟨some (bc,obc+2),[v64 c_h_low]⟩,⟨some (bc_aes,obc_aes),e8 c_aes_table.toList⟩,⟨some (bc_aes,obc_aes+256),[sl Ac_aes_keys ((c_aes_keys).length) cc_aes_keys]⟩,⟨Ac_aes_keys,eF (fun V:Vx 8 16=>e8 V.toList) c_aes_keys⟩] (Γ:=Unit) (fun g=>Value.tuple [].toArray) (fun g=>[⟨Ab,e8 (r++spb)⟩]):=by
 intro w hmem hro hd
 refine calls_of (N:=43) (m0:=[(0,ptr (some (bc,obc)) 0),(1,vs nonce),(2,sl Ab ((b).length) ((b++spb).length))]) func131 rfl ntmps131 (argM_ok [ptr (some (bc,obc)) 0,vs nonce,sl Ab ((b).length) ((b++spb).length)]) rfl hmem hro hd ?_
 unfold gcm_Cipher_Xor at H
 refine TC_seq (TC_region (TVa ?_))
 refine TL_nil (TX_next (TC_block (TC_re (d:=2) (v:=sl Ab ((b).length) ((b++spb).length)) (v':=sl (cutB Ab ((b++spb).length) 0 0 1) (((b).length) - 0) (((b++spb).length) - 0)) rfl (vw_seed 1) ?_)))
 obtain ⟨t_1,Hl,H⟩:=bind_elim H
 refine TC.sub (m':=[(0,_),(1,_),(2,_),(6,_)]) ⟨rfl,rfl,rfl,rfl,trivial⟩ ?_
 refine TC.pull (is:=[0]) (L':=[_]) rfl ?_
 refine TC_loopL (id:=0) (body:=(gcm_Cipher_Xor.b0 c_aes_table c_aes_keys nonce b)) (σ:=Nat × BitVec 32 × List (BitVec 8)) (Γ:=Nat) (Γx:=Unit) (fun s0 g0_=>[(0,ptr (some (bc,obc)) 0),(1,vs nonce),(2,sl (cutB Ab ((s0.2.2++spb).length) s0.1 g0_ 1) (((b).length) - s0.1) (((s0.2.2++spb).length) - s0.1)),(6,v32 s0.2.1)]) (fun s0 g0_=>[⟨Ab,e8 (s0.2.2++spb)⟩]) (fun t g=>[]) (fun t g=>[⟨Ab,e8 (t++spb)⟩]) ?_ BIG (0,2#32,b) 0 t_1 Hl ?_
 ·intro s0 g0_ r1 H K hK hE
  unfold gcm_Cipher_Xor.b0 at H
  refine TC_seq (TC_seq (TC_region (TVm ?_)))
  refine TLv (V_len_slice rfl underlying86) ?_
  refine TLv (V_bin rfl rfl (fun w=>gtrI w ((((b).length) - s0.1:Nat):Int) 0)) ?_
  refine TL_nil (TX_next (TCd H (fun hc H=>?_) (fun hc H=>?_)))
  ·refine TC_skip (TX_next (TC_seq (TC_block (TC_seq ?_))))
   obtain ⟨r_1,hr_1,H⟩:=bind_elim H
   obtain ⟨r_2,hr_2,H⟩:=bind_elim H
   refine TA_begin [] 10 (by kernel_rfl) (N:=10) rfl ?_
   refine TA_mix (is:=[]) (done':=dn 10 511) [itV 0 15 (ptr (some (bc,obc)) 0) [],itV 1 16 (ptr (some (bc,obc)) 0) [0],itV 2 17 (ptr (some (bc,obc)) 0) [1],itV 3 18 (ptr (some (bc_aes,obc_aes)) 0) [2],itV 4 19 (vs nonce) [],itV 5 20 (v32 s0.2.1) [],itV 6 21 (aG [(16,e8 r_1.toList)]) [4,5],itV 7 22 (aG [(16,e8 r_2.toList)]) [3,6],⟨8,7,fun _ b1=>ptr (some (b1,0)) 0,fun b1=>[⟨some (b1,0),e8 ((replicate 16 0#8).toList)⟩],[],none⟩] [] 1 (by kernel_rfl) (QP.then (QP.block (QP.then (QP.then (QP.block QP.body))))) (by kernel_rfl) rfl (.v rfl (V_move rfl) (.v rfl (V_nilCheck rfl) (.v rfl (V_fe underlying219 inf211) (.v rfl (V_load rfl (.r 0) rfl isAgg211) (.v rfl (V_move rfl) (.v rfl (V_move rfl) (.e rfl (E_cu (F148_calls nonce s0.2.1 r_1 hr_1) call148 .z) (.e rfl (E_cu (F142_calls bc_aes obc_aes Ac_aes_keys cc_aes_keys c_aes_table c_aes_keys r_1 hcc_aes_keys r_2 hr_2) call142 ⟨.r 3, .r 4, .r 5,trivial⟩) (.c rfl (fun _ _=>(E_allocP [(16,e8 ((replicate 16 0#8).toList))] inf171 zer171 ⟨(lenV (f:=v8) (replicate 16 0#8)),trivial⟩)) .nil))))))))) .nil (by kernel_rfl) rfl (fun γ=>?_)
   refine TA_cut [(7,ptr (some ((γ 8),0)) 0),(22,aG [(16,e8 r_2.toList)]),(0,ptr (some (bc,obc)) 0),(1,vs nonce),(2,sl (cutB Ab ((s0.2.2++spb).length) s0.1 g0_ 1) (((b).length) - s0.1) (((s0.2.2++spb).length) - s0.1)),(6,v32 s0.2.1)] [⟨some ((γ 8),0),e8 ((replicate 16 0#8).toList)⟩,⟨Ab,e8 (s0.2.2++spb)⟩] ⟨rfl,rfl,rfl,rfl,rfl,rfl,trivial⟩ rfl ?_
   generalize γ 8=b1
   refine TA_all (rs:=[9]) (by kernel_rfl) rfl ?_
   refine ⟨?_,trivial⟩
   refine TO_n (is:=[]) (done':=dn 10 1023) rfl rfl rfl (by kernel_rfl) (E_sv (vs:=e8 r_2.toList) 0 inf171) (fun _ _=>rfl) (fun _=>?_)
   refine TA_done (by kernel_rfl) ?_ 0
   refine TX_next (TC_seq (TC_region (TVm ?_)))
   refine TLv (V_len_slice rfl underlying86) ?_
   refine TLv (V_min rfl rfl) ?_
   refine TVa ?_
   obtain ⟨m_1,hm_1,H⟩:=ltt_elim H
   refine TLr 8 (congrArg vi hm_1) ?_
   refine TL_nil (TX_next (TC_seq (TC_seq (TC_region (TVm ?_)))))
   refine TVm ?_
   refine TL_nil (TX_next (TC_block ?_))
   obtain ⟨t_2,Hl,H⟩:=bind_elim H
   refine TC.sub (m':=[(0,_),(1,_),(2,_),(6,_),(7,_),(8,_),(26,_),(27,_)]) ⟨rfl,rfl,rfl,rfl,rfl,rfl,rfl,rfl,trivial⟩ ?_
   refine TC.pull (is:=[1,0]) (L':=[_,_]) rfl ?_
   refine TC_loopL (id:=2) (body:=(gcm_Cipher_Xor.b1 b s0 r_2 m_1)) (σ:=Int × List (BitVec 8)) (Γ:=Unit) (Γx:=Unit) (fun s1 g1_=>[(0,ptr (some (bc,obc)) 0),(1,vs nonce),(2,sl (cutB Ab ((s1.2++spb).length) s0.1 g0_ 1) (((b).length) - s0.1) (((s1.2++spb).length) - s0.1)),(6,v32 s0.2.1),(7,ptr (some (b1,0)) 0),(8,vi m_1),(26,vi m_1),(27,vi s1.1)]) (fun s1 g1_=>[⟨Ab,e8 (s1.2++spb)⟩,⟨some (b1,0),e8 r_2.toList⟩]) (fun t g=>[(0,ptr (some (bc,obc)) 0),(1,vs nonce),(2,sl (cutB Ab ((t++spb).length) s0.1 g0_ 1) (((b).length) - s0.1) (((t++spb).length) - s0.1)),(6,v32 s0.2.1),(8,vi m_1)]) (fun t g=>[⟨Ab,e8 (t++spb)⟩]) ?_ BIG (0,s0.2.2) () t_2 Hl ?_
   ·intro s1 g1_ r1 H K hK hE
    unfold gcm_Cipher_Xor.b1 at H
    refine TC_seq (TC_region (TLv (V_bin rfl rfl (fun w=>lssI w s1.1 m_1)) ?_))
    refine TL_nil (TX_next (TC_seq (TCd H (fun hc H=>?_) (fun hc H=>?_))))
    ·refine TC_skip (TX_next (TC_seq (TC_block (TC_seq (TC_region (TVm ?_))))))
     refine TVa ?_
     refine TL_nil (TX_next ?_)
     obtain ⟨h1,H⟩:=if_elim H
     obtain ⟨h2,H⟩:=if_elim H
     obtain ⟨h3,H⟩:=if_elim H
     obtain ⟨h4,H⟩:=if_elim H
     obtain ⟨h5,H⟩:=if_elim H
     obtain ⟨h6,H⟩:=if_elim H
     obtain ⟨h7,H⟩:=if_elim H
     obtain ⟨m_2,hm_2,H⟩:=ltt_elim H
     refine TA_begin [] 10 (by kernel_rfl) (N:=10) rfl ?_
     refine TA_mix (is:=[]) (done':=dn 10 511) [itV 0 30 (sl (cutB Ab ((s1.2++spb).length) s0.1 g0_ 1) (((b).length) - s0.1) (((s1.2++spb).length) - s0.1)) [],itV 1 31 (vi s1.1) [],itV 2 32 (ptr Ab (s0.1+((s1.1).toNat))) [0,1],itV 3 33 (v8 (lg s1.2 (s0.1+((s1.1).toNat)))) [2],itV 4 34 (vi s1.1) [],itV 5 35 (ptr (some (b1,0)) ((s1.1).toNat)) [4],itV 6 36 (v8 (vg r_2 ((s1.1).toNat))) [5],itV 7 37 (v8 ((lg s1.2 (s0.1+((s1.1).toNat))) ^^^ (vg r_2 ((s1.1).toNat)))) [3,6],itV 8 38 (ptr Ab (s0.1+((s1.1).toNat))) [0,1]] [] 1 (by kernel_rfl) (QP.block (QP.then (QP.then (QP.block (QP.then (QP.block (QP.then (QP.then (QP.block QP.body))))))))) (by kernel_rfl) rfl (.v rfl (V_move rfl) (.v rfl (V_move rfl) (.v rfl (V_idxVw (i:=s1.1) rfl rfl underlying86 inf5 rfl (.o 0) (map_ne (lt_app (idx_lt h3.2 h3.1 h2))) h3.1 h3.2 (Nat.le_trans h1 (row_le _ _)) (k:=s0.1+((s1.1).toNat)) (km1 _)) (.v rfl (V_load rfl (.o 0) (get_row (f:=v8) (l:=s1.2) (sp:=spb) (idx_lt h3.2 h3.1 h2)) isAgg5) (.v rfl (V_move rfl) (.v rfl (V_idxArr (i:=s1.1) rfl rfl underlying171 inf5 rfl h4.1 h4.2 (k:=(s1.1).toNat) (k01 _)) (.v rfl (V_load rfl (.o 1) (get_vec (f:=v8) (V:=r_2) (toNat_lt h4.1 h4.2)) isAgg5) (.v rfl (V_bin rfl rfl (fun w=>xor8 w (lg s1.2 (s0.1+((s1.1).toNat))) (vg r_2 ((s1.1).toNat)))) (.v rfl (V_idxVw (i:=s1.1) rfl rfl underlying86 inf5 rfl (.o 0) (map_ne (lt_app (idx_lt h7.2 h7.1 h6))) h7.1 h7.2 (Nat.le_trans h5 (row_le _ _)) (k:=s0.1+((s1.1).toNat)) (km1 _)) .nil))))))))) .nil (by kernel_rfl) rfl (fun γ=>?_)
     refine TA_cut [(38,ptr Ab (s0.1+((s1.1).toNat))),(37,v8 ((lg s1.2 (s0.1+((s1.1).toNat))) ^^^ (vg r_2 ((s1.1).toNat)))),(0,ptr (some (bc,obc)) 0),(1,vs nonce),(2,sl (cutB Ab ((s1.2++spb).length) s0.1 g0_ 1) (((b).length) - s0.1) (((s1.2++spb).length) - s0.1)),(6,v32 s0.2.1),(7,ptr (some (b1,0)) 0),(8,vi m_1),(26,vi m_1),(27,vi s1.1)] [⟨Ab,e8 (s1.2++spb)⟩,⟨some (b1,0),e8 r_2.toList⟩] ⟨rfl,rfl,rfl,rfl,rfl,rfl,rfl,rfl,rfl,rfl,trivial⟩ rfl ?_
     refine TA_all (rs:=[9]) (by kernel_rfl) rfl ?_
     refine ⟨?_,trivial⟩
     refine TO_n (is:=[]) (done':=dn 10 1023) rfl rfl rfl (by kernel_rfl) (E_store (j:=0) rfl rfl inf5 rfl rfl rfl (by rw [List.length_map]; exact lt_app (idx_lt h7.2 h7.1 h6)) (cs':=e8 ((s1.2.set (s0.1+((s1.1).toNat)) ((lg s1.2 (s0.1+((s1.1).toNat))) ^^^ (vg r_2 ((s1.1).toNat))))++spb)) (set_row (idx_lt h7.2 h7.1 h6))) (fun _ _=>rfl) (fun _=>?_)
     refine TA_reE (j:=0) (A:=Ab) (cs:=e8 ((s1.2.set (s0.1+((s1.1).toNat)) ((lg s1.2 (s0.1+((s1.1).toNat))) ^^^ (vg r_2 ((s1.1).toNat))))++spb)) (cs':=e8 (m_2++spb)) rfl (congrArg (fun z=>e8 (z++spb)) hm_2) ?_
     refine TA_re (d:=2) (v:=sl (cutB Ab ((s1.2++spb).length) s0.1 g0_ 1) (((b).length) - s0.1) (((s1.2++spb).length) - s0.1)) (v':=sl (cutB Ab ((m_2++spb).length) s0.1 g0_ 1) (((b).length) - s0.1) (((m_2++spb).length) - s0.1)) rfl (vw_c (s:=1) (cap_set hm_2)) ?_
     refine TA_done (by kernel_rfl) ?_ 0
     refine TX_block_normal (TX_next (TC_region (TLv (V_bin rfl rfl (fun w=>addI w s1.1 1)) ?_)))
     refine TVm ?_
     refine TL_nil ?_
     obtain rfl:=sj H
     exact TXk [0,0] (hK (w64 (s1.1+1),m_2) rfl ())
    ·refine TC_exit (TX_then_exit (TX_then_exit ?_))
     obtain rfl:=sj H
     exact TXj [0] (hE s1.2 rfl ())
   ·intro g
    refine TX_block_exit (TX_next (TC_region (TVm ?_)))
    refine TVm ?_
    obtain ⟨h8,H⟩:=if_elim H
    obtain ⟨h9,H⟩:=if_elim H
    obtain ⟨h10,H⟩:=if_elim H
    obtain ⟨h11,H⟩:=if_elim H
    refine TLv (V_sliceVw (l:=(m_1).toNat) (h:=((b).length) - s0.1) rfl underlying86 inf5 rfl (Bnd.some' (i:=m_1) rfl h8) Bnd.none' h11 (Nat.le_refl _) (Nat.le_trans h9 (row_le _ _)) (Nat.add_sub_cancel' h10)) ?_
    refine TVa ?_
    refine TL_nil (TX_block_normal (TX_next (TC_region (TVm ?_))))
    refine TLv (V_bin rfl rfl (fun w=>add32 w s0.2.1 1#32)) ?_
    refine TVa ?_
    obtain ⟨n1,hn1,H⟩:=ltt_elim H
    refine TLr 6 (congrArg v32 hn1) ?_
    refine TL_nil ?_
    obtain rfl:=sj H
    exact TXk [0] (hK (s0.1+((m_1).toNat),n1,t_2) rfl (if (t_2++spb).length=s0.1 then g0_ else s0.1))
  ·refine TC_exit (TX_then_exit (TX_then_exit ?_))
   obtain rfl:=sj H
   exact TXj [0] (hE s0.2.2 rfl ())
 ·intro g
  refine TX_block_exit ?_
  obtain rfl:=sj H
  exact TX_end (rs:=[]) (vs:=[]) rfl trivial (fun w' hs'=>⟨(),rfl,Step.left (Step.pulled (is:=[0]) (A:=[⟨Ab,e8 (t_1++spb)⟩]) hs' rfl)⟩)
end Go.Proofs
end

section
namespace Go.Proofs
open Go Go.Kx
open TryzI Tryz
def gcm_Open (key:Str) (nonce:Str) (aad:Str) (s_:Str):Option (Str × Int) :=
 (gcm_New key).bind fun (r_1:(Unit) ⊕ (Vx 8 256 × Nat × List (Vx 8 16) × BitVec 64 × BitVec 64))=>(match r_1 with | .inl r_1=>(some (([]:Str),500)) | .inr r_1=>((gcm_may nonce aad 65552 ((s_).length:Int)).bind fun (r_2:Bool)=>(if (!r_2)=true then (some (([]:Str),500)) else (ltt (w64 (((s_).length:Int) - 16)) fun (n1:Int)=>(if n1<0 then (some (([]:Str),501)) else (if 0≤n1 then (if (n1).toNat≤(s_).length then (if r_1.2.1=(r_1.2.2.1).length then ((gcm_Cipher_Tag r_1.1 r_1.2.2.1 r_1.2.2.2.1 r_1.2.2.2.2 nonce aad (sub s_ 0 ((n1).toNat))).bind fun (r_3:Str)=>(if 0≤n1 then (if (n1).toNat≤(s_).length then (if r_3 ≠ sub s_ ((n1).toNat) ((s_).length) then (some (([]:Str),501)) else ((gcm_Cipher_Xor r_1.1 r_1.2.2.1 r_1.2.2.2.1 r_1.2.2.2.2 nonce (sub s_ 0 ((n1).toNat))).bind fun (r_4:List (BitVec 8))=>(if (r_4).length=(sub s_ 0 ((n1).toNat)).length then (some (r_4,0)) else none))) else none) else none)) else none) else none) else none))))))
set_option maxHeartbeats 4000000 in
set_option maxRecDepth 20000 in
theorem F119_calls (key:Str) (nonce:Str) (aad:Str) (s_:Str) (r:Str × Int) (H:gcm_Open key nonce aad s_=some r) :
  Does Tryz.prog 119 [vs key,vs nonce,vs aad,vs s_] [] [] (Γ:=Unit) (fun g=>Value.tuple [vs r.1,vi r.2].toArray) (fun g=>[]):=by
 intro w hmem hro hd
 refine calls_of (N:=53) (m0:=[(0,vs key),(1,vs nonce),(2,vs aad),(3,vs s_)]) func119 rfl ntmps119 (argM_ok [vs key,vs nonce,vs aad,vs s_]) rfl hmem hro hd ?_
 unfold gcm_Open at H
 refine TC_seq (TC_region (TVa ?_))
 refine TVa ?_
 refine TL_nil (TX_next (TC_seq (TC_region (TVm ?_))))
 obtain ⟨r_1,hr_1,H⟩:=bind_elim H
 rcases r_1 with r_1 | r_1
 ·dsimp only at H
  refine TL_e rfl rfl rfl (E_call (Γ:=Unit × (Nat × Nat × Nat)) (val:=fun g=>Value.tuple [Value.pointer none,vb false].toArray) (mem:=fun g=>[]) (vs:=[vs key]) (Lin:=[]) (Ro:=[]) (is:=[]) rfl call128 (F128_calls key (.inl r_1) hr_1) rfl trivial) (fun g_1=>?_)
  refine TVm ?_
  refine TLv V_ex ?_
  refine TLv V_ex ?_
  refine TVa ?_
  refine TVa ?_
  refine TL_nil (TX_next (TC_seq (TC_seq (TC_region (TVm ?_)))))
  refine TLv (V_un rfl (fun w=>notB w false)) ?_
  refine TVm ?_
  refine TLs ?_
  refine TLs ?_
  refine TLs ?_
  refine TLs ?_
  refine TLs ?_
  refine TLs ?_
  refine TVt ?_
  refine TL_nil (TX_next (TC_cond_t rfl ?_))
  refine TC_seq (TC_region (TVa ?_))
  refine TVa ?_
  refine TL_nil (TX_next (TC_ret (TX_then_ret ?_)))
  obtain rfl:=sj H
  exact TX2
 ·dsimp only at H
  refine TL_e rfl rfl rfl (E_call (Γ:=Unit × (Nat × Nat × Nat)) (val:=fun g=>Value.tuple [ptr (some (g.2.1,0)) 0,vb true].toArray) (mem:=fun g=>[⟨some (g.2.1,0),[ptr (some (g.2.2.1,0)) 0]⟩,⟨some (g.2.2.1,0),e8 r_1.1.toList⟩,⟨some (g.2.2.1,256),[sl (some (g.2.2.2,0)) r_1.2.1 r_1.2.1]⟩,⟨some (g.2.2.2,0),eF (fun V:Vx 8 16=>e8 V.toList) r_1.2.2.1⟩,⟨some (g.2.1,1),[v64 r_1.2.2.2.1]⟩,⟨some (g.2.1,2),[v64 r_1.2.2.2.2]⟩]) (vs:=[vs key]) (Lin:=[]) (Ro:=[]) (is:=[]) rfl call128 (F128_calls key (.inr r_1) hr_1) rfl trivial) (fun g_2=>?_)
  refine TVm ?_
  refine TLv V_ex ?_
  refine TLv V_ex ?_
  refine TVa ?_
  refine TVa ?_
  refine TL_nil (TX_next (TC_seq (TC_seq (TC_region (TVm ?_)))))
  refine TLv (V_un rfl (fun w=>notB w true)) ?_
  refine TVm ?_
  refine TLw (V_move rfl) ?_
  refine TLw (V_move rfl) ?_
  refine TLw (V_move rfl) ?_
  refine TLw (V_len_str rfl underlying9) ?_
  obtain ⟨r_2,hr_2,H⟩:=bind_elim H
  refine TLu (E_c0 (F129_calls nonce aad 65552 ((s_).length:Int) r_2 hr_2) call129 .z) (fun g_3=>?_)
  refine TLw (V_un rfl (fun w=>notB w r_2)) ?_
  refine TVf ?_
  refine TL_nil (TX_next (TCb H (fun hc H=>?_) (fun hc H=>?_)))
  ·refine TC_seq (TC_region (TVa ?_))
   refine TVa ?_
   refine TL_nil (TX_next (TC_ret (TX_then_ret ?_)))
   obtain rfl:=sj H
   exact TX2
  ·refine TC_skip (TX_next (TC_seq (TC_region (TVm ?_))))
   refine TLv (V_len_str rfl underlying9) ?_
   refine TLv (V_bin rfl rfl (fun w=>subI w ((s_).length:Int) 16)) ?_
   refine TVa ?_
   obtain ⟨n1,hn1,H⟩:=ltt_elim H
   refine TLr 12 (congrArg vi hn1) ?_
   refine TL_nil (TX_next (TC_seq (TC_seq (TC_region (TVm ?_)))))
   refine TLv (V_bin rfl rfl (fun w=>lssI w n1 0)) ?_
   refine TL_nil (TX_next (TCd H (fun hc H=>?_) (fun hc H=>?_)))
   ·refine TC_seq (TC_region (TVa ?_))
    refine TVa ?_
    refine TL_nil (TX_next (TC.sub (m':=[(8,_),(9,_)]) ⟨rfl,rfl,trivial⟩ ?_))
    refine TC_ret (TX_then_ret ?_)
    obtain rfl:=sj H
    exact TX2
   ·refine TC_skip (TX_next (TC_seq (TC_region (TVm ?_))))
    refine TVm ?_
    obtain ⟨h1,H⟩:=if_elim H
    obtain ⟨h2,H⟩:=if_elim H
    refine TLv (V_sliceStr (l:=0) (h:=(n1).toNat) rfl underlying9 Bnd.none' (Bnd.some' (i:=n1) rfl h1) (Nat.zero_le _) h2) ?_
    refine TLe (E_s2bR rfl underlying9 underlying86 underlying5) (fun g_4=>?_)
    refine TVa ?_
    refine TL_nil (TX_next (TC.sub (m':=[(1,_),(2,_),(3,_),(10,_),(12,_),(13,_)]) ⟨rfl,rfl,rfl,rfl,rfl,rfl,trivial⟩ ?_))
    refine TC_seq (TC_seq ?_)
    obtain ⟨h3,H⟩:=if_elim H
    obtain ⟨r_3,hr_3,H⟩:=bind_elim H
    obtain ⟨h4,H⟩:=if_elim H
    obtain ⟨h5,H⟩:=if_elim H
    refine TA_begin [⟨some (g_4.1,0),e8 ((sub s_ 0 ((n1).toNat))++g_4.2)⟩,⟨some (g_2.2.1,0),[ptr (some (g_2.2.2.1,0)) 0]⟩,⟨some (g_2.2.2.1,0),e8 r_1.1.toList⟩,⟨some (g_2.2.2.2,0),eF (fun V:Vx 8 16=>e8 V.toList) r_1.2.2.1⟩,⟨some (g_2.2.1,1),[v64 r_1.2.2.2.1]⟩,⟨some (g_2.2.1,2),[v64 r_1.2.2.2.2]⟩] 9 (by kernel_rfl) (N:=9) rfl ?_
    refine TA_tk 0 [0,0,0,1,1,1] (dn 9 1) rfl rfl (V_move rfl) ?_
    refine TA_tk 1 [0,0,0,1,1,1] (dn 9 3) rfl rfl (V_move rfl) ?_
    refine TA_tk 2 [0,0,0,1,1,1] (dn 9 7) rfl rfl (V_move rfl) ?_
    refine TA_tk 3 [0,0,0,1,1,1] (dn 9 15) rfl rfl (V_move rfl) ?_
    refine TA_tk 5 [0,0,0,1,1,1] (dn 9 47) rfl rfl (V_move rfl) ?_
    refine TA_tk 6 [0,0,0,1,1,1] (dn 9 111) rfl rfl (V_move rfl) ?_
    refine TA_tk 7 [0,0,0,1,1,1] (dn 9 239) rfl rfl (V_sliceStr (l:=(n1).toNat) (h:=(s_).length) rfl underlying9 (Bnd.some' (i:=n1) rfl h4) Bnd.none' h5 (Nat.le_refl _)) ?_
    refine TA_all (rs:=[4]) (by kernel_rfl) rfl ?_
    refine ⟨?_,trivial⟩
    refine TO_reE (j:=3) (A:=some (g_2.2.2.1,256)) (cs:=[sl (some (g_2.2.2.2,0)) r_1.2.1 r_1.2.1]) (cs':=[sl (some (g_2.2.2.2,0)) ((r_1.2.2.1).length) ((r_1.2.2.1).length)]) rfl (congrArg (fun n=>[sl (some (g_2.2.2.2,0)) n n]) h3) ?_
    refine TO_e (is:=[0,0,0,1,1,1]) (done':=dn 9 255) rfl rfl rfl rfl (by kernel_rfl) (E_c0 (F130_calls g_2.2.1 0 g_2.2.2.1 0 (some (g_2.2.2.2,0)) ((r_1.2.2.1).length) (some (g_4.1,0)) (((sub s_ 0 ((n1).toNat))++g_4.2).length) r_1.1 r_1.2.2.1 r_1.2.2.2.1 r_1.2.2.2.2 nonce aad (sub s_ 0 ((n1).toNat)) (Nat.le_refl _) (row_le _ _) r_3 hr_3) call130 ⟨.o 1, .o 5, .o 6, .o 2, .o 3, .o 4,(srcdRow (.o 0)),trivial⟩) (fun _ _=>rfl) (fun g_5=>?_)
    refine TA_tk 8 [0,0,0,1,1,1] (dn 9 511) rfl rfl (V_bin rfl rfl (fun w=>neqS w r_3 (sub s_ ((n1).toNat) ((s_).length)))) ?_
    refine TA_done (by kernel_rfl) ?_ 0
    refine TX_next (TCd H (fun hc H=>?_) (fun hc H=>?_))
    ·refine TC_seq (TC_region (TVa ?_))
     refine TVa ?_
     refine TL_nil (TX_next (TC_ret (TX_then_ret ?_)))
     obtain rfl:=sj H
     exact TX2
    ·refine TC_skip (TX_next (TC_seq (TC_region (TVm ?_))))
     refine TVm ?_
     refine TVm ?_
     obtain ⟨r_4,hr_4,H⟩:=bind_elim H
     refine TLe (E_call (Γ:=Unit) (val:=fun g=>Value.tuple [].toArray) (mem:=fun g=>[⟨some (g_4.1,0),e8 (r_4++g_4.2)⟩]) (vs:=[ptr (some (g_2.2.1,0)) 0,vs nonce,sl (some (g_4.1,0)) ((sub s_ 0 ((n1).toNat)).length) (((sub s_ 0 ((n1).toNat))++g_4.2).length)]) (Lin:=[⟨some (g_4.1,0),e8 ((sub s_ 0 ((n1).toNat))++g_4.2)⟩]) (Ro:=[⟨some (g_2.2.1,0),[ptr (some (g_2.2.2.1,0)) 0]⟩,⟨some (g_2.2.1,1),[v64 r_1.2.2.2.1]⟩,⟨some (g_2.2.1,2),[v64 r_1.2.2.2.2]⟩,⟨some (g_2.2.2.1,0),e8 r_1.1.toList⟩,⟨some (g_2.2.2.1,256),[sl (some (g_2.2.2.2,0)) ((r_1.2.2.1).length) ((r_1.2.2.1).length)]⟩,⟨some (g_2.2.2.2,0),eF (fun V:Vx 8 16=>e8 V.toList) r_1.2.2.1⟩]) (is:=[0]) rfl call131 (F131_calls g_2.2.1 0 g_2.2.2.1 0 (some (g_2.2.2.2,0)) ((r_1.2.2.1).length) (some (g_4.1,0)) g_4.2 r_1.1 r_1.2.2.1 r_1.2.2.2.1 r_1.2.2.2.2 nonce (sub s_ 0 ((n1).toNat)) (Nat.le_refl _) r_4 hr_4) rfl ⟨.o 0, .o 4, .o 5, .o 1, .o 2, .o 3,trivial⟩) (fun g_6=>?_)
     obtain ⟨h6,H⟩:=if_elim H
     refine TL_re (d:=13) (v:=sl (some (g_4.1,0)) ((sub s_ 0 ((n1).toNat)).length) (((sub s_ 0 ((n1).toNat))++g_4.2).length)) (v':=sl (some (g_4.1,0)) ((r_4).length) ((r_4++g_4.2).length)) rfl (row_len h6) ?_
     refine TL_re (d:=41) (v:=sl (some (g_4.1,0)) ((sub s_ 0 ((n1).toNat)).length) (((sub s_ 0 ((n1).toNat))++g_4.2).length)) (v':=sl (some (g_4.1,0)) ((r_4).length) ((r_4++g_4.2).length)) rfl (row_len h6) ?_
     refine TL_re (d:=49) (v:=sl (some (g_4.1,0)) ((sub s_ 0 ((n1).toNat)).length) (((sub s_ 0 ((n1).toNat))++g_4.2).length)) (v':=sl (some (g_4.1,0)) ((r_4).length) ((r_4++g_4.2).length)) rfl (row_len h6) ?_
     refine TL_nil (TX_next (TC_seq (TC_region (TVm ?_))))
     refine TLv (V_b2s rfl underlying86 underlying5 underlying9 (srcRow (.o 0)) rfl) ?_
     refine TVa ?_
     refine TVa ?_
     refine TL_nil (TX_next (TC_ret ?_))
     obtain rfl:=sj H
     exact TX2
end Go.Proofs
end

section
namespace Go.Proofs
open Go Go.Kx
open TryzI Tryz
def wire_number.b0 (s_:Str) (at_:Int) (size:Int) (s0:Int × Int):Option ((Int × Int) ⊕ (Int)) :=
 if s0.2<size then (if 0≤w64 (at_+s0.2)∧w64 (at_+s0.2)<((s_).length:Int) then (ltt (iop (· ||| ·) (shlI' s0.1 8) ((sg s_ (w64 (at_+s0.2))).toNat:Int)) fun (x1:Int)=>(some (.inl (x1,w64 (s0.2+1))))) else none) else (some (.inr s0.1))
def wire_number (s_:Str) (at_:Int) (size:Int):Option (Int × Int × Int) :=
 if at_<0 then (some (0,0,100)) else (if ((s_).length:Int)<at_ then (some (0,0,100)) else (if (w64 (((s_).length:Int) - at_))<size then (some (0,0,100)) else ((loop (wire_number.b0 s_ at_ size) BIG (0,0)).bind fun (t_1:Int)=>(ltt (w64 (at_+size)) fun (x2:Int)=>(some (t_1,x2,0))))))
set_option maxHeartbeats 4000000 in
set_option maxRecDepth 20000 in
theorem F132_calls (s_:Str) (at_:Int) (size:Int) (r:Int × Int × Int) (H:wire_number s_ at_ size=some r) :
  Does Tryz.prog 132 [vs s_,vi at_,vi size] [] [] (Γ:=Unit) (fun g=>Value.tuple [vi r.1,vi r.2.1,vi r.2.2].toArray) (fun g=>[]):=by
 intro w hmem hro hd
 refine calls_of (N:=45) (m0:=[(0,vs s_),(1,vi at_),(2,vi size)]) func132 rfl ntmps132 (argM_ok [vs s_,vi at_,vi size]) rfl hmem hro hd ?_
 unfold wire_number at H
 refine TC_seq (TC_region (TVa ?_))
 refine TVa ?_
 refine TVa ?_
 refine TL_nil (TX_next (TC_seq (TC_seq (TC_region (TVm ?_)))))
 refine TLv (V_bin rfl rfl (fun w=>lssI w at_ 0)) ?_
 refine TVm ?_
 refine TFd (d:=13) H (fun hc H=>?_) (fun hc H=>?_)
 ·refine TLs ?_
  refine TLs ?_
  refine TLs ?_
  refine TLs ?_
  refine TVt ?_
  refine TVm ?_
  refine TLs ?_
  refine TLs ?_
  refine TLs ?_
  refine TLs ?_
  refine TLs ?_
  refine TLs ?_
  refine TVt ?_
  refine TL_nil (TX_next (TC_cond_t rfl ?_))
  refine TC_seq (TC_region (TVa ?_))
  refine TVa ?_
  refine TVa ?_
  refine TL_nil (TX_next (TC_ret (TX_then_ret ?_)))
  obtain rfl:=sj H
  exact TXr (vs:=[_,_,_]) rfl ⟨rfl,rfl,rfl,trivial⟩
 ·refine TLw (V_move rfl) ?_
  refine TLw (V_move rfl) ?_
  refine TLw (V_len_str rfl underlying9) ?_
  refine TLw (V_bin rfl rfl (fun w=>gtrI w at_ ((s_).length:Int))) ?_
  refine TVf ?_
  refine TVm ?_
  refine TFd (d:=19) H (fun hc H=>?_) (fun hc H=>?_)
  ·refine TLs ?_
   refine TLs ?_
   refine TLs ?_
   refine TLs ?_
   refine TLs ?_
   refine TLs ?_
   refine TVt ?_
   refine TL_nil (TX_next (TC_cond_t rfl ?_))
   refine TC_seq (TC_region (TVa ?_))
   refine TVa ?_
   refine TVa ?_
   refine TL_nil (TX_next (TC_ret (TX_then_ret ?_)))
   obtain rfl:=sj H
   exact TXr (vs:=[_,_,_]) rfl ⟨rfl,rfl,rfl,trivial⟩
  ·refine TLw (V_move rfl) ?_
   refine TLw (V_len_str rfl underlying9) ?_
   refine TLw (V_move rfl) ?_
   refine TLw (V_bin rfl rfl (fun w=>subI w ((s_).length:Int) at_)) ?_
   refine TLw (V_move rfl) ?_
   refine TLw (V_bin rfl rfl (fun w=>lssI w (w64 (((s_).length:Int) - at_)) size)) ?_
   refine TVf ?_
   refine TL_nil (TX_next (TCd H (fun hc H=>?_) (fun hc H=>?_)))
   ·refine TC_seq (TC_region (TVa ?_))
    refine TVa ?_
    refine TVa ?_
    refine TL_nil (TX_next (TC_ret (TX_then_ret ?_)))
    obtain rfl:=sj H
    exact TXr (vs:=[_,_,_]) rfl ⟨rfl,rfl,rfl,trivial⟩
   ·refine TC_skip (TX_next (TC_seq (TC_region (TVa ?_))))
    refine TL_nil (TX_next (TC_seq (TC_seq (TC_region (TVm ?_)))))
    refine TVm ?_
    refine TL_nil (TX_next (TC_block ?_))
    obtain ⟨t_1,Hl,H⟩:=bind_elim H
    refine TC.sub (m':=[(0,_),(1,_),(2,_),(9,_),(27,_),(28,_)]) ⟨rfl,rfl,rfl,rfl,rfl,rfl,trivial⟩ ?_
    refine TC.pull (is:=[]) (L':=[]) rfl ?_
    refine TC_loopL (id:=0) (body:=(wire_number.b0 s_ at_ size)) (σ:=Int × Int) (Γ:=Unit) (Γx:=Unit) (fun s0 g0_=>[(0,vs s_),(1,vi at_),(2,vi size),(9,vi s0.1),(27,vi size),(28,vi s0.2)]) (fun s0 g0_=>[]) (fun t g=>[(1,vi at_),(2,vi size),(9,vi t)]) (fun t g=>[]) ?_ BIG (0,0) () t_1 Hl ?_
    ·intro s0 g0_ r1 H K hK hE
     unfold wire_number.b0 at H
     refine TC_seq (TC_region (TLv (V_bin rfl rfl (fun w=>lssI w s0.2 size)) ?_))
     refine TL_nil (TX_next (TC_seq (TCd H (fun hc H=>?_) (fun hc H=>?_))))
     ·refine TC_skip (TX_next (TC_seq (TC_block (TC_seq (TC_region (TVm ?_))))))
      refine TVa ?_
      refine TL_nil (TX_next (TC_region (TVm ?_)))
      refine TLv (V_bin rfl rfl (fun w=>shlI w s0.1 .u64 8 (by decide))) ?_
      refine TVm ?_
      refine TVm ?_
      refine TVm ?_
      refine TLv (V_bin rfl rfl (fun w=>addI w at_ s0.2)) ?_
      obtain ⟨h1,H⟩:=if_elim H
      refine TLv (V_idxStr rfl rfl (i:=w64 (at_+s0.2)) underlying9 h1.1 h1.2) ?_
      refine TLv (V_conv rfl (fun w=>cv8toI w _ _ underlying3 (und5) (sg s_ (w64 (at_+s0.2))))) ?_
      refine TLv (V_bin rfl rfl (fun w=>orI w (shlI' s0.1 8) ((sg s_ (w64 (at_+s0.2))).toNat:Int))) ?_
      refine TVa ?_
      obtain ⟨x1,hx1,H⟩:=ltt_elim H
      refine TLr 9 (congrArg vi hx1) ?_
      refine TL_nil (TX_block_normal (TX_next (TC_region (TLv (V_bin rfl rfl (fun w=>addI w s0.2 1)) ?_))))
      refine TVm ?_
      refine TL_nil ?_
      obtain rfl:=sj H
      exact TXk [] (hK (x1,w64 (s0.2+1)) rfl ())
     ·refine TC_exit (TX_then_exit (TX_then_exit ?_))
      obtain rfl:=sj H
      exact TXj [] (hE s0.1 rfl ())
    ·intro g
     refine TX_block_exit (TX_next (TC_seq (TC_region (TVm ?_))))
     refine TVm ?_
     refine TVm ?_
     refine TLv (V_bin rfl rfl (fun w=>addI w at_ size)) ?_
     refine TVa ?_
     refine TVa ?_
     obtain ⟨x2,hx2,H⟩:=ltt_elim H
     refine TLr 7 (congrArg vi hx2) ?_
     refine TVa ?_
     refine TL_nil (TX_next (TC_ret ?_))
     obtain rfl:=sj H
     exact TXr (vs:=[_,_,_]) rfl ⟨rfl,rfl,rfl,trivial⟩
end Go.Proofs
end

section
namespace Go.Proofs
open Go Go.Kx
open TryzI Tryz
def wire_U16 (s_:Str) (at_:Int):Option (Int × Int × Int) :=
 (wire_number s_ at_ 2).bind fun (r_1:Int × Int × Int)=>(some (r_1.1,r_1.2.1,r_1.2.2))
set_option maxHeartbeats 4000000 in
set_option maxRecDepth 20000 in
theorem F120_calls (s_:Str) (at_:Int) (r:Int × Int × Int) (H:wire_U16 s_ at_=some r) :
  Does Tryz.prog 120 [vs s_,vi at_] [] [] (Γ:=Unit) (fun g=>Value.tuple [vi r.1,vi r.2.1,vi r.2.2].toArray) (fun g=>[]):=by
 intro w hmem hro hd
 refine calls_of (N:=13) (m0:=[(0,vs s_),(1,vi at_)]) func120 rfl ntmps120 (argM_ok [vs s_,vi at_]) rfl hmem hro hd ?_
 unfold wire_U16 at H
 refine TC_seq (TC_region (TVa ?_))
 refine TVa ?_
 refine TVa ?_
 refine TL_nil (TX_next (TC_seq (TC_region (TVm ?_))))
 refine TVm ?_
 obtain ⟨r_1,hr_1,H⟩:=bind_elim H
 refine TLe (E_c0 (F132_calls s_ at_ 2 r_1 hr_1) call132 .z) (fun g_1=>?_)
 refine TLv V_ex ?_
 refine TLv V_ex ?_
 refine TLv V_ex ?_
 refine TVa ?_
 refine TVa ?_
 refine TVa ?_
 refine TL_nil (TX_next (TC_ret ?_))
 obtain rfl:=sj H
 exact TXr (vs:=[_,_,_]) rfl ⟨rfl,rfl,rfl,trivial⟩
end Go.Proofs
end

section
namespace Go.Proofs
open Go Go.Kx
open TryzI Tryz
def wire_U32 (s_:Str) (at_:Int):Option (Int × Int × Int) :=
 (wire_number s_ at_ 4).bind fun (r_1:Int × Int × Int)=>(some (r_1.1,r_1.2.1,r_1.2.2))
set_option maxHeartbeats 4000000 in
set_option maxRecDepth 20000 in
theorem F121_calls (s_:Str) (at_:Int) (r:Int × Int × Int) (H:wire_U32 s_ at_=some r) :
  Does Tryz.prog 121 [vs s_,vi at_] [] [] (Γ:=Unit) (fun g=>Value.tuple [vi r.1,vi r.2.1,vi r.2.2].toArray) (fun g=>[]):=by
 intro w hmem hro hd
 refine calls_of (N:=13) (m0:=[(0,vs s_),(1,vi at_)]) func121 rfl ntmps121 (argM_ok [vs s_,vi at_]) rfl hmem hro hd ?_
 unfold wire_U32 at H
 refine TC_seq (TC_region (TVa ?_))
 refine TVa ?_
 refine TVa ?_
 refine TL_nil (TX_next (TC_seq (TC_region (TVm ?_))))
 refine TVm ?_
 obtain ⟨r_1,hr_1,H⟩:=bind_elim H
 refine TLe (E_c0 (F132_calls s_ at_ 4 r_1 hr_1) call132 .z) (fun g_1=>?_)
 refine TLv V_ex ?_
 refine TLv V_ex ?_
 refine TLv V_ex ?_
 refine TVa ?_
 refine TVa ?_
 refine TVa ?_
 refine TL_nil (TX_next (TC_ret ?_))
 obtain rfl:=sj H
 exact TXr (vs:=[_,_,_]) rfl ⟨rfl,rfl,rfl,trivial⟩
end Go.Proofs
end

/-
  Part 10 of the proof of what several laws share.
-/
import Derived.Test.YtnplppmninimeaaDoorTkQ1
import Derived.Test.YtnplppmninimeaaDoorTkQ2
import Derived.Test.YtnplppmninimeaaDoorTkQ3
import Derived.Test.YtnplppmninimeaaDoorTkQ4
import Derived.Test.YtnplppmninimeaaDoorTkQ5
import Derived.Test.YtnplppmninimeaaDoorTkQ6
import Derived.Test.YtnplppmninimeaaDoorTkQ7
import Derived.Test.YtnplppmninimeaaDoorTkQ8
import Derived.Test.YtnplppmninimeaaDoorTkQ9
set_option linter.unusedVariables false
set_option linter.unusedSimpArgs false
section
namespace Go.Proofs
open Go Go.Kx
open Vector (replicate)
open TrydI Tryd
def gcm_Cipher_Tag.b0 (r_8:Vx 8 16) (s0:Int × Vx 8 16):Option ((Int × Vx 8 16) ⊕ (Vx 8 16)) :=
 if s0.1<16 then (if 0≤s0.1∧s0.1<(16:Int) then (if 0≤s0.1∧s0.1<(16:Int) then (if 0≤s0.1∧s0.1<(16:Int) then (ltt (vp s0.2 ((s0.1).toNat) ((vg s0.2 ((s0.1).toNat)) ^^^ (vg r_8 ((s0.1).toNat)))) fun (m_1:Vx 8 16)=>(some (.inl (w64 (s0.1+1),m_1)))) else none) else none) else none) else (some (.inr s0.2))
def gcm_Cipher_Tag (c_aes_table:Vx 8 256) (c_aes_keys:List (Vx 8 16)) (c_h_high:BitVec 64) (c_h_low:BitVec 64) (nonce:Str) (aad:Str) (b:List (BitVec 8)):Option (Str) :=
 (gcm_newSum c_h_high c_h_low).bind fun (r_1:(Vector (BitVec 64 × BitVec 64) 16) × Vx 64 16)=>((gcm_sum_all r_1.1 r_1.2 0#64 0#64 aad).bind fun (r_2:BitVec 64 × BitVec 64)=>((gcm_sum_all r_1.1 r_1.2 r_2.1 r_2.2 b).bind fun (r_3:BitVec 64 × BitVec 64)=>((gcm_element_bytes ((BitVec.ofInt 64 ((aad).length:Int)) * 8#64) ((BitVec.ofInt 64 ((b).length:Int)) * 8#64)).bind fun (r_4:Vx 8 16)=>((gcm_sum_add r_1.1 r_1.2 r_3.1 r_3.2 r_4.toList).bind fun (r_5:BitVec 64 × BitVec 64)=>((gcm_element_bytes r_5.1 r_5.2).bind fun (r_6:Vx 8 16)=>((gcm_counter nonce 1#32).bind fun (r_7:Vx 8 16)=>((aes_Cipher_Encrypt c_aes_table c_aes_keys r_7).bind fun (r_8:Vx 8 16)=>((loop (gcm_Cipher_Tag.b0 r_8) BIG (0,r_6)).bind fun (t_1:Vx 8 16)=>(some t_1.toList)))))))))
set_option maxHeartbeats 4000000 in
set_option maxRecDepth 20000 in
theorem F34_calls (bc:Nat) (obc:Nat) (bc_aes:Nat) (obc_aes:Nat) (Ac_aes_keys:Adr) (cc_aes_keys:Nat) (Ab:Adr) (cb:Nat) (c_aes_table:Vx 8 256) (c_aes_keys:List (Vx 8 16)) (c_h_high:BitVec 64) (c_h_low:BitVec 64) (nonce:Str) (aad:Str) (b:List (BitVec 8)) (hcc_aes_keys:(c_aes_keys).length≤cc_aes_keys) (hcb:(b).length≤cb) (r:Str) (H:gcm_Cipher_Tag c_aes_table c_aes_keys c_h_high c_h_low nonce aad b=some r) :
  Does Tryd.prog 34 [ptr (some (bc,obc)) 0,vs nonce,vs aad,sl Ab ((b).length) cb] [] [⟨some (bc,obc),[ptr (some (bc_aes,obc_aes)) 0]⟩,⟨some (bc,obc+1),[v64 c_h_high]⟩,⟨some (bc,obc+2),[v64 c_h_low]⟩,⟨some (bc_aes,obc_aes),e8 c_aes_table.toList⟩,⟨some (bc_aes,obc_aes+256),[sl Ac_aes_keys ((c_aes_keys).length) cc_aes_keys]⟩,⟨Ac_aes_keys,eF (fun V:Vx 8 16=>e8 V.toList) c_aes_keys⟩,⟨Ab,e8 b⟩] (Γ:=Unit) (fun g=>vs r) (fun g=>[]):=by
 intro w hmem hro hd
 refine calls_of (N:=67) (m0:=[(0,ptr (some (bc,obc)) 0),(1,vs nonce),(2,vs aad),(3,sl Ab ((b).length) cb)]) func34 rfl ntmps34 (argM_ok [ptr (some (bc,obc)) 0,vs nonce,vs aad,sl Ab ((b).length) cb]) rfl hmem hro hd ?_
 unfold gcm_Cipher_Tag at H
 refine TC_seq (TC_region (TVa ?_))
 refine TL_nil (TX_next (TC_seq (TC_region (TVm ?_))))
 refine TLv (V_nilCheck rfl) ?_
 refine TLv (V_fieldE rfl underlying91 rfl rfl inf88 rfl (v:=ptr (some (bc,obc+1)) 0) rfl) ?_
 refine TLv (V_loadAgg (n:=2) (cs:=flat [(1,[v64 c_h_high]),(1,[v64 c_h_low])]) rfl (by simp) (SrcEnts (b:=bc) [(1,[v64 c_h_high]),(1,[v64 c_h_low])] (obc+1) ⟨rfl,rfl,trivial⟩ (AllSrc.all (M:=ents bc (obc+1) [(1,[v64 c_h_high]),(1,[v64 c_h_low])]) ⟨Src.ro (j:=1) rfl,Src.ro (j:=2) rfl,trivial⟩)) isAgg88 inf88 rfl (flat_len ⟨rfl,rfl,trivial⟩ rfl)) ?_
 obtain ⟨r_1,hr_1,H⟩:=bind_elim H
 refine TLe (E_call (Γ:=Nat) (val:=fun g=>ptr (some (g,0)) 0) (mem:=fun g=>[⟨some (g,0),eF (fun p:BitVec 64 × BitVec 64=>[v64 p.1,v64 p.2]) r_1.1.toList⟩,⟨some (g,32),e64 r_1.2.toList⟩,⟨some (g,48),[v64 0#64]⟩,⟨some (g,49),[v64 0#64]⟩]) (vs:=[aG [(1,[v64 c_h_high]),(1,[v64 c_h_low])]]) (Lin:=[]) (Ro:=[]) (is:=[]) rfl call47 (F47_calls c_h_high c_h_low r_1 hr_1) rfl trivial) (fun g_1=>?_)
 refine TVa ?_
 refine TL_nil (TX_next (TC_seq (TC_region (TVm ?_))))
 refine TVm ?_
 refine TLe (E_s2bR rfl underlying9 underlying40 underlying5) (fun g_2=>?_)
 obtain ⟨r_2,hr_2,H⟩:=bind_elim H
 refine TLe (E_call (Γ:=Unit) (val:=fun g=>Value.tuple [].toArray) (mem:=fun g=>[⟨some (g_1,48),[v64 r_2.1]⟩,⟨some (g_1,49),[v64 r_2.2]⟩]) (vs:=[ptr (some (g_1,0)) 0,sl (some (g_2.1,0)) ((aad).length) ((aad++g_2.2).length)]) (Lin:=[⟨some (g_1,48),[v64 0#64]⟩,⟨some (g_1,49),[v64 0#64]⟩]) (Ro:=[⟨some (g_1,0),eF (fun p:BitVec 64 × BitVec 64=>[v64 p.1,v64 p.2]) r_1.1.toList⟩,⟨some (g_1,32),e64 r_1.2.toList⟩,⟨some (g_2.1,0),e8 aad⟩]) (is:=[3,3]) rfl call48 (F48_calls g_1 0 (some (g_2.1,0)) ((aad++g_2.2).length) r_1.1 r_1.2 0#64 0#64 aad (row_le _ _) r_2 hr_2) rfl ⟨.o 1, .o 2,(srcdRow (.o 0)),trivial⟩) (fun g_3=>?_)
 refine TL_nil (TX_next (TC_seq (TC_region (TVm ?_))))
 refine TVm ?_
 obtain ⟨r_3,hr_3,H⟩:=bind_elim H
 refine TLe (E_call (Γ:=Unit) (val:=fun g=>Value.tuple [].toArray) (mem:=fun g=>[⟨some (g_1,48),[v64 r_3.1]⟩,⟨some (g_1,49),[v64 r_3.2]⟩]) (vs:=[ptr (some (g_1,0)) 0,sl Ab ((b).length) cb]) (Lin:=[⟨some (g_1,48),[v64 r_2.1]⟩,⟨some (g_1,49),[v64 r_2.2]⟩]) (Ro:=[⟨some (g_1,0),eF (fun p:BitVec 64 × BitVec 64=>[v64 p.1,v64 p.2]) r_1.1.toList⟩,⟨some (g_1,32),e64 r_1.2.toList⟩,⟨Ab,e8 b⟩]) (is:=[0,0]) rfl call48 (F48_calls g_1 0 Ab cb r_1.1 r_1.2 r_2.1 r_2.2 b hcb r_3 hr_3) rfl ⟨.o 1, .o 2, .r 6,trivial⟩) (fun g_4=>?_)
 refine TL_nil (TX_next (TC_seq (TC_region (TVm ?_))))
 refine TLv (V_len_str rfl underlying9) ?_
 refine TLv (V_conv rfl (fun w=>cvI64 w _ _ underlying86 (und3) .i64 ((aad).length:Int))) ?_
 refine TLv (V_bin rfl rfl (fun w=>mul64 w (BitVec.ofInt 64 ((aad).length:Int)) 8#64)) ?_
 refine TVm ?_
 refine TLv (V_len_slice rfl underlying40) ?_
 refine TLv (V_conv rfl (fun w=>cvI64 w _ _ underlying86 (und3) .i64 ((b).length:Int))) ?_
 refine TLv (V_bin rfl rfl (fun w=>mul64 w (BitVec.ofInt 64 ((b).length:Int)) 8#64)) ?_
 refine TLv (V_buildStruct (pv:=[(0,v64 ((BitVec.ofInt 64 ((aad).length:Int)) * 8#64)),(1,v64 ((BitVec.ofInt 64 ((b).length:Int)) * 8#64))]) (pl:=[(0,1),(1,1)]) rfl rfl underlying88 inf88 places88 zer88 (cs:=flat [(1,[v64 ((BitVec.ofInt 64 ((aad).length:Int)) * 8#64)]),(1,[v64 ((BitVec.ofInt 64 ((b).length:Int)) * 8#64)])]) (by kernel_rfl)) ?_
 refine TLe (E_allocP [(1,[v64 0#64]),(1,[v64 0#64])] inf88 zer88 ⟨rfl,rfl,trivial⟩) (fun b1=>?_)
 refine TLn (E_sp (b:=b1) (o:=0) [0,0] [(1,[v64 0#64]),(1,[v64 0#64])] [(1,[v64 ((BitVec.ofInt 64 ((aad).length:Int)) * 8#64)]),(1,[v64 ((BitVec.ofInt 64 ((b).length:Int)) * 8#64)])] rfl inf88 ⟨rfl,rfl,trivial⟩ ⟨rfl,rfl,trivial⟩ ⟨(OneC.cons rfl OneC.nil),(OneC.cons rfl OneC.nil),trivial⟩) (fun _=>?_)
 refine TL_nil (TX_next (TC_seq (TC_region (TLv (V_loadAgg (n:=2) (cs:=flat [(1,[v64 ((BitVec.ofInt 64 ((aad).length:Int)) * 8#64)]),(1,[v64 ((BitVec.ofInt 64 ((b).length:Int)) * 8#64)])]) rfl (by simp) (SrcEnts (b:=b1) [(1,[v64 ((BitVec.ofInt 64 ((aad).length:Int)) * 8#64)]),(1,[v64 ((BitVec.ofInt 64 ((b).length:Int)) * 8#64)])] 0 ⟨rfl,rfl,trivial⟩ (AllSrc.all (M:=ents b1 0 [(1,[v64 ((BitVec.ofInt 64 ((aad).length:Int)) * 8#64)]),(1,[v64 ((BitVec.ofInt 64 ((b).length:Int)) * 8#64)])]) ⟨Src.own (j:=0) rfl,Src.own (j:=1) rfl,trivial⟩)) isAgg88 inf88 rfl (flat_len ⟨rfl,rfl,trivial⟩ rfl)) ?_))))
 obtain ⟨r_4,hr_4,H⟩:=bind_elim H
 refine TLe (E_c0 (F49_calls ((BitVec.ofInt 64 ((aad).length:Int)) * 8#64) ((BitVec.ofInt 64 ((b).length:Int)) * 8#64) r_4 hr_4) call49 .z) (fun g_5=>?_)
 refine TLe (E_allocP [(16,e8 ((replicate 16 0#8).toList))] inf84 zer84 ⟨(lenV (f:=v8) (replicate 16 0#8)),trivial⟩) (fun b2=>?_)
 refine TLn (E_sv (vs:=e8 r_4.toList) 0 inf84) (fun _=>?_)
 refine TL_nil (TX_next (TC.sub (m':=[(0,_),(1,_),(9,_),(11,_)]) ⟨rfl,rfl,rfl,rfl,trivial⟩ ?_))
 refine TC_seq (TC_region (TVm ?_))
 refine TLv (V_sliceArr0 rfl (by simp) underlying84 inf5 rfl) ?_
 refine TL_re (d:=39) (v:=sl (some (b2,0)) 16 16) (v':=sl (some (b2,0)) ((r_4.toList).length) ((r_4.toList).length)) rfl (congrArg (fun n=>sl (some (b2,0)) n n) vec_tl.symm) ?_
 obtain ⟨r_5,hr_5,H⟩:=bind_elim H
 refine TLe (E_call (Γ:=Unit) (val:=fun g=>Value.tuple [].toArray) (mem:=fun g=>[⟨some (g_1,48),[v64 r_5.1]⟩,⟨some (g_1,49),[v64 r_5.2]⟩]) (vs:=[ptr (some (g_1,0)) 0,sl (some (b2,0)) ((r_4.toList).length) ((r_4.toList).length)]) (Lin:=[⟨some (g_1,48),[v64 r_3.1]⟩,⟨some (g_1,49),[v64 r_3.2]⟩]) (Ro:=[⟨some (g_1,0),eF (fun p:BitVec 64 × BitVec 64=>[v64 p.1,v64 p.2]) r_1.1.toList⟩,⟨some (g_1,32),e64 r_1.2.toList⟩,⟨some (b2,0),e8 r_4.toList⟩]) (is:=[3,3]) rfl call50 (F50_calls g_1 0 (some (b2,0)) ((r_4.toList).length) r_1.1 r_1.2 r_3.1 r_3.2 r_4.toList (Nat.le_refl _) r_5 hr_5) rfl ⟨.o 4, .o 5, .o 0,trivial⟩) (fun g_6=>?_)
 refine TL_nil (TX_next (TC_seq (TC_region (TVm ?_))))
 refine TLv (V_nilCheck rfl) ?_
 refine TLv (V_fieldE rfl underlying101 rfl rfl inf88 rfl (v:=ptr (some (g_1,48)) 0) rfl) ?_
 refine TLv (V_loadAgg (n:=2) (cs:=flat [(1,[v64 r_5.1]),(1,[v64 r_5.2])]) rfl (by simp) (SrcEnts (b:=g_1) [(1,[v64 r_5.1]),(1,[v64 r_5.2])] 48 ⟨rfl,rfl,trivial⟩ (AllSrc.all (M:=ents g_1 48 [(1,[v64 r_5.1]),(1,[v64 r_5.2])]) ⟨Src.own (j:=0) rfl,Src.own (j:=1) rfl,trivial⟩)) isAgg88 inf88 rfl (flat_len ⟨rfl,rfl,trivial⟩ rfl)) ?_
 obtain ⟨r_6,hr_6,H⟩:=bind_elim H
 refine TLe (E_c0 (F49_calls r_5.1 r_5.2 r_6 hr_6) call49 .z) (fun g_7=>?_)
 refine TLe (E_allocP [(16,e8 ((replicate 16 0#8).toList))] inf84 zer84 ⟨(lenV (f:=v8) (replicate 16 0#8)),trivial⟩) (fun b3=>?_)
 refine TLn (E_sv (vs:=e8 r_6.toList) 0 inf84) (fun _=>?_)
 refine TL_nil (TX_next (TC_seq ?_))
 obtain ⟨r_7,hr_7,H⟩:=bind_elim H
 obtain ⟨r_8,hr_8,H⟩:=bind_elim H
 refine TA_begin [] 9 (by kernel_rfl) (N:=9) rfl ?_
 refine TA_mix (is:=[]) (done':=dn 9 255) [itV 0 46 (ptr (some (bc,obc)) 0) [],itV 1 47 (ptr (some (bc,obc)) 0) [0],itV 2 48 (ptr (some (bc,obc)) 0) [1],itV 3 49 (ptr (some (bc_aes,obc_aes)) 0) [2],itV 4 50 (vs nonce) [],itV 5 51 (aG [(16,e8 r_7.toList)]) [4],itV 6 52 (aG [(16,e8 r_8.toList)]) [3,5],⟨7,13,fun b4=>ptr (some (b4,0)) 0,fun b4=>[⟨some (b4,0),e8 ((replicate 16 0#8).toList)⟩],[],none⟩] [] 1 (by kernel_rfl) (QP.then QP.body) (by kernel_rfl) rfl (.v rfl (V_move rfl) (.v rfl (V_nilCheck rfl) (.v rfl (V_fe underlying91 inf81) (.v rfl (V_load rfl (.r 0) rfl isAgg81) (.v rfl (V_move rfl) (.e rfl (E_cu (F46_calls nonce 1#32 r_7 hr_7) call46 .z) (.e rfl (E_cu (F44_calls bc_aes obc_aes Ac_aes_keys cc_aes_keys c_aes_table c_aes_keys r_7 hcc_aes_keys r_8 hr_8) call44 ⟨.r 3, .r 4, .r 5,trivial⟩) (.c rfl (fun _ _=>(E_allocP [(16,e8 ((replicate 16 0#8).toList))] inf84 zer84 ⟨(lenV (f:=v8) (replicate 16 0#8)),trivial⟩)) .nil)))))))) .nil (by kernel_rfl) rfl (fun γ=>?_)
 refine TA_cut [(13,ptr (some ((γ 7),0)) 0),(52,aG [(16,e8 r_8.toList)]),(12,ptr (some (b3,0)) 0)] [⟨some ((γ 7),0),e8 ((replicate 16 0#8).toList)⟩,⟨some (b3,0),e8 r_6.toList⟩,⟨some (g_1,48),[v64 r_5.1]⟩,⟨some (g_1,49),[v64 r_5.2]⟩,⟨some (b2,0),e8 r_4.toList⟩,⟨some (b1,0),[v64 ((BitVec.ofInt 64 ((aad).length:Int)) * 8#64)]⟩,⟨some (b1,1),[v64 ((BitVec.ofInt 64 ((b).length:Int)) * 8#64)]⟩,⟨some (g_2.1,0),e8 (aad++g_2.2)⟩,⟨some (g_1,0),eF (fun p:BitVec 64 × BitVec 64=>[v64 p.1,v64 p.2]) r_1.1.toList⟩,⟨some (g_1,32),e64 r_1.2.toList⟩] ⟨rfl,rfl,rfl,trivial⟩ rfl ?_
 generalize γ 7=b4
 refine TA_all (rs:=[8]) (by kernel_rfl) rfl ?_
 refine ⟨?_,trivial⟩
 refine TO_n (is:=[]) (done':=dn 9 511) rfl rfl rfl (by kernel_rfl) (E_sv (vs:=e8 r_8.toList) 0 inf84) (fun _ _=>rfl) (fun _=>?_)
 refine TA_done (by kernel_rfl) ?_ 0
 refine TX_next (TC_seq (TC_seq (TC_region (TVm ?_))))
 refine TL_nil (TX_next (TC_block ?_))
 obtain ⟨t_1,Hl,H⟩:=bind_elim H
 refine TC.sub (m':=[(12,_),(13,_),(53,_)]) ⟨rfl,rfl,rfl,trivial⟩ ?_
 refine TC.pull (is:=[1,0]) (L':=[_,_]) rfl ?_
 refine TC_loopL (id:=0) (body:=(gcm_Cipher_Tag.b0 r_8)) (σ:=Int × Vx 8 16) (Γ:=Unit) (Γx:=Unit) (fun s0 g0_=>[(12,ptr (some (b3,0)) 0),(13,ptr (some (b4,0)) 0),(53,vi s0.1)]) (fun s0 g0_=>[⟨some (b3,0),e8 s0.2.toList⟩,⟨some (b4,0),e8 r_8.toList⟩]) (fun t g=>[(12,ptr (some (b3,0)) 0)]) (fun t g=>[⟨some (b3,0),e8 t.toList⟩]) ?_ BIG (0,r_6) () t_1 Hl ?_
 ·intro s0 g0_ r1 H K hK hE
  unfold gcm_Cipher_Tag.b0 at H
  refine TC_seq (TC_region (TLv (V_bin rfl rfl (fun w=>lssI w s0.1 16)) ?_))
  refine TL_nil (TX_next (TC_seq (TCd H (fun hc H=>?_) (fun hc H=>?_))))
  ·refine TC_skip (TX_next (TC_seq (TC_block (TC_seq (TC_region (TVm ?_))))))
   refine TVa ?_
   refine TL_nil (TX_next ?_)
   obtain ⟨h1,H⟩:=if_elim H
   obtain ⟨h2,H⟩:=if_elim H
   obtain ⟨h3,H⟩:=if_elim H
   obtain ⟨m_1,hm_1,H⟩:=ltt_elim H
   refine TA_begin [] 9 (by kernel_rfl) (N:=9) rfl ?_
   refine TA_mix (is:=[]) (done':=dn 9 255) [itV 0 56 (vi s0.1) [],itV 1 57 (ptr (some (b3,0)) ((s0.1).toNat)) [0],itV 2 58 (v8 (vg s0.2 ((s0.1).toNat))) [1],itV 3 59 (vi s0.1) [],itV 4 60 (ptr (some (b4,0)) ((s0.1).toNat)) [3],itV 5 61 (v8 (vg r_8 ((s0.1).toNat))) [4],itV 6 62 (v8 ((vg s0.2 ((s0.1).toNat)) ^^^ (vg r_8 ((s0.1).toNat)))) [2,5],itV 7 63 (ptr (some (b3,0)) ((s0.1).toNat)) [0]] [] 1 (by kernel_rfl) (QP.block (QP.then (QP.then (QP.block (QP.then QP.body))))) (by kernel_rfl) rfl (.v rfl (V_move rfl) (.v rfl (V_idxArr (i:=s0.1) rfl rfl underlying84 inf5 rfl h1.1 h1.2 (k:=(s0.1).toNat) (k01 _)) (.v rfl (V_load rfl (.o 0) (get_vec (f:=v8) (V:=s0.2) (toNat_lt h1.1 h1.2)) isAgg5) (.v rfl (V_move rfl) (.v rfl (V_idxArr (i:=s0.1) rfl rfl underlying84 inf5 rfl h2.1 h2.2 (k:=(s0.1).toNat) (k01 _)) (.v rfl (V_load rfl (.o 1) (get_vec (f:=v8) (V:=r_8) (toNat_lt h2.1 h2.2)) isAgg5) (.v rfl (V_bin rfl rfl (fun w=>xor8 w (vg s0.2 ((s0.1).toNat)) (vg r_8 ((s0.1).toNat)))) (.v rfl (V_idxArr (i:=s0.1) rfl rfl underlying84 inf5 rfl h3.1 h3.2 (k:=(s0.1).toNat) (k01 _)) .nil)))))))) .nil (by kernel_rfl) rfl (fun γ=>?_)
   refine TA_cut [(63,ptr (some (b3,0)) ((s0.1).toNat)),(62,v8 ((vg s0.2 ((s0.1).toNat)) ^^^ (vg r_8 ((s0.1).toNat)))),(12,ptr (some (b3,0)) 0),(13,ptr (some (b4,0)) 0),(53,vi s0.1)] [⟨some (b3,0),e8 s0.2.toList⟩,⟨some (b4,0),e8 r_8.toList⟩] ⟨rfl,rfl,rfl,rfl,rfl,trivial⟩ rfl ?_
   refine TA_all (rs:=[8]) (by kernel_rfl) rfl ?_
   refine ⟨?_,trivial⟩
   refine TO_n (is:=[]) (done':=dn 9 511) rfl rfl rfl (by kernel_rfl) (E_store (j:=0) rfl rfl inf5 rfl rfl rfl (by simpa using (toNat_lt h3.1 h3.2)) (cs':=e8 ((vp s0.2 ((s0.1).toNat) ((vg s0.2 ((s0.1).toNat)) ^^^ (vg r_8 ((s0.1).toNat)))).toList)) set_vec) (fun _ _=>rfl) (fun _=>?_)
   refine TA_reE (j:=0) (A:=some (b3,0)) (cs:=e8 ((vp s0.2 ((s0.1).toNat) ((vg s0.2 ((s0.1).toNat)) ^^^ (vg r_8 ((s0.1).toNat)))).toList)) (cs':=e8 m_1.toList) rfl (congrArg (fun z:Vx 8 16=>e8 (Vector.toList z)) hm_1) ?_
   refine TA_done (by kernel_rfl) ?_ 0
   refine TX_block_normal (TX_next (TC_region (TLv (V_bin rfl rfl (fun w=>addI w s0.1 1)) ?_)))
   refine TVm ?_
   refine TL_nil ?_
   obtain rfl:=sj H
   exact TXk [0,0] (hK (w64 (s0.1+1),m_1) rfl ())
  ·refine TC_exit (TX_then_exit (TX_then_exit ?_))
   obtain rfl:=sj H
   exact TXj [0] (hE s0.2 rfl ())
 ·intro g
  refine TX_block_exit (TX_next (TC_seq (TC_region (TLv (V_sliceArr0 rfl (by simp) underlying84 inf5 rfl) ?_))))
  refine TLv (V_b2s rfl underlying40 underlying5 underlying9 (.o 0) (by simp)) ?_
  refine TVa ?_
  refine TL_nil (TX_next (TC_ret ?_))
  obtain rfl:=sj H
  exact TX1
end Go.Proofs
end

section
namespace Go.Proofs
open Go Go.Kx
open TrydI Tryd
def halberdref4_double (x:BitVec 8):Option (BitVec 8) :=
 if (127#8).toNat<(x).toNat then (ltt ((x <<< 1) ^^^ 27#8) fun (x1:BitVec 8)=>(some x1)) else (some (x <<< 1))
set_option maxHeartbeats 4000000 in
set_option maxRecDepth 20000 in
theorem F39_calls (x:BitVec 8) (r:BitVec 8) (H:halberdref4_double x=some r) :
  Does Tryd.prog 39 [v8 x] [] [] (Γ:=Unit) (fun g=>v8 r) (fun g=>[]):=by
 intro w hmem hro hd
 refine calls_of (N:=10) (m0:=[(0,v8 x)]) func39 rfl ntmps39 (argM_ok [v8 x]) rfl hmem hro hd ?_
 unfold halberdref4_double at H
 refine TC_seq (TC_region (TVa ?_))
 refine TL_nil (TX_next (TC_seq (TC_seq (TC_region (TVm ?_)))))
 refine TLv (V_bin rfl rfl (fun w=>gtr8 w x 127#8)) ?_
 refine TL_nil (TX_next (TCd H (fun hc H=>?_) (fun hc H=>?_)))
 ·refine TC_seq (TC_region (TVm ?_))
  refine TLv (V_bin rfl rfl (fun w=>shl8 w x .u64 1 (by decide))) ?_
  refine TLv (V_bin rfl rfl (fun w=>xor8 w (x <<< 1) 27#8)) ?_
  refine TVa ?_
  obtain ⟨x1,hx1,H⟩:=ltt_elim H
  refine TLr 2 (congrArg v8 hx1) ?_
  refine TL_nil (TX_next (TC_ret (TX_then_ret ?_)))
  obtain rfl:=sj H
  exact TX1
 ·refine TC_skip (TX_next (TC_seq (TC_region (TVm ?_))))
  refine TLv (V_bin rfl rfl (fun w=>shl8 w x .u64 1 (by decide))) ?_
  refine TVa ?_
  refine TL_nil (TX_next (TC_ret ?_))
  obtain rfl:=sj H
  exact TX1
end Go.Proofs
end

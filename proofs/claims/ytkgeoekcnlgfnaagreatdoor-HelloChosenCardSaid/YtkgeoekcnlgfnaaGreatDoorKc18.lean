/-
  Part 18 of the proof of what several laws share.
-/
import Derived.Test.YtkgeoekcnlgfnaaGreatDoorKc1
import Derived.Test.YtkgeoekcnlgfnaaGreatDoorKc2
import Derived.Test.YtkgeoekcnlgfnaaGreatDoorKc3
import Derived.Test.YtkgeoekcnlgfnaaGreatDoorKc4
import Derived.Test.YtkgeoekcnlgfnaaGreatDoorKc5
import Derived.Test.YtkgeoekcnlgfnaaGreatDoorKc6
import Derived.Test.YtkgeoekcnlgfnaaGreatDoorKc7
import Derived.Test.YtkgeoekcnlgfnaaGreatDoorKc14
import Derived.Test.YtkgeoekcnlgfnaaGreatDoorKc15
import Derived.Test.YtkgeoekcnlgfnaaGreatDoorKc16
import Derived.Test.YtkgeoekcnlgfnaaGreatDoorKc17
set_option linter.unusedVariables false
set_option linter.unusedSimpArgs false
section
namespace Go.Proofs
open Go Go.Kx
open Vector (replicate)
open TryzI Tryz
def gcm_New (key:Str):Option ((Unit) ⊕ (Vx 8 256 × Nat × List (Vx 8 16) × BitVec 64 × BitVec 64)) :=
 (aes_New key).bind fun (r_1:(Unit) ⊕ (Vx 8 256 × Nat × List (Vx 8 16)))=>(match r_1 with | .inl r_1=>(some (.inl ())) | .inr r_1=>(if r_1.2.1=(r_1.2.2).length then ((aes_Cipher_Encrypt r_1.1 r_1.2.2 (replicate 16 0#8:Vx 8 16)).bind fun (r_2:Vx 8 16)=>((gcm_load r_2.toList).bind fun (r_3:BitVec 64 × BitVec 64)=>(some (.inr (r_1.1,(r_1.2.2).length,r_1.2.2,r_3.1,r_3.2))))) else none))
set_option maxHeartbeats 4000000 in
set_option maxRecDepth 20000 in
theorem F128_calls (key:Str) (r:(Unit) ⊕ (Vx 8 256 × Nat × List (Vx 8 16) × BitVec 64 × BitVec 64)) (H:gcm_New key=some r) :
  Does Tryz.prog 128 [vs key] [] [] (Γ:=Unit × (Nat × Nat × Nat)) (fun g=>match r with | .inl r=>Value.tuple [Value.pointer none,vb false].toArray | .inr r=>Value.tuple [ptr (some (g.2.1,0)) 0,vb true].toArray) (fun g=>match r with | .inl r=>[] | .inr r=>[⟨some (g.2.1,0),[ptr (some (g.2.2.1,0)) 0]⟩,⟨some (g.2.2.1,0),e8 r.1.toList⟩,⟨some (g.2.2.1,256),[sl (some (g.2.2.2,0)) r.2.1 r.2.1]⟩,⟨some (g.2.2.2,0),eF (fun V:Vx 8 16=>e8 V.toList) r.2.2.1⟩,⟨some (g.2.1,1),[v64 r.2.2.2.1]⟩,⟨some (g.2.1,2),[v64 r.2.2.2.2]⟩]):=by
 intro w hmem hro hd
 refine calls_of (N:=22) (m0:=[(0,vs key)]) func128 rfl ntmps128 (argM_ok [vs key]) rfl hmem hro hd ?_
 unfold gcm_New at H
 refine TC_seq (TC_region (TVa ?_))
 refine TVa ?_
 refine TL_nil (TX_next (TC_seq (TC_region (TVm ?_))))
 obtain ⟨r_1,hr_1,H⟩:=bind_elim H
 rcases r_1 with r_1 | r_1
 ·dsimp only at H
  refine TL_e rfl rfl rfl (E_call (Γ:=Unit × (Nat × Nat)) (val:=fun g=>Value.tuple [Value.pointer none,vb false].toArray) (mem:=fun g=>[]) (vs:=[vs key]) (Lin:=[]) (Ro:=[]) (is:=[]) rfl call141 (F141_calls key (.inl r_1) hr_1) rfl trivial) (fun g_1=>?_)
  refine TVm ?_
  refine TLv V_ex ?_
  refine TLv V_ex ?_
  refine TVa ?_
  refine TVa ?_
  refine TL_nil (TX_next (TC_seq (TC_seq (TC_region (TVm ?_)))))
  refine TLv (V_un rfl (fun w=>notB w false)) ?_
  refine TL_nil (TX_next (TC_cond_t rfl ?_))
  refine TC_seq (TC_region (TVa ?_))
  refine TVa ?_
  refine TL_nil (TX_next (TC_ret (TX_then_ret ?_)))
  obtain rfl:=sj H
  exact TX_ret (rs:=[.tmp 2, .tmp 3]) (vs:=[Value.pointer none,vb false]) rfl ⟨rfl,rfl,trivial⟩ (fun w' hs'=>⟨((),((default:Nat),(default:Nat),(default:Nat))),rfl,Step.left (Step.pulled (is:=[]) (A:=[]) hs' rfl)⟩)
 ·dsimp only at H
  refine TL_e rfl rfl rfl (E_call (Γ:=Unit × (Nat × Nat)) (val:=fun g=>Value.tuple [ptr (some (g.2.1,0)) 0,vb true].toArray) (mem:=fun g=>[⟨some (g.2.1,0),e8 r_1.1.toList⟩,⟨some (g.2.1,256),[sl (some (g.2.2,0)) r_1.2.1 r_1.2.1]⟩,⟨some (g.2.2,0),eF (fun V:Vx 8 16=>e8 V.toList) r_1.2.2⟩]) (vs:=[vs key]) (Lin:=[]) (Ro:=[]) (is:=[]) rfl call141 (F141_calls key (.inr r_1) hr_1) rfl trivial) (fun g_2=>?_)
  refine TVm ?_
  refine TLv V_ex ?_
  refine TLv V_ex ?_
  refine TVa ?_
  refine TVa ?_
  refine TL_nil (TX_next (TC_seq (TC_seq (TC_region (TVm ?_)))))
  refine TLv (V_un rfl (fun w=>notB w true)) ?_
  refine TL_nil (TX_next (TC_cond_f rfl ?_))
  refine TC_skip (TX_next (TC_seq (TC_region (TVm ?_))))
  refine TLv (V_buildArr (pv:=[]) rfl rfl underlying171 inf171 inf5 rfl zer171 (cs:=e8 ((replicate 16 0#8:Vx 8 16).toList)) (by kernel_rfl)) ?_
  obtain ⟨h1,H⟩:=if_elim H
  refine TL_reE (j:=1) (A:=some (g_2.2.1,256)) (cs:=[sl (some (g_2.2.2,0)) r_1.2.1 r_1.2.1]) (cs':=[sl (some (g_2.2.2,0)) ((r_1.2.2).length) ((r_1.2.2).length)]) rfl (congrArg (fun n=>[sl (some (g_2.2.2,0)) n n]) h1) ?_
  obtain ⟨r_2,hr_2,H⟩:=bind_elim H
  refine TLe (E_c0 (F142_calls g_2.2.1 0 (some (g_2.2.2,0)) ((r_1.2.2).length) r_1.1 r_1.2.2 (replicate 16 0#8:Vx 8 16) (Nat.le_refl _) r_2 hr_2) call142 ⟨.o 0, .o 1, .o 2,trivial⟩) (fun g_3=>?_)
  refine TLe (E_allocP [(16,e8 ((replicate 16 0#8).toList))] inf171 zer171 ⟨(lenV (f:=v8) (replicate 16 0#8)),trivial⟩) (fun b1=>?_)
  refine TLn (E_sv (vs:=e8 r_2.toList) 0 inf171) (fun _=>?_)
  refine TL_nil (TX_next (TC_seq (TC_region (TVm ?_))))
  refine TLv (V_sliceArr0 rfl (by simp) underlying171 inf5 rfl) ?_
  refine TL_re (d:=18) (v:=sl (some (b1,0)) 16 16) (v':=sl (some (b1,0)) ((r_2.toList).length) ((r_2.toList).length)) rfl (congrArg (fun n=>sl (some (b1,0)) n n) vec_tl.symm) ?_
  obtain ⟨r_3,hr_3,H⟩:=bind_elim H
  refine TLe (E_c0 (F143_calls (some (b1,0)) ((r_2.toList).length) r_2.toList (Nat.le_refl _) r_3 hr_3) call143 ⟨.o 0,trivial⟩) (fun g_4=>?_)
  refine TLv (V_buildStruct (pv:=[(0,ptr (some (g_2.2.1,0)) 0),(1,aG [(1,[v64 r_3.1]),(1,[v64 r_3.2])])]) (pl:=[(0,1),(1,2)]) rfl rfl underlying219 inf219 places219 zer219 (cs:=flat [(1,[ptr (some (g_2.2.1,0)) 0]),(1,[v64 r_3.1]),(1,[v64 r_3.2])]) (fill_part [] [(2,flat [(1,[v64 0#64]),(1,[v64 0#64])])] rfl rfl trivial rfl rfl rfl (fill_part [(1,[ptr (some (g_2.2.1,0)) 0])] [] rfl rfl ⟨rfl,trivial⟩ rfl (flat_len ⟨rfl,rfl,trivial⟩ rfl) (flat_len ⟨rfl,rfl,trivial⟩ rfl) fill_end))) ?_
  refine TLe (E_boxP [(1,[ptr (some (g_2.2.1,0)) 0]),(1,[v64 r_3.1]),(1,[v64 r_3.2])] rfl rfl ⟨rfl,rfl,rfl,trivial⟩) (fun b2=>?_)
  refine TVa ?_
  refine TVa ?_
  refine TL_nil (TX_next (TC_ret ?_))
  obtain rfl:=sj H
  exact TX_ret (rs:=[.tmp 2, .tmp 3]) (vs:=[ptr (some (b2,0)) 0,vb true]) rfl ⟨rfl,rfl,trivial⟩ (fun w' hs'=>⟨((),(b2,g_2.2.1,g_2.2.2)),rfl,Step.left (Step.pulled (is:=[0,3,3,3,0,0]) (A:=[⟨some (b2,0),[ptr (some (g_2.2.1,0)) 0]⟩,⟨some (g_2.2.1,0),e8 r_1.1.toList⟩,⟨some (g_2.2.1,256),[sl (some (g_2.2.2,0)) ((r_1.2.2).length) ((r_1.2.2).length)]⟩,⟨some (g_2.2.2,0),eF (fun V:Vx 8 16=>e8 V.toList) r_1.2.2⟩,⟨some (b2,1),[v64 r_3.1]⟩,⟨some (b2,2),[v64 r_3.2]⟩]) hs' rfl)⟩)
end Go.Proofs
end

section
namespace Go.Proofs
open Go Go.Kx
open TryzI Tryz
def gcm_may (nonce:Str) (aad:Str) (most:Int) (long:Int):Option (Bool) :=
 if ((nonce).length:Int)=12 then (if ((aad).length:Int)≤65536 then (ltt (decide (long≤most)) fun (x1:Bool)=>(some x1)) else (some false)) else (some false)
set_option maxHeartbeats 4000000 in
set_option maxRecDepth 20000 in
theorem F129_calls (nonce:Str) (aad:Str) (most:Int) (long:Int) (r:Bool) (H:gcm_may nonce aad most long=some r) :
  Does Tryz.prog 129 [vs nonce,vs aad,vi most,vi long] [] [] (Γ:=Unit) (fun g=>vb r) (fun g=>[]):=by
 intro w hmem hro hd
 refine calls_of (N:=22) (m0:=[(0,vs nonce),(1,vs aad),(2,vi most),(3,vi long)]) func129 rfl ntmps129 (argM_ok [vs nonce,vs aad,vi most,vi long]) rfl hmem hro hd ?_
 unfold gcm_may at H
 refine TC_seq (TC_region (TVa ?_))
 refine TL_nil (TX_next (TC_seq (TC_region (TVm ?_))))
 refine TLv (V_len_str rfl underlying9) ?_
 refine TLv (V_bin rfl rfl (fun w=>eqlI w ((nonce).length:Int) 12)) ?_
 refine TVm ?_
 refine TFd (d:=12) H (fun hc H=>?_) (fun hc H=>?_)
 ·refine TLw (V_move rfl) ?_
  refine TLw (V_len_str rfl underlying9) ?_
  refine TLw (V_bin rfl rfl (fun w=>leqI w ((aad).length:Int) 65536)) ?_
  refine TVt ?_
  refine TVm ?_
  refine TFd (d:=17) H (fun hc H=>?_) (fun hc H=>?_)
  ·refine TLw (V_move rfl) ?_
   refine TLw (V_move rfl) ?_
   refine TLw (V_bin rfl rfl (fun w=>leqI w long most)) ?_
   refine TVt ?_
   refine TVa ?_
   obtain ⟨x1,hx1,H⟩:=ltt_elim H
   refine TLr 8 (congrArg vb hx1) ?_
   refine TL_nil (TX_next (TC_ret ?_))
   obtain rfl:=sj H
   exact TX1
  ·refine TLs ?_
   refine TLs ?_
   refine TLs ?_
   refine TVf ?_
   refine TVa ?_
   refine TL_nil (TX_next (TC_ret ?_))
   obtain rfl:=sj H
   exact TX1
 ·refine TLs ?_
  refine TLs ?_
  refine TLs ?_
  refine TVf ?_
  refine TVm ?_
  refine TLs ?_
  refine TLs ?_
  refine TLs ?_
  refine TVf ?_
  refine TVa ?_
  refine TL_nil (TX_next (TC_ret ?_))
  obtain rfl:=sj H
  exact TX1
end Go.Proofs
end

section
namespace Go.Proofs
open Go Go.Kx
open TryzI Tryz
def gcm_element_half (e_high:BitVec 64) (e_low:BitVec 64):Option (BitVec 64 × BitVec 64) :=
 some ((e_high >>> 1) ^^^ (16212958658533785600#64 &&& (-(e_low &&& 1#64))),(e_low >>> 1) ||| (e_high <<< 63))
set_option maxHeartbeats 4000000 in
set_option maxRecDepth 20000 in
theorem F154_calls (e_high:BitVec 64) (e_low:BitVec 64) (r:BitVec 64 × BitVec 64) (H:gcm_element_half e_high e_low=some r) :
  Does Tryz.prog 154 [aG [(1,[v64 e_high]),(1,[v64 e_low])]] [] [] (Γ:=Unit) (fun g=>aG [(1,[v64 r.1]),(1,[v64 r.2])]) (fun g=>[]):=by
 intro w hmem hro hd
 refine calls_of (N:=20) (m0:=[(0,aG [(1,[v64 e_high]),(1,[v64 e_low])])]) func154 rfl ntmps154 (argM_ok [aG [(1,[v64 e_high]),(1,[v64 e_low])]]) rfl hmem hro hd ?_
 unfold gcm_element_half at H
 refine TC_seq (TC_region (TLe (E_boxP [(1,[v64 e_high]),(1,[v64 e_low])] rfl rfl ⟨rfl,rfl,trivial⟩) (fun b1=>?_)))
 refine TLe (E_allocP [(1,[v64 0#64]),(1,[v64 0#64])] inf216 zer216 ⟨rfl,rfl,trivial⟩) (fun b2=>?_)
 refine TL_nil (TX_next (TC_seq (TC_region (TLv (V_fieldE rfl underlying216 rfl rfl inf115 rfl (v:=ptr (some (b1,0)) 0) rfl) ?_))))
 refine TLv (V_load rfl (.o 2) rfl isAgg115) ?_
 refine TLv (V_bin rfl rfl (fun w=>shr64 w e_high .u64 1 (by decide))) ?_
 refine TLv (V_fieldE rfl underlying216 rfl rfl inf115 rfl (v:=ptr (some (b1,1)) 0) rfl) ?_
 refine TLv (V_load rfl (.o 3) rfl isAgg115) ?_
 refine TLv (V_bin rfl rfl (fun w=>and64 w e_low 1#64)) ?_
 refine TLv (V_un rfl (fun w=>neg64 w (e_low &&& 1#64))) ?_
 refine TLv (V_bin rfl rfl (fun w=>and64 w 16212958658533785600#64 (-(e_low &&& 1#64)))) ?_
 refine TLv (V_bin rfl rfl (fun w=>xor64 w (e_high >>> 1) (16212958658533785600#64 &&& (-(e_low &&& 1#64))))) ?_
 refine TLv (V_fieldE rfl underlying216 rfl rfl inf115 rfl (v:=ptr (some (b1,1)) 0) rfl) ?_
 refine TLv (V_load rfl (.o 3) rfl isAgg115) ?_
 refine TLv (V_bin rfl rfl (fun w=>shr64 w e_low .u64 1 (by decide))) ?_
 refine TLv (V_fieldE rfl underlying216 rfl rfl inf115 rfl (v:=ptr (some (b1,0)) 0) rfl) ?_
 refine TLv (V_load rfl (.o 2) rfl isAgg115) ?_
 refine TLv (V_bin rfl rfl (fun w=>shl64 w e_high .u64 63 (by decide))) ?_
 refine TLv (V_bin rfl rfl (fun w=>or64 w (e_low >>> 1) (e_high <<< 63))) ?_
 refine TLv (V_buildStruct (pv:=[(0,v64 ((e_high >>> 1) ^^^ (16212958658533785600#64 &&& (-(e_low &&& 1#64))))),(1,v64 ((e_low >>> 1) ||| (e_high <<< 63)))]) (pl:=[(0,1),(1,1)]) rfl rfl underlying216 inf216 places216 zer216 (cs:=flat [(1,[v64 ((e_high >>> 1) ^^^ (16212958658533785600#64 &&& (-(e_low &&& 1#64))))]),(1,[v64 ((e_low >>> 1) ||| (e_high <<< 63))])]) (by kernel_rfl)) ?_
 refine TLn (E_sq (b:=b2) (o:=0) [0,0] [(1,_),(1,_)] rfl inf216) (fun _=>?_)
 refine TL_nil (TX_next (TC_ret ?_))
 obtain rfl:=sj H
 exact TXr (vs:=[_]) rfl ⟨(Res_lp (b:=b2) (o:=0) (n:=2) (ps:=[(1,_),(1,_)]) ⟨.o 0, .o 1,trivial⟩ isAgg216 inf216),trivial⟩
end Go.Proofs
end

section
namespace Go.Proofs
open Go Go.Kx
open Vector (replicate)
open TryzI Tryz
def gcm_newSum.b1 (s0:Int × (Vector (BitVec 64 × BitVec 64) 16) × BitVec 64 × BitVec 64) (s1:Int × (Vector (BitVec 64 × BitVec 64) 16)):Option ((Int × (Vector (BitVec 64 × BitVec 64) 16)) ⊕ ((Vector (BitVec 64 × BitVec 64) 16))) :=
 if s1.1<16 then (if (iop (· &&& ·) s1.1 s0.1) ≠ 0 then (if 0≤s1.1∧s1.1<(16:Int) then (if 0≤s1.1∧s1.1<(16:Int) then (ltt (vp s1.2 ((s1.1).toNat) ((((vg s1.2 ((s1.1).toNat)).1) ^^^ s0.2.2.1),(vg s1.2 ((s1.1).toNat)).2)) fun (m_1:Vector (BitVec 64 × BitVec 64) 16)=>(if 0≤s1.1∧s1.1<(16:Int) then (if 0≤s1.1∧s1.1<(16:Int) then (ltt (vp m_1 ((s1.1).toNat) ((vg m_1 ((s1.1).toNat)).1,(((vg m_1 ((s1.1).toNat)).2) ^^^ s0.2.2.2))) fun (m_2:Vector (BitVec 64 × BitVec 64) 16)=>(some (.inl (w64 (s1.1+1),m_2)))) else none) else none)) else none) else none) else (some (.inl (w64 (s1.1+1),s1.2)))) else (some (.inr s1.2))
def gcm_newSum.b0  (s0:Int × (Vector (BitVec 64 × BitVec 64) 16) × BitVec 64 × BitVec 64):Option ((Int × (Vector (BitVec 64 × BitVec 64) 16) × BitVec 64 × BitVec 64) ⊕ ((Vector (BitVec 64 × BitVec 64) 16))) :=
 if 0<s0.1 then ((loop (gcm_newSum.b1 s0) BIG (0,s0.2.1)).bind fun (t_2:(Vector (BitVec 64 × BitVec 64) 16))=>((gcm_element_half s0.2.2.1 s0.2.2.2).bind fun (r_1:BitVec 64 × BitVec 64)=>(ltt (w64 (s0.1.tdiv 2)) fun (bit1:Int)=>(some (.inl (bit1,t_2,r_1.1,r_1.2)))))) else (some (.inr s0.2.1))
def gcm_newSum.b3  (s3:Int × BitVec 64 × BitVec 64):Option ((Int × BitVec 64 × BitVec 64) ⊕ (BitVec 64 × BitVec 64)) :=
 if s3.1<4 then ((gcm_element_half s3.2.1 s3.2.2).bind fun (r_2:BitVec 64 × BitVec 64)=>(some (.inl (w64 (s3.1+1),r_2.1,r_2.2)))) else (some (.inr (s3.2.1,s3.2.2)))
def gcm_newSum.b2  (s2:Int × Vx 64 16):Option ((Int × Vx 64 16) ⊕ (Vx 64 16)) :=
 if s2.1<16 then ((loop (gcm_newSum.b3) BIG (0,0#64,BitVec.ofInt 64 s2.1)).bind fun (t_4:BitVec 64 × BitVec 64)=>(if 0≤s2.1∧s2.1<(16:Int) then (ltt (vp s2.2 ((s2.1).toNat) t_4.1) fun (m_3:Vx 64 16)=>(some (.inl (w64 (s2.1+1),m_3)))) else none)) else (some (.inr s2.2))
def gcm_newSum (h_high:BitVec 64) (h_low:BitVec 64):Option ((Vector (BitVec 64 × BitVec 64) 16) × Vx 64 16) :=
 (loop (gcm_newSum.b0) BIG (8,replicate 16 (0#64,0#64),h_high,h_low)).bind fun (t_1:(Vector (BitVec 64 × BitVec 64) 16))=>((loop (gcm_newSum.b2) BIG (0,replicate 16 0#64)).bind fun (t_3:Vx 64 16)=>(some (t_1,t_3)))
set_option maxHeartbeats 4000000 in
set_option maxRecDepth 20000 in
theorem F144_calls (h_high:BitVec 64) (h_low:BitVec 64) (r:(Vector (BitVec 64 × BitVec 64) 16) × Vx 64 16) (H:gcm_newSum h_high h_low=some r) :
  Does Tryz.prog 144 [aG [(1,[v64 h_high]),(1,[v64 h_low])]] [] [] (Γ:=Nat) (fun g=>ptr (some (g,0)) 0) (fun g=>[⟨some (g,0),eF (fun p:BitVec 64 × BitVec 64=>[v64 p.1,v64 p.2]) r.1.toList⟩,⟨some (g,32),e64 r.2.toList⟩,⟨some (g,48),[v64 0#64]⟩,⟨some (g,49),[v64 0#64]⟩]):=by
 intro w hmem hro hd
 refine calls_of (N:=75) (m0:=[(0,aG [(1,[v64 h_high]),(1,[v64 h_low])])]) func144 rfl ntmps144 (argM_ok [aG [(1,[v64 h_high]),(1,[v64 h_low])]]) rfl hmem hro hd ?_
 unfold gcm_newSum at H
 refine TC_seq (TC_region (TLe (E_boxP [(1,[v64 h_high]),(1,[v64 h_low])] rfl rfl ⟨rfl,rfl,trivial⟩) (fun b1=>?_)))
 refine TVa ?_
 refine TL_nil (TX_next (TC_seq (TC_region (TLv (V_buildStruct (pv:=[]) (pl:=[(0,32),(32,16),(48,2)]) rfl rfl underlying227 inf227 places227 zer227 (cs:=flat [(32,eF (fun p:BitVec 64 × BitVec 64=>[v64 p.1,v64 p.2]) ((replicate 16 (0#64,0#64)).toList)),(16,e64 ((replicate 16 0#64).toList)),(1,[v64 0#64]),(1,[v64 0#64])]) fill_end) ?_))))
 refine TLe (E_boxP [(32,eF (fun p:BitVec 64 × BitVec 64=>[v64 p.1,v64 p.2]) ((replicate 16 (0#64,0#64)).toList)),(16,e64 ((replicate 16 0#64).toList)),(1,[v64 0#64]),(1,[v64 0#64])] rfl rfl ⟨(lenVF (g:=fun p:BitVec 64 × BitVec 64=>[v64 p.1,v64 p.2]) (s:=2) (fun _=>rfl) (replicate 16 (0#64,0#64))),(lenV (f:=v64) (replicate 16 0#64)),rfl,rfl,trivial⟩) (fun b2=>?_)
 refine TVa ?_
 refine TL_nil (TX_next (TC_seq (TC_seq (TA_begin [] 4 (by kernel_rfl) (N:=4) rfl ?_))))
 refine TA_mix (is:=[]) (done':=dn 4 7) [itV 0 11 (aG [(1,[v64 h_high]),(1,[v64 h_low])]) [],⟨1,5,fun _ b3=>ptr (some (b3,0)) 0,fun b3=>[⟨some (b3,0),[v64 0#64]⟩,⟨some (b3,1),[v64 0#64]⟩],[],none⟩,itV 2 4 (vi 8) []] [] 1 (by kernel_rfl) (QP.then (QP.then QP.body)) (by kernel_rfl) rfl (.v rfl (V_lp (b:=b1) (o:=0) (n:=2) (ps:=[(1,_),(1,_)]) ⟨.o 4, .o 5,trivial⟩ isAgg216 inf216) (.c rfl (fun _ _=>(E_allocP [(1,[v64 0#64]),(1,[v64 0#64])] inf216 zer216 ⟨rfl,rfl,trivial⟩)) (.v rfl (V_assign rfl) .nil))) .nil (by kernel_rfl) rfl (fun γ=>?_)
 refine TA_cut [(4,vi 8),(5,ptr (some ((γ 1),0)) 0),(11,aG [(1,[v64 h_high]),(1,[v64 h_low])]),(3,ptr (some (b2,0)) 0)] [⟨some ((γ 1),0),[v64 0#64]⟩,⟨some ((γ 1),1),[v64 0#64]⟩,⟨some (b2,0),eF (fun p:BitVec 64 × BitVec 64=>[v64 p.1,v64 p.2]) ((replicate 16 (0#64,0#64)).toList)⟩,⟨some (b2,32),e64 ((replicate 16 0#64).toList)⟩,⟨some (b2,48),[v64 0#64]⟩,⟨some (b2,49),[v64 0#64]⟩,⟨some (b1,0),[v64 h_high]⟩,⟨some (b1,1),[v64 h_low]⟩] ⟨rfl,rfl,rfl,rfl,trivial⟩ rfl ?_
 generalize γ 1=b3
 refine TA_all (rs:=[3]) (by kernel_rfl) rfl ?_
 refine ⟨?_,trivial⟩
 refine TO_n (is:=[]) (done':=dn 4 15) rfl rfl rfl (by kernel_rfl) (E_sq (b:=b3) (o:=0) [0,0] [(1,_),(1,_)] rfl inf216) (fun _ _=>rfl) (fun _=>?_)
 refine TA_done (by kernel_rfl) ?_ 0
 refine TX_next (TC_block ?_)
 obtain ⟨t_1,Hl,H⟩:=bind_elim H
 refine TC.sub (m':=[(3,_),(4,_),(5,_)]) ⟨rfl,rfl,rfl,trivial⟩ ?_
 refine TC.pull (is:=[2,2,2,2,0,0]) (L':=[_,_,_,_,_,_]) rfl ?_
 refine TC_loopL (id:=0) (body:=(gcm_newSum.b0)) (σ:=Int × (Vector (BitVec 64 × BitVec 64) 16) × BitVec 64 × BitVec 64) (Γ:=Nat) (Γx:=Unit) (fun s0 g0_=>[(3,ptr (some (b2,0)) 0),(4,vi s0.1),(5,ptr (some (g0_,0)) 0)]) (fun s0 g0_=>[⟨some (b2,0),eF (fun p:BitVec 64 × BitVec 64=>[v64 p.1,v64 p.2]) s0.2.1.toList⟩,⟨some (b2,32),e64 ((replicate 16 0#64).toList)⟩,⟨some (b2,48),[v64 0#64]⟩,⟨some (b2,49),[v64 0#64]⟩,⟨some (g0_,0),[v64 s0.2.2.1]⟩,⟨some (g0_,1),[v64 s0.2.2.2]⟩]) (fun t g=>[(3,ptr (some (b2,0)) 0)]) (fun t g=>[⟨some (b2,0),eF (fun p:BitVec 64 × BitVec 64=>[v64 p.1,v64 p.2]) t.toList⟩,⟨some (b2,32),e64 ((replicate 16 0#64).toList)⟩,⟨some (b2,48),[v64 0#64]⟩,⟨some (b2,49),[v64 0#64]⟩]) ?_ BIG (8,replicate 16 (0#64,0#64),h_high,h_low) b3 t_1 Hl ?_
 ·intro s0 g0_ r1 H K hK hE
  unfold gcm_newSum.b0 at H
  refine TC_seq (TC_seq (TC_region (TVm ?_)))
  refine TLv (V_bin rfl rfl (fun w=>gtrI w s0.1 0)) ?_
  refine TL_nil (TX_next (TCd H (fun hc H=>?_) (fun hc H=>?_)))
  ·refine TC_skip (TX_next (TC_seq (TC_block (TC_seq (TC_region (TVm ?_))))))
   refine TL_nil (TX_next (TC_block ?_))
   obtain ⟨t_2,Hl,H⟩:=bind_elim H
   refine TC.sub (m':=[(3,_),(4,_),(5,_),(18,_)]) ⟨rfl,rfl,rfl,rfl,trivial⟩ ?_
   refine TC.pull (is:=[0,0,0,0,0,0]) (L':=[_,_,_,_,_,_]) rfl ?_
   refine TC_loopL (id:=2) (body:=(gcm_newSum.b1 s0)) (σ:=Int × (Vector (BitVec 64 × BitVec 64) 16)) (Γ:=Unit) (Γx:=Unit) (fun s1 g1_=>[(3,ptr (some (b2,0)) 0),(4,vi s0.1),(5,ptr (some (g0_,0)) 0),(18,vi s1.1)]) (fun s1 g1_=>[⟨some (b2,0),eF (fun p:BitVec 64 × BitVec 64=>[v64 p.1,v64 p.2]) s1.2.toList⟩,⟨some (b2,32),e64 ((replicate 16 0#64).toList)⟩,⟨some (b2,48),[v64 0#64]⟩,⟨some (b2,49),[v64 0#64]⟩,⟨some (g0_,0),[v64 s0.2.2.1]⟩,⟨some (g0_,1),[v64 s0.2.2.2]⟩]) (fun t g=>[(3,ptr (some (b2,0)) 0),(4,vi s0.1),(5,ptr (some (g0_,0)) 0)]) (fun t g=>[⟨some (b2,0),eF (fun p:BitVec 64 × BitVec 64=>[v64 p.1,v64 p.2]) t.toList⟩,⟨some (b2,32),e64 ((replicate 16 0#64).toList)⟩,⟨some (b2,48),[v64 0#64]⟩,⟨some (b2,49),[v64 0#64]⟩,⟨some (g0_,0),[v64 s0.2.2.1]⟩,⟨some (g0_,1),[v64 s0.2.2.2]⟩]) ?_ BIG (0,s0.2.1) () t_2 Hl ?_
   ·intro s1 g1_ r1 H K hK hE
    unfold gcm_newSum.b1 at H
    refine TC_seq (TC_region (TLv (V_bin rfl rfl (fun w=>lssI w s1.1 16)) ?_))
    refine TL_nil (TX_next (TC_seq (TCd H (fun hc H=>?_) (fun hc H=>?_))))
    ·refine TC_skip (TX_next (TC_seq (TC_block (TC_seq (TC_region (TVm ?_))))))
     refine TVa ?_
     refine TL_nil (TX_next (TC_seq (TC_region (TVm ?_))))
     refine TVm ?_
     refine TLv (V_bin rfl rfl (fun w=>andI w s1.1 s0.1)) ?_
     refine TLv (V_bin rfl rfl (fun w=>neqI w (iop (· &&& ·) s1.1 s0.1) 0)) ?_
     refine TL_nil (TX_next (TCd H (fun hc H=>?_) (fun hc H=>?_)))
     ·refine TC_seq ?_
      obtain ⟨h1,H⟩:=if_elim H
      obtain ⟨h2,H⟩:=if_elim H
      obtain ⟨m_1,hm_1,H⟩:=ltt_elim H
      refine TA_begin [] 15 (by kernel_rfl) (N:=15) rfl ?_
      refine TA_mix (is:=[]) (done':=dn 15 16383) [itV 0 25 (ptr (some (b2,0)) 0) [],itV 1 26 (vi s1.1) [],itV 2 27 (ptr (some (b2,0)) 0) [0],itV 3 28 (ptr (some (b2,0)) 0) [2],itV 4 29 (ptr (some (b2,0)) (((s1.1).toNat) * 2)) [1,3],itV 5 30 (ptr (some (b2,0)) (((s1.1).toNat) * 2+0)) [4],itV 6 31 (v64 ((vg s1.2 ((s1.1).toNat)).1)) [5],itV 7 32 (ptr (some (g0_,0)) 0) [],itV 8 33 (v64 s0.2.2.1) [7],itV 9 34 (v64 (((vg s1.2 ((s1.1).toNat)).1) ^^^ s0.2.2.1)) [8,6],itV 10 35 (ptr (some (b2,0)) 0) [0],itV 11 36 (ptr (some (b2,0)) 0) [10],itV 12 37 (ptr (some (b2,0)) (((s1.1).toNat) * 2)) [1,11],itV 13 38 (ptr (some (b2,0)) (((s1.1).toNat) * 2+0)) [12]] [] 1 (by kernel_rfl) (QP.then (QP.block (QP.then (QP.then (QP.block (QP.block (QP.then (QP.then (QP.block (QP.then QP.body)))))))))) (by kernel_rfl) rfl (.v rfl (V_move rfl) (.v rfl (V_move rfl) (.v rfl (V_nilCheck rfl) (.v rfl (V_fe underlying227 inf224) (.v rfl (V_idxArr (i:=s1.1) rfl rfl underlying224 inf216 rfl h1.1 h1.2 (k:=((s1.1).toNat) * 2) (k0 _ _)) (.v rfl (V_field rfl underlying216 rfl (k:=0) rfl inf115 rfl) (.v rfl (V_load rfl (.o 0) ((get_eF (g:=fun p:BitVec 64 × BitVec 64=>[v64 p.1,v64 p.2]) (s:=2) (fun _=>rfl) s1.2.toList ((s1.1).toNat) 0 (lt_list (toNat_lt h1.1 h1.2)) (by decide:0<2)).trans rfl) isAgg115) (.v rfl (V_fe underlying216 inf115) (.v rfl (V_load rfl (.o 4) rfl isAgg115) (.v rfl (V_bin rfl rfl (fun w=>xor64 w ((vg s1.2 ((s1.1).toNat)).1) s0.2.2.1)) (.v rfl (V_nilCheck rfl) (.v rfl (V_fe underlying227 inf224) (.v rfl (V_idxArr (i:=s1.1) rfl rfl underlying224 inf216 rfl h2.1 h2.2 (k:=((s1.1).toNat) * 2) (k0 _ _)) (.v rfl (V_field rfl underlying216 rfl (k:=0) rfl inf115 rfl) .nil)))))))))))))) .nil (by kernel_rfl) rfl (fun γ=>?_)
      refine TA_cut [(38,ptr (some (b2,0)) (((s1.1).toNat) * 2+0)),(34,v64 (((vg s1.2 ((s1.1).toNat)).1) ^^^ s0.2.2.1)),(6,vi s1.1),(3,ptr (some (b2,0)) 0),(4,vi s0.1),(5,ptr (some (g0_,0)) 0),(18,vi s1.1)] [⟨some (b2,0),eF (fun p:BitVec 64 × BitVec 64=>[v64 p.1,v64 p.2]) s1.2.toList⟩,⟨some (b2,32),e64 ((replicate 16 0#64).toList)⟩,⟨some (b2,48),[v64 0#64]⟩,⟨some (b2,49),[v64 0#64]⟩,⟨some (g0_,0),[v64 s0.2.2.1]⟩,⟨some (g0_,1),[v64 s0.2.2.2]⟩] ⟨rfl,rfl,rfl,rfl,rfl,rfl,rfl,trivial⟩ rfl ?_
      refine TA_all (rs:=[14]) (by kernel_rfl) rfl ?_
      refine ⟨?_,trivial⟩
      refine TO_n (is:=[]) (done':=dn 15 32767) rfl rfl rfl (by kernel_rfl) (E_store (j:=0) rfl rfl inf115 rfl rfl rfl (lt_eF (g:=fun p:BitVec 64 × BitVec 64=>[v64 p.1,v64 p.2]) (s:=2) (fun _=>rfl) (lt_list (toNat_lt h2.1 h2.2)) (by decide:0<2)) (cs':=eF (fun p:BitVec 64 × BitVec 64=>[v64 p.1,v64 p.2]) ((vp s1.2 ((s1.1).toNat) ((((vg s1.2 ((s1.1).toNat)).1) ^^^ s0.2.2.1),(vg s1.2 ((s1.1).toNat)).2)).toList)) (set_vF (g:=fun p:BitVec 64 × BitVec 64=>[v64 p.1,v64 p.2]) (s:=2) (fun _=>rfl) s1.2 ((s1.1).toNat) 0 _ _ (toNat_lt h2.1 h2.2) (by decide:0<2) rfl)) (fun _ _=>rfl) (fun _=>?_)
      refine TA_reE (j:=0) (A:=some (b2,0)) (cs:=eF (fun p:BitVec 64 × BitVec 64=>[v64 p.1,v64 p.2]) ((vp s1.2 ((s1.1).toNat) ((((vg s1.2 ((s1.1).toNat)).1) ^^^ s0.2.2.1),(vg s1.2 ((s1.1).toNat)).2)).toList)) (cs':=eF (fun p:BitVec 64 × BitVec 64=>[v64 p.1,v64 p.2]) m_1.toList) rfl (congrArg (fun z:Vector (BitVec 64 × BitVec 64) 16=>eF (fun p:BitVec 64 × BitVec 64=>[v64 p.1,v64 p.2]) (Vector.toList z)) hm_1) ?_
      refine TA_done (by kernel_rfl) ?_ 0
      refine TX_next ?_
      obtain ⟨h3,H⟩:=if_elim H
      obtain ⟨h4,H⟩:=if_elim H
      obtain ⟨m_2,hm_2,H⟩:=ltt_elim H
      refine TA_begin [] 15 (by kernel_rfl) (N:=15) rfl ?_
      refine TA_mix (is:=[]) (done':=dn 15 16383) [itV 0 39 (ptr (some (b2,0)) 0) [],itV 1 40 (vi s1.1) [],itV 2 41 (ptr (some (b2,0)) 0) [0],itV 3 42 (ptr (some (b2,0)) 0) [2],itV 4 43 (ptr (some (b2,0)) (((s1.1).toNat) * 2)) [1,3],itV 5 44 (ptr (some (b2,0)) (((s1.1).toNat) * 2+1)) [4],itV 6 45 (v64 ((vg m_1 ((s1.1).toNat)).2)) [5],itV 7 46 (ptr (some (g0_,1)) 0) [],itV 8 47 (v64 s0.2.2.2) [7],itV 9 48 (v64 (((vg m_1 ((s1.1).toNat)).2) ^^^ s0.2.2.2)) [6,8],itV 10 49 (ptr (some (b2,0)) 0) [0],itV 11 50 (ptr (some (b2,0)) 0) [10],itV 12 51 (ptr (some (b2,0)) (((s1.1).toNat) * 2)) [1,11],itV 13 52 (ptr (some (b2,0)) (((s1.1).toNat) * 2+1)) [12]] [] 1 (by kernel_rfl) (QP.block (QP.then (QP.then (QP.block (QP.block (QP.then (QP.then (QP.block (QP.then QP.body))))))))) (by kernel_rfl) rfl (.v rfl (V_move rfl) (.v rfl (V_move rfl) (.v rfl (V_nilCheck rfl) (.v rfl (V_fe underlying227 inf224) (.v rfl (V_idxArr (i:=s1.1) rfl rfl underlying224 inf216 rfl h3.1 h3.2 (k:=((s1.1).toNat) * 2) (k0 _ _)) (.v rfl (V_field rfl underlying216 rfl (k:=1) rfl inf115 rfl) (.v rfl (V_load rfl (.o 0) ((get_eF (g:=fun p:BitVec 64 × BitVec 64=>[v64 p.1,v64 p.2]) (s:=2) (fun _=>rfl) m_1.toList ((s1.1).toNat) 1 (lt_list (toNat_lt h3.1 h3.2)) (by decide:1<2)).trans rfl) isAgg115) (.v rfl (V_fe underlying216 inf115) (.v rfl (V_load rfl (.o 5) rfl isAgg115) (.v rfl (V_bin rfl rfl (fun w=>xor64 w ((vg m_1 ((s1.1).toNat)).2) s0.2.2.2)) (.v rfl (V_nilCheck rfl) (.v rfl (V_fe underlying227 inf224) (.v rfl (V_idxArr (i:=s1.1) rfl rfl underlying224 inf216 rfl h4.1 h4.2 (k:=((s1.1).toNat) * 2) (k0 _ _)) (.v rfl (V_field rfl underlying216 rfl (k:=1) rfl inf115 rfl) .nil)))))))))))))) .nil (by kernel_rfl) rfl (fun γ=>?_)
      refine TA_cut [(52,ptr (some (b2,0)) (((s1.1).toNat) * 2+1)),(48,v64 (((vg m_1 ((s1.1).toNat)).2) ^^^ s0.2.2.2)),(3,ptr (some (b2,0)) 0),(4,vi s0.1),(5,ptr (some (g0_,0)) 0),(18,vi s1.1)] [⟨some (b2,0),eF (fun p:BitVec 64 × BitVec 64=>[v64 p.1,v64 p.2]) m_1.toList⟩,⟨some (b2,32),e64 ((replicate 16 0#64).toList)⟩,⟨some (b2,48),[v64 0#64]⟩,⟨some (b2,49),[v64 0#64]⟩,⟨some (g0_,0),[v64 s0.2.2.1]⟩,⟨some (g0_,1),[v64 s0.2.2.2]⟩] ⟨rfl,rfl,rfl,rfl,rfl,rfl,trivial⟩ rfl ?_
      refine TA_all (rs:=[14]) (by kernel_rfl) rfl ?_
      refine ⟨?_,trivial⟩
      refine TO_n (is:=[]) (done':=dn 15 32767) rfl rfl rfl (by kernel_rfl) (E_store (j:=0) rfl rfl inf115 rfl rfl rfl (lt_eF (g:=fun p:BitVec 64 × BitVec 64=>[v64 p.1,v64 p.2]) (s:=2) (fun _=>rfl) (lt_list (toNat_lt h4.1 h4.2)) (by decide:1<2)) (cs':=eF (fun p:BitVec 64 × BitVec 64=>[v64 p.1,v64 p.2]) ((vp m_1 ((s1.1).toNat) ((vg m_1 ((s1.1).toNat)).1,(((vg m_1 ((s1.1).toNat)).2) ^^^ s0.2.2.2))).toList)) (set_vF (g:=fun p:BitVec 64 × BitVec 64=>[v64 p.1,v64 p.2]) (s:=2) (fun _=>rfl) m_1 ((s1.1).toNat) 1 _ _ (toNat_lt h4.1 h4.2) (by decide:1<2) rfl)) (fun _ _=>rfl) (fun _=>?_)
      refine TA_reE (j:=0) (A:=some (b2,0)) (cs:=eF (fun p:BitVec 64 × BitVec 64=>[v64 p.1,v64 p.2]) ((vp m_1 ((s1.1).toNat) ((vg m_1 ((s1.1).toNat)).1,(((vg m_1 ((s1.1).toNat)).2) ^^^ s0.2.2.2))).toList)) (cs':=eF (fun p:BitVec 64 × BitVec 64=>[v64 p.1,v64 p.2]) m_2.toList) rfl (congrArg (fun z:Vector (BitVec 64 × BitVec 64) 16=>eF (fun p:BitVec 64 × BitVec 64=>[v64 p.1,v64 p.2]) (Vector.toList z)) hm_2) ?_
      refine TA_done (by kernel_rfl) ?_ 0
      refine TX_block_normal (TX_next (TC_region (TLv (V_bin rfl rfl (fun w=>addI w s1.1 1)) ?_)))
      refine TVm ?_
      refine TL_nil ?_
      obtain rfl:=sj H
      exact TXk [0,0,0,0,0,0] (hK (w64 (s1.1+1),m_2) rfl ())
     ·refine TC_skip (TX_block_normal (TX_next (TC_region (TLv (V_bin rfl rfl (fun w=>addI w s1.1 1)) ?_))))
      refine TVm ?_
      refine TL_nil ?_
      obtain rfl:=sj H
      exact TXk [0,0,0,0,0,0] (hK (w64 (s1.1+1),s1.2) rfl ())
    ·refine TC_exit (TX_then_exit (TX_then_exit ?_))
     obtain rfl:=sj H
     exact TXj [0,0,0,0,0,0] (hE s1.2 rfl ())
   ·intro g
    refine TX_block_exit (TX_block_normal (TX_next (TC_seq (TC_seq (TC_region (TLv (V_lp (b:=g0_) (o:=0) (n:=2) (ps:=[(1,_),(1,_)]) ⟨.o 4, .o 5,trivial⟩ isAgg216 inf216) ?_))))))
    refine TL_nil (TX_next (TC_region (TLe (E_allocP [(1,[v64 0#64]),(1,[v64 0#64])] inf216 zer216 ⟨rfl,rfl,trivial⟩) (fun b4=>?_))))
    refine TLn (E_sq (b:=b4) (o:=0) [0,0] [(1,_),(1,_)] rfl inf216) (fun _=>?_)
    refine TL_nil (TX_next (TC_region (TVm ?_)))
    refine TLv (V_bin rfl rfl (fun w=>quoI w s0.1 2 (by decide))) ?_
    refine TLv (V_lp (b:=b4) (o:=0) (n:=2) (ps:=[(1,_),(1,_)]) ⟨.o 0, .o 1,trivial⟩ isAgg216 inf216) ?_
    obtain ⟨r_1,hr_1,H⟩:=bind_elim H
    refine TLe (E_c0 (F154_calls s0.2.2.1 s0.2.2.2 r_1 hr_1) call154 .z) (fun g_1=>?_)
    refine TVa ?_
    obtain ⟨bit1,hbit1,H⟩:=ltt_elim H
    refine TLr 4 (congrArg vi hbit1) ?_
    refine TLn (E_sq (b:=b4) (o:=0) [0,0] [(1,_),(1,_)] rfl inf216) (fun _=>?_)
    refine TL_nil ?_
    obtain rfl:=sj H
    exact TXk [2,2,2,2,0,0] (hK (bit1,t_2,r_1.1,r_1.2) rfl b4)
  ·refine TC_exit (TX_then_exit (TX_then_exit ?_))
   obtain rfl:=sj H
   exact TXj [0,0,0,0] (hE s0.2.1 rfl ())
 ·intro g
  refine TX_block_exit (TX_next (TC_seq (TC_seq (TC_region (TVm ?_)))))
  refine TL_nil (TX_next (TC_block ?_))
  obtain ⟨t_3,Hl,H⟩:=bind_elim H
  refine TC.sub (m':=[(3,_),(55,_)]) ⟨rfl,rfl,trivial⟩ ?_
  refine TC.pull (is:=[0,0,0,0]) (L':=[_,_,_,_]) rfl ?_
  refine TC_loopL (id:=4) (body:=(gcm_newSum.b2)) (σ:=Int × Vx 64 16) (Γ:=Unit) (Γx:=Unit) (fun s2 g2_=>[(3,ptr (some (b2,0)) 0),(55,vi s2.1)]) (fun s2 g2_=>[⟨some (b2,0),eF (fun p:BitVec 64 × BitVec 64=>[v64 p.1,v64 p.2]) t_1.toList⟩,⟨some (b2,32),e64 s2.2.toList⟩,⟨some (b2,48),[v64 0#64]⟩,⟨some (b2,49),[v64 0#64]⟩]) (fun t g=>[(3,ptr (some (b2,0)) 0)]) (fun t g=>[⟨some (b2,0),eF (fun p:BitVec 64 × BitVec 64=>[v64 p.1,v64 p.2]) t_1.toList⟩,⟨some (b2,32),e64 t.toList⟩,⟨some (b2,48),[v64 0#64]⟩,⟨some (b2,49),[v64 0#64]⟩]) ?_ BIG (0,replicate 16 0#64) () t_3 Hl ?_
  ·intro s2 g2_ r1 H K hK hE
   unfold gcm_newSum.b2 at H
   refine TC_seq (TC_region (TLv (V_bin rfl rfl (fun w=>lssI w s2.1 16)) ?_))
   refine TL_nil (TX_next (TC_seq (TCd H (fun hc H=>?_) (fun hc H=>?_))))
   ·refine TC_skip (TX_next (TC_seq (TC_block (TC_seq (TC_region (TVm ?_))))))
    refine TVa ?_
    refine TL_nil (TX_next (TC_seq (TC_region (TVm ?_))))
    refine TLv (V_conv rfl (fun w=>cvI64 w _ _ underlying115 (und3) .i64 s2.1)) ?_
    refine TLv (V_buildStruct (pv:=[(0,v64 0#64),(1,v64 (BitVec.ofInt 64 s2.1))]) (pl:=[(0,1),(1,1)]) rfl rfl underlying216 inf216 places216 zer216 (cs:=flat [(1,[v64 0#64]),(1,[v64 (BitVec.ofInt 64 s2.1)])]) (by kernel_rfl)) ?_
    refine TLe (E_allocP [(1,[v64 0#64]),(1,[v64 0#64])] inf216 zer216 ⟨rfl,rfl,trivial⟩) (fun b5=>?_)
    refine TLn (E_sq (b:=b5) (o:=0) [0,0] [(1,_),(1,_)] rfl inf216) (fun _=>?_)
    refine TL_nil (TX_next (TC_seq (TC_seq (TC_region (TVm ?_)))))
    refine TL_nil (TX_next (TC_block ?_))
    obtain ⟨t_4,Hl,H⟩:=bind_elim H
    refine TC.sub (m':=[(3,_),(7,_),(8,_),(55,_),(61,_)]) ⟨rfl,rfl,rfl,rfl,rfl,trivial⟩ ?_
    refine TC.pull (is:=[2,2,2,2,0,0]) (L':=[_,_,_,_,_,_]) rfl ?_
    refine TC_loopL (id:=6) (body:=(gcm_newSum.b3)) (σ:=Int × BitVec 64 × BitVec 64) (Γ:=Unit) (Γx:=Unit) (fun s3 g3_=>[(3,ptr (some (b2,0)) 0),(7,vi s2.1),(8,ptr (some (b5,0)) 0),(55,vi s2.1),(61,vi s3.1)]) (fun s3 g3_=>[⟨some (b2,0),eF (fun p:BitVec 64 × BitVec 64=>[v64 p.1,v64 p.2]) t_1.toList⟩,⟨some (b2,32),e64 s2.2.toList⟩,⟨some (b2,48),[v64 0#64]⟩,⟨some (b2,49),[v64 0#64]⟩,⟨some (b5,0),[v64 s3.2.1]⟩,⟨some (b5,1),[v64 s3.2.2]⟩]) (fun t g=>[(3,ptr (some (b2,0)) 0),(7,vi s2.1),(8,ptr (some (b5,0)) 0),(55,vi s2.1)]) (fun t g=>[⟨some (b2,0),eF (fun p:BitVec 64 × BitVec 64=>[v64 p.1,v64 p.2]) t_1.toList⟩,⟨some (b2,32),e64 s2.2.toList⟩,⟨some (b2,48),[v64 0#64]⟩,⟨some (b2,49),[v64 0#64]⟩,⟨some (b5,0),[v64 t.1]⟩,⟨some (b5,1),[v64 t.2]⟩]) ?_ BIG (0,0#64,BitVec.ofInt 64 s2.1) () t_4 Hl ?_
    ·intro s3 g3_ r1 H K hK hE
     unfold gcm_newSum.b3 at H
     refine TC_seq (TC_region (TLv (V_bin rfl rfl (fun w=>lssI w s3.1 4)) ?_))
     refine TL_nil (TX_next (TC_seq (TCd H (fun hc H=>?_) (fun hc H=>?_))))
     ·refine TC_skip (TX_next (TC_seq (TC_block (TC_region (TLv (V_lp (b:=b5) (o:=0) (n:=2) (ps:=[(1,_),(1,_)]) ⟨.o 4, .o 5,trivial⟩ isAgg216 inf216) ?_)))))
      obtain ⟨r_2,hr_2,H⟩:=bind_elim H
      refine TLe (E_c0 (F154_calls s3.2.1 s3.2.2 r_2 hr_2) call154 .z) (fun g_2=>?_)
      refine TLn (E_sq (b:=b5) (o:=0) [4,4] [(1,_),(1,_)] rfl inf216) (fun _=>?_)
      refine TL_nil (TX_block_normal (TX_next (TC_region (TLv (V_bin rfl rfl (fun w=>addI w s3.1 1)) ?_))))
      refine TVm ?_
      refine TL_nil ?_
      obtain rfl:=sj H
      exact TXk [2,2,2,2,0,0] (hK (w64 (s3.1+1),r_2.1,r_2.2) rfl ())
     ·refine TC_exit (TX_then_exit (TX_then_exit ?_))
      obtain rfl:=sj H
      exact TXj [0,0,0,0,0,0] (hE (s3.2.1,s3.2.2) rfl ())
    ·intro g
     refine TX_block_exit (TX_next ?_)
     obtain ⟨h5,H⟩:=if_elim H
     obtain ⟨m_3,hm_3,H⟩:=ltt_elim H
     refine TA_begin [] 8 (by kernel_rfl) (N:=8) rfl ?_
     refine TA_mix (is:=[]) (done':=dn 8 127) [itV 0 66 (ptr (some (b2,0)) 0) [],itV 1 67 (vi s2.1) [],itV 2 68 (ptr (some (b5,0)) 0) [],itV 3 69 (v64 t_4.1) [2],itV 4 70 (ptr (some (b2,0)) 0) [0],itV 5 71 (ptr (some (b2,32)) 0) [4],itV 6 72 (ptr (some (b2,32)) ((s2.1).toNat)) [1,5]] [] 1 (by kernel_rfl) (QP.block (QP.then (QP.then (QP.block (QP.then QP.body))))) (by kernel_rfl) rfl (.v rfl (V_move rfl) (.v rfl (V_move rfl) (.v rfl (V_fe underlying216 inf115) (.v rfl (V_load rfl (.o 4) rfl isAgg115) (.v rfl (V_nilCheck rfl) (.v rfl (V_fe underlying227 inf225) (.v rfl (V_idxArr (i:=s2.1) rfl rfl underlying225 inf115 rfl h5.1 h5.2 (k:=(s2.1).toNat) (k01 _)) .nil))))))) .nil (by kernel_rfl) rfl (fun γ=>?_)
     refine TA_cut [(72,ptr (some (b2,32)) ((s2.1).toNat)),(69,v64 t_4.1),(3,ptr (some (b2,0)) 0),(55,vi s2.1)] [⟨some (b2,0),eF (fun p:BitVec 64 × BitVec 64=>[v64 p.1,v64 p.2]) t_1.toList⟩,⟨some (b2,32),e64 s2.2.toList⟩,⟨some (b2,48),[v64 0#64]⟩,⟨some (b2,49),[v64 0#64]⟩,⟨some (b5,0),[v64 t_4.1]⟩,⟨some (b5,1),[v64 t_4.2]⟩] ⟨rfl,rfl,rfl,rfl,trivial⟩ rfl ?_
     refine TA_all (rs:=[7]) (by kernel_rfl) rfl ?_
     refine ⟨?_,trivial⟩
     refine TO_n (is:=[]) (done':=dn 8 255) rfl rfl rfl (by kernel_rfl) (E_store (j:=1) rfl rfl inf115 rfl rfl rfl (by simpa using (toNat_lt h5.1 h5.2)) (cs':=e64 ((vp s2.2 ((s2.1).toNat) t_4.1).toList)) set_vec) (fun _ _=>rfl) (fun _=>?_)
     refine TA_reE (j:=1) (A:=some (b2,32)) (cs:=e64 ((vp s2.2 ((s2.1).toNat) t_4.1).toList)) (cs':=e64 m_3.toList) rfl (congrArg (fun z:Vx 64 16=>e64 (Vector.toList z)) hm_3) ?_
     refine TA_done (by kernel_rfl) ?_ 0
     refine TX_block_normal (TX_next (TC_region (TLv (V_bin rfl rfl (fun w=>addI w s2.1 1)) ?_)))
     refine TVm ?_
     refine TL_nil ?_
     obtain rfl:=sj H
     exact TXk [0,0,0,0] (hK (w64 (s2.1+1),m_3) rfl ())
   ·refine TC_exit (TX_then_exit (TX_then_exit ?_))
    obtain rfl:=sj H
    exact TXj [0,0,0,0] (hE s2.2 rfl ())
  ·intro g
   refine TX_block_exit (TX_next (TC_seq (TC_region (TVm ?_))))
   refine TVa ?_
   refine TL_nil (TX_next (TC_ret ?_))
   obtain rfl:=sj H
   exact TX_ret (rs:=[.tmp 2]) (vs:=[ptr (some (b2,0)) 0]) rfl ⟨rfl,trivial⟩ (fun w' hs'=>⟨b2,rfl,Step.left (Step.pulled (is:=[0,0,0,0]) (A:=[⟨some (b2,0),eF (fun p:BitVec 64 × BitVec 64=>[v64 p.1,v64 p.2]) t_1.toList⟩,⟨some (b2,32),e64 t_3.toList⟩,⟨some (b2,48),[v64 0#64]⟩,⟨some (b2,49),[v64 0#64]⟩]) hs' rfl)⟩)
end Go.Proofs
end

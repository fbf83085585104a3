/-
  Part 15 of the proof of what several laws share.
-/
import Derived.Test.YtkgeoekcnlgfnaaGreatDoorKc1
import Derived.Test.YtkgeoekcnlgfnaaGreatDoorKc2
import Derived.Test.YtkgeoekcnlgfnaaGreatDoorKc3
import Derived.Test.YtkgeoekcnlgfnaaGreatDoorKc4
import Derived.Test.YtkgeoekcnlgfnaaGreatDoorKc5
import Derived.Test.YtkgeoekcnlgfnaaGreatDoorKc6
import Derived.Test.YtkgeoekcnlgfnaaGreatDoorKc14
set_option linter.unusedVariables false
set_option linter.unusedSimpArgs false
section
namespace Go.Proofs
open Go Go.Kx
open Vector (replicate)
open TryzI Tryz
def aes_table.b0  (s0:BitVec 8 × BitVec 8 × Vx 8 256):Option ((BitVec 8 × BitVec 8 × Vx 8 256) ⊕ ((Vx 8 256))) :=
 (aes_twice s0.1).bind fun (r_1:BitVec 8)=>(ltt (s0.2.1 ^^^ (s0.2.1 <<< 1)) fun (q1:BitVec 8)=>(ltt (q1 ^^^ (q1 <<< 2)) fun (q2:BitVec 8)=>(ltt (q2 ^^^ (q2 <<< 4)) fun (q3:BitVec 8)=>(ltt (q3 ^^^ (9#8 &&& (-(q3 >>> 7)))) fun (q4:BitVec 8)=>((math_bits_RotateLeft8 q4 1).bind fun (r_2:BitVec 8)=>((math_bits_RotateLeft8 q4 2).bind fun (r_3:BitVec 8)=>((math_bits_RotateLeft8 q4 3).bind fun (r_4:BitVec 8)=>((math_bits_RotateLeft8 q4 4).bind fun (r_5:BitVec 8)=>(ltt (vp s0.2.2 ((s0.1 ^^^ r_1).toNat) (((((99#8 ^^^ q4) ^^^ r_2) ^^^ r_3) ^^^ r_4) ^^^ r_5)) fun (m_2:Vx 8 256)=>(if (s0.1 ^^^ r_1)=1#8 then (some (.inr m_2)) else (some (.inl (s0.1 ^^^ r_1,q4,m_2)))))))))))))
def aes_table:Option (Vx 8 256) :=
 ltt ((vp (replicate 256 0#8) 0 99#8:Vx 8 256)) fun (m_1:Vx 8 256)=>((loop (aes_table.b0) BIG (1#8,1#8,m_1)).bind fun (t_1:(Vx 8 256))=>some t_1)
set_option maxHeartbeats 4000000 in
set_option maxRecDepth 20000 in
theorem F152_calls (r:Vx 8 256) (H:aes_table=some r) :
  Does Tryz.prog 152 [] [] [] (Γ:=Unit) (fun g=>aG [(256,e8 r.toList)]) (fun g=>[]):=by
 intro w hmem hro hd
 refine calls_of (N:=46) (m0:=[]) func152 rfl ntmps152 (argM_ok []) rfl hmem hro hd ?_
 unfold aes_table at H
 refine TC_seq (TC_region (TLe (E_allocP [(256,e8 ((replicate 256 0#8).toList))] inf243 zer243 ⟨(lenV (f:=v8) (replicate 256 0#8)),trivial⟩) (fun b1=>?_)))
 refine TL_nil (TX_next (TC_seq (TC_region (TLv (V_buildArr (pv:=[(0,v8 99#8)]) rfl rfl underlying243 inf243 inf5 rfl zer243 (cs:=e8 ((vp (replicate 256 0#8) 0 99#8:Vx 8 256).toList)) (by kernel_rfl)) ?_))))
 refine TLe (E_allocP [(256,e8 ((replicate 256 0#8).toList))] inf243 zer243 ⟨(lenV (f:=v8) (replicate 256 0#8)),trivial⟩) (fun b2=>?_)
 refine TLn (E_sv 0 inf243) (fun _=>?_)
 obtain ⟨m_1,hm_1,H⟩:=ltt_elim H
 refine TL_reE (j:=0) (A:=some (b2,0)) (cs:=e8 ((vp (replicate 256 0#8) 0 99#8:Vx 8 256).toList)) (cs':=e8 m_1.toList) rfl (congrArg (fun z:Vx 8 256=>e8 (Vector.toList z)) hm_1) ?_
 refine TL_nil (TX_next (TC_seq (TC_region (TVa ?_))))
 refine TVa ?_
 refine TL_nil (TX_next (TC_block ?_))
 obtain ⟨t_1,Hl,H⟩:=bind_elim H
 refine TC.sub (m':=[(0,_),(1,_),(2,_),(3,_)]) ⟨rfl,rfl,rfl,rfl,trivial⟩ ?_
 refine TC.pull (is:=[1,0]) (L':=[_,_]) rfl ?_
 refine TC_loopQ (body:=(aes_table.b0)) (σ:=BitVec 8 × BitVec 8 × Vx 8 256) (Γ:=Unit) (Γx:=Unit) (fun s0 g0_=>[(0,ptr (some (b1,0)) 0),(1,ptr (some (b2,0)) 0),(2,v8 s0.1),(3,v8 s0.2.1)]) (fun s0 g0_=>[⟨some (b1,0),e8 ((replicate 256 0#8).toList)⟩,⟨some (b2,0),e8 s0.2.2.toList⟩]) (fun t g=>[]) (fun t g=>[]) r ?_ BIG (1#8,1#8,m_1) () t_1 Hl ?_
 ·intro s0 g0_ r1 H K hK hE hR1
  unfold aes_table.b0 at H
  refine TC_block (TC_seq (TC_region (TVm ?_)))
  refine TVm ?_
  obtain ⟨r_1,hr_1,H⟩:=bind_elim H
  refine TLe (E_c0 (F153_calls s0.1 r_1 hr_1) call153 .z) (fun g_1=>?_)
  refine TLv (V_bin rfl rfl (fun w=>xor8 w s0.1 r_1)) ?_
  refine TVa ?_
  refine TL_nil (TX_next (TC_seq (TC_region (TVm ?_))))
  refine TVm ?_
  refine TLv (V_bin rfl rfl (fun w=>shl8 w s0.2.1 .u64 1 (by decide))) ?_
  refine TLv (V_bin rfl rfl (fun w=>xor8 w s0.2.1 (s0.2.1 <<< 1))) ?_
  refine TVa ?_
  obtain ⟨q1,hq1,H⟩:=ltt_elim H
  refine TLr 3 (congrArg v8 hq1) ?_
  refine TL_nil (TX_next (TC_seq (TC_region (TVm ?_))))
  refine TVm ?_
  refine TLv (V_bin rfl rfl (fun w=>shl8 w q1 .u64 2 (by decide))) ?_
  refine TLv (V_bin rfl rfl (fun w=>xor8 w q1 (q1 <<< 2))) ?_
  refine TVa ?_
  obtain ⟨q2,hq2,H⟩:=ltt_elim H
  refine TLr 3 (congrArg v8 hq2) ?_
  refine TL_nil (TX_next (TC_seq (TC_region (TVm ?_))))
  refine TVm ?_
  refine TLv (V_bin rfl rfl (fun w=>shl8 w q2 .u64 4 (by decide))) ?_
  refine TLv (V_bin rfl rfl (fun w=>xor8 w q2 (q2 <<< 4))) ?_
  refine TVa ?_
  obtain ⟨q3,hq3,H⟩:=ltt_elim H
  refine TLr 3 (congrArg v8 hq3) ?_
  refine TL_nil (TX_next (TC_seq (TC_region (TVm ?_))))
  refine TVm ?_
  refine TLv (V_bin rfl rfl (fun w=>shr8 w q3 .u64 7 (by decide))) ?_
  refine TLv (V_un rfl (fun w=>neg8 w (q3 >>> 7))) ?_
  refine TLv (V_bin rfl rfl (fun w=>and8 w 9#8 (-(q3 >>> 7)))) ?_
  refine TLv (V_bin rfl rfl (fun w=>xor8 w q3 (9#8 &&& (-(q3 >>> 7))))) ?_
  refine TVa ?_
  obtain ⟨q4,hq4,H⟩:=ltt_elim H
  refine TLr 3 (congrArg v8 hq4) ?_
  refine TL_nil (TX_next (TC.sub (m':=[(0,_),(1,_),(2,_),(3,_)]) ⟨rfl,rfl,rfl,rfl,trivial⟩ ?_))
  refine TC_seq (TC_region (TVm ?_))
  refine TVm ?_
  refine TLv (V_bin rfl rfl (fun w=>xor8 w 99#8 q4)) ?_
  refine TVm ?_
  obtain ⟨r_2,hr_2,H⟩:=bind_elim H
  refine TLe (E_c0 (F155_calls q4 1 r_2 hr_2) call155 .z) (fun g_2=>?_)
  refine TLv (V_bin rfl rfl (fun w=>xor8 w (99#8 ^^^ q4) r_2)) ?_
  refine TVm ?_
  obtain ⟨r_3,hr_3,H⟩:=bind_elim H
  refine TLe (E_c0 (F155_calls q4 2 r_3 hr_3) call155 .z) (fun g_3=>?_)
  refine TLv (V_bin rfl rfl (fun w=>xor8 w ((99#8 ^^^ q4) ^^^ r_2) r_3)) ?_
  refine TVm ?_
  obtain ⟨r_4,hr_4,H⟩:=bind_elim H
  refine TLe (E_c0 (F155_calls q4 3 r_4 hr_4) call155 .z) (fun g_4=>?_)
  refine TLv (V_bin rfl rfl (fun w=>xor8 w (((99#8 ^^^ q4) ^^^ r_2) ^^^ r_3) r_4)) ?_
  refine TVm ?_
  obtain ⟨r_5,hr_5,H⟩:=bind_elim H
  refine TLe (E_c0 (F155_calls q4 4 r_5 hr_5) call155 .z) (fun g_5=>?_)
  refine TLv (V_bin rfl rfl (fun w=>xor8 w ((((99#8 ^^^ q4) ^^^ r_2) ^^^ r_3) ^^^ r_4) r_5)) ?_
  refine TLv (V_idxArr (i:=((s0.1 ^^^ r_1).toNat:Int)) rfl rfl underlying243 inf5 rfl (Int.natCast_nonneg _) (zb (n:=8) (k:=256) (s0.1 ^^^ r_1) (by decide)) (k:=(s0.1 ^^^ r_1).toNat) (k01 _)) ?_
  refine TLn (E_store (j:=1) rfl rfl inf5 rfl rfl rfl (by simpa using (toNat_lt (Int.natCast_nonneg _) (zb (n:=8) (k:=256) (s0.1 ^^^ r_1) (by decide)))) (cs':=e8 ((vp s0.2.2 ((s0.1 ^^^ r_1).toNat) (((((99#8 ^^^ q4) ^^^ r_2) ^^^ r_3) ^^^ r_4) ^^^ r_5)).toList)) set_vec) (fun _=>?_)
  obtain ⟨m_2,hm_2,H⟩:=ltt_elim H
  refine TL_reE (j:=1) (A:=some (b2,0)) (cs:=e8 ((vp s0.2.2 ((s0.1 ^^^ r_1).toNat) (((((99#8 ^^^ q4) ^^^ r_2) ^^^ r_3) ^^^ r_4) ^^^ r_5)).toList)) (cs':=e8 m_2.toList) rfl (congrArg (fun z:Vx 8 256=>e8 (Vector.toList z)) hm_2) ?_
  refine TL_nil (TX_next (TC_seq (TC_region (TVm ?_))))
  refine TLv (V_bin rfl rfl (fun w=>eql8 w (s0.1 ^^^ r_1) 1#8)) ?_
  refine TL_nil (TX_next (TCd H (fun hc H=>?_) (fun hc H=>?_)))
  ·refine TC_seq (TC_region (TLv (V_lag (.o 1) isAgg243 inf243) ?_))
   refine TLn (E_sv (vs:=e8 m_2.toList) 0 inf243) (fun _=>?_)
   refine TL_nil (TX_next (TC_ret (TX_block_ret (TX_then_ret (TX_block_ret ?_)))))
   have hrv:=(hR1 _ (Option.some.inj H).symm)
   subst hrv
   exact TXr (vs:=[_]) rfl ⟨(Res_agg (n:=256) rfl (by simp) (.o 0) isAgg243 inf243 rfl (lenV (f:=v8) m_2)),trivial⟩
  ·refine TC_skip (TX_block_normal ?_)
   obtain rfl:=sj H
   exact TXk [0,0] (hK (s0.1 ^^^ r_1,q4,m_2) rfl ())
 ·exact (Option.some.inj H)
end Go.Proofs
end

/-
  Part 19 of the proof of what several laws share.
-/
import Derived.Test.YtkgeoekcnlgfnaaGreatDoorKc1
import Derived.Test.YtkgeoekcnlgfnaaGreatDoorKc2
import Derived.Test.YtkgeoekcnlgfnaaGreatDoorKc3
import Derived.Test.YtkgeoekcnlgfnaaGreatDoorKc4
import Derived.Test.YtkgeoekcnlgfnaaGreatDoorKc5
import Derived.Test.YtkgeoekcnlgfnaaGreatDoorKc6
import Derived.Test.YtkgeoekcnlgfnaaGreatDoorKc7
import Derived.Test.YtkgeoekcnlgfnaaGreatDoorKc17
set_option linter.unusedVariables false
set_option linter.unusedSimpArgs false
section
namespace Go.Proofs
open Go Go.Kx
open TryzI Tryz
def gcm_sum_add.b0 (s_table:Vector (BitVec 64 × BitVec 64) 16) (s_folds:Vx 64 16) (s_y_high:BitVec 64) (s_y_low:BitVec 64) (r_1:BitVec 64 × BitVec 64) (s0:Int × BitVec 64 × BitVec 64):Option ((Int × BitVec 64 × BitVec 64) ⊕ (BitVec 64 × BitVec 64)) :=
 if s0.1<32 then (if 0≤w64 (4 * (s0.1.tmod 16)) then (ltt (((r_1.2 ^^^ s_y_low) >>> (w64 (4 * (s0.1.tmod 16))).toNat) &&& 15#64) fun (digit1:BitVec 64)=>((if 16≤s0.1 then (if 0≤w64 (4 * (s0.1.tmod 16)) then (ltt (((r_1.1 ^^^ s_y_high) >>> (w64 (4 * (s0.1.tmod 16))).toNat) &&& 15#64) fun (digit2:BitVec 64)=>(some digit2)) else none) else (some digit1)).bind fun (j1:BitVec 64)=>(if 0≤((s0.2.2 &&& 15#64).toNat:Int)∧((s0.2.2 &&& 15#64).toNat:Int)<(16:Int) then (if 0≤((j1).toNat:Int)∧((j1).toNat:Int)<(16:Int) then (if 0≤((j1).toNat:Int)∧((j1).toNat:Int)<(16:Int) then (some (.inl (w64 (s0.1+1),((s0.2.1 >>> 4) ^^^ (vg s_folds ((s0.2.2 &&& 15#64).toNat))) ^^^ ((vg s_table ((j1).toNat)).1),((s0.2.2 >>> 4) ||| (s0.2.1 <<< 60)) ^^^ ((vg s_table ((j1).toNat)).2)))) else none) else none) else none))) else none) else (some (.inr (s0.2.1,s0.2.2)))
def gcm_sum_add (s_table:Vector (BitVec 64 × BitVec 64) 16) (s_folds:Vx 64 16) (s_y_high:BitVec 64) (s_y_low:BitVec 64) (b:List (BitVec 8)):Option (BitVec 64 × BitVec 64) :=
 (gcm_load b).bind fun (r_1:BitVec 64 × BitVec 64)=>((loop (gcm_sum_add.b0 s_table s_folds s_y_high s_y_low r_1) BIG (0,0#64,0#64)).bind fun (t_1:BitVec 64 × BitVec 64)=>(some (t_1.1,t_1.2)))
set_option maxHeartbeats 4000000 in
set_option maxRecDepth 20000 in
theorem F147_calls (bs:Nat) (obs:Nat) (Ab:Adr) (cb:Nat) (s_table:Vector (BitVec 64 × BitVec 64) 16) (s_folds:Vx 64 16) (s_y_high:BitVec 64) (s_y_low:BitVec 64) (b:List (BitVec 8)) (hcb:(b).length≤cb) (r:BitVec 64 × BitVec 64) (H:gcm_sum_add s_table s_folds s_y_high s_y_low b=some r) :
  Does Tryz.prog 147 [ptr (some (bs,obs)) 0,sl Ab ((b).length) cb] [⟨some (bs,obs+48),[v64 s_y_high]⟩,⟨some (bs,obs+49),[v64 s_y_low]⟩] [⟨some (bs,obs),eF (fun p:BitVec 64 × BitVec 64=>[v64 p.1,v64 p.2]) s_table.toList⟩,⟨some (bs,obs+32),e64 s_folds.toList⟩,⟨Ab,e8 b⟩] (Γ:=Unit) (fun g=>Value.tuple [].toArray) (fun g=>[⟨some (bs,obs+48),[v64 r.1]⟩,⟨some (bs,obs+49),[v64 r.2]⟩]):=by
 intro w hmem hro hd
 refine calls_of (N:=94) (m0:=[(0,ptr (some (bs,obs)) 0),(1,sl Ab ((b).length) cb)]) func147 rfl ntmps147 (argM_ok [ptr (some (bs,obs)) 0,sl Ab ((b).length) cb]) rfl hmem hro hd ?_
 unfold gcm_sum_add at H
 refine TC_seq (TC_region (TVm ?_))
 obtain ⟨r_1,hr_1,H⟩:=bind_elim H
 refine TLe (E_c0 (F143_calls Ab cb b hcb r_1 hr_1) call143 ⟨.r 2,trivial⟩) (fun g_1=>?_)
 refine TLe (E_allocP [(1,[v64 0#64]),(1,[v64 0#64])] inf216 zer216 ⟨rfl,rfl,trivial⟩) (fun b1=>?_)
 refine TLn (E_sq (b:=b1) (o:=0) [0,0] [(1,_),(1,_)] rfl inf216) (fun _=>?_)
 refine TL_nil (TX_next (TC_seq (TA_begin [] 10 (by kernel_rfl) (N:=10) rfl ?_)))
 refine TA_mix (is:=[]) (done':=dn 10 511) [itV 0 10 (ptr (some (b1,0)) 0) [],itV 1 11 (v64 r_1.1) [0],itV 2 12 (ptr (some (bs,obs)) 0) [],itV 3 13 (ptr (some (bs,obs)) 0) [2],itV 4 14 (ptr (some (bs,obs+48)) 0) [3],itV 5 15 (ptr (some (bs,obs+48)) 0) [4],itV 6 16 (v64 s_y_high) [5],itV 7 17 (v64 (r_1.1 ^^^ s_y_high)) [6,1],itV 8 18 (ptr (some (b1,0)) 0) []] [] 1 (by kernel_rfl) (QP.then QP.body) (by kernel_rfl) rfl (.v rfl (V_fe underlying216 inf115) (.v rfl (V_load rfl (.o 0) rfl isAgg115) (.v rfl (V_move rfl) (.v rfl (V_nilCheck rfl) (.v rfl (V_fe underlying227 inf216) (.v rfl (V_fe underlying216 inf115) (.v rfl (V_load rfl (.o 2) rfl isAgg115) (.v rfl (V_bin rfl rfl (fun w=>xor64 w r_1.1 s_y_high)) (.v rfl (V_fe underlying216 inf115) .nil))))))))) .nil (by kernel_rfl) rfl (fun γ=>?_)
 refine TA_cut [(18,ptr (some (b1,0)) 0),(17,v64 (r_1.1 ^^^ s_y_high)),(4,ptr (some (b1,0)) 0),(0,ptr (some (bs,obs)) 0)] [⟨some (b1,0),[v64 r_1.1]⟩,⟨some (b1,1),[v64 r_1.2]⟩,⟨some (bs,obs+48),[v64 s_y_high]⟩,⟨some (bs,obs+49),[v64 s_y_low]⟩] ⟨rfl,rfl,rfl,rfl,trivial⟩ rfl ?_
 refine TA_all (rs:=[9]) (by kernel_rfl) rfl ?_
 refine ⟨?_,trivial⟩
 refine TO_n (is:=[]) (done':=dn 10 1023) rfl rfl rfl (by kernel_rfl) (E_store (j:=0) rfl rfl inf115 rfl rfl rfl (Nat.lt_succ_self 0) (cs':=[v64 (r_1.1 ^^^ s_y_high)]) rfl) (fun _ _=>rfl) (fun _=>?_)
 refine TA_done (by kernel_rfl) ?_ 0
 refine TX_next (TC_seq (TA_begin [] 10 (by kernel_rfl) (N:=10) rfl ?_))
 refine TA_mix (is:=[]) (done':=dn 10 511) [itV 0 19 (ptr (some (b1,1)) 0) [],itV 1 20 (v64 r_1.2) [0],itV 2 21 (ptr (some (bs,obs)) 0) [],itV 3 22 (ptr (some (bs,obs)) 0) [2],itV 4 23 (ptr (some (bs,obs+48)) 0) [3],itV 5 24 (ptr (some (bs,obs+49)) 0) [4],itV 6 25 (v64 s_y_low) [5],itV 7 26 (v64 (r_1.2 ^^^ s_y_low)) [6,1],itV 8 27 (ptr (some (b1,1)) 0) []] [] 1 (by kernel_rfl) (QP.then QP.body) (by kernel_rfl) rfl (.v rfl (V_fe underlying216 inf115) (.v rfl (V_load rfl (.o 1) rfl isAgg115) (.v rfl (V_move rfl) (.v rfl (V_nilCheck rfl) (.v rfl (V_fe underlying227 inf216) (.v rfl (V_fe underlying216 inf115) (.v rfl (V_load rfl (.o 3) rfl isAgg115) (.v rfl (V_bin rfl rfl (fun w=>xor64 w r_1.2 s_y_low)) (.v rfl (V_fe underlying216 inf115) .nil))))))))) .nil (by kernel_rfl) rfl (fun γ=>?_)
 refine TA_cut [(27,ptr (some (b1,1)) 0),(26,v64 (r_1.2 ^^^ s_y_low)),(4,ptr (some (b1,0)) 0),(0,ptr (some (bs,obs)) 0)] [⟨some (b1,0),[v64 (r_1.1 ^^^ s_y_high)]⟩,⟨some (b1,1),[v64 r_1.2]⟩,⟨some (bs,obs+48),[v64 s_y_high]⟩,⟨some (bs,obs+49),[v64 s_y_low]⟩] ⟨rfl,rfl,rfl,rfl,trivial⟩ rfl ?_
 refine TA_all (rs:=[9]) (by kernel_rfl) rfl ?_
 refine ⟨?_,trivial⟩
 refine TO_n (is:=[]) (done':=dn 10 1023) rfl rfl rfl (by kernel_rfl) (E_store (j:=1) rfl rfl inf115 rfl rfl rfl (Nat.lt_succ_self 0) (cs':=[v64 (r_1.2 ^^^ s_y_low)]) rfl) (fun _ _=>rfl) (fun _=>?_)
 refine TA_done (by kernel_rfl) ?_ 0
 refine TX_next (TC_seq (TC_region (TLe (E_allocP [(1,[v64 0#64]),(1,[v64 0#64])] inf216 zer216 ⟨rfl,rfl,trivial⟩) (fun b2=>?_))))
 refine TL_nil (TX_next (TC_seq (TC_seq (TC_region (TVm ?_)))))
 refine TL_nil (TX_next (TC_block ?_))
 obtain ⟨t_1,Hl,H⟩:=bind_elim H
 refine TC.sub (m':=[(0,_),(4,_),(5,_),(28,_)]) ⟨rfl,rfl,rfl,rfl,trivial⟩ ?_
 refine TC.pull (is:=[4,4,2,2,0,0]) (L':=[_,_,_,_,_,_]) rfl ?_
 refine TC_loopL (id:=0) (body:=(gcm_sum_add.b0 s_table s_folds s_y_high s_y_low r_1)) (σ:=Int × BitVec 64 × BitVec 64) (Γ:=Unit) (Γx:=Unit) (fun s0 g0_=>[(0,ptr (some (bs,obs)) 0),(4,ptr (some (b1,0)) 0),(5,ptr (some (b2,0)) 0),(28,vi s0.1)]) (fun s0 g0_=>[⟨some (bs,obs+48),[v64 s_y_high]⟩,⟨some (bs,obs+49),[v64 s_y_low]⟩,⟨some (b1,0),[v64 (r_1.1 ^^^ s_y_high)]⟩,⟨some (b1,1),[v64 (r_1.2 ^^^ s_y_low)]⟩,⟨some (b2,0),[v64 s0.2.1]⟩,⟨some (b2,1),[v64 s0.2.2]⟩]) (fun t g=>[(0,ptr (some (bs,obs)) 0),(5,ptr (some (b2,0)) 0)]) (fun t g=>[⟨some (bs,obs+48),[v64 s_y_high]⟩,⟨some (bs,obs+49),[v64 s_y_low]⟩,⟨some (b2,0),[v64 t.1]⟩,⟨some (b2,1),[v64 t.2]⟩]) ?_ BIG (0,0#64,0#64) () t_1 Hl ?_
 ·intro s0 g0_ r1 H K hK hE
  unfold gcm_sum_add.b0 at H
  refine TC_seq (TC_region (TLv (V_bin rfl rfl (fun w=>lssI w s0.1 32)) ?_))
  refine TL_nil (TX_next (TC_seq (TCd H (fun hc H=>?_) (fun hc H=>?_))))
  ·refine TC_skip (TX_next (TC_seq (TC_block (TC_seq (TC_region (TVm ?_))))))
   refine TVa ?_
   refine TL_nil (TX_next (TC_seq (TC_region (TLv (V_fieldE rfl underlying216 rfl rfl inf115 rfl (v:=ptr (some (b1,1)) 0) rfl) ?_))))
   refine TLv (V_load rfl (.o 3) rfl isAgg115) ?_
   refine TVm ?_
   refine TLv (V_bin rfl rfl (fun w=>remI w s0.1 16 (by decide))) ?_
   refine TLv (V_bin rfl rfl (fun w=>mulI w 4 (s0.1.tmod 16))) ?_
   obtain ⟨h1,H⟩:=if_elim H
   refine TLv (V_bin rfl rfl (fun w=>shr64 w (r_1.2 ^^^ s_y_low) .i64 (w64 (4 * (s0.1.tmod 16))) h1)) ?_
   refine TLv (V_bin rfl rfl (fun w=>and64 w ((r_1.2 ^^^ s_y_low) >>> (w64 (4 * (s0.1.tmod 16))).toNat) 15#64)) ?_
   refine TVa ?_
   obtain ⟨digit1,hdigit1,H⟩:=ltt_elim H
   refine TLr 7 (congrArg v64 hdigit1) ?_
   refine TL_nil (TX_next (TC_seq (TC_seq (TC_region (TVm ?_)))))
   refine TLv (V_bin rfl rfl (fun w=>geqI w s0.1 16)) ?_
   refine TL_nil (TX_next ?_)
   obtain ⟨j1,Hj,H⟩:=bind_elim H
   refine TC_join (Γ:=Unit) (fun gj1=>[(0,ptr (some (bs,obs)) 0),(4,ptr (some (b1,0)) 0),(5,ptr (some (b2,0)) 0),(7,v64 j1),(28,vi s0.1)]) (fun gj1=>[⟨some (bs,obs+48),[v64 s_y_high]⟩,⟨some (bs,obs+49),[v64 s_y_low]⟩,⟨some (b1,0),[v64 (r_1.1 ^^^ s_y_high)]⟩,⟨some (b1,1),[v64 (r_1.2 ^^^ s_y_low)]⟩,⟨some (b2,0),[v64 s0.2.1]⟩,⟨some (b2,1),[v64 s0.2.2]⟩]) ?_ ?_
   ·intro gj1
    refine TX_next (TC_seq ?_)
    obtain ⟨h2,H⟩:=if_elim H
    refine TA_begin [] 21 (by kernel_rfl) (N:=21) rfl ?_
    refine TA_mix (is:=[]) (done':=dn 21 1048575) [itV 0 47 (ptr (some (b2,0)) 0) [],itV 1 48 (v64 s0.2.1) [0],itV 2 49 (v64 (s0.2.1 >>> 4)) [1],itV 3 50 (ptr (some (bs,obs)) 0) [],itV 4 51 (ptr (some (b2,1)) 0) [],itV 5 52 (v64 s0.2.2) [4],itV 6 53 (v64 (s0.2.2 &&& 15#64)) [5],itV 7 54 (ptr (some (bs,obs)) 0) [3],itV 8 55 (ptr (some (bs,obs+32)) 0) [7],itV 9 56 (ptr (some (bs,obs+32)) ((s0.2.2 &&& 15#64).toNat)) [6,8],itV 10 57 (v64 (vg s_folds ((s0.2.2 &&& 15#64).toNat))) [9],itV 11 58 (v64 ((s0.2.1 >>> 4) ^^^ (vg s_folds ((s0.2.2 &&& 15#64).toNat)))) [2,10],itV 12 59 (ptr (some (b2,1)) 0) [],itV 13 60 (v64 s0.2.2) [12],itV 14 61 (v64 (s0.2.2 >>> 4)) [13],itV 15 62 (ptr (some (b2,0)) 0) [],itV 16 63 (v64 s0.2.1) [15],itV 17 64 (v64 (s0.2.1 <<< 60)) [16],itV 18 65 (v64 ((s0.2.2 >>> 4) ||| (s0.2.1 <<< 60))) [17,14],itV 19 66 (aG [(1,[v64 ((s0.2.1 >>> 4) ^^^ (vg s_folds ((s0.2.2 &&& 15#64).toNat)))]),(1,[v64 ((s0.2.2 >>> 4) ||| (s0.2.1 <<< 60))])]) [18,11]] [] 1 (by kernel_rfl) (QP.then (QP.block (QP.then (QP.then (QP.block (QP.then QP.body)))))) (by kernel_rfl) rfl (.v rfl (V_fe underlying216 inf115) (.v rfl (V_load rfl (.o 4) rfl isAgg115) (.v rfl (V_bin rfl rfl (fun w=>shr64 w s0.2.1 .u64 4 (by decide))) (.v rfl (V_move rfl) (.v rfl (V_fe underlying216 inf115) (.v rfl (V_load rfl (.o 5) rfl isAgg115) (.v rfl (V_bin rfl rfl (fun w=>and64 w s0.2.2 15#64)) (.v rfl (V_nilCheck rfl) (.v rfl (V_fe underlying227 inf225) (.v rfl (V_idxArr (i:=((s0.2.2 &&& 15#64).toNat:Int)) rfl rfl underlying225 inf115 rfl h2.1 h2.2 (k:=(s0.2.2 &&& 15#64).toNat) (k01 _)) (.v rfl (V_load rfl (.r 1) (get_vec (f:=v64) (V:=s_folds) (toNat_lt h2.1 h2.2)) isAgg115) (.v rfl (V_bin rfl rfl (fun w=>xor64 w (s0.2.1 >>> 4) (vg s_folds ((s0.2.2 &&& 15#64).toNat)))) (.v rfl (V_fe underlying216 inf115) (.v rfl (V_load rfl (.o 5) rfl isAgg115) (.v rfl (V_bin rfl rfl (fun w=>shr64 w s0.2.2 .u64 4 (by decide))) (.v rfl (V_fe underlying216 inf115) (.v rfl (V_load rfl (.o 4) rfl isAgg115) (.v rfl (V_bin rfl rfl (fun w=>shl64 w s0.2.1 .u64 60 (by decide))) (.v rfl (V_bin rfl rfl (fun w=>or64 w (s0.2.2 >>> 4) (s0.2.1 <<< 60))) (.v rfl (V_buildStruct (pv:=[(0,v64 ((s0.2.1 >>> 4) ^^^ (vg s_folds ((s0.2.2 &&& 15#64).toNat)))),(1,v64 ((s0.2.2 >>> 4) ||| (s0.2.1 <<< 60)))]) (pl:=[(0,1),(1,1)]) rfl rfl underlying216 inf216 places216 zer216 (cs:=flat [(1,[v64 ((s0.2.1 >>> 4) ^^^ (vg s_folds ((s0.2.2 &&& 15#64).toNat)))]),(1,[v64 ((s0.2.2 >>> 4) ||| (s0.2.1 <<< 60))])]) (by kernel_rfl)) .nil)))))))))))))))))))) .nil (by kernel_rfl) rfl (fun γ=>?_)
    refine TA_cut [(66,aG [(1,[v64 ((s0.2.1 >>> 4) ^^^ (vg s_folds ((s0.2.2 &&& 15#64).toNat)))]),(1,[v64 ((s0.2.2 >>> 4) ||| (s0.2.1 <<< 60))])]),(0,ptr (some (bs,obs)) 0),(4,ptr (some (b1,0)) 0),(5,ptr (some (b2,0)) 0),(7,v64 j1),(28,vi s0.1)] [⟨some (bs,obs+48),[v64 s_y_high]⟩,⟨some (bs,obs+49),[v64 s_y_low]⟩,⟨some (b1,0),[v64 (r_1.1 ^^^ s_y_high)]⟩,⟨some (b1,1),[v64 (r_1.2 ^^^ s_y_low)]⟩,⟨some (b2,0),[v64 s0.2.1]⟩,⟨some (b2,1),[v64 s0.2.2]⟩] ⟨rfl,rfl,rfl,rfl,rfl,rfl,trivial⟩ rfl ?_
    refine TA_all (rs:=[20]) (by kernel_rfl) rfl ?_
    refine ⟨?_,trivial⟩
    refine TO_n (is:=[]) (done':=dn 21 2097151) rfl rfl rfl (by kernel_rfl) (E_sq (b:=b2) (o:=0) [4,4] [(1,_),(1,_)] rfl inf216) (fun _ _=>rfl) (fun _=>?_)
    refine TA_done (by kernel_rfl) ?_ 0
    refine TX_next (TC_seq ?_)
    obtain ⟨h3,H⟩:=if_elim H
    refine TA_begin [] 12 (by kernel_rfl) (N:=12) rfl ?_
    refine TA_mix (is:=[]) (done':=dn 12 2047) [itV 0 67 (ptr (some (b2,0)) 0) [],itV 1 68 (v64 ((s0.2.1 >>> 4) ^^^ (vg s_folds ((s0.2.2 &&& 15#64).toNat)))) [0],itV 2 69 (ptr (some (bs,obs)) 0) [],itV 3 70 (v64 j1) [],itV 4 71 (ptr (some (bs,obs)) 0) [2],itV 5 72 (ptr (some (bs,obs)) 0) [4],itV 6 73 (ptr (some (bs,obs)) (((j1).toNat) * 2)) [5,3],itV 7 74 (ptr (some (bs,obs)) (((j1).toNat) * 2+0)) [6],itV 8 75 (v64 ((vg s_table ((j1).toNat)).1)) [7],itV 9 76 (v64 (((s0.2.1 >>> 4) ^^^ (vg s_folds ((s0.2.2 &&& 15#64).toNat))) ^^^ ((vg s_table ((j1).toNat)).1))) [8,1],itV 10 77 (ptr (some (b2,0)) 0) []] [] 1 (by kernel_rfl) (QP.then (QP.block (QP.then (QP.then (QP.block (QP.then QP.body)))))) (by kernel_rfl) rfl (.v rfl (V_fe underlying216 inf115) (.v rfl (V_load rfl (.o 0) rfl isAgg115) (.v rfl (V_move rfl) (.v rfl (V_move rfl) (.v rfl (V_nilCheck rfl) (.v rfl (V_fe underlying227 inf224) (.v rfl (V_idxArr (i:=((j1).toNat:Int)) rfl rfl underlying224 inf216 rfl h3.1 h3.2 (k:=((j1).toNat) * 2) (k0 _ _)) (.v rfl (V_field rfl underlying216 rfl (k:=0) rfl inf115 rfl) (.v rfl (V_load rfl (.r 0) ((get_eF (g:=fun p:BitVec 64 × BitVec 64=>[v64 p.1,v64 p.2]) (s:=2) (fun _=>rfl) s_table.toList ((j1).toNat) 0 (lt_list (toNat_lt h3.1 h3.2)) (by decide:0<2)).trans rfl) isAgg115) (.v rfl (V_bin rfl rfl (fun w=>xor64 w ((s0.2.1 >>> 4) ^^^ (vg s_folds ((s0.2.2 &&& 15#64).toNat))) ((vg s_table ((j1).toNat)).1))) (.v rfl (V_fe underlying216 inf115) .nil))))))))))) .nil (by kernel_rfl) rfl (fun γ=>?_)
    refine TA_cut [(77,ptr (some (b2,0)) 0),(76,v64 (((s0.2.1 >>> 4) ^^^ (vg s_folds ((s0.2.2 &&& 15#64).toNat))) ^^^ ((vg s_table ((j1).toNat)).1))),(0,ptr (some (bs,obs)) 0),(4,ptr (some (b1,0)) 0),(5,ptr (some (b2,0)) 0),(7,v64 j1),(28,vi s0.1)] [⟨some (b2,0),[v64 ((s0.2.1 >>> 4) ^^^ (vg s_folds ((s0.2.2 &&& 15#64).toNat)))]⟩,⟨some (b2,1),[v64 ((s0.2.2 >>> 4) ||| (s0.2.1 <<< 60))]⟩,⟨some (bs,obs+48),[v64 s_y_high]⟩,⟨some (bs,obs+49),[v64 s_y_low]⟩,⟨some (b1,0),[v64 (r_1.1 ^^^ s_y_high)]⟩,⟨some (b1,1),[v64 (r_1.2 ^^^ s_y_low)]⟩] ⟨rfl,rfl,rfl,rfl,rfl,rfl,rfl,trivial⟩ rfl ?_
    refine TA_all (rs:=[11]) (by kernel_rfl) rfl ?_
    refine ⟨?_,trivial⟩
    refine TO_n (is:=[]) (done':=dn 12 4095) rfl rfl rfl (by kernel_rfl) (E_store (j:=0) rfl rfl inf115 rfl rfl rfl (Nat.lt_succ_self 0) (cs':=[v64 (((s0.2.1 >>> 4) ^^^ (vg s_folds ((s0.2.2 &&& 15#64).toNat))) ^^^ ((vg s_table ((j1).toNat)).1))]) rfl) (fun _ _=>rfl) (fun _=>?_)
    refine TA_done (by kernel_rfl) ?_ 0
    refine TX_next ?_
    obtain ⟨h4,H⟩:=if_elim H
    refine TA_begin [] 12 (by kernel_rfl) (N:=12) rfl ?_
    refine TA_mix (is:=[]) (done':=dn 12 2047) [itV 0 78 (ptr (some (b2,1)) 0) [],itV 1 79 (v64 ((s0.2.2 >>> 4) ||| (s0.2.1 <<< 60))) [0],itV 2 80 (ptr (some (bs,obs)) 0) [],itV 3 81 (v64 j1) [],itV 4 82 (ptr (some (bs,obs)) 0) [2],itV 5 83 (ptr (some (bs,obs)) 0) [4],itV 6 84 (ptr (some (bs,obs)) (((j1).toNat) * 2)) [3,5],itV 7 85 (ptr (some (bs,obs)) (((j1).toNat) * 2+1)) [6],itV 8 86 (v64 ((vg s_table ((j1).toNat)).2)) [7],itV 9 87 (v64 (((s0.2.2 >>> 4) ||| (s0.2.1 <<< 60)) ^^^ ((vg s_table ((j1).toNat)).2))) [8,1],itV 10 88 (ptr (some (b2,1)) 0) []] [] 1 (by kernel_rfl) (QP.block (QP.then (QP.then (QP.block (QP.then QP.body))))) (by kernel_rfl) rfl (.v rfl (V_fe underlying216 inf115) (.v rfl (V_load rfl (.o 1) rfl isAgg115) (.v rfl (V_move rfl) (.v rfl (V_move rfl) (.v rfl (V_nilCheck rfl) (.v rfl (V_fe underlying227 inf224) (.v rfl (V_idxArr (i:=((j1).toNat:Int)) rfl rfl underlying224 inf216 rfl h4.1 h4.2 (k:=((j1).toNat) * 2) (k0 _ _)) (.v rfl (V_field rfl underlying216 rfl (k:=1) rfl inf115 rfl) (.v rfl (V_load rfl (.r 0) ((get_eF (g:=fun p:BitVec 64 × BitVec 64=>[v64 p.1,v64 p.2]) (s:=2) (fun _=>rfl) s_table.toList ((j1).toNat) 1 (lt_list (toNat_lt h4.1 h4.2)) (by decide:1<2)).trans rfl) isAgg115) (.v rfl (V_bin rfl rfl (fun w=>xor64 w ((s0.2.2 >>> 4) ||| (s0.2.1 <<< 60)) ((vg s_table ((j1).toNat)).2))) (.v rfl (V_fe underlying216 inf115) .nil))))))))))) .nil (by kernel_rfl) rfl (fun γ=>?_)
    refine TA_cut [(88,ptr (some (b2,1)) 0),(87,v64 (((s0.2.2 >>> 4) ||| (s0.2.1 <<< 60)) ^^^ ((vg s_table ((j1).toNat)).2))),(0,ptr (some (bs,obs)) 0),(4,ptr (some (b1,0)) 0),(5,ptr (some (b2,0)) 0),(28,vi s0.1)] [⟨some (b2,0),[v64 (((s0.2.1 >>> 4) ^^^ (vg s_folds ((s0.2.2 &&& 15#64).toNat))) ^^^ ((vg s_table ((j1).toNat)).1))]⟩,⟨some (b2,1),[v64 ((s0.2.2 >>> 4) ||| (s0.2.1 <<< 60))]⟩,⟨some (bs,obs+48),[v64 s_y_high]⟩,⟨some (bs,obs+49),[v64 s_y_low]⟩,⟨some (b1,0),[v64 (r_1.1 ^^^ s_y_high)]⟩,⟨some (b1,1),[v64 (r_1.2 ^^^ s_y_low)]⟩] ⟨rfl,rfl,rfl,rfl,rfl,rfl,trivial⟩ rfl ?_
    refine TA_all (rs:=[11]) (by kernel_rfl) rfl ?_
    refine ⟨?_,trivial⟩
    refine TO_n (is:=[]) (done':=dn 12 4095) rfl rfl rfl (by kernel_rfl) (E_store (j:=1) rfl rfl inf115 rfl rfl rfl (Nat.lt_succ_self 0) (cs':=[v64 (((s0.2.2 >>> 4) ||| (s0.2.1 <<< 60)) ^^^ ((vg s_table ((j1).toNat)).2))]) rfl) (fun _ _=>rfl) (fun _=>?_)
    refine TA_done (by kernel_rfl) ?_ 0
    refine TX_block_normal (TX_next (TC_region (TLv (V_bin rfl rfl (fun w=>addI w s0.1 1)) ?_)))
    refine TVm ?_
    refine TL_nil ?_
    obtain rfl:=sj H
    exact TXk [2,2,2,2,0,0] (hK (w64 (s0.1+1),((s0.2.1 >>> 4) ^^^ (vg s_folds ((s0.2.2 &&& 15#64).toNat))) ^^^ ((vg s_table ((j1).toNat)).1),((s0.2.2 >>> 4) ||| (s0.2.1 <<< 60)) ^^^ ((vg s_table ((j1).toNat)).2)) rfl ())
   ·intro hJ
    replace H:=Hj
    refine TCd H (fun hc H=>?_) (fun hc H=>?_)
    ·refine TC_region (TLv (V_fieldE rfl underlying216 rfl rfl inf115 rfl (v:=ptr (some (b1,0)) 0) rfl) ?_)
     refine TLv (V_load rfl (.o 2) rfl isAgg115) ?_
     refine TVm ?_
     refine TLv (V_bin rfl rfl (fun w=>remI w s0.1 16 (by decide))) ?_
     refine TLv (V_bin rfl rfl (fun w=>mulI w 4 (s0.1.tmod 16))) ?_
     obtain ⟨h5,H⟩:=if_elim H
     refine TLv (V_bin rfl rfl (fun w=>shr64 w (r_1.1 ^^^ s_y_high) .i64 (w64 (4 * (s0.1.tmod 16))) h5)) ?_
     refine TLv (V_bin rfl rfl (fun w=>and64 w ((r_1.1 ^^^ s_y_high) >>> (w64 (4 * (s0.1.tmod 16))).toNat) 15#64)) ?_
     refine TVa ?_
     obtain ⟨digit2,hdigit2,H⟩:=ltt_elim H
     refine TLr 7 (congrArg v64 hdigit2) ?_
     refine TL_nil ?_
     obtain rfl:=sj H
     exact TXj [0,0,0,0,0,0] (hJ ())
    ·refine TC_skip ?_
     obtain rfl:=sj H
     exact TXj [0,0,0,0,0,0] (hJ ())
  ·refine TC_exit (TX_then_exit (TX_then_exit ?_))
   obtain rfl:=sj H
   exact TXj [0,0,2,2] (hE (s0.2.1,s0.2.2) rfl ())
 ·intro g
  refine TX_block_exit (TX_next (TC_region (TVm ?_)))
  refine TLv (V_lp (b:=b2) (o:=0) (n:=2) (ps:=[(1,_),(1,_)]) ⟨.o 2, .o 3,trivial⟩ isAgg216 inf216) ?_
  refine TLv (V_nilCheck rfl) ?_
  refine TLv (V_fieldE rfl underlying227 rfl rfl inf216 rfl (v:=ptr (some (bs,obs+48)) 0) rfl) ?_
  refine TLn (E_sp (b:=bs) (o:=obs+48) [0,0] [(1,[v64 s_y_high]),(1,[v64 s_y_low])] [(1,[v64 t_1.1]),(1,[v64 t_1.2])] rfl inf216 ⟨rfl,rfl,trivial⟩ ⟨rfl,rfl,trivial⟩ ⟨(OneC.cons rfl OneC.nil),(OneC.cons rfl OneC.nil),trivial⟩) (fun _=>?_)
  refine TL_nil ?_
  obtain rfl:=sj H
  exact TX_end (rs:=[]) (vs:=[]) rfl trivial (fun w' hs'=>⟨(),rfl,Step.left (Step.pulled (is:=[0,0]) (A:=[⟨some (bs,obs+48),[v64 t_1.1]⟩,⟨some (bs,obs+49),[v64 t_1.2]⟩]) hs' rfl)⟩)
end Go.Proofs
end

section
namespace Go.Proofs
open Go Go.Kx
open Vector (replicate)
open TryzI Tryz
def gcm_sum_all.b0 (s_table:Vector (BitVec 64 × BitVec 64) 16) (s_folds:Vx 64 16) (b:List (BitVec 8)) (s0:Nat × BitVec 64 × BitVec 64):Option ((Nat × BitVec 64 × BitVec 64) ⊕ (Nat × BitVec 64 × BitVec 64)) :=
 if 16≤((((b).length) - s0.1:Nat):Int) then ((gcm_sum_add s_table s_folds s0.2.1 s0.2.2 (sub b s0.1 ((b).length))).bind fun (r_1:BitVec 64 × BitVec 64)=>(if s0.1≤(b).length then (if 16≤((b).length) - s0.1 then (some (.inl (s0.1+16,r_1.1,r_1.2))) else none) else none)) else (some (.inr (s0.1,s0.2.1,s0.2.2)))
def gcm_sum_all (s_table:Vector (BitVec 64 × BitVec 64) 16) (s_folds:Vx 64 16) (s_y_high:BitVec 64) (s_y_low:BitVec 64) (b:List (BitVec 8)):Option (BitVec 64 × BitVec 64) :=
 (loop (gcm_sum_all.b0 s_table s_folds b) BIG (0,s_y_high,s_y_low)).bind fun (t_1:Nat × BitVec 64 × BitVec 64)=>(if 0<((((b).length) - t_1.1:Nat):Int) then (ltt (vsp (replicate 16 0#8) 0 ((sub b t_1.1 ((b).length)).take (min (((b).length) - t_1.1) 16))) fun (m_1:Vx 8 16)=>((gcm_sum_add s_table s_folds t_1.2.1 t_1.2.2 m_1.toList).bind fun (r_2:BitVec 64 × BitVec 64)=>(some (r_2.1,r_2.2)))) else (some (t_1.2.1,t_1.2.2)))
set_option maxHeartbeats 4000000 in
set_option maxRecDepth 20000 in
theorem F145_calls (bs:Nat) (obs:Nat) (Ab:Adr) (cb:Nat) (s_table:Vector (BitVec 64 × BitVec 64) 16) (s_folds:Vx 64 16) (s_y_high:BitVec 64) (s_y_low:BitVec 64) (b:List (BitVec 8)) (hcb:(b).length≤cb) (r:BitVec 64 × BitVec 64) (H:gcm_sum_all s_table s_folds s_y_high s_y_low b=some r) :
  Does Tryz.prog 145 [ptr (some (bs,obs)) 0,sl Ab ((b).length) cb] [⟨some (bs,obs+48),[v64 s_y_high]⟩,⟨some (bs,obs+49),[v64 s_y_low]⟩] [⟨some (bs,obs),eF (fun p:BitVec 64 × BitVec 64=>[v64 p.1,v64 p.2]) s_table.toList⟩,⟨some (bs,obs+32),e64 s_folds.toList⟩,⟨Ab,e8 b⟩] (Γ:=Unit) (fun g=>Value.tuple [].toArray) (fun g=>[⟨some (bs,obs+48),[v64 r.1]⟩,⟨some (bs,obs+49),[v64 r.2]⟩]):=by
 intro w hmem hro hd
 refine calls_of (N:=22) (m0:=[(0,ptr (some (bs,obs)) 0),(1,sl Ab ((b).length) cb)]) func145 rfl ntmps145 (argM_ok [ptr (some (bs,obs)) 0,sl Ab ((b).length) cb]) rfl hmem hro hd ?_
 unfold gcm_sum_all at H
 refine TC_seq (TC_block (TC_re (d:=1) (v:=sl Ab ((b).length) cb) (v':=sl (cutB Ab cb 0 0 1) (((b).length) - 0) (cb - 0)) rfl (vw_seed 1) ?_))
 obtain ⟨t_1,Hl,H⟩:=bind_elim H
 refine TC.sub (m':=[(0,_),(1,_)]) ⟨rfl,rfl,trivial⟩ ?_
 refine TC.pull (is:=[0,0]) (L':=[_,_]) rfl ?_
 refine TC_loopL (id:=0) (body:=(gcm_sum_all.b0 s_table s_folds b)) (σ:=Nat × BitVec 64 × BitVec 64) (Γ:=Nat) (Γx:=Nat) (fun s0 g0_=>[(0,ptr (some (bs,obs)) 0),(1,sl (cutB Ab cb s0.1 g0_ 1) (((b).length) - s0.1) (cb - s0.1))]) (fun s0 g0_=>[⟨some (bs,obs+48),[v64 s0.2.1]⟩,⟨some (bs,obs+49),[v64 s0.2.2]⟩]) (fun t g=>[(0,ptr (some (bs,obs)) 0),(1,sl (cutB Ab cb t.1 g 1) (((b).length) - t.1) (cb - t.1))]) (fun t g=>[⟨some (bs,obs+48),[v64 t.2.1]⟩,⟨some (bs,obs+49),[v64 t.2.2]⟩]) ?_ BIG (0,s_y_high,s_y_low) 0 t_1 Hl ?_
 ·intro s0 g0_ r1 H K hK hE
  unfold gcm_sum_all.b0 at H
  refine TC_seq (TC_seq (TC_region (TVm ?_)))
  refine TLv (V_len_slice rfl underlying86) ?_
  refine TLv (V_bin rfl rfl (fun w=>geqI w ((((b).length) - s0.1:Nat):Int) 16)) ?_
  refine TL_nil (TX_next (TCd H (fun hc H=>?_) (fun hc H=>?_)))
  ·refine TC_skip (TX_next (TC_seq (TC_block (TC_region (TVm ?_)))))
   refine TVm ?_
   refine TL_re (d:=1) (v:=sl (cutB Ab cb s0.1 g0_ 1) (((b).length) - s0.1) (cb - s0.1)) (v':=sl (cutB Ab cb s0.1 g0_ 1) ((sub b s0.1 ((b).length)).length) (cb - s0.1)) rfl (congrArg (fun n=>sl (cutB Ab cb s0.1 g0_ 1) n (cb - s0.1)) (sub_length (Nat.le_refl _)).symm) ?_
   refine TL_re (d:=5) (v:=sl (cutB Ab cb s0.1 g0_ 1) (((b).length) - s0.1) (cb - s0.1)) (v':=sl (cutB Ab cb s0.1 g0_ 1) ((sub b s0.1 ((b).length)).length) (cb - s0.1)) rfl (congrArg (fun n=>sl (cutB Ab cb s0.1 g0_ 1) n (cb - s0.1)) (sub_length (Nat.le_refl _)).symm) ?_
   refine TL_re (d:=11) (v:=sl (cutB Ab cb s0.1 g0_ 1) (((b).length) - s0.1) (cb - s0.1)) (v':=sl (cutB Ab cb s0.1 g0_ 1) ((sub b s0.1 ((b).length)).length) (cb - s0.1)) rfl (congrArg (fun n=>sl (cutB Ab cb s0.1 g0_ 1) n (cb - s0.1)) (sub_length (Nat.le_refl _)).symm) ?_
   obtain ⟨r_1,hr_1,H⟩:=bind_elim H
   refine TLe (E_call (Γ:=Unit) (val:=fun g=>Value.tuple [].toArray) (mem:=fun g=>[⟨some (bs,obs+48),[v64 r_1.1]⟩,⟨some (bs,obs+49),[v64 r_1.2]⟩]) (vs:=[ptr (some (bs,obs)) 0,sl (cutB Ab cb s0.1 g0_ 1) ((sub b s0.1 ((b).length)).length) (cb - s0.1)]) (Lin:=[⟨some (bs,obs+48),[v64 s0.2.1]⟩,⟨some (bs,obs+49),[v64 s0.2.2]⟩]) (Ro:=[⟨some (bs,obs),eF (fun p:BitVec 64 × BitVec 64=>[v64 p.1,v64 p.2]) s_table.toList⟩,⟨some (bs,obs+32),e64 s_folds.toList⟩,⟨cutB Ab cb s0.1 g0_ 1,e8 (sub b s0.1 ((b).length))⟩]) (is:=[0,0]) rfl call147 (F147_calls bs obs (cutB Ab cb s0.1 g0_ 1) (cb - s0.1) s_table s_folds s0.2.1 s0.2.2 (sub b s0.1 ((b).length)) (vw_cap (Nat.le_refl _) (Nat.le_trans (Nat.le_refl _) hcb)) r_1 hr_1) rfl ⟨.r 0, .r 1,(srcdVw (lst:=b) (SrcD.ro (j:=2) rfl) (Nat.le_trans (Nat.le_refl _) hcb)),trivial⟩) (fun g_1=>?_)
   refine TL_re (d:=1) (v:=sl (cutB Ab cb s0.1 g0_ 1) ((sub b s0.1 ((b).length)).length) (cb - s0.1)) (v':=sl (cutB Ab cb s0.1 g0_ 1) (((b).length) - s0.1) (cb - s0.1)) rfl (congrArg (fun n=>sl (cutB Ab cb s0.1 g0_ 1) n (cb - s0.1)) (sub_length (Nat.le_refl _))) ?_
   refine TL_re (d:=5) (v:=sl (cutB Ab cb s0.1 g0_ 1) ((sub b s0.1 ((b).length)).length) (cb - s0.1)) (v':=sl (cutB Ab cb s0.1 g0_ 1) (((b).length) - s0.1) (cb - s0.1)) rfl (congrArg (fun n=>sl (cutB Ab cb s0.1 g0_ 1) n (cb - s0.1)) (sub_length (Nat.le_refl _))) ?_
   refine TL_re (d:=11) (v:=sl (cutB Ab cb s0.1 g0_ 1) ((sub b s0.1 ((b).length)).length) (cb - s0.1)) (v':=sl (cutB Ab cb s0.1 g0_ 1) (((b).length) - s0.1) (cb - s0.1)) rfl (congrArg (fun n=>sl (cutB Ab cb s0.1 g0_ 1) n (cb - s0.1)) (sub_length (Nat.le_refl _))) ?_
   refine TL_nil (TX_block_normal (TX_next (TC_region (TVm ?_))))
   obtain ⟨h1,H⟩:=if_elim H
   obtain ⟨h2,H⟩:=if_elim H
   refine TLv (V_sliceVw (l:=16) (h:=((b).length) - s0.1) rfl underlying86 inf5 rfl (Bnd.some' (i:=16) rfl (by decide)) Bnd.none' h2 (Nat.le_refl _) (Nat.le_trans (Nat.le_refl _) hcb) (Nat.add_sub_cancel' h1)) ?_
   refine TVa ?_
   refine TL_nil ?_
   obtain rfl:=sj H
   exact TXk [0,0] (hK (s0.1+16,r_1.1,r_1.2) rfl (if cb=s0.1 then g0_ else s0.1))
  ·refine TC_exit (TX_then_exit (TX_then_exit ?_))
   obtain rfl:=sj H
   exact TXj [0,0] (hE (s0.1,s0.2.1,s0.2.2) rfl g0_)
 ·intro g
  obtain ⟨gx1,hgx⟩ : ∃ z,z=g:=⟨g,rfl⟩; subst hgx
  refine TX_block_exit (TX_next (TC_seq (TC_region (TVm ?_))))
  refine TLv (V_len_slice rfl underlying86) ?_
  refine TLv (V_bin rfl rfl (fun w=>gtrI w ((((b).length) - t_1.1:Nat):Int) 0)) ?_
  refine TL_nil (TX_next (TCd H (fun hc H=>?_) (fun hc H=>?_)))
  ·refine TC_seq (TC_region (TLe (E_allocP [(16,e8 ((replicate 16 0#8).toList))] inf171 zer171 ⟨(lenV (f:=v8) (replicate 16 0#8)),trivial⟩) (fun b1=>?_)))
   refine TL_nil (TX_next (TC_seq (TC_region (TLv (V_sliceArr0 rfl (by simp) underlying171 inf5 rfl) ?_))))
   refine TVm ?_
   refine TLe (E_copyB (o:=0) (j:=0) (ds:=(sub b t_1.1 ((b).length))) (copyA rfl) rfl (by simp) underlying86 inf5 rfl (srcVw (lst:=b) (.r 2) (Nat.le_trans (Nat.le_refl _) hcb)) (sub_length (Nat.le_refl _)) rfl rfl (copy_vec (l:=0) (d:=16) (by omega)) (cs':=e8 ((vsp (replicate 16 0#8) 0 ((sub b t_1.1 ((b).length)).take (min (((b).length) - t_1.1) 16))).toList)) (splice_vec (take_room (n:=16) (l:=0) (d:=16) (by omega)))) (fun _=>?_)
   obtain ⟨m_1,hm_1,H⟩:=ltt_elim H
   refine TL_reE (j:=0) (A:=some (b1,0)) (cs:=e8 ((vsp (replicate 16 0#8) 0 ((sub b t_1.1 ((b).length)).take (min (((b).length) - t_1.1) 16))).toList)) (cs':=e8 m_1.toList) rfl (congrArg (fun z:Vx 8 16=>e8 (Vector.toList z)) hm_1) ?_
   refine TL_nil (TX_next (TC_region (TVm ?_)))
   refine TLv (V_sliceArr0 rfl (by simp) underlying171 inf5 rfl) ?_
   refine TL_re (d:=20) (v:=sl (some (b1,0)) 16 16) (v':=sl (some (b1,0)) ((m_1.toList).length) ((m_1.toList).length)) rfl (congrArg (fun n=>sl (some (b1,0)) n n) vec_tl.symm) ?_
   obtain ⟨r_2,hr_2,H⟩:=bind_elim H
   refine TLe (E_call (Γ:=Unit) (val:=fun g=>Value.tuple [].toArray) (mem:=fun g=>[⟨some (bs,obs+48),[v64 r_2.1]⟩,⟨some (bs,obs+49),[v64 r_2.2]⟩]) (vs:=[ptr (some (bs,obs)) 0,sl (some (b1,0)) ((m_1.toList).length) ((m_1.toList).length)]) (Lin:=[⟨some (bs,obs+48),[v64 t_1.2.1]⟩,⟨some (bs,obs+49),[v64 t_1.2.2]⟩]) (Ro:=[⟨some (bs,obs),eF (fun p:BitVec 64 × BitVec 64=>[v64 p.1,v64 p.2]) s_table.toList⟩,⟨some (bs,obs+32),e64 s_folds.toList⟩,⟨some (b1,0),e8 m_1.toList⟩]) (is:=[1,1]) rfl call147 (F147_calls bs obs (some (b1,0)) ((m_1.toList).length) s_table s_folds t_1.2.1 t_1.2.2 m_1.toList (Nat.le_refl _) r_2 hr_2) rfl ⟨.r 0, .r 1, .o 0,trivial⟩) (fun g_2=>?_)
   refine TL_nil ?_
   obtain rfl:=sj H
   exact TX_end (rs:=[]) (vs:=[]) rfl trivial (fun w' hs'=>⟨(),rfl,Step.left (Step.pulled (is:=[0,0]) (A:=[⟨some (bs,obs+48),[v64 r_2.1]⟩,⟨some (bs,obs+49),[v64 r_2.2]⟩]) hs' rfl)⟩)
  ·refine TC_skip ?_
   obtain rfl:=sj H
   exact TX_end (rs:=[]) (vs:=[]) rfl trivial (fun w' hs'=>⟨(),rfl,Step.left (Step.pulled (is:=[0,0]) (A:=[⟨some (bs,obs+48),[v64 t_1.2.1]⟩,⟨some (bs,obs+49),[v64 t_1.2.2]⟩]) hs' rfl)⟩)
end Go.Proofs
end

section
namespace Go.Proofs
open Go Go.Kx
open Vector (replicate)
open TryzI Tryz
def gcm_element_bytes.b0 (e_high:BitVec 64) (e_low:BitVec 64) (s0:Int × Vx 8 16):Option ((Int × Vx 8 16) ⊕ (Vx 8 16)) :=
 if s0.1<8 then (if 0≤w64 (56 - (w64 (8 * s0.1))) then (if 0≤w64 (56 - (w64 (8 * s0.1))) then (if 0≤s0.1∧s0.1<(16:Int) then (ltt (vp s0.2 ((s0.1).toNat) ((e_high >>> (w64 (56 - (w64 (8 * s0.1)))).toNat).setWidth 8)) fun (m_1:Vx 8 16)=>(if 0≤w64 (8+s0.1)∧w64 (8+s0.1)<(16:Int) then (ltt (vp m_1 ((w64 (8+s0.1)).toNat) ((e_low >>> (w64 (56 - (w64 (8 * s0.1)))).toNat).setWidth 8)) fun (m_2:Vx 8 16)=>(some (.inl (w64 (s0.1+1),m_2)))) else none)) else none) else none) else none) else (some (.inr s0.2))
def gcm_element_bytes (e_high:BitVec 64) (e_low:BitVec 64):Option (Vx 8 16) :=
 (loop (gcm_element_bytes.b0 e_high e_low) BIG (0,replicate 16 0#8)).bind fun (t_1:Vx 8 16)=>(some t_1)
set_option maxHeartbeats 4000000 in
set_option maxRecDepth 20000 in
theorem F146_calls (e_high:BitVec 64) (e_low:BitVec 64) (r:Vx 8 16) (H:gcm_element_bytes e_high e_low=some r) :
  Does Tryz.prog 146 [aG [(1,[v64 e_high]),(1,[v64 e_low])]] [] [] (Γ:=Unit) (fun g=>aG [(16,e8 r.toList)]) (fun g=>[]):=by
 intro w hmem hro hd
 refine calls_of (N:=29) (m0:=[(0,aG [(1,[v64 e_high]),(1,[v64 e_low])])]) func146 rfl ntmps146 (argM_ok [aG [(1,[v64 e_high]),(1,[v64 e_low])]]) rfl hmem hro hd ?_
 unfold gcm_element_bytes at H
 refine TC_seq (TC_region (TLe (E_boxP [(1,[v64 e_high]),(1,[v64 e_low])] rfl rfl ⟨rfl,rfl,trivial⟩) (fun b1=>?_)))
 refine TLe (E_allocP [(16,e8 ((replicate 16 0#8).toList))] inf171 zer171 ⟨(lenV (f:=v8) (replicate 16 0#8)),trivial⟩) (fun b2=>?_)
 refine TL_nil (TX_next (TC_seq (TC_region (TLe (E_allocP [(16,e8 ((replicate 16 0#8).toList))] inf171 zer171 ⟨(lenV (f:=v8) (replicate 16 0#8)),trivial⟩) (fun b3=>?_)))))
 refine TL_nil (TX_next (TC_seq (TC_seq (TC_region (TVm ?_)))))
 refine TL_nil (TX_next (TC_block ?_))
 obtain ⟨t_1,Hl,H⟩:=bind_elim H
 refine TC.sub (m':=[(1,_),(2,_),(3,_),(5,_)]) ⟨rfl,rfl,rfl,rfl,trivial⟩ ?_
 refine TC.pull (is:=[2,2,1,0]) (L':=[_,_,_,_]) rfl ?_
 refine TC_loopL (id:=0) (body:=(gcm_element_bytes.b0 e_high e_low)) (σ:=Int × Vx 8 16) (Γ:=Unit) (Γx:=Unit) (fun s0 g0_=>[(1,ptr (some (b1,0)) 0),(2,ptr (some (b2,0)) 0),(3,ptr (some (b3,0)) 0),(5,vi s0.1)]) (fun s0 g0_=>[⟨some (b1,0),[v64 e_high]⟩,⟨some (b1,1),[v64 e_low]⟩,⟨some (b2,0),e8 ((replicate 16 0#8).toList)⟩,⟨some (b3,0),e8 s0.2.toList⟩]) (fun t g=>[(2,ptr (some (b2,0)) 0),(3,ptr (some (b3,0)) 0)]) (fun t g=>[⟨some (b2,0),e8 ((replicate 16 0#8).toList)⟩,⟨some (b3,0),e8 t.toList⟩]) ?_ BIG (0,replicate 16 0#8) () t_1 Hl ?_
 ·intro s0 g0_ r1 H K hK hE
  unfold gcm_element_bytes.b0 at H
  refine TC_seq (TC_region (TLv (V_bin rfl rfl (fun w=>lssI w s0.1 8)) ?_))
  refine TL_nil (TX_next (TC_seq (TCd H (fun hc H=>?_) (fun hc H=>?_))))
  ·refine TC_skip (TX_next (TC_seq (TC_block (TC_seq (TC_region (TVm ?_))))))
   refine TVa ?_
   refine TL_nil (TX_next ?_)
   obtain ⟨h1,H⟩:=if_elim H
   obtain ⟨h2,H⟩:=if_elim H
   obtain ⟨h3,H⟩:=if_elim H
   obtain ⟨m_1,hm_1,H⟩:=ltt_elim H
   obtain ⟨h4,H⟩:=if_elim H
   obtain ⟨m_2,hm_2,H⟩:=ltt_elim H
   refine TA_begin [⟨some (b1,0),[v64 e_high]⟩,⟨some (b1,1),[v64 e_low]⟩,⟨some (b2,0),e8 ((replicate 16 0#8).toList)⟩] 19 (by kernel_rfl) (N:=21) rfl ?_
   refine TA_tk 0 [0,0,0] (dn 21 1) rfl rfl (V_move rfl) ?_
   refine TA_tk 1 [0,0,0] (dn 21 3) rfl rfl (V_move rfl) ?_
   refine TA_tk 2 [0,0,0] (dn 21 7) rfl rfl (V_bin rfl rfl (fun w=>addI w 8 s0.1)) ?_
   refine TA_tk 3 [0,0,0] (dn 21 15) rfl rfl (V_fieldE rfl underlying216 rfl rfl inf115 rfl (v:=ptr (some (b1,0)) 0) rfl) ?_
   refine TA_tk 4 [0,0,0] (dn 21 31) rfl rfl (V_load rfl (.o 0) rfl isAgg115) ?_
   refine TA_tk 5 [0,0,0] (dn 21 63) rfl rfl (V_move rfl) ?_
   refine TA_tk 6 [0,0,0] (dn 21 127) rfl rfl (V_bin rfl rfl (fun w=>mulI w 8 s0.1)) ?_
   refine TA_tk 7 [0,0,0] (dn 21 255) rfl rfl (V_bin rfl rfl (fun w=>subI w 56 (w64 (8 * s0.1)))) ?_
   refine TA_tk 8 [0,0,0] (dn 21 511) rfl rfl (V_bin rfl rfl (fun w=>shr64 w e_high .i64 (w64 (56 - (w64 (8 * s0.1)))) h1)) ?_
   refine TA_tk 9 [0,0,0] (dn 21 1023) rfl rfl (V_conv rfl (fun w=>cv64to8 w _ _ underlying5 (und115) (e_high >>> (w64 (56 - (w64 (8 * s0.1)))).toNat))) ?_
   refine TA_tk 10 [0,0,0] (dn 21 2047) rfl rfl (V_fieldE rfl underlying216 rfl rfl inf115 rfl (v:=ptr (some (b1,1)) 0) rfl) ?_
   refine TA_tk 11 [0,0,0] (dn 21 4095) rfl rfl (V_load rfl (.o 1) rfl isAgg115) ?_
   refine TA_tk 12 [0,0,0] (dn 21 8191) rfl rfl (V_move rfl) ?_
   refine TA_tk 13 [0,0,0] (dn 21 16383) rfl rfl (V_bin rfl rfl (fun w=>mulI w 8 s0.1)) ?_
   refine TA_tk 14 [0,0,0] (dn 21 32767) rfl rfl (V_bin rfl rfl (fun w=>subI w 56 (w64 (8 * s0.1)))) ?_
   refine TA_tk 15 [0,0,0] (dn 21 65535) rfl rfl (V_bin rfl rfl (fun w=>shr64 w e_low .i64 (w64 (56 - (w64 (8 * s0.1)))) h2)) ?_
   refine TA_tk 16 [0,0,0] (dn 21 131071) rfl rfl (V_conv rfl (fun w=>cv64to8 w _ _ underlying5 (und115) (e_low >>> (w64 (56 - (w64 (8 * s0.1)))).toNat))) ?_
   refine TA_tk 17 [0,0,0] (dn 21 262143) rfl rfl (V_idxArr (i:=s0.1) rfl rfl underlying171 inf5 rfl h3.1 h3.2 (k:=(s0.1).toNat) (k01 _)) ?_
   refine TA_all (rs:=[18]) (by kernel_rfl) rfl ?_
   refine ⟨?_,trivial⟩
   refine TO_n (is:=[0,0,0]) (done':=dn 21 524287) rfl rfl rfl (by kernel_rfl) (E_store (j:=3) rfl rfl inf5 rfl rfl rfl (by simpa using (toNat_lt h3.1 h3.2)) (cs':=e8 ((vp s0.2 ((s0.1).toNat) ((e_high >>> (w64 (56 - (w64 (8 * s0.1)))).toNat).setWidth 8)).toList)) set_vec) (fun _ _=>rfl) (fun _=>?_)
   refine TA_reE (j:=3) (A:=some (b3,0)) (cs:=e8 ((vp s0.2 ((s0.1).toNat) ((e_high >>> (w64 (56 - (w64 (8 * s0.1)))).toNat).setWidth 8)).toList)) (cs':=e8 m_1.toList) rfl (congrArg (fun z:Vx 8 16=>e8 (Vector.toList z)) hm_1) ?_
   refine TA_all (rs:=[19]) (by kernel_rfl) rfl ?_
   refine ⟨?_,trivial⟩
   refine TO_v (is:=[]) (R:=[]) (done':=dn 21 1048575) rfl rfl rfl rfl (by kernel_rfl) (V_idxArr (i:=w64 (8+s0.1)) rfl rfl underlying171 inf5 rfl h4.1 h4.2 (k:=(w64 (8+s0.1)).toNat) (k01 _)) (fun h=>by cases h) ?_
   refine TA_all (rs:=[20]) (by kernel_rfl) rfl ?_
   refine ⟨?_,trivial⟩
   refine TO_n (is:=[]) (R:=fun _=>[]) (done':=dn 21 2097151) rfl rfl rfl (by kernel_rfl) (E_store (j:=3) rfl rfl inf5 rfl rfl rfl (by simpa using (toNat_lt h4.1 h4.2)) (cs':=e8 ((vp m_1 ((w64 (8+s0.1)).toNat) ((e_low >>> (w64 (56 - (w64 (8 * s0.1)))).toNat).setWidth 8)).toList)) set_vec) (fun h=>by cases h) (fun _=>?_)
   refine TA_reE (j:=3) (A:=some (b3,0)) (cs:=e8 ((vp m_1 ((w64 (8+s0.1)).toNat) ((e_low >>> (w64 (56 - (w64 (8 * s0.1)))).toNat).setWidth 8)).toList)) (cs':=e8 m_2.toList) rfl (congrArg (fun z:Vx 8 16=>e8 (Vector.toList z)) hm_2) ?_
   refine TA_done (by kernel_rfl) ?_ 0
   refine TX_block_normal (TX_next (TC_region (TLv (V_bin rfl rfl (fun w=>addI w s0.1 1)) ?_)))
   refine TVm ?_
   refine TL_nil ?_
   obtain rfl:=sj H
   exact TXk [0,0,0,0] (hK (w64 (s0.1+1),m_2) rfl ())
  ·refine TC_exit (TX_then_exit (TX_then_exit ?_))
   obtain rfl:=sj H
   exact TXj [2,2] (hE s0.2 rfl ())
 ·intro g
  refine TX_block_exit (TX_next (TC_seq (TC_region (TLv (V_lag (.o 1) isAgg171 inf171) ?_))))
  refine TLn (E_sv (vs:=e8 t_1.toList) 0 inf171) (fun _=>?_)
  refine TL_nil (TX_next (TC_ret ?_))
  obtain rfl:=sj H
  exact TXr (vs:=[_]) rfl ⟨(Res_agg (n:=16) rfl (by simp) (.o 0) isAgg171 inf171 rfl (lenV (f:=v8) t_1)),trivial⟩
end Go.Proofs
end

section
namespace Go.Proofs
open Go Go.Kx
open Vector (replicate)
open TryzI Tryz
def gcm_counter.b0 (n:BitVec 32) (s0:Int × Vx 8 16):Option ((Int × Vx 8 16) ⊕ (Vx 8 16)) :=
 if s0.1<4 then (if 0≤w64 (8 * s0.1) then (if 0≤w64 (15 - s0.1)∧w64 (15 - s0.1)<(16:Int) then (ltt (vp s0.2 ((w64 (15 - s0.1)).toNat) ((n >>> (w64 (8 * s0.1)).toNat).setWidth 8)) fun (m_2:Vx 8 16)=>(some (.inl (w64 (s0.1+1),m_2)))) else none) else none) else (some (.inr s0.2))
def gcm_counter (nonce:Str) (n:BitVec 32):Option (Vx 8 16) :=
 ltt (vsp (replicate 16 0#8) 0 (nonce.take (min ((nonce).length) 16))) fun (m_1:Vx 8 16)=>((loop (gcm_counter.b0 n) BIG (0,m_1)).bind fun (t_1:Vx 8 16)=>(some t_1))
set_option maxHeartbeats 4000000 in
set_option maxRecDepth 20000 in
theorem F148_calls (nonce:Str) (n:BitVec 32) (r:Vx 8 16) (H:gcm_counter nonce n=some r) :
  Does Tryz.prog 148 [vs nonce,v32 n] [] [] (Γ:=Unit) (fun g=>aG [(16,e8 r.toList)]) (fun g=>[]):=by
 intro w hmem hro hd
 refine calls_of (N:=23) (m0:=[(0,vs nonce),(1,v32 n)]) func148 rfl ntmps148 (argM_ok [vs nonce,v32 n]) rfl hmem hro hd ?_
 unfold gcm_counter at H
 refine TC_seq (TC_region (TLe (E_allocP [(16,e8 ((replicate 16 0#8).toList))] inf171 zer171 ⟨(lenV (f:=v8) (replicate 16 0#8)),trivial⟩) (fun b1=>?_)))
 refine TL_nil (TX_next (TC_seq (TC_region (TLe (E_allocP [(16,e8 ((replicate 16 0#8).toList))] inf171 zer171 ⟨(lenV (f:=v8) (replicate 16 0#8)),trivial⟩) (fun b2=>?_)))))
 refine TL_nil (TX_next (TC_seq (TC_region (TLv (V_sliceArr0 rfl (by simp) underlying171 inf5 rfl) ?_))))
 refine TVm ?_
 refine TLe (E_copyStr (o:=0) (j:=0) (copyA rfl) rfl (by simp) underlying86 inf5 rfl rfl (copy_vec (l:=0) (d:=16) (by omega)) (cs':=e8 ((vsp (replicate 16 0#8) 0 (nonce.take (min ((nonce).length) 16))).toList)) (splice_vec (take_room (n:=16) (l:=0) (d:=16) (by omega)))) (fun _=>?_)
 obtain ⟨m_1,hm_1,H⟩:=ltt_elim H
 refine TL_reE (j:=0) (A:=some (b2,0)) (cs:=e8 ((vsp (replicate 16 0#8) 0 (nonce.take (min ((nonce).length) 16))).toList)) (cs':=e8 m_1.toList) rfl (congrArg (fun z:Vx 8 16=>e8 (Vector.toList z)) hm_1) ?_
 refine TL_nil (TX_next (TC_seq (TC_seq (TC_region (TVm ?_)))))
 refine TL_nil (TX_next (TC_block ?_))
 obtain ⟨t_1,Hl,H⟩:=bind_elim H
 refine TC.sub (m':=[(1,_),(4,_),(5,_),(10,_)]) ⟨rfl,rfl,rfl,rfl,trivial⟩ ?_
 refine TC.pull (is:=[1,0]) (L':=[_,_]) rfl ?_
 refine TC_loopL (id:=0) (body:=(gcm_counter.b0 n)) (σ:=Int × Vx 8 16) (Γ:=Unit) (Γx:=Unit) (fun s0 g0_=>[(1,v32 n),(4,ptr (some (b1,0)) 0),(5,ptr (some (b2,0)) 0),(10,vi s0.1)]) (fun s0 g0_=>[⟨some (b1,0),e8 ((replicate 16 0#8).toList)⟩,⟨some (b2,0),e8 s0.2.toList⟩]) (fun t g=>[(4,ptr (some (b1,0)) 0),(5,ptr (some (b2,0)) 0)]) (fun t g=>[⟨some (b1,0),e8 ((replicate 16 0#8).toList)⟩,⟨some (b2,0),e8 t.toList⟩]) ?_ BIG (0,m_1) () t_1 Hl ?_
 ·intro s0 g0_ r1 H K hK hE
  unfold gcm_counter.b0 at H
  refine TC_seq (TC_region (TLv (V_bin rfl rfl (fun w=>lssI w s0.1 4)) ?_))
  refine TL_nil (TX_next (TC_seq (TCd H (fun hc H=>?_) (fun hc H=>?_))))
  ·refine TC_skip (TX_next (TC_seq (TC_block (TC_seq (TC_region (TVm ?_))))))
   refine TVa ?_
   refine TL_nil (TX_next (TC_region (TVm ?_)))
   refine TLv (V_bin rfl rfl (fun w=>subI w 15 s0.1)) ?_
   refine TVm ?_
   refine TVm ?_
   refine TLv (V_bin rfl rfl (fun w=>mulI w 8 s0.1)) ?_
   obtain ⟨h1,H⟩:=if_elim H
   refine TLv (V_bin rfl rfl (fun w=>shr32 w n .i64 (w64 (8 * s0.1)) h1)) ?_
   refine TLv (V_conv rfl (fun w=>cv32to8 w _ _ underlying5 (und140) (n >>> (w64 (8 * s0.1)).toNat))) ?_
   obtain ⟨h2,H⟩:=if_elim H
   refine TLv (V_idxArr (i:=w64 (15 - s0.1)) rfl rfl underlying171 inf5 rfl h2.1 h2.2 (k:=(w64 (15 - s0.1)).toNat) (k01 _)) ?_
   refine TLn (E_store (j:=1) rfl rfl inf5 rfl rfl rfl (by simpa using (toNat_lt h2.1 h2.2)) (cs':=e8 ((vp s0.2 ((w64 (15 - s0.1)).toNat) ((n >>> (w64 (8 * s0.1)).toNat).setWidth 8)).toList)) set_vec) (fun _=>?_)
   obtain ⟨m_2,hm_2,H⟩:=ltt_elim H
   refine TL_reE (j:=1) (A:=some (b2,0)) (cs:=e8 ((vp s0.2 ((w64 (15 - s0.1)).toNat) ((n >>> (w64 (8 * s0.1)).toNat).setWidth 8)).toList)) (cs':=e8 m_2.toList) rfl (congrArg (fun z:Vx 8 16=>e8 (Vector.toList z)) hm_2) ?_
   refine TL_nil (TX_block_normal (TX_next (TC_region (TLv (V_bin rfl rfl (fun w=>addI w s0.1 1)) ?_))))
   refine TVm ?_
   refine TL_nil ?_
   obtain rfl:=sj H
   exact TXk [0,0] (hK (w64 (s0.1+1),m_2) rfl ())
  ·refine TC_exit (TX_then_exit (TX_then_exit ?_))
   obtain rfl:=sj H
   exact TXj [0,0] (hE s0.2 rfl ())
 ·intro g
  refine TX_block_exit (TX_next (TC_seq (TC_region (TLv (V_lag (.o 1) isAgg171 inf171) ?_))))
  refine TLn (E_sv (vs:=e8 t_1.toList) 0 inf171) (fun _=>?_)
  refine TL_nil (TX_next (TC_ret ?_))
  obtain rfl:=sj H
  exact TXr (vs:=[_]) rfl ⟨(Res_agg (n:=16) rfl (by simp) (.o 0) isAgg171 inf171 rfl (lenV (f:=v8) t_1)),trivial⟩
end Go.Proofs
end

/-
  Part 7 of the proof of what several laws share.
-/
import Derived.Test.YtnplppmninimeaaDoorTkQ1
import Derived.Test.YtnplppmninimeaaDoorTkQ2
import Derived.Test.YtnplppmninimeaaDoorTkQ3
import Derived.Test.YtnplppmninimeaaDoorTkQ4
import Derived.Test.YtnplppmninimeaaDoorTkQ5
import Derived.Test.YtnplppmninimeaaDoorTkQ6
set_option linter.unusedVariables false
set_option linter.unusedSimpArgs false
section
namespace Go.Proofs
open Go Go.Kx
open TrydI Tryd
def gcm_sum_add.b0 (s_table:Vector (BitVec 64 × BitVec 64) 16) (s_folds:Vx 64 16) (s_y_high:BitVec 64) (s_y_low:BitVec 64) (r_1:BitVec 64 × BitVec 64) (s0:Int × BitVec 64 × BitVec 64):Option ((Int × BitVec 64 × BitVec 64) ⊕ (BitVec 64 × BitVec 64)) :=
 if s0.1<32 then (if 0≤w64 (4 * (s0.1.tmod 16)) then (ltt (((r_1.2 ^^^ s_y_low) >>> (w64 (4 * (s0.1.tmod 16))).toNat) &&& 15#64) fun (digit1:BitVec 64)=>((if 16≤s0.1 then (if 0≤w64 (4 * (s0.1.tmod 16)) then (ltt (((r_1.1 ^^^ s_y_high) >>> (w64 (4 * (s0.1.tmod 16))).toNat) &&& 15#64) fun (digit2:BitVec 64)=>(some digit2)) else none) else (some digit1)).bind fun (j1:BitVec 64)=>(if 0≤((s0.2.2 &&& 15#64).toNat:Int)∧((s0.2.2 &&& 15#64).toNat:Int)<(16:Int) then (if 0≤((j1).toNat:Int)∧((j1).toNat:Int)<(16:Int) then (if 0≤((j1).toNat:Int)∧((j1).toNat:Int)<(16:Int) then (some (.inl (w64 (s0.1+1),((s0.2.1 >>> 4) ^^^ (vg s_folds ((s0.2.2 &&& 15#64).toNat))) ^^^ ((vg s_table ((j1).toNat)).1),((s0.2.2 >>> 4) ||| (s0.2.1 <<< 60)) ^^^ ((vg s_table ((j1).toNat)).2)))) else none) else none) else none))) else none) else (some (.inr (s0.2.1,s0.2.2)))
def gcm_sum_add (s_table:Vector (BitVec 64 × BitVec 64) 16) (s_folds:Vx 64 16) (s_y_high:BitVec 64) (s_y_low:BitVec 64) (b:List (BitVec 8)):Option (BitVec 64 × BitVec 64) :=
 (gcm_load b).bind fun (r_1:BitVec 64 × BitVec 64)=>((loop (gcm_sum_add.b0 s_table s_folds s_y_high s_y_low r_1) BIG (0,0#64,0#64)).bind fun (t_1:BitVec 64 × BitVec 64)=>(some (t_1.1,t_1.2)))
set_option maxHeartbeats 4000000 in
set_option maxRecDepth 20000 in
theorem F50_calls (bs:Nat) (obs:Nat) (Ab:Adr) (cb:Nat) (s_table:Vector (BitVec 64 × BitVec 64) 16) (s_folds:Vx 64 16) (s_y_high:BitVec 64) (s_y_low:BitVec 64) (b:List (BitVec 8)) (hcb:(b).length≤cb) (r:BitVec 64 × BitVec 64) (H:gcm_sum_add s_table s_folds s_y_high s_y_low b=some r) :
  Does Tryd.prog 50 [ptr (some (bs,obs)) 0,sl Ab ((b).length) cb] [⟨some (bs,obs+48),[v64 s_y_high]⟩,⟨some (bs,obs+49),[v64 s_y_low]⟩] [⟨some (bs,obs),eF (fun p:BitVec 64 × BitVec 64=>[v64 p.1,v64 p.2]) s_table.toList⟩,⟨some (bs,obs+32),e64 s_folds.toList⟩,⟨Ab,e8 b⟩] (Γ:=Unit) (fun g=>Value.tuple [].toArray) (fun g=>[⟨some (bs,obs+48),[v64 r.1]⟩,⟨some (bs,obs+49),[v64 r.2]⟩]):=by
 intro w hmem hro hd
 refine calls_of (N:=94) (m0:=[(0,ptr (some (bs,obs)) 0),(1,sl Ab ((b).length) cb)]) func50 rfl ntmps50 (argM_ok [ptr (some (bs,obs)) 0,sl Ab ((b).length) cb]) rfl hmem hro hd ?_
 unfold gcm_sum_add at H
 refine TC_seq (TC_region (TVm ?_))
 obtain ⟨r_1,hr_1,H⟩:=bind_elim H
 refine TLe (E_c0 (F45_calls Ab cb b hcb r_1 hr_1) call45 ⟨.r 2,trivial⟩) (fun g_1=>?_)
 refine TLe (E_allocP [(1,[v64 0#64]),(1,[v64 0#64])] inf88 zer88 ⟨rfl,rfl,trivial⟩) (fun b1=>?_)
 refine TLn (E_sp (b:=b1) (o:=0) [0,0] [(1,[v64 0#64]),(1,[v64 0#64])] [(1,[v64 r_1.1]),(1,[v64 r_1.2])] rfl inf88 ⟨rfl,rfl,trivial⟩ ⟨rfl,rfl,trivial⟩ ⟨(OneC.cons rfl OneC.nil),(OneC.cons rfl OneC.nil),trivial⟩) (fun _=>?_)
 refine TL_nil (TX_next (TC_seq (TA_begin [] 10 (by kernel_rfl) (N:=10) rfl ?_)))
 refine TA_mix (is:=[]) (done':=dn 10 511) [itV 0 10 (ptr (some (b1,0)) 0) [],itV 1 11 (v64 r_1.1) [0],itV 2 12 (ptr (some (bs,obs)) 0) [],itV 3 13 (ptr (some (bs,obs)) 0) [2],itV 4 14 (ptr (some (bs,obs+48)) 0) [3],itV 5 15 (ptr (some (bs,obs+48)) 0) [4],itV 6 16 (v64 s_y_high) [5],itV 7 17 (v64 (r_1.1 ^^^ s_y_high)) [6,1],itV 8 18 (ptr (some (b1,0)) 0) []] [] 1 (by kernel_rfl) (QP.then QP.body) (by kernel_rfl) rfl (.v rfl (V_fe underlying88 inf86) (.v rfl (V_load rfl (.o 0) rfl isAgg86) (.v rfl (V_move rfl) (.v rfl (V_nilCheck rfl) (.v rfl (V_fe underlying101 inf88) (.v rfl (V_fe underlying88 inf86) (.v rfl (V_load rfl (.o 2) rfl isAgg86) (.v rfl (V_bin rfl rfl (fun w=>xor64 w r_1.1 s_y_high)) (.v rfl (V_fe underlying88 inf86) .nil))))))))) .nil (by kernel_rfl) rfl (fun γ=>?_)
 refine TA_cut [(18,ptr (some (b1,0)) 0),(17,v64 (r_1.1 ^^^ s_y_high)),(4,ptr (some (b1,0)) 0),(0,ptr (some (bs,obs)) 0)] [⟨some (b1,0),[v64 r_1.1]⟩,⟨some (b1,1),[v64 r_1.2]⟩,⟨some (bs,obs+48),[v64 s_y_high]⟩,⟨some (bs,obs+49),[v64 s_y_low]⟩] ⟨rfl,rfl,rfl,rfl,trivial⟩ rfl ?_
 refine TA_all (rs:=[9]) (by kernel_rfl) rfl ?_
 refine ⟨?_,trivial⟩
 refine TO_n (is:=[]) (done':=dn 10 1023) rfl rfl rfl (by kernel_rfl) (E_store (j:=0) rfl rfl inf86 rfl rfl rfl (Nat.lt_succ_self 0) (cs':=[v64 (r_1.1 ^^^ s_y_high)]) rfl) (fun _ _=>rfl) (fun _=>?_)
 refine TA_done (by kernel_rfl) ?_ 0
 refine TX_next (TC_seq (TA_begin [] 10 (by kernel_rfl) (N:=10) rfl ?_))
 refine TA_mix (is:=[]) (done':=dn 10 511) [itV 0 19 (ptr (some (b1,1)) 0) [],itV 1 20 (v64 r_1.2) [0],itV 2 21 (ptr (some (bs,obs)) 0) [],itV 3 22 (ptr (some (bs,obs)) 0) [2],itV 4 23 (ptr (some (bs,obs+48)) 0) [3],itV 5 24 (ptr (some (bs,obs+49)) 0) [4],itV 6 25 (v64 s_y_low) [5],itV 7 26 (v64 (r_1.2 ^^^ s_y_low)) [6,1],itV 8 27 (ptr (some (b1,1)) 0) []] [] 1 (by kernel_rfl) (QP.then QP.body) (by kernel_rfl) rfl (.v rfl (V_fe underlying88 inf86) (.v rfl (V_load rfl (.o 1) rfl isAgg86) (.v rfl (V_move rfl) (.v rfl (V_nilCheck rfl) (.v rfl (V_fe underlying101 inf88) (.v rfl (V_fe underlying88 inf86) (.v rfl (V_load rfl (.o 3) rfl isAgg86) (.v rfl (V_bin rfl rfl (fun w=>xor64 w r_1.2 s_y_low)) (.v rfl (V_fe underlying88 inf86) .nil))))))))) .nil (by kernel_rfl) rfl (fun γ=>?_)
 refine TA_cut [(27,ptr (some (b1,1)) 0),(26,v64 (r_1.2 ^^^ s_y_low)),(4,ptr (some (b1,0)) 0),(0,ptr (some (bs,obs)) 0)] [⟨some (b1,0),[v64 (r_1.1 ^^^ s_y_high)]⟩,⟨some (b1,1),[v64 r_1.2]⟩,⟨some (bs,obs+48),[v64 s_y_high]⟩,⟨some (bs,obs+49),[v64 s_y_low]⟩] ⟨rfl,rfl,rfl,rfl,trivial⟩ rfl ?_
 refine TA_all (rs:=[9]) (by kernel_rfl) rfl ?_
 refine ⟨?_,trivial⟩
 refine TO_n (is:=[]) (done':=dn 10 1023) rfl rfl rfl (by kernel_rfl) (E_store (j:=1) rfl rfl inf86 rfl rfl rfl (Nat.lt_succ_self 0) (cs':=[v64 (r_1.2 ^^^ s_y_low)]) rfl) (fun _ _=>rfl) (fun _=>?_)
 refine TA_done (by kernel_rfl) ?_ 0
 refine TX_next (TC_seq (TC_region (TLe (E_allocP [(1,[v64 0#64]),(1,[v64 0#64])] inf88 zer88 ⟨rfl,rfl,trivial⟩) (fun b2=>?_))))
 refine TL_nil (TX_next (TC_seq (TC_seq (TC_region (TVm ?_)))))
 refine TL_nil (TX_next (TC_block ?_))
 obtain ⟨t_1,Hl,H⟩:=bind_elim H
 refine TC.sub (m':=[(0,_),(4,_),(5,_),(28,_)]) ⟨rfl,rfl,rfl,rfl,trivial⟩ ?_
 refine TC.pull (is:=[4,4,2,2,0,0]) (L':=[_,_,_,_,_,_]) rfl ?_
 refine TC_loopL (id:=0) (body:=(gcm_sum_add.b0 s_table s_folds s_y_high s_y_low r_1)) (σ:=Int × BitVec 64 × BitVec 64) (Γ:=Unit) (Γx:=Unit) (fun s0 g0_=>[(0,ptr (some (bs,obs)) 0),(4,ptr (some (b1,0)) 0),(5,ptr (some (b2,0)) 0),(28,vi s0.1)]) (fun s0 g0_=>[⟨some (bs,obs+48),[v64 s_y_high]⟩,⟨some (bs,obs+49),[v64 s_y_low]⟩,⟨some (b1,0),[v64 (r_1.1 ^^^ s_y_high)]⟩,⟨some (b1,1),[v64 (r_1.2 ^^^ s_y_low)]⟩,⟨some (b2,0),[v64 s0.2.1]⟩,⟨some (b2,1),[v64 s0.2.2]⟩]) (fun t g=>[(0,ptr (some (bs,obs)) 0),(5,ptr (some (b2,0)) 0)]) (fun t g=>[⟨some (bs,obs+48),[v64 s_y_high]⟩,⟨some (bs,obs+49),[v64 s_y_low]⟩,⟨some (b2,0),[v64 t.1]⟩,⟨some (b2,1),[v64 t.2]⟩]) ?_ BIG (0,0#64,0#64) () t_1 Hl ?_
 ·intro s0 g0_ r1 H K hK hE
  unfold gcm_sum_add.b0 at H
  refine TC_seq (TC_region (TLv (V_bin rfl rfl (fun w=>lssI w s0.1 32)) ?_))
  refine TL_nil (TX_next (TC_seq (TCd H (fun hc H=>?_) (fun hc H=>?_))))
  ·refine TC_skip (TX_next (TC_seq (TC_block (TC_seq (TC_region (TVm ?_))))))
   refine TVa ?_
   refine TL_nil (TX_next (TC_seq (TC_region (TLv (V_fieldE rfl underlying88 rfl rfl inf86 rfl (v:=ptr (some (b1,1)) 0) rfl) ?_))))
   refine TLv (V_load rfl (.o 3) rfl isAgg86) ?_
   refine TVm ?_
   refine TLv (V_bin rfl rfl (fun w=>remI w s0.1 16 (by decide))) ?_
   refine TLv (V_bin rfl rfl (fun w=>mulI w 4 (s0.1.tmod 16))) ?_
   obtain ⟨h1,H⟩:=if_elim H
   refine TLv (V_bin rfl rfl (fun w=>shr64 w (r_1.2 ^^^ s_y_low) .i64 (w64 (4 * (s0.1.tmod 16))) h1)) ?_
   refine TLv (V_bin rfl rfl (fun w=>and64 w ((r_1.2 ^^^ s_y_low) >>> (w64 (4 * (s0.1.tmod 16))).toNat) 15#64)) ?_
   refine TVa ?_
   obtain ⟨digit1,hdigit1,H⟩:=ltt_elim H
   refine TLr 7 (congrArg v64 hdigit1) ?_
   refine TL_nil (TX_next (TC_seq (TC_seq (TC_region (TVm ?_)))))
   refine TLv (V_bin rfl rfl (fun w=>geqI w s0.1 16)) ?_
   refine TL_nil (TX_next ?_)
   obtain ⟨j1,Hj,H⟩:=bind_elim H
   refine TC_join (Γ:=Unit) (fun gj1=>[(0,ptr (some (bs,obs)) 0),(4,ptr (some (b1,0)) 0),(5,ptr (some (b2,0)) 0),(7,v64 j1),(28,vi s0.1)]) (fun gj1=>[⟨some (bs,obs+48),[v64 s_y_high]⟩,⟨some (bs,obs+49),[v64 s_y_low]⟩,⟨some (b1,0),[v64 (r_1.1 ^^^ s_y_high)]⟩,⟨some (b1,1),[v64 (r_1.2 ^^^ s_y_low)]⟩,⟨some (b2,0),[v64 s0.2.1]⟩,⟨some (b2,1),[v64 s0.2.2]⟩]) ?_ ?_
   ·intro gj1
    refine TX_next (TC_seq ?_)
    obtain ⟨h2,H⟩:=if_elim H
    refine TA_begin [] 21 (by kernel_rfl) (N:=21) rfl ?_
    refine TA_mix (is:=[]) (done':=dn 21 1048575) [itV 0 47 (ptr (some (b2,0)) 0) [],itV 1 48 (v64 s0.2.1) [0],itV 2 49 (v64 (s0.2.1 >>> 4)) [1],itV 3 50 (ptr (some (bs,obs)) 0) [],itV 4 51 (ptr (some (b2,1)) 0) [],itV 5 52 (v64 s0.2.2) [4],itV 6 53 (v64 (s0.2.2 &&& 15#64)) [5],itV 7 54 (ptr (some (bs,obs)) 0) [3],itV 8 55 (ptr (some (bs,obs+32)) 0) [7],itV 9 56 (ptr (some (bs,obs+32)) ((s0.2.2 &&& 15#64).toNat)) [6,8],itV 10 57 (v64 (vg s_folds ((s0.2.2 &&& 15#64).toNat))) [9],itV 11 58 (v64 ((s0.2.1 >>> 4) ^^^ (vg s_folds ((s0.2.2 &&& 15#64).toNat)))) [2,10],itV 12 59 (ptr (some (b2,1)) 0) [],itV 13 60 (v64 s0.2.2) [12],itV 14 61 (v64 (s0.2.2 >>> 4)) [13],itV 15 62 (ptr (some (b2,0)) 0) [],itV 16 63 (v64 s0.2.1) [15],itV 17 64 (v64 (s0.2.1 <<< 60)) [16],itV 18 65 (v64 ((s0.2.2 >>> 4) ||| (s0.2.1 <<< 60))) [17,14],itV 19 66 (aG [(1,[v64 ((s0.2.1 >>> 4) ^^^ (vg s_folds ((s0.2.2 &&& 15#64).toNat)))]),(1,[v64 ((s0.2.2 >>> 4) ||| (s0.2.1 <<< 60))])]) [18,11]] [] 1 (by kernel_rfl) (QP.then (QP.block (QP.then (QP.then (QP.block (QP.then QP.body)))))) (by kernel_rfl) rfl (.v rfl (V_fe underlying88 inf86) (.v rfl (V_load rfl (.o 4) rfl isAgg86) (.v rfl (V_bin rfl rfl (fun w=>shr64 w s0.2.1 .u64 4 (by decide))) (.v rfl (V_move rfl) (.v rfl (V_fe underlying88 inf86) (.v rfl (V_load rfl (.o 5) rfl isAgg86) (.v rfl (V_bin rfl rfl (fun w=>and64 w s0.2.2 15#64)) (.v rfl (V_nilCheck rfl) (.v rfl (V_fe underlying101 inf99) (.v rfl (V_idxArr (i:=((s0.2.2 &&& 15#64).toNat:Int)) rfl rfl underlying99 inf86 rfl h2.1 h2.2 (k:=(s0.2.2 &&& 15#64).toNat) (k01 _)) (.v rfl (V_load rfl (.r 1) (get_vec (f:=v64) (V:=s_folds) (toNat_lt h2.1 h2.2)) isAgg86) (.v rfl (V_bin rfl rfl (fun w=>xor64 w (s0.2.1 >>> 4) (vg s_folds ((s0.2.2 &&& 15#64).toNat)))) (.v rfl (V_fe underlying88 inf86) (.v rfl (V_load rfl (.o 5) rfl isAgg86) (.v rfl (V_bin rfl rfl (fun w=>shr64 w s0.2.2 .u64 4 (by decide))) (.v rfl (V_fe underlying88 inf86) (.v rfl (V_load rfl (.o 4) rfl isAgg86) (.v rfl (V_bin rfl rfl (fun w=>shl64 w s0.2.1 .u64 60 (by decide))) (.v rfl (V_bin rfl rfl (fun w=>or64 w (s0.2.2 >>> 4) (s0.2.1 <<< 60))) (.v rfl (V_buildStruct (pv:=[(0,v64 ((s0.2.1 >>> 4) ^^^ (vg s_folds ((s0.2.2 &&& 15#64).toNat)))),(1,v64 ((s0.2.2 >>> 4) ||| (s0.2.1 <<< 60)))]) (pl:=[(0,1),(1,1)]) rfl rfl underlying88 inf88 places88 zer88 (cs:=flat [(1,[v64 ((s0.2.1 >>> 4) ^^^ (vg s_folds ((s0.2.2 &&& 15#64).toNat)))]),(1,[v64 ((s0.2.2 >>> 4) ||| (s0.2.1 <<< 60))])]) (by kernel_rfl)) .nil)))))))))))))))))))) .nil (by kernel_rfl) rfl (fun γ=>?_)
    refine TA_cut [(66,aG [(1,[v64 ((s0.2.1 >>> 4) ^^^ (vg s_folds ((s0.2.2 &&& 15#64).toNat)))]),(1,[v64 ((s0.2.2 >>> 4) ||| (s0.2.1 <<< 60))])]),(0,ptr (some (bs,obs)) 0),(4,ptr (some (b1,0)) 0),(5,ptr (some (b2,0)) 0),(7,v64 j1),(28,vi s0.1)] [⟨some (bs,obs+48),[v64 s_y_high]⟩,⟨some (bs,obs+49),[v64 s_y_low]⟩,⟨some (b1,0),[v64 (r_1.1 ^^^ s_y_high)]⟩,⟨some (b1,1),[v64 (r_1.2 ^^^ s_y_low)]⟩,⟨some (b2,0),[v64 s0.2.1]⟩,⟨some (b2,1),[v64 s0.2.2]⟩] ⟨rfl,rfl,rfl,rfl,rfl,rfl,trivial⟩ rfl ?_
    refine TA_all (rs:=[20]) (by kernel_rfl) rfl ?_
    refine ⟨?_,trivial⟩
    refine TO_n (is:=[]) (done':=dn 21 2097151) rfl rfl rfl (by kernel_rfl) (E_sp (b:=b2) (o:=0) [4,4] [(1,[v64 s0.2.1]),(1,[v64 s0.2.2])] [(1,[v64 ((s0.2.1 >>> 4) ^^^ (vg s_folds ((s0.2.2 &&& 15#64).toNat)))]),(1,[v64 ((s0.2.2 >>> 4) ||| (s0.2.1 <<< 60))])] rfl inf88 ⟨rfl,rfl,trivial⟩ ⟨rfl,rfl,trivial⟩ ⟨(OneC.cons rfl OneC.nil),(OneC.cons rfl OneC.nil),trivial⟩) (fun _ _=>rfl) (fun _=>?_)
    refine TA_done (by kernel_rfl) ?_ 0
    refine TX_next (TC_seq ?_)
    obtain ⟨h3,H⟩:=if_elim H
    refine TA_begin [] 12 (by kernel_rfl) (N:=12) rfl ?_
    refine TA_mix (is:=[]) (done':=dn 12 2047) [itV 0 67 (ptr (some (b2,0)) 0) [],itV 1 68 (v64 ((s0.2.1 >>> 4) ^^^ (vg s_folds ((s0.2.2 &&& 15#64).toNat)))) [0],itV 2 69 (ptr (some (bs,obs)) 0) [],itV 3 70 (v64 j1) [],itV 4 71 (ptr (some (bs,obs)) 0) [2],itV 5 72 (ptr (some (bs,obs)) 0) [4],itV 6 73 (ptr (some (bs,obs)) (((j1).toNat) * 2)) [5,3],itV 7 74 (ptr (some (bs,obs)) (((j1).toNat) * 2+0)) [6],itV 8 75 (v64 ((vg s_table ((j1).toNat)).1)) [7],itV 9 76 (v64 (((s0.2.1 >>> 4) ^^^ (vg s_folds ((s0.2.2 &&& 15#64).toNat))) ^^^ ((vg s_table ((j1).toNat)).1))) [8,1],itV 10 77 (ptr (some (b2,0)) 0) []] [] 1 (by kernel_rfl) (QP.then (QP.block (QP.then (QP.then (QP.block (QP.then QP.body)))))) (by kernel_rfl) rfl (.v rfl (V_fe underlying88 inf86) (.v rfl (V_load rfl (.o 0) rfl isAgg86) (.v rfl (V_move rfl) (.v rfl (V_move rfl) (.v rfl (V_nilCheck rfl) (.v rfl (V_fe underlying101 inf98) (.v rfl (V_idxArr (i:=((j1).toNat:Int)) rfl rfl underlying98 inf88 rfl h3.1 h3.2 (k:=((j1).toNat) * 2) (k0 _ _)) (.v rfl (V_field rfl underlying88 rfl (k:=0) rfl inf86 rfl) (.v rfl (V_load rfl (.r 0) ((get_eF (g:=fun p:BitVec 64 × BitVec 64=>[v64 p.1,v64 p.2]) (s:=2) (fun _=>rfl) s_table.toList ((j1).toNat) 0 (lt_list (toNat_lt h3.1 h3.2)) (by decide:0<2)).trans rfl) isAgg86) (.v rfl (V_bin rfl rfl (fun w=>xor64 w ((s0.2.1 >>> 4) ^^^ (vg s_folds ((s0.2.2 &&& 15#64).toNat))) ((vg s_table ((j1).toNat)).1))) (.v rfl (V_fe underlying88 inf86) .nil))))))))))) .nil (by kernel_rfl) rfl (fun γ=>?_)
    refine TA_cut [(77,ptr (some (b2,0)) 0),(76,v64 (((s0.2.1 >>> 4) ^^^ (vg s_folds ((s0.2.2 &&& 15#64).toNat))) ^^^ ((vg s_table ((j1).toNat)).1))),(0,ptr (some (bs,obs)) 0),(4,ptr (some (b1,0)) 0),(5,ptr (some (b2,0)) 0),(7,v64 j1),(28,vi s0.1)] [⟨some (b2,0),[v64 ((s0.2.1 >>> 4) ^^^ (vg s_folds ((s0.2.2 &&& 15#64).toNat)))]⟩,⟨some (b2,1),[v64 ((s0.2.2 >>> 4) ||| (s0.2.1 <<< 60))]⟩,⟨some (bs,obs+48),[v64 s_y_high]⟩,⟨some (bs,obs+49),[v64 s_y_low]⟩,⟨some (b1,0),[v64 (r_1.1 ^^^ s_y_high)]⟩,⟨some (b1,1),[v64 (r_1.2 ^^^ s_y_low)]⟩] ⟨rfl,rfl,rfl,rfl,rfl,rfl,rfl,trivial⟩ rfl ?_
    refine TA_all (rs:=[11]) (by kernel_rfl) rfl ?_
    refine ⟨?_,trivial⟩
    refine TO_n (is:=[]) (done':=dn 12 4095) rfl rfl rfl (by kernel_rfl) (E_store (j:=0) rfl rfl inf86 rfl rfl rfl (Nat.lt_succ_self 0) (cs':=[v64 (((s0.2.1 >>> 4) ^^^ (vg s_folds ((s0.2.2 &&& 15#64).toNat))) ^^^ ((vg s_table ((j1).toNat)).1))]) rfl) (fun _ _=>rfl) (fun _=>?_)
    refine TA_done (by kernel_rfl) ?_ 0
    refine TX_next ?_
    obtain ⟨h4,H⟩:=if_elim H
    refine TA_begin [] 12 (by kernel_rfl) (N:=12) rfl ?_
    refine TA_mix (is:=[]) (done':=dn 12 2047) [itV 0 78 (ptr (some (b2,1)) 0) [],itV 1 79 (v64 ((s0.2.2 >>> 4) ||| (s0.2.1 <<< 60))) [0],itV 2 80 (ptr (some (bs,obs)) 0) [],itV 3 81 (v64 j1) [],itV 4 82 (ptr (some (bs,obs)) 0) [2],itV 5 83 (ptr (some (bs,obs)) 0) [4],itV 6 84 (ptr (some (bs,obs)) (((j1).toNat) * 2)) [3,5],itV 7 85 (ptr (some (bs,obs)) (((j1).toNat) * 2+1)) [6],itV 8 86 (v64 ((vg s_table ((j1).toNat)).2)) [7],itV 9 87 (v64 (((s0.2.2 >>> 4) ||| (s0.2.1 <<< 60)) ^^^ ((vg s_table ((j1).toNat)).2))) [8,1],itV 10 88 (ptr (some (b2,1)) 0) []] [] 1 (by kernel_rfl) (QP.block (QP.then (QP.then (QP.block (QP.then QP.body))))) (by kernel_rfl) rfl (.v rfl (V_fe underlying88 inf86) (.v rfl (V_load rfl (.o 1) rfl isAgg86) (.v rfl (V_move rfl) (.v rfl (V_move rfl) (.v rfl (V_nilCheck rfl) (.v rfl (V_fe underlying101 inf98) (.v rfl (V_idxArr (i:=((j1).toNat:Int)) rfl rfl underlying98 inf88 rfl h4.1 h4.2 (k:=((j1).toNat) * 2) (k0 _ _)) (.v rfl (V_field rfl underlying88 rfl (k:=1) rfl inf86 rfl) (.v rfl (V_load rfl (.r 0) ((get_eF (g:=fun p:BitVec 64 × BitVec 64=>[v64 p.1,v64 p.2]) (s:=2) (fun _=>rfl) s_table.toList ((j1).toNat) 1 (lt_list (toNat_lt h4.1 h4.2)) (by decide:1<2)).trans rfl) isAgg86) (.v rfl (V_bin rfl rfl (fun w=>xor64 w ((s0.2.2 >>> 4) ||| (s0.2.1 <<< 60)) ((vg s_table ((j1).toNat)).2))) (.v rfl (V_fe underlying88 inf86) .nil))))))))))) .nil (by kernel_rfl) rfl (fun γ=>?_)
    refine TA_cut [(88,ptr (some (b2,1)) 0),(87,v64 (((s0.2.2 >>> 4) ||| (s0.2.1 <<< 60)) ^^^ ((vg s_table ((j1).toNat)).2))),(0,ptr (some (bs,obs)) 0),(4,ptr (some (b1,0)) 0),(5,ptr (some (b2,0)) 0),(28,vi s0.1)] [⟨some (b2,0),[v64 (((s0.2.1 >>> 4) ^^^ (vg s_folds ((s0.2.2 &&& 15#64).toNat))) ^^^ ((vg s_table ((j1).toNat)).1))]⟩,⟨some (b2,1),[v64 ((s0.2.2 >>> 4) ||| (s0.2.1 <<< 60))]⟩,⟨some (bs,obs+48),[v64 s_y_high]⟩,⟨some (bs,obs+49),[v64 s_y_low]⟩,⟨some (b1,0),[v64 (r_1.1 ^^^ s_y_high)]⟩,⟨some (b1,1),[v64 (r_1.2 ^^^ s_y_low)]⟩] ⟨rfl,rfl,rfl,rfl,rfl,rfl,trivial⟩ rfl ?_
    refine TA_all (rs:=[11]) (by kernel_rfl) rfl ?_
    refine ⟨?_,trivial⟩
    refine TO_n (is:=[]) (done':=dn 12 4095) rfl rfl rfl (by kernel_rfl) (E_store (j:=1) rfl rfl inf86 rfl rfl rfl (Nat.lt_succ_self 0) (cs':=[v64 (((s0.2.2 >>> 4) ||| (s0.2.1 <<< 60)) ^^^ ((vg s_table ((j1).toNat)).2))]) rfl) (fun _ _=>rfl) (fun _=>?_)
    refine TA_done (by kernel_rfl) ?_ 0
    refine TX_block_normal (TX_next (TC_region (TLv (V_bin rfl rfl (fun w=>addI w s0.1 1)) ?_)))
    refine TVm ?_
    refine TL_nil ?_
    obtain rfl:=sj H
    exact TXk [2,2,2,2,0,0] (hK (w64 (s0.1+1),((s0.2.1 >>> 4) ^^^ (vg s_folds ((s0.2.2 &&& 15#64).toNat))) ^^^ ((vg s_table ((j1).toNat)).1),((s0.2.2 >>> 4) ||| (s0.2.1 <<< 60)) ^^^ ((vg s_table ((j1).toNat)).2)) rfl ())
   ·intro hJ
    replace H:=Hj
    refine TCd H (fun hc H=>?_) (fun hc H=>?_)
    ·refine TC_region (TLv (V_fieldE rfl underlying88 rfl rfl inf86 rfl (v:=ptr (some (b1,0)) 0) rfl) ?_)
     refine TLv (V_load rfl (.o 2) rfl isAgg86) ?_
     refine TVm ?_
     refine TLv (V_bin rfl rfl (fun w=>remI w s0.1 16 (by decide))) ?_
     refine TLv (V_bin rfl rfl (fun w=>mulI w 4 (s0.1.tmod 16))) ?_
     obtain ⟨h5,H⟩:=if_elim H
     refine TLv (V_bin rfl rfl (fun w=>shr64 w (r_1.1 ^^^ s_y_high) .i64 (w64 (4 * (s0.1.tmod 16))) h5)) ?_
     refine TLv (V_bin rfl rfl (fun w=>and64 w ((r_1.1 ^^^ s_y_high) >>> (w64 (4 * (s0.1.tmod 16))).toNat) 15#64)) ?_
     refine TVa ?_
     obtain ⟨digit2,hdigit2,H⟩:=ltt_elim H
     refine TLr 7 (congrArg v64 hdigit2) ?_
     refine TL_nil ?_
     obtain rfl:=sj H
     exact TXj [0,0,0,0,0,0] (hJ ())
    ·refine TC_skip ?_
     obtain rfl:=sj H
     exact TXj [0,0,0,0,0,0] (hJ ())
  ·refine TC_exit (TX_then_exit (TX_then_exit ?_))
   obtain rfl:=sj H
   exact TXj [0,0,2,2] (hE (s0.2.1,s0.2.2) rfl ())
 ·intro g
  refine TX_block_exit (TX_next (TC_region (TVm ?_)))
  refine TLv (V_loadAgg (n:=2) (cs:=flat [(1,[v64 t_1.1]),(1,[v64 t_1.2])]) rfl (by simp) (SrcEnts (b:=b2) [(1,[v64 t_1.1]),(1,[v64 t_1.2])] 0 ⟨rfl,rfl,trivial⟩ (AllSrc.all (M:=ents b2 0 [(1,[v64 t_1.1]),(1,[v64 t_1.2])]) ⟨Src.own (j:=2) rfl,Src.own (j:=3) rfl,trivial⟩)) isAgg88 inf88 rfl (flat_len ⟨rfl,rfl,trivial⟩ rfl)) ?_
  refine TLv (V_nilCheck rfl) ?_
  refine TLv (V_fieldE rfl underlying101 rfl rfl inf88 rfl (v:=ptr (some (bs,obs+48)) 0) rfl) ?_
  refine TLn (E_sp (b:=bs) (o:=obs+48) [0,0] [(1,[v64 s_y_high]),(1,[v64 s_y_low])] [(1,[v64 t_1.1]),(1,[v64 t_1.2])] rfl inf88 ⟨rfl,rfl,trivial⟩ ⟨rfl,rfl,trivial⟩ ⟨(OneC.cons rfl OneC.nil),(OneC.cons rfl OneC.nil),trivial⟩) (fun _=>?_)
  refine TL_nil ?_
  obtain rfl:=sj H
  exact TX_end (rs:=[]) (vs:=[]) rfl trivial (fun w' hs'=>⟨(),rfl,Step.left (Step.pulled (is:=[0,0]) (A:=[⟨some (bs,obs+48),[v64 t_1.1]⟩,⟨some (bs,obs+49),[v64 t_1.2]⟩]) hs' rfl)⟩)
end Go.Proofs
end

section
namespace Go.Proofs
open Go Go.Kx
open TrydI Tryd
def halberdref4_times.b0  (s0:BitVec 64 × BitVec 64 × BitVec 64 × BitVec 64 × BitVec 64 × BitVec 64 × Int):Option ((BitVec 64 × BitVec 64 × BitVec 64 × BitVec 64 × BitVec 64 × BitVec 64 × Int) ⊕ (BitVec 64 × BitVec 64)) :=
 if s0.2.2.2.2.2.2<128 then ((if 63<s0.2.2.2.2.2.2 then (ltt (s0.2.1 >>> 63) fun (bit1:BitVec 64)=>(some (s0.1,s0.2.1 <<< 1,bit1))) else (some (s0.1 <<< 1,s0.2.1,s0.1 >>> 63))).bind fun (j1:BitVec 64 × BitVec 64 × BitVec 64)=>((if j1.2.2=1#64 then (ltt (s0.2.2.2.2.1 ^^^ s0.2.2.1) fun (x1:BitVec 64)=>(ltt (s0.2.2.2.2.2.1 ^^^ s0.2.2.2.1) fun (y1:BitVec 64)=>(some (x1,y1)))) else (some (s0.2.2.2.2.1,s0.2.2.2.2.2.1))).bind fun (j2:BitVec 64 × BitVec 64)=>(ltt (s0.2.2.2.1 &&& 1#64) fun (low1:BitVec 64)=>(ltt ((s0.2.2.2.1 >>> 1) ||| (s0.2.2.1 <<< 63)) fun (d1:BitVec 64)=>(ltt (s0.2.2.1 >>> 1) fun (c1:BitVec 64)=>(if low1=1#64 then (ltt (c1 ^^^ 16212958658533785600#64) fun (c2:BitVec 64)=>(ltt (w64 (s0.2.2.2.2.2.2+1)) fun (i1:Int)=>(some (.inl (j1.1,j1.2.1,c2,d1,j2.1,j2.2,i1))))) else (ltt (w64 (s0.2.2.2.2.2.2+1)) fun (i2:Int)=>(some (.inl (j1.1,j1.2.1,c1,d1,j2.1,j2.2,i2)))))))))) else (some (.inr (s0.2.2.2.2.1,s0.2.2.2.2.2.1)))
def halberdref4_times (a_:BitVec 64) (b:BitVec 64) (c:BitVec 64) (d:BitVec 64):Option (BitVec 64 × BitVec 64) :=
 (loop (halberdref4_times.b0) BIG (a_,b,c,d,0#64,0#64,0)).bind fun (t_1:BitVec 64 × BitVec 64)=>(some (t_1.1,t_1.2))
set_option maxHeartbeats 4000000 in
set_option maxRecDepth 20000 in
theorem F57_calls (a_:BitVec 64) (b:BitVec 64) (c:BitVec 64) (d:BitVec 64) (r:BitVec 64 × BitVec 64) (H:halberdref4_times a_ b c d=some r) :
  Does Tryd.prog 57 [v64 a_,v64 b,v64 c,v64 d] [] [] (Γ:=Unit) (fun g=>Value.tuple [v64 r.1,v64 r.2].toArray) (fun g=>[]):=by
 intro w hmem hro hd
 refine calls_of (N:=52) (m0:=[(0,v64 a_),(1,v64 b),(2,v64 c),(3,v64 d)]) func57 rfl ntmps57 (argM_ok [v64 a_,v64 b,v64 c,v64 d]) rfl hmem hro hd ?_
 unfold halberdref4_times at H
 refine TC_seq (TC_region (TVa ?_))
 refine TVa ?_
 refine TL_nil (TX_next (TC_seq (TC_region (TVa ?_))))
 refine TVa ?_
 refine TL_nil (TX_next (TC_seq (TC_seq (TC_region (TVa ?_)))))
 refine TL_nil (TX_next (TC_block ?_))
 obtain ⟨t_1,Hl,H⟩:=bind_elim H
 refine TC.sub (m':=[(0,_),(1,_),(2,_),(3,_),(10,_),(11,_),(12,_)]) ⟨rfl,rfl,rfl,rfl,rfl,rfl,rfl,trivial⟩ ?_
 refine TC.pull (is:=[]) (L':=[]) rfl ?_
 refine TC_loopL (id:=0) (body:=(halberdref4_times.b0)) (σ:=BitVec 64 × BitVec 64 × BitVec 64 × BitVec 64 × BitVec 64 × BitVec 64 × Int) (Γ:=Unit) (Γx:=Unit) (fun s0 g0_=>[(0,v64 s0.1),(1,v64 s0.2.1),(2,v64 s0.2.2.1),(3,v64 s0.2.2.2.1),(10,v64 s0.2.2.2.2.1),(11,v64 s0.2.2.2.2.2.1),(12,vi s0.2.2.2.2.2.2)]) (fun s0 g0_=>[]) (fun t g=>[(10,v64 t.1),(11,v64 t.2)]) (fun t g=>[]) ?_ BIG (a_,b,c,d,0#64,0#64,0) () t_1 Hl ?_
 ·intro s0 g0_ r1 H K hK hE
  unfold halberdref4_times.b0 at H
  refine TC_seq (TC_seq (TC_region (TVm ?_)))
  refine TLv (V_bin rfl rfl (fun w=>lssI w s0.2.2.2.2.2.2 128)) ?_
  refine TL_nil (TX_next (TCd H (fun hc H=>?_) (fun hc H=>?_)))
  ·refine TC_skip (TX_next (TC_seq (TC_block (TC_seq (TC_region (TVm ?_))))))
   refine TLv (V_bin rfl rfl (fun w=>shr64 w s0.1 .u64 63 (by decide))) ?_
   refine TVa ?_
   refine TL_nil (TX_next (TC_seq (TC_seq (TC_region (TVm ?_)))))
   refine TLv (V_bin rfl rfl (fun w=>gtrI w s0.2.2.2.2.2.2 63)) ?_
   refine TL_nil (TX_next ?_)
   obtain ⟨j1,Hj,H⟩:=bind_elim H
   refine TC_join (Γ:=Unit) (fun gj1=>[(0,v64 j1.1),(1,v64 j1.2.1),(2,v64 s0.2.2.1),(3,v64 s0.2.2.2.1),(10,v64 s0.2.2.2.2.1),(11,v64 s0.2.2.2.2.2.1),(12,vi s0.2.2.2.2.2.2),(13,v64 j1.2.2)]) (fun gj1=>[]) ?_ ?_
   ·intro gj1
    refine TX_next (TC_seq (TC_seq (TC_region (TVm ?_))))
    refine TLv (V_bin rfl rfl (fun w=>eql64 w j1.2.2 1#64)) ?_
    refine TL_nil (TX_next ?_)
    obtain ⟨j2,Hj,H⟩:=bind_elim H
    refine TC_join (Γ:=Unit) (fun gj2=>[(0,v64 j1.1),(1,v64 j1.2.1),(2,v64 s0.2.2.1),(3,v64 s0.2.2.2.1),(10,v64 j2.1),(11,v64 j2.2),(12,vi s0.2.2.2.2.2.2)]) (fun gj2=>[]) ?_ ?_
    ·intro gj2
     refine TX_next (TC_seq (TC_region (TVm ?_)))
     refine TLv (V_bin rfl rfl (fun w=>and64 w s0.2.2.2.1 1#64)) ?_
     refine TVa ?_
     obtain ⟨low1,hlow1,H⟩:=ltt_elim H
     refine TLr 14 (congrArg v64 hlow1) ?_
     refine TL_nil (TX_next (TC_seq (TC_region (TVm ?_))))
     refine TLv (V_bin rfl rfl (fun w=>shr64 w s0.2.2.2.1 .u64 1 (by decide))) ?_
     refine TVm ?_
     refine TLv (V_bin rfl rfl (fun w=>shl64 w s0.2.2.1 .u64 63 (by decide))) ?_
     refine TLv (V_bin rfl rfl (fun w=>or64 w (s0.2.2.2.1 >>> 1) (s0.2.2.1 <<< 63))) ?_
     refine TVa ?_
     obtain ⟨d1,hd1,H⟩:=ltt_elim H
     refine TLr 3 (congrArg v64 hd1) ?_
     refine TL_nil (TX_next (TC_seq (TC_region (TVm ?_))))
     refine TLv (V_bin rfl rfl (fun w=>shr64 w s0.2.2.1 .u64 1 (by decide))) ?_
     refine TVa ?_
     obtain ⟨c1,hc1,H⟩:=ltt_elim H
     refine TLr 2 (congrArg v64 hc1) ?_
     refine TL_nil (TX_next (TC_seq (TC_region (TVm ?_))))
     refine TLv (V_bin rfl rfl (fun w=>eql64 w low1 1#64)) ?_
     refine TL_nil (TX_next (TCd H (fun hc H=>?_) (fun hc H=>?_)))
     ·refine TC_region (TVm ?_)
      refine TLv (V_bin rfl rfl (fun w=>xor64 w c1 16212958658533785600#64)) ?_
      refine TVa ?_
      obtain ⟨c2,hc2,H⟩:=ltt_elim H
      refine TLr 2 (congrArg v64 hc2) ?_
      refine TL_nil (TX_block_normal (TX_next (TC_region (TVm ?_))))
      refine TLv (V_bin rfl rfl (fun w=>addI w s0.2.2.2.2.2.2 1)) ?_
      refine TVa ?_
      obtain ⟨i1,hi1,H⟩:=ltt_elim H
      refine TLr 12 (congrArg vi hi1) ?_
      refine TL_nil ?_
      obtain rfl:=sj H
      exact TXk [] (hK (j1.1,j1.2.1,c2,d1,j2.1,j2.2,i1) rfl ())
     ·refine TC_skip (TX_block_normal (TX_next (TC_region (TVm ?_))))
      refine TLv (V_bin rfl rfl (fun w=>addI w s0.2.2.2.2.2.2 1)) ?_
      refine TVa ?_
      obtain ⟨i2,hi2,H⟩:=ltt_elim H
      refine TLr 12 (congrArg vi hi2) ?_
      refine TL_nil ?_
      obtain rfl:=sj H
      exact TXk [] (hK (j1.1,j1.2.1,c1,d1,j2.1,j2.2,i2) rfl ())
    ·intro hJ
     replace H:=Hj
     refine TCd H (fun hc H=>?_) (fun hc H=>?_)
     ·refine TC_seq (TC_region (TVm ?_))
      refine TVm ?_
      refine TLv (V_bin rfl rfl (fun w=>xor64 w s0.2.2.2.2.1 s0.2.2.1)) ?_
      refine TVa ?_
      obtain ⟨x1,hx1,H⟩:=ltt_elim H
      refine TLr 10 (congrArg v64 hx1) ?_
      refine TL_nil (TX_next (TC_region (TVm ?_)))
      refine TVm ?_
      refine TLv (V_bin rfl rfl (fun w=>xor64 w s0.2.2.2.2.2.1 s0.2.2.2.1)) ?_
      refine TVa ?_
      obtain ⟨y1,hy1,H⟩:=ltt_elim H
      refine TLr 11 (congrArg v64 hy1) ?_
      refine TL_nil ?_
      obtain rfl:=sj H
      exact TXj [] (hJ ())
     ·refine TC_skip ?_
      obtain rfl:=sj H
      exact TXj [] (hJ ())
   ·intro hJ
    replace H:=Hj
    refine TCd H (fun hc H=>?_) (fun hc H=>?_)
    ·refine TC_seq (TC_region (TVm ?_))
     refine TLv (V_bin rfl rfl (fun w=>shr64 w s0.2.1 .u64 63 (by decide))) ?_
     refine TVa ?_
     obtain ⟨bit1,hbit1,H⟩:=ltt_elim H
     refine TLr 13 (congrArg v64 hbit1) ?_
     refine TL_nil (TX_next (TC_region (TVm ?_)))
     refine TLv (V_bin rfl rfl (fun w=>shl64 w s0.2.1 .u64 1 (by decide))) ?_
     refine TVa ?_
     refine TL_nil ?_
     obtain rfl:=sj H
     exact TXj [] (hJ ())
    ·refine TC_region (TVm ?_)
     refine TLv (V_bin rfl rfl (fun w=>shl64 w s0.1 .u64 1 (by decide))) ?_
     refine TVa ?_
     refine TL_nil ?_
     obtain rfl:=sj H
     exact TXj [] (hJ ())
  ·refine TC_exit (TX_then_exit (TX_then_exit ?_))
   obtain rfl:=sj H
   exact TXj [] (hE (s0.2.2.2.2.1,s0.2.2.2.2.2.1) rfl ())
 ·intro g
  refine TX_block_exit (TX_next (TC_seq (TC_region (TVm ?_))))
  refine TVm ?_
  refine TVa ?_
  refine TVa ?_
  refine TL_nil (TX_next (TC_ret ?_))
  obtain rfl:=sj H
  exact TX2
end Go.Proofs
end

section
namespace Go.Proofs
open Go Go.Kx
abbrev E2:=BitVec 64 × BitVec 64
def xr (a b:E2):E2:=(a.1 ^^^ b.1,a.2 ^^^ b.2)
def z2:E2:=(0#64,0#64)
theorem xr_comm (a b:E2):xr a b=xr b a:=by simp [xr,BitVec.xor_comm]
theorem xr_assoc (a b c:E2):xr (xr a b) c=xr a (xr b c):=by simp [xr,BitVec.xor_assoc]
theorem xr_zero (a:E2):xr a z2=a:=by simp [xr,z2]
theorem zero_xr (a:E2):xr z2 a=a:=by simp [xr,z2]
def half (e:E2):E2:=((e.1 >>> 1) ^^^ (16212958658533785600#64 &&& (-(e.2 &&& 1#64))),(e.2 >>> 1) ||| (e.1 <<< 63))
theorem half_eq (a b:BitVec 64):gcm_element_half a b=some (half (a,b)):=rfl
theorem or_xor63 (x y:BitVec 64):(x >>> 1) ||| (y <<< 63)=(x >>> 1) ^^^ (y <<< 63):=by
 apply BitVec.eq_of_getLsbD_eq
 intro i hi
 simp only [BitVec.getLsbD_or,BitVec.getLsbD_xor,BitVec.getLsbD_ushiftRight,BitVec.getLsbD_shiftLeft]
 by_cases h:i<63
 ·simp [h]
 ·have:i=63:=by omega
  subst this
  simp
theorem and1 (x:BitVec 64):x &&& 1#64=if x.getLsbD 0 then 1#64 else 0#64:=by
 rw [BitVec.and_one_eq_setWidth_ofBool_getLsbD]
 cases x.getLsbD 0 <;> rfl
theorem mask_xor (c x y:BitVec 64):c &&& (-((x ^^^ y) &&& 1#64))=(c &&& (-(x &&& 1#64))) ^^^ (c &&& (-(y &&& 1#64))):=by
 rw [and1,and1,and1,BitVec.getLsbD_xor]
 cases x.getLsbD 0 <;> cases y.getLsbD 0 <;> simp
theorem half_xr (a b:E2):half (xr a b)=xr (half a) (half b):=by
 unfold half xr
 refine Prod.ext ?_ ?_
 ·simp only
  rw [BitVec.ushiftRight_xor_distrib,mask_xor]
  simp only [BitVec.xor_assoc]
  rw [← BitVec.xor_assoc (b.1 >>> 1),BitVec.xor_comm (b.1 >>> 1),BitVec.xor_assoc]
 ·simp only
  rw [or_xor63,or_xor63,or_xor63,BitVec.ushiftRight_xor_distrib,BitVec.shiftLeft_xor_distrib]
  simp only [BitVec.xor_assoc]
  rw [← BitVec.xor_assoc (b.2 >>> 1),BitVec.xor_comm (b.2 >>> 1),BitVec.xor_assoc]
theorem half_zero:half z2=z2:=by decide
def hp:Nat → E2 → E2
 | 0,e=>e
 | n+1,e=>half (hp n e)
theorem hp_xr (a b:E2) : ∀ n,hp n (xr a b)=xr (hp n a) (hp n b)
 | 0=>rfl
 | n+1=>by simp only [hp]; rw [hp_xr a b n,half_xr]
def sel (b:Bool) (e:E2):E2:=if b then e else z2
theorem half_sel (b:Bool) (e:E2):half (sel b e)=sel b (half e):=by cases b <;> simp [sel,half_zero]
def bitE (a:E2) (i:Nat):Bool:=if i<64 then a.1.getLsbD (63 - i) else a.2.getLsbD (127 - i)
def SS (a h:E2):Nat → Nat → E2
 | m,0=>z2
 | m,n+1=>xr (sel (bitE a m) h) (half (SS a h (m+1) n))
def prod (a h:E2):E2:=SS a h 0 128
theorem SS_last (a h:E2) : ∀ n m,SS a h m (n+1)=xr (SS a h m n) (sel (bitE a (m+n)) (hp n h))
 | 0,m=>by simp [SS,half_zero,xr_zero,zero_xr,hp]
 | n+1,m=>by
  show xr (sel (bitE a m) h) (half (SS a h (m+1) (n+1)))=_
  rw [SS_last a h n (m+1),half_xr,half_sel, ← xr_assoc]
  have:m+1+n=m+(n+1):=by omega
  rw [this]
  rfl
theorem ushr63 (x:BitVec 64):(x >>> 63=1#64) ↔ x.getLsbD 63=true:=by
 have hx:=x.isLt
 have:x.getLsbD 63=decide (x.toNat / 2 ^ 63 % 2=1):=by rw [← BitVec.testBit_toNat,Nat.testBit_eq_decide_div_mod_eq]
 rw [this,decide_eq_true_iff]
 constructor
 ·intro h
  have:=congrArg BitVec.toNat h
  simp only [BitVec.toNat_ushiftRight,Nat.shiftRight_eq_div_pow,BitVec.toNat_ofNat] at this
  omega
 ·intro h
  apply BitVec.eq_of_toNat_eq
  simp only [BitVec.toNat_ushiftRight,Nat.shiftRight_eq_div_pow,BitVec.toNat_ofNat]
  omega
theorem shl_bit (x:BitVec 64) (i:Nat) (h:i<64):(x <<< i).getLsbD 63=x.getLsbD (63 - i):=by
 rw [BitVec.getLsbD_shiftLeft]
 simp [show ¬ 63<i by omega]
theorem times_eq (a h:E2):halberdref4_times a.1 a.2 h.1 h.2=some (prod a h):=by
 unfold halberdref4_times
 refine bind_i (v:=prod a h) (loop_fn (fun i=>(a.1 <<< (min i 64),a.2 <<< (i - 64),(hp i h).1,(hp i h).2,(SS a h 0 i).1,(SS a h 0 i).2,(i:Int))) 128 _ (by omega) (by simp [hp,SS,z2]) (fun i hi=>?_) ?_) rfl
 ·have e1:w64 ((i:Int)+1)=((i+1:Nat):Int):=w64_add (b:=1) (by omega)
  unfold halberdref4_times.b0
  simp only [e1]
  clear e1
  refine if_i (by omega) (bind_i (v:=(a.1 <<< (min (i+1) 64),a.2 <<< (i+1 - 64),if i<64 then (a.1 <<< (min i 64)) >>> 63 else (a.2 <<< (i - 64)) >>> 63)) ?_ ?_)
  ·by_cases c:63<i
   ·refine if_i (by omega) (ltt_i fun b hb=>?_)
    have h1:i+1 - 64=(i - 64)+1:=by omega
    rw [hb,if_neg (by omega),show min i 64=64 by omega,show min (i+1) 64=64 by omega,h1,BitVec.shiftLeft_add]
   ·refine if_n (by omega) ?_
    rw [if_pos (by omega),show min i 64=i by omega,show min (i+1) 64=i+1 by omega,show i+1 - 64=0 by omega,show i - 64=0 by omega,BitVec.shiftLeft_add]
  ·have hbit:((if i<64 then (a.1 <<< (min i 64)) >>> 63 else (a.2 <<< (i - 64)) >>> 63)=1#64) ↔ bitE a i=true:=by
    unfold bitE
    by_cases c:i<64
    ·rw [if_pos c,if_pos c,ushr63,show min i 64=i by omega,shl_bit _ _ c]
    ·rw [if_neg c,if_neg c,ushr63,shl_bit _ _ (by omega),show 63 - (i - 64)=127 - i by omega]
   have hS:SS a h 0 (i+1)=xr (SS a h 0 i) (sel (bitE a i) (hp i h)):=by
    have:=SS_last a h i 0
    rwa [Nat.zero_add] at this
   refine bind_i (v:=SS a h 0 (i+1)) ?_ ?_
   ·by_cases c:bitE a i=true
    ·refine if_i (hbit.2 c) (ltt_i fun x hx=>ltt_i fun y hy=>?_)
     rw [hx,hy,hS,c]; rfl
    ·refine if_n (fun h=>c (hbit.1 h)) ?_
     have:bitE a i=false:=by simpa using c
     rw [hS,this]
     simp [sel,xr_zero]
   ·refine ltt_i fun l hl=>ltt_i fun d hd=>ltt_i fun c hc=>?_
    have hlow:half (hp i h)=(((hp i h).1 >>> 1) ^^^ (16212958658533785600#64 &&& (-((hp i h).2 &&& 1#64))),((hp i h).2 >>> 1) ||| ((hp i h).1 <<< 63)):=rfl
    have hh:hp (i+1) h=half (hp i h):=rfl
    rw [and1] at hl hlow
    by_cases c1:(hp i h).2.getLsbD 0=true
    ·rw [if_pos c1] at hl hlow
     refine if_i hl (ltt_i fun c2 hc2=>ltt_i fun j hj=>?_)
     rw [hj,hc2,hc,hd,hh,hlow]
     rfl
    ·rw [if_neg c1] at hl hlow
     refine if_n (by rw [hl]; decide) (ltt_i fun j hj=>?_)
     rw [hj,hc,hd,hh,hlow]
     simp
 ·exact if_n (by show ¬ (((128:Nat):Int)<128); omega) rfl
def tabF (h:E2) (i:Nat):Nat → E2
 | 0=>z2
 | k+1=>xr (tabF h i k) (sel (i.testBit (3 - k)) (hp k h))
def tabV (h:E2) (k:Nat):Vector E2 16:=Vector.ofFn fun i=>tabF h i.val k
def foldV:Vx 64 16:=Vector.ofFn fun i=>(hp 4 (0#64,BitVec.ofNat 64 i.val)).1
theorem bit_iop : ∀ i:Fin 16, ∀ k:Fin 4,decide (iop (· &&& ·) (i.val:Int) ((8 / 2 ^ k.val:Nat):Int) ≠ 0)=i.val.testBit (3 - k.val):=by decide +kernel
theorem gsum_b1 (h:E2) (k:Nat) (hk:k<4):loop (gcm_newSum.b1 (((8 / 2 ^ k:Nat):Int),tabV h k,(hp k h).1,(hp k h).2)) BIG (0,tabV h k)=some (tabV h (k+1)):=by
 refine loop_fill _ (fun i=>tabF h i (k+1)) id (by omega) (fun i v hi hv=>?_) (fun v=>?_)
 ·have e1:w64 ((i:Int)+1)=((i+1:Nat):Int):=w64_add (b:=1) (by omega)
  have hb:=bit_iop ⟨i,hi⟩ ⟨k,hk⟩
  dsimp only at hb
  have hvi:vg v i=tabF h i k:=by rw [hv i (Nat.le_refl _) hi,tabV,vg_ofFn hi]
  unfold gcm_newSum.b1
  simp only [e1,Int.toNat_natCast]
  clear e1
  refine if_i (by omega) ?_
  by_cases c:i.testBit (3 - k)=true
  ·rw [c,decide_eq_true_iff] at hb
   refine if_i hb (if_i (by omega) (if_i (by omega) (ltt_i fun m hm=>if_i (by omega) (if_i (by omega) (ltt_i fun m2 hm2=>?_)))))
   have:m2=vp v i (tabF h i (k+1)):=by
    rw [hm2,hm,vg_vp hi hi,if_pos rfl,hvi]
    refine vec_ext fun j hj=>?_
    rw [vg_vp hi hj,vg_vp hi hj,vg_vp hi hj]
    by_cases cj:i=j
    ·rw [if_pos cj,if_pos cj]
     simp only [tabF,c,sel,xr]; rfl
    ·rw [if_neg cj,if_neg cj,if_neg cj]
   rw [this]
  ·have cf:i.testBit (3 - k)=false:=by simpa using c
   rw [cf,decide_eq_false_iff_not] at hb
   refine if_n hb ?_
   have:v=vp v i (tabF h i (k+1)):=by
    refine vec_ext fun j hj=>?_
    rw [vg_vp hi hj]
    by_cases cj:i=j
    ·rw [if_pos cj, ← cj,hvi]
     simp [tabF,cf,sel,xr_zero]
    ·rw [if_neg cj]
   rw [← this]
 ·unfold gcm_newSum.b1
  exact if_n (by omega) rfl
theorem gsum_b3 (i:Nat) (hi:i<16):loop (gcm_newSum.b3) BIG (0,0#64,BitVec.ofInt 64 (i:Int))=some (hp 4 (0#64,BitVec.ofNat 64 i)):=by
 refine loop_fn (fun k=>((k:Int),(hp k (0#64,BitVec.ofNat 64 i)).1,(hp k (0#64,BitVec.ofNat 64 i)).2)) 4 _ (by omega) (by simp [hp,BitVec.ofInt_natCast]) (fun k hk=>?_) ?_
 ·have e1:w64 ((k:Int)+1)=((k+1:Nat):Int):=w64_add (b:=1) (by omega)
  unfold gcm_newSum.b3
  simp only [e1]
  refine if_i (by omega) (bind_i (half_eq _ _) rfl)
 ·exact if_n (by show ¬ (((4:Nat):Int)<4); omega) rfl
theorem newSum_eq (h:E2):gcm_newSum h.1 h.2=some (tabV h 4,foldV):=by
 unfold gcm_newSum
 refine bind_i (v:=tabV h 4) (loop_fn (fun k=>(((8 / 2 ^ k:Nat):Int),tabV h k,(hp k h).1,(hp k h).2)) 4 _ (by omega) ?_ (fun k hk=>?_) ?_) (bind_i (v:=foldV) ?_ rfl)
 ·refine Prod.ext rfl (Prod.ext ?_ rfl)
  refine vec_ext fun i hi=>?_
  rw [vg_eq' hi]
  simp only [Vector.getElem_replicate]
  show _=vg (tabV h 0) i
  rw [tabV,vg_ofFn hi]; rfl
 ·have e1:w64 (((8 / 2 ^ k:Nat):Int).tdiv 2)=((8 / 2 ^ (k+1):Nat):Int):=by
   have:=w64_div (a:=8 / 2 ^ k) (b:=2) (by have:=Nat.div_le_self 8 (2 ^ k); omega)
   rw [Nat.div_div_eq_div_mul, ← Nat.pow_succ] at this
   exact this
  have hpos:0<8 / 2 ^ k:=by
   rcases k with _ | _ | _ | _ | k <;> first | decide | omega
  unfold gcm_newSum.b0
  simp only [e1]
  refine if_i (by omega) (bind_i (gsum_b1 h k hk) (bind_i (half_eq _ _) (ltt_i fun b hb=>?_)))
  rw [hb]; rfl
 ·exact if_n (by show ¬ (0:Int)<((8 / 2 ^ 4:Nat):Int); decide) rfl
 ·refine loop_fill _ (fun i=>(hp 4 (0#64,BitVec.ofNat 64 i)).1) id (by omega) (fun i v hi hv=>?_) (fun v=>?_)
  ·have e1:w64 ((i:Int)+1)=((i+1:Nat):Int):=w64_add (b:=1) (by omega)
   unfold gcm_newSum.b2
   simp only [e1,Int.toNat_natCast]
   refine if_i (by omega) (bind_i (gsum_b3 i hi) (if_i (by omega) (ltt_i fun m hm=>?_)))
   rw [hm]
  ·unfold gcm_newSum.b2
   exact if_n (by omega) rfl
theorem fold0 : ∀ i:Fin 16,(hp 4 (0#64,BitVec.ofNat 64 i.val)).2=0#64:=by decide +kernel
theorem half_even (a b:BitVec 64) (h:b.getLsbD 0=false):half (a,b)=(a >>> 1,(b >>> 1) ||| (a <<< 63)):=by
 unfold half
 simp only
 rw [and1,h]
 simp
theorem hp4_even (a b:BitVec 64) (h : ∀ i,i<4 → b.getLsbD i=false):hp 4 (a,b)=(a >>> 4,(b >>> 4) ||| (a <<< 60)):=by
 have h1:half (a,b)=(a >>> 1,(b >>> 1) ||| (a <<< 63)):=half_even a b (h 0 (by decide))
 have h2:half (a >>> 1,(b >>> 1) ||| (a <<< 63))=(a >>> 1 >>> 1,(((b >>> 1) ||| (a <<< 63)) >>> 1) ||| ((a >>> 1) <<< 63)):=half_even _ _ (by simpa [BitVec.getLsbD_ushiftRight] using h 1 (by decide))
 have h3:half (a >>> 1 >>> 1,(((b >>> 1) ||| (a <<< 63)) >>> 1) ||| ((a >>> 1) <<< 63))=(a >>> 1 >>> 1 >>> 1,(((((b >>> 1) ||| (a <<< 63)) >>> 1) ||| ((a >>> 1) <<< 63)) >>> 1) ||| ((a >>> 1 >>> 1) <<< 63)):=half_even _ _ (by simpa [BitVec.getLsbD_ushiftRight] using h 2 (by decide))
 have h4:half (a >>> 1 >>> 1 >>> 1,(((((b >>> 1) ||| (a <<< 63)) >>> 1) ||| ((a >>> 1) <<< 63)) >>> 1) ||| ((a >>> 1 >>> 1) <<< 63))=(a >>> 1 >>> 1 >>> 1 >>> 1,(((((((b >>> 1) ||| (a <<< 63)) >>> 1) ||| ((a >>> 1) <<< 63)) >>> 1) ||| ((a >>> 1 >>> 1) <<< 63)) >>> 1) ||| ((a >>> 1 >>> 1 >>> 1) <<< 63)):=half_even _ _ (by simpa [BitVec.getLsbD_ushiftRight] using h 3 (by decide))
 show half (half (half (half (a,b))))=_
 rw [h1,h2,h3,h4]
 refine Prod.ext ?_ ?_
 ·simp only [← BitVec.shiftRight_add]
 ·simp only
  apply BitVec.eq_of_getLsbD_eq
  intro i hi
  simp only [BitVec.getLsbD_or,BitVec.getLsbD_ushiftRight,BitVec.getLsbD_shiftLeft]
  rcases (by omega:i<60 ∨ i=60 ∨ i=61 ∨ i=62 ∨ i=63) with c | c | c | c | c
  ·have e:1+(1+(1+(1+i)))=4+i:=by omega
   simp [e,c,show i<63 by omega,show 1+i<63 by omega,show 1+(1+i)<63 by omega,show 1+(1+(1+i))<63 by omega]
  all_goals (subst c; simp)
theorem hp4_eq (z:E2):hp 4 z=((z.1 >>> 4) ^^^ vg foldV ((z.2 &&& 15#64).toNat),(z.2 >>> 4) ||| (z.1 <<< 60)):=by
 have hv:(z.2 &&& 15#64).toNat<16:=by
  rw [BitVec.toNat_and]
  exact Nat.lt_of_le_of_lt Nat.and_le_right (by decide)
 have hz:z=xr (z.1,z.2 &&& ~~~15#64) (0#64,z.2 &&& 15#64):=by
  unfold xr
  refine Prod.ext (by simp) ?_
  simp only
  apply BitVec.eq_of_getLsbD_eq
  intro i hi
  simp only [BitVec.getLsbD_xor,BitVec.getLsbD_and,BitVec.getLsbD_not,hi,decide_true,Bool.true_and]
  cases z.2.getLsbD i <;> cases (15#64).getLsbD i <;> rfl
 have he : ∀ i,i<4 → (z.2 &&& ~~~15#64).getLsbD i=false:=by
  intro i hi
  rw [BitVec.getLsbD_and]
  have:(~~~15#64).getLsbD i=false:=by
   rcases i with _ | _ | _ | _ | i <;> first | decide | omega
  rw [this,Bool.and_false]
 have h1:=hp4_even z.1 (z.2 &&& ~~~15#64) he
 have h2:hp 4 (0#64,z.2 &&& 15#64)=(vg foldV ((z.2 &&& 15#64).toNat),0#64):=by
  have hn:z.2 &&& 15#64=BitVec.ofNat 64 ((z.2 &&& 15#64).toNat):=by simp
  have:=fold0 ⟨_,hv⟩
  dsimp only at this
  rw [foldV,vg_ofFn hv]
  refine Prod.ext ?_ ?_
  ·simp only; rw [← hn]
  ·simp only; rw [hn]; exact this
 rw [hz,hp_xr,h1,h2, ← hz]
 unfold xr
 refine Prod.ext rfl ?_
 simp only [BitVec.xor_zero]
 congr 1
 apply BitVec.eq_of_getLsbD_eq
 intro i hi
 simp only [BitVec.getLsbD_ushiftRight,BitVec.getLsbD_and,BitVec.getLsbD_not]
 by_cases c:4+i<64
 ·have:(15#64).getLsbD (4+i)=false:=by
   show (BitVec.ofNat 64 15).getLsbD (4+i)=false
   rw [BitVec.getLsbD_ofNat,Nat.testBit_lt_two_pow (Nat.lt_of_lt_of_le (by decide:15<2 ^ 4) (Nat.pow_le_pow_right (by decide) (by omega)))]
   simp
  simp only [c,decide_true,Bool.true_and,this,Bool.not_false,Bool.and_true]
 ·rw [BitVec.getLsbD_of_ge z.2 (4+i) (by omega)]; simp
theorem SS4 (a h:E2) (m n:Nat):SS a h m (n+4)=xr (xr (xr (xr (xr z2 (sel (bitE a m) (hp 0 h))) (sel (bitE a (m+1)) (hp 1 h))) (sel (bitE a (m+2)) (hp 2 h))) (sel (bitE a (m+3)) (hp 3 h))) (hp 4 (SS a h (m+4) n)):=by
 simp only [SS,hp,half_xr,half_sel,zero_xr,xr_assoc]
end Go.Proofs
end

section
namespace Go.Proofs
open Go Go.Kx
open TrydI Tryd
def halberdref1_Be.b0 (size:Int) (s0:Int × Int × List (BitVec 8)):Option ((Int × Int × List (BitVec 8)) ⊕ (List (BitVec 8))) :=
 if 0≤s0.2.1 then (if 0≤s0.2.1∧s0.2.1<((size).toNat:Int) then (if (s0.2.1).toNat<(s0.2.2).length then (ltt (s0.2.2.set ((s0.2.1).toNat) (BitVec.ofInt 8 (iop (· &&& ·) s0.1 255))) fun (m_1:List (BitVec 8))=>(ltt (w64 (s0.2.1 - 1)) fun (i2:Int)=>(some (.inl (shrI' s0.1 8,i2,m_1))))) else none) else none) else (some (.inr s0.2.2))
def halberdref1_Be (x:Int) (size:Int):Option (Str) :=
 if 0≤size∧size≤17592186044416 then (ltt (w64 (size - 1)) fun (i1:Int)=>((loop (halberdref1_Be.b0 size) BIG (x,i1,List.replicate ((size).toNat) 0#8)).bind fun (t_1:List (BitVec 8))=>(if (t_1).length=(size).toNat then (some t_1) else none))) else none
set_option maxHeartbeats 4000000 in
set_option maxRecDepth 20000 in
theorem F18_calls (x:Int) (size:Int) (r:Str) (H:halberdref1_Be x size=some r) :
  Does Tryd.prog 18 [vi x,vi size] [] [] (Γ:=Unit) (fun g=>vs r) (fun g=>[]):=by
 intro w hmem hro hd
 refine calls_of (N:=25) (m0:=[(0,vi x),(1,vi size)]) func18 rfl ntmps18 (argM_ok [vi x,vi size]) rfl hmem hro hd ?_
 unfold halberdref1_Be at H
 refine TC_seq (TC_region (TVa ?_))
 refine TL_nil (TX_next (TC_seq (TC_region (TVm ?_))))
 obtain ⟨h1,H⟩:=if_elim H
 refine TLe (E_mk1 rfl rfl underlying40 inf5 (z:=v8 0#8) rfl rfl rfl (B:=1) rfl h1.1 (Int.le_refl _) (mk_b 1 rfl h1) (mk_c h1) (n':=(size).toNat) (c':=(size).toNat) rfl rfl (cs:=e8 (List.replicate ((size).toNat) 0#8)) (rep_map (f:=v8))) (fun b1=>?_)
 refine TVa ?_
 refine TL_nil (TX_next (TC_seq (TC_seq (TC_region (TVm ?_)))))
 refine TLv (V_bin rfl rfl (fun w=>subI w size 1)) ?_
 refine TVa ?_
 obtain ⟨i1,hi1,H⟩:=ltt_elim H
 refine TLr 6 (congrArg vi hi1) ?_
 refine TL_nil (TX_next (TC_block ?_))
 obtain ⟨t_1,Hl,H⟩:=bind_elim H
 refine TC.sub (m':=[(0,_),(5,_),(6,_)]) ⟨rfl,rfl,rfl,trivial⟩ ?_
 refine TC.pull (is:=[0]) (L':=[_]) rfl ?_
 refine TC_loopL (id:=0) (body:=(halberdref1_Be.b0 size)) (σ:=Int × Int × List (BitVec 8)) (Γ:=Unit) (Γx:=Unit) (fun s0 g0_=>[(0,vi s0.1),(5,sl (some (b1,0)) ((size).toNat) ((size).toNat)),(6,vi s0.2.1)]) (fun s0 g0_=>[⟨some (b1,0),e8 s0.2.2⟩]) (fun t g=>[(5,sl (some (b1,0)) ((size).toNat) ((size).toNat))]) (fun t g=>[⟨some (b1,0),e8 t⟩]) ?_ BIG (x,i1,List.replicate ((size).toNat) 0#8) () t_1 Hl ?_
 ·intro s0 g0_ r1 H K hK hE
  unfold halberdref1_Be.b0 at H
  refine TC_seq (TC_seq (TC_region (TVm ?_)))
  refine TLv (V_bin rfl rfl (fun w=>geqI w s0.2.1 0)) ?_
  refine TL_nil (TX_next (TCd H (fun hc H=>?_) (fun hc H=>?_)))
  ·refine TC_skip (TX_next (TC_seq (TC_block (TC_seq (TC_region (TVm ?_))))))
   refine TVm ?_
   refine TVm ?_
   refine TLv (V_bin rfl rfl (fun w=>andI w s0.1 255)) ?_
   refine TLv (V_conv rfl (fun w=>cvI8 w _ _ underlying5 (und3) .i64 (iop (· &&& ·) s0.1 255))) ?_
   obtain ⟨h2,H⟩:=if_elim H
   obtain ⟨h3,H⟩:=if_elim H
   refine TLv (V_idxSl (i:=s0.2.1) rfl rfl underlying40 inf5 rfl (fun _ h=>by cases h) h2.1 h2.2 (k:=(s0.2.1).toNat) (km1 _)) ?_
   refine TLn (E_store (j:=0) rfl rfl inf5 rfl rfl rfl (by simpa using h3) (cs':=e8 (s0.2.2.set ((s0.2.1).toNat) (BitVec.ofInt 8 (iop (· &&& ·) s0.1 255)))) (set_map (f:=v8) (l:=s0.2.2) (k:=((s0.2.1).toNat)) (x:=(BitVec.ofInt 8 (iop (· &&& ·) s0.1 255))))) (fun _=>?_)
   obtain ⟨m_1,hm_1,H⟩:=ltt_elim H
   refine TL_reE (j:=0) (A:=some (b1,0)) (cs:=e8 (s0.2.2.set ((s0.2.1).toNat) (BitVec.ofInt 8 (iop (· &&& ·) s0.1 255)))) (cs':=e8 m_1) rfl (congrArg (e8) hm_1) ?_
   refine TL_nil (TX_next (TC_region (TVm ?_)))
   refine TLv (V_bin rfl rfl (fun w=>shrI w s0.1 .u64 8 (by decide))) ?_
   refine TVa ?_
   refine TL_nil (TX_block_normal (TX_next (TC_region (TVm ?_))))
   refine TLv (V_bin rfl rfl (fun w=>subI w s0.2.1 1)) ?_
   refine TVa ?_
   obtain ⟨i2,hi2,H⟩:=ltt_elim H
   refine TLr 6 (congrArg vi hi2) ?_
   refine TL_nil ?_
   obtain rfl:=sj H
   exact TXk [0] (hK (shrI' s0.1 8,i2,m_1) rfl ())
  ·refine TC_exit (TX_then_exit (TX_then_exit ?_))
   obtain rfl:=sj H
   exact TXj [0] (hE s0.2.2 rfl ())
 ·intro g
  refine TX_block_exit (TX_next (TC_seq (TC_region (TVm ?_))))
  obtain ⟨h4,H⟩:=if_elim H
  refine TLv (V_b2s rfl underlying40 underlying5 underlying9 (.o 0) h4) ?_
  refine TVa ?_
  refine TL_nil (TX_next (TC_ret ?_))
  obtain rfl:=sj H
  exact TX1
end Go.Proofs
end

/-
  Part 19 of the proof of what several laws share.
-/
import Derived.Test.YtiofnmmggblcgaaEsC1
import Derived.Test.YtiofnmmggblcgaaEsC2
import Derived.Test.YtiofnmmggblcgaaEsC3
import Derived.Test.YtiofnmmggblcgaaEsC4
import Derived.Test.YtiofnmmggblcgaaEsC5
import Derived.Test.YtiofnmmggblcgaaEsC6
import Derived.Test.YtiofnmmggblcgaaEsC8
import Derived.Test.YtiofnmmggblcgaaEsC9
import Derived.Test.YtiofnmmggblcgaaEsC11
set_option linter.unusedVariables false
set_option linter.unusedSimpArgs false
section
namespace Go.Proofs
open Go Go.Kx
open Vector (replicate)
open TryI Try
def halberdref9_twice (p_X:Vx 32 8) (p_Y:Vx 32 8) (p_Z:Vx 32 8):Option (Vx 32 8 × Vx 32 8 × Vx 32 8) :=
 if p_Z=(replicate 8 0#32:Vx 32 8) then (some (p_X,p_Y,p_Z)) else ((halberdref9_mont 0 p_Y p_Y).bind fun (r_1:Vx 32 8)=>((halberdref9_mont 0 p_X r_1).bind fun (r_2:Vx 32 8)=>((halberdref9_add 0 r_2 r_2).bind fun (r_3:Vx 32 8)=>((halberdref9_add 0 r_3 r_3).bind fun (r_4:Vx 32 8)=>((halberdref9_mont 0 p_Z p_Z).bind fun (r_5:Vx 32 8)=>((halberdref9_sub 0 p_X r_5).bind fun (r_6:Vx 32 8)=>((halberdref9_add 0 p_X r_5).bind fun (r_7:Vx 32 8)=>((halberdref9_mont 0 r_6 r_7).bind fun (r_8:Vx 32 8)=>((halberdref9_add 0 r_8 r_8).bind fun (r_9:Vx 32 8)=>((halberdref9_add 0 r_8 r_9).bind fun (r_10:Vx 32 8)=>((halberdref9_mont 0 r_10 r_10).bind fun (r_11:Vx 32 8)=>((halberdref9_add 0 r_4 r_4).bind fun (r_12:Vx 32 8)=>((halberdref9_sub 0 r_11 r_12).bind fun (r_13:Vx 32 8)=>((halberdref9_mont 0 r_1 r_1).bind fun (r_14:Vx 32 8)=>((halberdref9_add 0 r_14 r_14).bind fun (r_15:Vx 32 8)=>((halberdref9_add 0 r_15 r_15).bind fun (r_16:Vx 32 8)=>((halberdref9_add 0 r_16 r_16).bind fun (r_17:Vx 32 8)=>((halberdref9_mont 0 p_Y p_Z).bind fun (r_18:Vx 32 8)=>((halberdref9_sub 0 r_4 r_13).bind fun (r_19:Vx 32 8)=>((halberdref9_mont 0 r_10 r_19).bind fun (r_20:Vx 32 8)=>((halberdref9_sub 0 r_20 r_17).bind fun (r_21:Vx 32 8)=>((halberdref9_add 0 r_18 r_18).bind fun (r_22:Vx 32 8)=>(some (r_13,r_21,r_22))))))))))))))))))))))))
set_option maxHeartbeats 4000000 in
set_option maxRecDepth 20000 in
theorem F76_calls (p_X:Vx 32 8) (p_Y:Vx 32 8) (p_Z:Vx 32 8) (r:Vx 32 8 × Vx 32 8 × Vx 32 8) (H:halberdref9_twice p_X p_Y p_Z=some r) :
  Does Try.prog 76 [aG [(8,e32 p_X.toList),(8,e32 p_Y.toList),(8,e32 p_Z.toList)]] [] [] (Γ:=Unit) (fun g=>aG [(8,e32 r.1.toList),(8,e32 r.2.1.toList),(8,e32 r.2.2.toList)]) (fun g=>[]):=by
 intro w hmem hro hd
 refine calls_of (N:=108) (m0:=[(0,aG [(8,e32 p_X.toList),(8,e32 p_Y.toList),(8,e32 p_Z.toList)])]) func76 rfl ntmps76 (argM_ok [aG [(8,e32 p_X.toList),(8,e32 p_Y.toList),(8,e32 p_Z.toList)]]) rfl hmem hro hd ?_
 unfold halberdref9_twice at H
 refine TC_seq (TC_region (TLe (E_boxP [(8,e32 p_X.toList),(8,e32 p_Y.toList),(8,e32 p_Z.toList)] rfl rfl ⟨(lenV (f:=v32) p_X),(lenV (f:=v32) p_Y),(lenV (f:=v32) p_Z),trivial⟩) (fun b1=>?_)))
 refine TLe (E_allocP [(8,e32 ((replicate 8 0#32).toList)),(8,e32 ((replicate 8 0#32).toList)),(8,e32 ((replicate 8 0#32).toList))] inf33 zer33 ⟨(lenV (f:=v32) (replicate 8 0#32)),(lenV (f:=v32) (replicate 8 0#32)),(lenV (f:=v32) (replicate 8 0#32)),trivial⟩) (fun b2=>?_)
 refine TL_nil (TX_next (TC_seq (TC_region (TVa ?_))))
 refine TL_nil (TX_next (TC_seq (TC_seq (TC_region (TLv (V_fieldE rfl underlying33 rfl rfl inf31 rfl (v:=ptr (some (b1,16)) 0) rfl) ?_)))))
 refine TLv (V_lag (.o 5) isAgg31 inf31) ?_
 refine TLv (V_buildArr (pv:=[]) rfl rfl underlying31 inf31 inf29 rfl zer31 (cs:=e32 ((replicate 8 0#32:Vx 32 8).toList)) (by kernel_rfl)) ?_
 refine TLv (V_bin rfl rfl (fun w=>eqlA32 w underlying31 underlying29 (by kernel_rfl) (by kernel_rfl) p_Z (replicate 8 0#32:Vx 32 8))) ?_
 refine TL_nil (TX_next (TCd H (fun hc H=>?_) (fun hc H=>?_)))
 ·refine TC_seq (TC_region (TLv (V_loadAgg (n:=24) (cs:=flat [(8,e32 p_X.toList),(8,e32 p_Y.toList),(8,e32 p_Z.toList)]) rfl (by simp) (SrcEnts (b:=b1) [(8,e32 p_X.toList),(8,e32 p_Y.toList),(8,e32 p_Z.toList)] 0 ⟨(lenV (f:=v32) p_X),(lenV (f:=v32) p_Y),(lenV (f:=v32) p_Z),trivial⟩ (AllSrc.all (M:=ents b1 0 [(8,e32 p_X.toList),(8,e32 p_Y.toList),(8,e32 p_Z.toList)]) ⟨Src.own (j:=3) rfl,Src.own (j:=4) rfl,Src.own (j:=5) rfl,trivial⟩)) isAgg33 inf33 rfl (flat_len ⟨(lenV (f:=v32) p_X),(lenV (f:=v32) p_Y),(lenV (f:=v32) p_Z),trivial⟩ rfl)) ?_))
  refine TLn (E_sp (b:=b2) (o:=0) [0,0,0] [(8,e32 ((replicate 8 0#32).toList)),(8,e32 ((replicate 8 0#32).toList)),(8,e32 ((replicate 8 0#32).toList))] [(8,e32 p_X.toList),(8,e32 p_Y.toList),(8,e32 p_Z.toList)] rfl inf33 ⟨(lenV (f:=v32) (replicate 8 0#32)),(lenV (f:=v32) (replicate 8 0#32)),(lenV (f:=v32) (replicate 8 0#32)),trivial⟩ ⟨(lenV (f:=v32) p_X),(lenV (f:=v32) p_Y),(lenV (f:=v32) p_Z),trivial⟩ ⟨(OneC.map (fun _=>rfl) _),(OneC.map (fun _=>rfl) _),(OneC.map (fun _=>rfl) _),trivial⟩) (fun _=>?_)
  refine TL_nil (TX_next (TC_ret (TX_then_ret ?_)))
  obtain rfl:=sj H
  exact TXr (vs:=[_]) rfl ⟨(Res_agg (n:=24) (cs:=flat [(8,e32 p_X.toList),(8,e32 p_Y.toList),(8,e32 p_Z.toList)]) rfl (by simp) (SrcEnts (b:=b2) [(8,e32 p_X.toList),(8,e32 p_Y.toList),(8,e32 p_Z.toList)] 0 ⟨(lenV (f:=v32) p_X),(lenV (f:=v32) p_Y),(lenV (f:=v32) p_Z),trivial⟩ (AllSrc.all (M:=ents b2 0 [(8,e32 p_X.toList),(8,e32 p_Y.toList),(8,e32 p_Z.toList)]) ⟨Src.own (j:=0) rfl,Src.own (j:=1) rfl,Src.own (j:=2) rfl,trivial⟩)) isAgg33 inf33 rfl (by simp [flat])),trivial⟩
 ·refine TC_skip (TX_next (TC_seq (TC_region (TVm ?_))))
  refine TLv (V_fieldE rfl underlying33 rfl rfl inf31 rfl (v:=ptr (some (b1,8)) 0) rfl) ?_
  refine TLv (V_lag (.o 4) isAgg31 inf31) ?_
  refine TLv (V_fieldE rfl underlying33 rfl rfl inf31 rfl (v:=ptr (some (b1,8)) 0) rfl) ?_
  refine TLv (V_lag (.o 4) isAgg31 inf31) ?_
  obtain ⟨r_1,hr_1,H⟩:=bind_elim H
  refine TLe (E_c0 (F47_calls 0 p_Y p_Y r_1 hr_1) call47 .z) (fun g_1=>?_)
  refine TLe (E_al32 8 inf31 zer31) (fun b3=>?_)
  refine TLn (E_sv (vs:=e32 r_1.toList) 0 inf31) (fun _=>?_)
  refine TL_nil (TX_next (TC_seq (TC_region (TVm ?_))))
  refine TLv (V_fieldE rfl underlying33 rfl rfl inf31 rfl (v:=ptr (some (b1,0)) 0) rfl) ?_
  refine TLv (V_lag (.o 4) isAgg31 inf31) ?_
  refine TLv (V_lag (.o 0) isAgg31 inf31) ?_
  obtain ⟨r_2,hr_2,H⟩:=bind_elim H
  refine TLe (E_c0 (F47_calls 0 p_X r_1 r_2 hr_2) call47 .z) (fun g_2=>?_)
  refine TLe (E_al32 8 inf31 zer31) (fun b4=>?_)
  refine TLn (E_sv (vs:=e32 r_2.toList) 0 inf31) (fun _=>?_)
  refine TL_nil (TX_next (TC.sub (m':=[(1,_),(2,_),(3,_),(4,_),(5,_)]) ⟨rfl,rfl,rfl,rfl,rfl,trivial⟩ ?_))
  refine TC.pull (is:=[5,5,5,2,2,2,1,0]) (L':=[_,_,_,_,_,_,_,_]) rfl ?_
  refine TC_seq (TC_region (TVm ?_))
  refine TLv (V_lag (.o 7) isAgg31 inf31) ?_
  refine TLv (V_lag (.o 7) isAgg31 inf31) ?_
  obtain ⟨r_3,hr_3,H⟩:=bind_elim H
  refine TLe (E_c0 (F48_calls 0 r_2 r_2 r_3 hr_3) call48 .z) (fun g_3=>?_)
  refine TLn (E_sv (vs:=e32 r_3.toList) 7 inf31) (fun _=>?_)
  refine TL_nil (TX_next (TC_seq (TC_region (TVm ?_))))
  refine TLv (V_lag (.o 7) isAgg31 inf31) ?_
  refine TLv (V_lag (.o 7) isAgg31 inf31) ?_
  obtain ⟨r_4,hr_4,H⟩:=bind_elim H
  refine TLe (E_c0 (F48_calls 0 r_3 r_3 r_4 hr_4) call48 .z) (fun g_4=>?_)
  refine TLn (E_sv (vs:=e32 r_4.toList) 7 inf31) (fun _=>?_)
  refine TL_nil (TX_next (TC_seq (TC_region (TVm ?_))))
  refine TLv (V_fieldE rfl underlying33 rfl rfl inf31 rfl (v:=ptr (some (b1,16)) 0) rfl) ?_
  refine TLv (V_lag (.o 2) isAgg31 inf31) ?_
  refine TLv (V_fieldE rfl underlying33 rfl rfl inf31 rfl (v:=ptr (some (b1,16)) 0) rfl) ?_
  refine TLv (V_lag (.o 2) isAgg31 inf31) ?_
  obtain ⟨r_5,hr_5,H⟩:=bind_elim H
  refine TLe (E_c0 (F47_calls 0 p_Z p_Z r_5 hr_5) call47 .z) (fun g_5=>?_)
  refine TLe (E_al32 8 inf31 zer31) (fun b5=>?_)
  refine TLn (E_sv (vs:=e32 r_5.toList) 0 inf31) (fun _=>?_)
  refine TL_nil (TX_next (TC.sub (m':=[(1,_),(2,_),(3,_),(4,_),(5,_),(6,_)]) ⟨rfl,rfl,rfl,rfl,rfl,rfl,trivial⟩ ?_))
  refine TC.pull (is:=[1,1,1,1,1,1,1,1,0]) (L':=[_,_,_,_,_,_,_,_,_]) rfl ?_
  refine TC_seq ?_
  obtain ⟨r_6,hr_6,H⟩:=bind_elim H
  obtain ⟨r_7,hr_7,H⟩:=bind_elim H
  obtain ⟨r_8,hr_8,H⟩:=bind_elim H
  refine TA_begin [] 14 (by kernel_rfl) (N:=14) rfl ?_
  refine TA_mix (is:=[]) (done':=dn 14 8191) [itV 0 41 (vi 0) [],itV 1 42 (vi 0) [],itV 2 43 (ptr (some (b1,0)) 0) [],itV 3 44 (aG [(8,e32 p_X.toList)]) [2],itV 4 45 (aG [(8,e32 r_5.toList)]) [],itV 5 46 (aG [(8,e32 r_6.toList)]) [1,3,4],itV 6 47 (vi 0) [],itV 7 48 (ptr (some (b1,0)) 0) [],itV 8 49 (aG [(8,e32 p_X.toList)]) [7],itV 9 50 (aG [(8,e32 r_5.toList)]) [],itV 10 51 (aG [(8,e32 r_7.toList)]) [8,9,6],itV 11 52 (aG [(8,e32 r_8.toList)]) [0,10,5],itA32 12 7 8] [] 1 (by kernel_rfl) (QP.then QP.body) (by kernel_rfl) rfl (.v rfl (V_move rfl) (.v rfl (V_move rfl) (.v rfl (V_fe underlying33 inf31) (.v rfl (V_lag (.o 0) isAgg31 inf31) (.v rfl (V_lag (.o 8) isAgg31 inf31) (.e rfl (E_cu (F49_calls 0 p_X r_5 r_6 hr_6) call49 .z) (.v rfl (V_move rfl) (.v rfl (V_fe underlying33 inf31) (.v rfl (V_lag (.o 0) isAgg31 inf31) (.v rfl (V_lag (.o 8) isAgg31 inf31) (.e rfl (E_cu (F48_calls 0 p_X r_5 r_7 hr_7) call48 .z) (.e rfl (E_cu (F47_calls 0 r_6 r_7 r_8 hr_8) call47 .z) (.c rfl (fun _ _=>(E_al32 8 inf31 zer31)) .nil))))))))))))) .nil (by kernel_rfl) rfl (fun γ=>?_)
  refine TA_cut [(7,ptr (some ((γ 12),0)) 0),(52,aG [(8,e32 r_8.toList)]),(1,ptr (some (b1,0)) 0),(2,ptr (some (b2,0)) 0),(3,vi 0),(4,ptr (some (b3,0)) 0),(5,ptr (some (b4,0)) 0)] [⟨some ((γ 12),0),e32 ((replicate 8 0#32).toList)⟩,⟨some (b1,0),e32 p_X.toList⟩,⟨some (b1,8),e32 p_Y.toList⟩,⟨some (b1,16),e32 p_Z.toList⟩,⟨some (b2,0),e32 ((replicate 8 0#32).toList)⟩,⟨some (b2,8),e32 ((replicate 8 0#32).toList)⟩,⟨some (b2,16),e32 ((replicate 8 0#32).toList)⟩,⟨some (b3,0),e32 r_1.toList⟩,⟨some (b4,0),e32 r_4.toList⟩,⟨some (b5,0),e32 r_5.toList⟩] ⟨rfl,rfl,rfl,rfl,rfl,rfl,rfl,trivial⟩ rfl ?_
  generalize γ 12=b6
  refine TA_all (rs:=[13]) (by kernel_rfl) rfl ?_
  refine ⟨?_,trivial⟩
  refine TO_n (is:=[]) (done':=dn 14 16383) rfl rfl rfl (by kernel_rfl) (E_sv (vs:=e32 r_8.toList) 0 inf31) (fun _ _=>rfl) (fun _=>?_)
  refine TA_done (by kernel_rfl) ?_ 0
  refine TX_next (TC_seq ?_)
  obtain ⟨r_9,hr_9,H⟩:=bind_elim H
  obtain ⟨r_10,hr_10,H⟩:=bind_elim H
  refine TA_begin [] 8 (by kernel_rfl) (N:=8) rfl ?_
  refine TA_mix (is:=[]) (done':=dn 8 127) [itV 0 53 (vi 0) [],itV 1 54 (aG [(8,e32 r_8.toList)]) [],itV 2 55 (vi 0) [],itV 3 56 (aG [(8,e32 r_8.toList)]) [],itV 4 57 (aG [(8,e32 r_8.toList)]) [],itV 5 58 (aG [(8,e32 r_9.toList)]) [3,4,2],itV 6 59 (aG [(8,e32 r_10.toList)]) [5,0,1]] [] 1 (by kernel_rfl) (QP.then QP.body) (by kernel_rfl) rfl (.v rfl (V_move rfl) (.v rfl (V_lag (.o 0) isAgg31 inf31) (.v rfl (V_move rfl) (.v rfl (V_lag (.o 0) isAgg31 inf31) (.v rfl (V_lag (.o 0) isAgg31 inf31) (.e rfl (E_cu (F48_calls 0 r_8 r_8 r_9 hr_9) call48 .z) (.e rfl (E_cu (F48_calls 0 r_8 r_9 r_10 hr_10) call48 .z) .nil))))))) .nil (by kernel_rfl) rfl (fun γ=>?_)
  refine TA_cut [(59,aG [(8,e32 r_10.toList)]),(7,ptr (some (b6,0)) 0),(1,ptr (some (b1,0)) 0),(2,ptr (some (b2,0)) 0),(3,vi 0),(4,ptr (some (b3,0)) 0),(5,ptr (some (b4,0)) 0)] [⟨some (b6,0),e32 r_8.toList⟩,⟨some (b1,0),e32 p_X.toList⟩,⟨some (b1,8),e32 p_Y.toList⟩,⟨some (b1,16),e32 p_Z.toList⟩,⟨some (b2,0),e32 ((replicate 8 0#32).toList)⟩,⟨some (b2,8),e32 ((replicate 8 0#32).toList)⟩,⟨some (b2,16),e32 ((replicate 8 0#32).toList)⟩,⟨some (b3,0),e32 r_1.toList⟩,⟨some (b4,0),e32 r_4.toList⟩,⟨some (b5,0),e32 r_5.toList⟩] ⟨rfl,rfl,rfl,rfl,rfl,rfl,rfl,trivial⟩ rfl ?_
  refine TA_all (rs:=[7]) (by kernel_rfl) rfl ?_
  refine ⟨?_,trivial⟩
  refine TO_n (is:=[]) (done':=dn 8 255) rfl rfl rfl (by kernel_rfl) (E_sv (vs:=e32 r_10.toList) 0 inf31) (fun _ _=>rfl) (fun _=>?_)
  refine TA_done (by kernel_rfl) ?_ 0
  refine TX_next (TC_seq ?_)
  obtain ⟨r_11,hr_11,H⟩:=bind_elim H
  obtain ⟨r_12,hr_12,H⟩:=bind_elim H
  obtain ⟨r_13,hr_13,H⟩:=bind_elim H
  refine TA_begin [] 12 (by kernel_rfl) (N:=12) rfl ?_
  refine TA_mix (is:=[]) (done':=dn 12 2047) [itV 0 60 (vi 0) [],itV 1 61 (vi 0) [],itV 2 62 (aG [(8,e32 r_10.toList)]) [],itV 3 63 (aG [(8,e32 r_10.toList)]) [],itV 4 64 (aG [(8,e32 r_11.toList)]) [1,2,3],itV 5 65 (vi 0) [],itV 6 66 (aG [(8,e32 r_4.toList)]) [],itV 7 67 (aG [(8,e32 r_4.toList)]) [],itV 8 68 (aG [(8,e32 r_12.toList)]) [5,6,7],itV 9 69 (aG [(8,e32 r_13.toList)]) [4,0,8],itA32 10 8 8] [] 1 (by kernel_rfl) (QP.then QP.body) (by kernel_rfl) rfl (.v rfl (V_move rfl) (.v rfl (V_move rfl) (.v rfl (V_lag (.o 0) isAgg31 inf31) (.v rfl (V_lag (.o 0) isAgg31 inf31) (.e rfl (E_cu (F47_calls 0 r_10 r_10 r_11 hr_11) call47 .z) (.v rfl (V_move rfl) (.v rfl (V_lag (.o 8) isAgg31 inf31) (.v rfl (V_lag (.o 8) isAgg31 inf31) (.e rfl (E_cu (F48_calls 0 r_4 r_4 r_12 hr_12) call48 .z) (.e rfl (E_cu (F49_calls 0 r_11 r_12 r_13 hr_13) call49 .z) (.c rfl (fun _ _=>(E_al32 8 inf31 zer31)) .nil))))))))))) .nil (by kernel_rfl) rfl (fun γ=>?_)
  refine TA_cut [(8,ptr (some ((γ 10),0)) 0),(69,aG [(8,e32 r_13.toList)]),(7,ptr (some (b6,0)) 0),(1,ptr (some (b1,0)) 0),(2,ptr (some (b2,0)) 0),(3,vi 0),(4,ptr (some (b3,0)) 0),(5,ptr (some (b4,0)) 0)] [⟨some ((γ 10),0),e32 ((replicate 8 0#32).toList)⟩,⟨some (b6,0),e32 r_10.toList⟩,⟨some (b1,0),e32 p_X.toList⟩,⟨some (b1,8),e32 p_Y.toList⟩,⟨some (b1,16),e32 p_Z.toList⟩,⟨some (b2,0),e32 ((replicate 8 0#32).toList)⟩,⟨some (b2,8),e32 ((replicate 8 0#32).toList)⟩,⟨some (b2,16),e32 ((replicate 8 0#32).toList)⟩,⟨some (b3,0),e32 r_1.toList⟩,⟨some (b4,0),e32 r_4.toList⟩,⟨some (b5,0),e32 r_5.toList⟩] ⟨rfl,rfl,rfl,rfl,rfl,rfl,rfl,rfl,trivial⟩ rfl ?_
  generalize γ 10=b7
  refine TA_all (rs:=[11]) (by kernel_rfl) rfl ?_
  refine ⟨?_,trivial⟩
  refine TO_n (is:=[]) (done':=dn 12 4095) rfl rfl rfl (by kernel_rfl) (E_sv (vs:=e32 r_13.toList) 0 inf31) (fun _ _=>rfl) (fun _=>?_)
  refine TA_done (by kernel_rfl) ?_ 0
  refine TX_next (TC_seq (TC_region (TVm ?_)))
  refine TLv (V_lag (.o 8) isAgg31 inf31) ?_
  refine TLv (V_lag (.o 8) isAgg31 inf31) ?_
  obtain ⟨r_14,hr_14,H⟩:=bind_elim H
  refine TLe (E_c0 (F47_calls 0 r_1 r_1 r_14 hr_14) call47 .z) (fun g_14=>?_)
  refine TLe (E_al32 8 inf31 zer31) (fun b8=>?_)
  refine TLn (E_sv (vs:=e32 r_14.toList) 0 inf31) (fun _=>?_)
  refine TL_nil (TX_next (TC_seq (TC_region (TVm ?_))))
  refine TLv (V_lag (.o 0) isAgg31 inf31) ?_
  refine TLv (V_lag (.o 0) isAgg31 inf31) ?_
  obtain ⟨r_15,hr_15,H⟩:=bind_elim H
  refine TLe (E_c0 (F48_calls 0 r_14 r_14 r_15 hr_15) call48 .z) (fun g_15=>?_)
  refine TLn (E_sv (vs:=e32 r_15.toList) 0 inf31) (fun _=>?_)
  refine TL_nil (TX_next (TC_seq (TC_region (TVm ?_))))
  refine TLv (V_lag (.o 0) isAgg31 inf31) ?_
  refine TLv (V_lag (.o 0) isAgg31 inf31) ?_
  obtain ⟨r_16,hr_16,H⟩:=bind_elim H
  refine TLe (E_c0 (F48_calls 0 r_15 r_15 r_16 hr_16) call48 .z) (fun g_16=>?_)
  refine TLn (E_sv (vs:=e32 r_16.toList) 0 inf31) (fun _=>?_)
  refine TL_nil (TX_next (TC.sub (m':=[(1,_),(2,_),(3,_),(5,_),(7,_),(8,_),(9,_)]) ⟨rfl,rfl,rfl,rfl,rfl,rfl,rfl,trivial⟩ ?_))
  refine TC.pull (is:=[3,3,3,3,3,3,4,2,1,0]) (L':=[_,_,_,_,_,_,_,_,_,_]) rfl ?_
  refine TC_seq (TC_region (TVm ?_))
  refine TLv (V_lag (.o 9) isAgg31 inf31) ?_
  refine TLv (V_lag (.o 9) isAgg31 inf31) ?_
  obtain ⟨r_17,hr_17,H⟩:=bind_elim H
  refine TLe (E_c0 (F48_calls 0 r_16 r_16 r_17 hr_17) call48 .z) (fun g_17=>?_)
  refine TLn (E_sv (vs:=e32 r_17.toList) 9 inf31) (fun _=>?_)
  refine TL_nil (TX_next (TC_seq (TC_region (TVm ?_))))
  refine TLv (V_fieldE rfl underlying33 rfl rfl inf31 rfl (v:=ptr (some (b1,8)) 0) rfl) ?_
  refine TLv (V_lag (.o 1) isAgg31 inf31) ?_
  refine TLv (V_fieldE rfl underlying33 rfl rfl inf31 rfl (v:=ptr (some (b1,16)) 0) rfl) ?_
  refine TLv (V_lag (.o 2) isAgg31 inf31) ?_
  obtain ⟨r_18,hr_18,H⟩:=bind_elim H
  refine TLe (E_c0 (F47_calls 0 p_Y p_Z r_18 hr_18) call47 .z) (fun g_18=>?_)
  refine TLe (E_al32 8 inf31 zer31) (fun b9=>?_)
  refine TLn (E_sv (vs:=e32 r_18.toList) 0 inf31) (fun _=>?_)
  refine TL_nil (TX_next (TC_seq ?_))
  obtain ⟨r_19,hr_19,H⟩:=bind_elim H
  obtain ⟨r_20,hr_20,H⟩:=bind_elim H
  obtain ⟨r_21,hr_21,H⟩:=bind_elim H
  obtain ⟨r_22,hr_22,H⟩:=bind_elim H
  refine TA_begin [] 17 (by kernel_rfl) (N:=17) rfl ?_
  refine TA_mix (is:=[]) (done':=dn 17 65535) [itV 0 92 (aG [(8,e32 r_13.toList)]) [],itV 1 93 (vi 0) [],itV 2 94 (vi 0) [],itV 3 95 (aG [(8,e32 r_10.toList)]) [],itV 4 96 (vi 0) [],itV 5 97 (aG [(8,e32 r_4.toList)]) [],itV 6 98 (aG [(8,e32 r_13.toList)]) [],itV 7 99 (aG [(8,e32 r_19.toList)]) [4,5,6],itV 8 100 (aG [(8,e32 r_20.toList)]) [7,2,3],itV 9 101 (aG [(8,e32 r_17.toList)]) [],itV 10 102 (aG [(8,e32 r_21.toList)]) [9,8,1],itV 11 103 (vi 0) [],itV 12 104 (aG [(8,e32 r_18.toList)]) [],itV 13 105 (aG [(8,e32 r_18.toList)]) [],itV 14 106 (aG [(8,e32 r_22.toList)]) [12,13,11],itV 15 107 (aG [(8,e32 r_13.toList),(8,e32 r_21.toList),(8,e32 r_22.toList)]) [14,0,10]] [] 1 (by kernel_rfl) (QP.then QP.body) (by kernel_rfl) rfl (.v rfl (V_lag (.o 9) isAgg31 inf31) (.v rfl (V_move rfl) (.v rfl (V_move rfl) (.v rfl (V_lag (.o 8) isAgg31 inf31) (.v rfl (V_move rfl) (.v rfl (V_lag (.o 7) isAgg31 inf31) (.v rfl (V_lag (.o 9) isAgg31 inf31) (.e rfl (E_cu (F49_calls 0 r_4 r_13 r_19 hr_19) call49 .z) (.e rfl (E_cu (F47_calls 0 r_10 r_19 r_20 hr_20) call47 .z) (.v rfl (V_lag (.o 10) isAgg31 inf31) (.e rfl (E_cu (F49_calls 0 r_20 r_17 r_21 hr_21) call49 .z) (.v rfl (V_move rfl) (.v rfl (V_lag (.o 0) isAgg31 inf31) (.v rfl (V_lag (.o 0) isAgg31 inf31) (.e rfl (E_cu (F48_calls 0 r_18 r_18 r_22 hr_22) call48 .z) (.v rfl (V_buildStruct (pv:=[(0,aG [(8,e32 r_13.toList)]),(1,aG [(8,e32 r_21.toList)]),(2,aG [(8,e32 r_22.toList)])]) (pl:=[(0,8),(8,8),(16,8)]) rfl rfl underlying33 inf33 places33 zer33 (cs:=flat [(8,e32 r_13.toList),(8,e32 r_21.toList),(8,e32 r_22.toList)]) (fill_part [] [(8,e32 ((replicate 8 0#32).toList)),(8,e32 ((replicate 8 0#32).toList))] rfl rfl trivial rfl (lenV (f:=v32) (replicate 8 0#32)) (lenV (f:=v32) r_13) (fill_part [(8,e32 r_13.toList)] [(8,e32 ((replicate 8 0#32).toList))] rfl rfl ⟨(lenV (f:=v32) r_13),trivial⟩ rfl (lenV (f:=v32) (replicate 8 0#32)) (lenV (f:=v32) r_21) (fill_part [(8,e32 r_13.toList),(8,e32 r_21.toList)] [] rfl rfl ⟨(lenV (f:=v32) r_13),(lenV (f:=v32) r_21),trivial⟩ rfl (lenV (f:=v32) (replicate 8 0#32)) (lenV (f:=v32) r_22) fill_end)))) .nil)))))))))))))))) .nil (by kernel_rfl) rfl (fun γ=>?_)
  refine TA_cut [(107,aG [(8,e32 r_13.toList),(8,e32 r_21.toList),(8,e32 r_22.toList)]),(2,ptr (some (b2,0)) 0)] [⟨some (b9,0),e32 r_18.toList⟩,⟨some (b1,0),e32 p_X.toList⟩,⟨some (b1,8),e32 p_Y.toList⟩,⟨some (b1,16),e32 p_Z.toList⟩,⟨some (b2,0),e32 ((replicate 8 0#32).toList)⟩,⟨some (b2,8),e32 ((replicate 8 0#32).toList)⟩,⟨some (b2,16),e32 ((replicate 8 0#32).toList)⟩,⟨some (b4,0),e32 r_4.toList⟩,⟨some (b6,0),e32 r_10.toList⟩,⟨some (b7,0),e32 r_13.toList⟩,⟨some (b8,0),e32 r_17.toList⟩] ⟨rfl,rfl,trivial⟩ rfl ?_
  refine TA_all (rs:=[16]) (by kernel_rfl) rfl ?_
  refine ⟨?_,trivial⟩
  refine TO_n (is:=[]) (done':=dn 17 131071) rfl rfl rfl (by kernel_rfl) (E_sp (b:=b2) (o:=0) [4,4,4] [(8,e32 ((replicate 8 0#32).toList)),(8,e32 ((replicate 8 0#32).toList)),(8,e32 ((replicate 8 0#32).toList))] [(8,e32 r_13.toList),(8,e32 r_21.toList),(8,e32 r_22.toList)] rfl inf33 ⟨(lenV (f:=v32) (replicate 8 0#32)),(lenV (f:=v32) (replicate 8 0#32)),(lenV (f:=v32) (replicate 8 0#32)),trivial⟩ ⟨(lenV (f:=v32) r_13),(lenV (f:=v32) r_21),(lenV (f:=v32) r_22),trivial⟩ ⟨(OneC.map (fun _=>rfl) _),(OneC.map (fun _=>rfl) _),(OneC.map (fun _=>rfl) _),trivial⟩) (fun _ _=>rfl) (fun _=>?_)
  refine TA_done (by kernel_rfl) ?_ 0
  refine TX_next (TC_ret ?_)
  obtain rfl:=sj H
  exact TXr (vs:=[_]) rfl ⟨(Res_agg (n:=24) (cs:=flat [(8,e32 r_13.toList),(8,e32 r_21.toList),(8,e32 r_22.toList)]) rfl (by simp) (SrcEnts (b:=b2) [(8,e32 r_13.toList),(8,e32 r_21.toList),(8,e32 r_22.toList)] 0 ⟨(lenV (f:=v32) r_13),(lenV (f:=v32) r_21),(lenV (f:=v32) r_22),trivial⟩ (AllSrc.all (M:=ents b2 0 [(8,e32 r_13.toList),(8,e32 r_21.toList),(8,e32 r_22.toList)]) ⟨Src.own (j:=0) rfl,Src.own (j:=1) rfl,Src.own (j:=2) rfl,trivial⟩)) isAgg33 inf33 rfl (by simp [flat])),trivial⟩
end Go.Proofs
end

/-
  Part 20 of the proof of what several laws share.
-/
import Derived.Test.YtiofnmmggblcgaaEsC1
import Derived.Test.YtiofnmmggblcgaaEsC2
import Derived.Test.YtiofnmmggblcgaaEsC3
import Derived.Test.YtiofnmmggblcgaaEsC4
import Derived.Test.YtiofnmmggblcgaaEsC5
import Derived.Test.YtiofnmmggblcgaaEsC6
import Derived.Test.YtiofnmmggblcgaaEsC7
import Derived.Test.YtiofnmmggblcgaaEsC8
import Derived.Test.YtiofnmmggblcgaaEsC9
import Derived.Test.YtiofnmmggblcgaaEsC10
import Derived.Test.YtiofnmmggblcgaaEsC11
import Derived.Test.YtiofnmmggblcgaaEsC12
import Derived.Test.YtiofnmmggblcgaaEsC13
import Derived.Test.YtiofnmmggblcgaaEsC14
import Derived.Test.YtiofnmmggblcgaaEsC15
import Derived.Test.YtiofnmmggblcgaaEsC16
import Derived.Test.YtiofnmmggblcgaaEsC17
import Derived.Test.YtiofnmmggblcgaaEsC18
import Derived.Test.YtiofnmmggblcgaaEsC19
set_option linter.unusedVariables false
set_option linter.unusedSimpArgs false
section
namespace Go.Proofs
open Go Go.Kx
open Vector (replicate)
open TryI Try
def halberdref9_together (p_X:Vx 32 8) (p_Y:Vx 32 8) (p_Z:Vx 32 8) (q_X:Vx 32 8) (q_Y:Vx 32 8) (q_Z:Vx 32 8):Option (Vx 32 8 × Vx 32 8 × Vx 32 8) :=
 if p_Z=(replicate 8 0#32:Vx 32 8) then (some (q_X,q_Y,q_Z)) else (if q_Z=(replicate 8 0#32:Vx 32 8) then (some (p_X,p_Y,p_Z)) else ((halberdref9_mont 0 p_Z p_Z).bind fun (r_1:Vx 32 8)=>((halberdref9_mont 0 q_Z q_Z).bind fun (r_2:Vx 32 8)=>((halberdref9_mont 0 p_X r_2).bind fun (r_3:Vx 32 8)=>((halberdref9_mont 0 q_X r_1).bind fun (r_4:Vx 32 8)=>((halberdref9_mont 0 q_Z r_2).bind fun (r_5:Vx 32 8)=>((halberdref9_mont 0 p_Y r_5).bind fun (r_6:Vx 32 8)=>((halberdref9_mont 0 p_Z r_1).bind fun (r_7:Vx 32 8)=>((halberdref9_mont 0 q_Y r_7).bind fun (r_8:Vx 32 8)=>((halberdref9_sub 0 r_4 r_3).bind fun (r_9:Vx 32 8)=>((halberdref9_sub 0 r_8 r_6).bind fun (r_10:Vx 32 8)=>(if r_9=(replicate 8 0#32:Vx 32 8) then (if r_10=(replicate 8 0#32:Vx 32 8) then ((halberdref9_twice p_X p_Y p_Z).bind fun (r_11:Vx 32 8 × Vx 32 8 × Vx 32 8)=>(some (r_11.1,r_11.2.1,r_11.2.2))) else (some (replicate 8 0#32,replicate 8 0#32,replicate 8 0#32))) else ((halberdref9_mont 0 r_9 r_9).bind fun (r_12:Vx 32 8)=>((halberdref9_mont 0 r_9 r_12).bind fun (r_13:Vx 32 8)=>((halberdref9_mont 0 r_3 r_12).bind fun (r_14:Vx 32 8)=>((halberdref9_mont 0 r_10 r_10).bind fun (r_15:Vx 32 8)=>((halberdref9_sub 0 r_15 r_13).bind fun (r_16:Vx 32 8)=>((halberdref9_add 0 r_14 r_14).bind fun (r_17:Vx 32 8)=>((halberdref9_sub 0 r_16 r_17).bind fun (r_18:Vx 32 8)=>((halberdref9_sub 0 r_14 r_18).bind fun (r_19:Vx 32 8)=>((halberdref9_mont 0 r_10 r_19).bind fun (r_20:Vx 32 8)=>((halberdref9_mont 0 r_6 r_13).bind fun (r_21:Vx 32 8)=>((halberdref9_sub 0 r_20 r_21).bind fun (r_22:Vx 32 8)=>((halberdref9_mont 0 p_Z q_Z).bind fun (r_23:Vx 32 8)=>((halberdref9_mont 0 r_9 r_23).bind fun (r_24:Vx 32 8)=>(some (r_18,r_22,r_24)))))))))))))))))))))))))))
set_option maxHeartbeats 4000000 in
set_option maxRecDepth 20000 in
theorem F44_calls (p_X:Vx 32 8) (p_Y:Vx 32 8) (p_Z:Vx 32 8) (q_X:Vx 32 8) (q_Y:Vx 32 8) (q_Z:Vx 32 8) (r:Vx 32 8 × Vx 32 8 × Vx 32 8) (H:halberdref9_together p_X p_Y p_Z q_X q_Y q_Z=some r) :
  Does Try.prog 44 [aG [(8,e32 p_X.toList),(8,e32 p_Y.toList),(8,e32 p_Z.toList)],aG [(8,e32 q_X.toList),(8,e32 q_Y.toList),(8,e32 q_Z.toList)]] [] [] (Γ:=Unit) (fun g=>aG [(8,e32 r.1.toList),(8,e32 r.2.1.toList),(8,e32 r.2.2.toList)]) (fun g=>[]):=by
 intro w hmem hro hd
 refine calls_of (N:=136) (m0:=[(0,aG [(8,e32 p_X.toList),(8,e32 p_Y.toList),(8,e32 p_Z.toList)]),(1,aG [(8,e32 q_X.toList),(8,e32 q_Y.toList),(8,e32 q_Z.toList)])]) func44 rfl ntmps44 (argM_ok [aG [(8,e32 p_X.toList),(8,e32 p_Y.toList),(8,e32 p_Z.toList)],aG [(8,e32 q_X.toList),(8,e32 q_Y.toList),(8,e32 q_Z.toList)]]) rfl hmem hro hd ?_
 unfold halberdref9_together at H
 refine TC_seq (TC_region (TLe (E_boxP [(8,e32 p_X.toList),(8,e32 p_Y.toList),(8,e32 p_Z.toList)] rfl rfl ⟨(lenV (f:=v32) p_X),(lenV (f:=v32) p_Y),(lenV (f:=v32) p_Z),trivial⟩) (fun b1=>?_)))
 refine TLe (E_boxP [(8,e32 q_X.toList),(8,e32 q_Y.toList),(8,e32 q_Z.toList)] rfl rfl ⟨(lenV (f:=v32) q_X),(lenV (f:=v32) q_Y),(lenV (f:=v32) q_Z),trivial⟩) (fun b2=>?_)
 refine TLe (E_allocP [(8,e32 ((replicate 8 0#32).toList)),(8,e32 ((replicate 8 0#32).toList)),(8,e32 ((replicate 8 0#32).toList))] inf33 zer33 ⟨(lenV (f:=v32) (replicate 8 0#32)),(lenV (f:=v32) (replicate 8 0#32)),(lenV (f:=v32) (replicate 8 0#32)),trivial⟩) (fun b3=>?_)
 refine TL_nil (TX_next (TC_seq (TC_region (TVa ?_))))
 refine TL_nil (TX_next (TC_seq (TC_seq (TC_region (TLv (V_fieldE rfl underlying33 rfl rfl inf31 rfl (v:=ptr (some (b1,16)) 0) rfl) ?_)))))
 refine TLv (V_lag (.o 8) isAgg31 inf31) ?_
 refine TLv (V_buildArr (pv:=[]) rfl rfl underlying31 inf31 inf29 rfl zer31 (cs:=e32 ((replicate 8 0#32:Vx 32 8).toList)) (by kernel_rfl)) ?_
 refine TLv (V_bin rfl rfl (fun w=>eqlA32 w underlying31 underlying29 (by kernel_rfl) (by kernel_rfl) p_Z (replicate 8 0#32:Vx 32 8))) ?_
 refine TL_nil (TX_next (TCd H (fun hc H=>?_) (fun hc H=>?_)))
 ·refine TC_seq (TC_region (TLv (V_loadAgg (n:=24) (cs:=flat [(8,e32 q_X.toList),(8,e32 q_Y.toList),(8,e32 q_Z.toList)]) rfl (by simp) (SrcEnts (b:=b2) [(8,e32 q_X.toList),(8,e32 q_Y.toList),(8,e32 q_Z.toList)] 0 ⟨(lenV (f:=v32) q_X),(lenV (f:=v32) q_Y),(lenV (f:=v32) q_Z),trivial⟩ (AllSrc.all (M:=ents b2 0 [(8,e32 q_X.toList),(8,e32 q_Y.toList),(8,e32 q_Z.toList)]) ⟨Src.own (j:=3) rfl,Src.own (j:=4) rfl,Src.own (j:=5) rfl,trivial⟩)) isAgg33 inf33 rfl (flat_len ⟨(lenV (f:=v32) q_X),(lenV (f:=v32) q_Y),(lenV (f:=v32) q_Z),trivial⟩ rfl)) ?_))
  refine TLn (E_sp (b:=b3) (o:=0) [0,0,0] [(8,e32 ((replicate 8 0#32).toList)),(8,e32 ((replicate 8 0#32).toList)),(8,e32 ((replicate 8 0#32).toList))] [(8,e32 q_X.toList),(8,e32 q_Y.toList),(8,e32 q_Z.toList)] rfl inf33 ⟨(lenV (f:=v32) (replicate 8 0#32)),(lenV (f:=v32) (replicate 8 0#32)),(lenV (f:=v32) (replicate 8 0#32)),trivial⟩ ⟨(lenV (f:=v32) q_X),(lenV (f:=v32) q_Y),(lenV (f:=v32) q_Z),trivial⟩ ⟨(OneC.map (fun _=>rfl) _),(OneC.map (fun _=>rfl) _),(OneC.map (fun _=>rfl) _),trivial⟩) (fun _=>?_)
  refine TL_nil (TX_next (TC_ret (TX_then_ret ?_)))
  obtain rfl:=sj H
  exact TXr (vs:=[_]) rfl ⟨(Res_agg (n:=24) (cs:=flat [(8,e32 q_X.toList),(8,e32 q_Y.toList),(8,e32 q_Z.toList)]) rfl (by simp) (SrcEnts (b:=b3) [(8,e32 q_X.toList),(8,e32 q_Y.toList),(8,e32 q_Z.toList)] 0 ⟨(lenV (f:=v32) q_X),(lenV (f:=v32) q_Y),(lenV (f:=v32) q_Z),trivial⟩ (AllSrc.all (M:=ents b3 0 [(8,e32 q_X.toList),(8,e32 q_Y.toList),(8,e32 q_Z.toList)]) ⟨Src.own (j:=0) rfl,Src.own (j:=1) rfl,Src.own (j:=2) rfl,trivial⟩)) isAgg33 inf33 rfl (by simp [flat])),trivial⟩
 ·refine TC_skip (TX_next (TC_seq (TC_seq (TC_region (TLv (V_fieldE rfl underlying33 rfl rfl inf31 rfl (v:=ptr (some (b2,16)) 0) rfl) ?_)))))
  refine TLv (V_lag (.o 5) isAgg31 inf31) ?_
  refine TLv (V_buildArr (pv:=[]) rfl rfl underlying31 inf31 inf29 rfl zer31 (cs:=e32 ((replicate 8 0#32:Vx 32 8).toList)) (by kernel_rfl)) ?_
  refine TLv (V_bin rfl rfl (fun w=>eqlA32 w underlying31 underlying29 (by kernel_rfl) (by kernel_rfl) q_Z (replicate 8 0#32:Vx 32 8))) ?_
  refine TL_nil (TX_next (TCd H (fun hc H=>?_) (fun hc H=>?_)))
  ·refine TC_seq (TC_region (TLv (V_loadAgg (n:=24) (cs:=flat [(8,e32 p_X.toList),(8,e32 p_Y.toList),(8,e32 p_Z.toList)]) rfl (by simp) (SrcEnts (b:=b1) [(8,e32 p_X.toList),(8,e32 p_Y.toList),(8,e32 p_Z.toList)] 0 ⟨(lenV (f:=v32) p_X),(lenV (f:=v32) p_Y),(lenV (f:=v32) p_Z),trivial⟩ (AllSrc.all (M:=ents b1 0 [(8,e32 p_X.toList),(8,e32 p_Y.toList),(8,e32 p_Z.toList)]) ⟨Src.own (j:=6) rfl,Src.own (j:=7) rfl,Src.own (j:=8) rfl,trivial⟩)) isAgg33 inf33 rfl (flat_len ⟨(lenV (f:=v32) p_X),(lenV (f:=v32) p_Y),(lenV (f:=v32) p_Z),trivial⟩ rfl)) ?_))
   refine TLn (E_sp (b:=b3) (o:=0) [0,0,0] [(8,e32 ((replicate 8 0#32).toList)),(8,e32 ((replicate 8 0#32).toList)),(8,e32 ((replicate 8 0#32).toList))] [(8,e32 p_X.toList),(8,e32 p_Y.toList),(8,e32 p_Z.toList)] rfl inf33 ⟨(lenV (f:=v32) (replicate 8 0#32)),(lenV (f:=v32) (replicate 8 0#32)),(lenV (f:=v32) (replicate 8 0#32)),trivial⟩ ⟨(lenV (f:=v32) p_X),(lenV (f:=v32) p_Y),(lenV (f:=v32) p_Z),trivial⟩ ⟨(OneC.map (fun _=>rfl) _),(OneC.map (fun _=>rfl) _),(OneC.map (fun _=>rfl) _),trivial⟩) (fun _=>?_)
   refine TL_nil (TX_next (TC_ret (TX_then_ret ?_)))
   obtain rfl:=sj H
   exact TXr (vs:=[_]) rfl ⟨(Res_agg (n:=24) (cs:=flat [(8,e32 p_X.toList),(8,e32 p_Y.toList),(8,e32 p_Z.toList)]) rfl (by simp) (SrcEnts (b:=b3) [(8,e32 p_X.toList),(8,e32 p_Y.toList),(8,e32 p_Z.toList)] 0 ⟨(lenV (f:=v32) p_X),(lenV (f:=v32) p_Y),(lenV (f:=v32) p_Z),trivial⟩ (AllSrc.all (M:=ents b3 0 [(8,e32 p_X.toList),(8,e32 p_Y.toList),(8,e32 p_Z.toList)]) ⟨Src.own (j:=0) rfl,Src.own (j:=1) rfl,Src.own (j:=2) rfl,trivial⟩)) isAgg33 inf33 rfl (by simp [flat])),trivial⟩
  ·refine TC_skip (TX_next (TC_seq ?_))
   obtain ⟨r_1,hr_1,H⟩:=bind_elim H
   obtain ⟨r_2,hr_2,H⟩:=bind_elim H
   refine TA_begin [] 16 (by kernel_rfl) (N:=16) rfl ?_
   refine TA_mix (is:=[]) (done':=dn 16 16383) [itV 0 29 (vi 0) [],itV 1 30 (ptr (some (b1,16)) 0) [],itV 2 31 (aG [(8,e32 p_Z.toList)]) [1],itV 3 32 (ptr (some (b1,16)) 0) [],itV 4 33 (aG [(8,e32 p_Z.toList)]) [3],itV 5 34 (aG [(8,e32 r_1.toList)]) [4,0,2],itV 6 35 (vi 0) [],itV 7 36 (ptr (some (b2,16)) 0) [],itV 8 37 (aG [(8,e32 q_Z.toList)]) [7],itV 9 38 (ptr (some (b2,16)) 0) [],itV 10 39 (aG [(8,e32 q_Z.toList)]) [9],itV 11 40 (aG [(8,e32 r_2.toList)]) [6,8,10],itA32 12 6 8,itA32 13 7 8] [] 2 (by kernel_rfl) (QP.then QP.body) (by kernel_rfl) rfl (.v rfl (V_move rfl) (.v rfl (V_fe underlying33 inf31) (.v rfl (V_lag (.o 8) isAgg31 inf31) (.v rfl (V_fe underlying33 inf31) (.v rfl (V_lag (.o 8) isAgg31 inf31) (.e rfl (E_cu (F47_calls 0 p_Z p_Z r_1 hr_1) call47 .z) (.v rfl (V_move rfl) (.v rfl (V_fe underlying33 inf31) (.v rfl (V_lag (.o 5) isAgg31 inf31) (.v rfl (V_fe underlying33 inf31) (.v rfl (V_lag (.o 5) isAgg31 inf31) (.e rfl (E_cu (F47_calls 0 q_Z q_Z r_2 hr_2) call47 .z) (.c rfl (fun _ _=>(E_al32 8 inf31 zer31)) (.c rfl (fun _ _=>(E_al32 8 inf31 zer31)) .nil)))))))))))))) .nil (by kernel_rfl) rfl (fun γ=>?_)
   refine TA_cut [(7,ptr (some ((γ 13),0)) 0),(6,ptr (some ((γ 12),0)) 0),(40,aG [(8,e32 r_2.toList)]),(34,aG [(8,e32 r_1.toList)]),(5,vi 0),(4,ptr (some (b3,0)) 0),(3,ptr (some (b2,0)) 0),(2,ptr (some (b1,0)) 0)] [⟨some ((γ 13),0),e32 ((replicate 8 0#32).toList)⟩,⟨some ((γ 12),0),e32 ((replicate 8 0#32).toList)⟩,⟨some (b3,0),e32 ((replicate 8 0#32).toList)⟩,⟨some (b3,8),e32 ((replicate 8 0#32).toList)⟩,⟨some (b3,16),e32 ((replicate 8 0#32).toList)⟩,⟨some (b2,0),e32 q_X.toList⟩,⟨some (b2,8),e32 q_Y.toList⟩,⟨some (b2,16),e32 q_Z.toList⟩,⟨some (b1,0),e32 p_X.toList⟩,⟨some (b1,8),e32 p_Y.toList⟩,⟨some (b1,16),e32 p_Z.toList⟩] ⟨rfl,rfl,rfl,rfl,rfl,rfl,rfl,rfl,trivial⟩ rfl ?_
   generalize γ 12=b4
   generalize γ 13=b5
   refine TA_all (rs:=[14]) (by kernel_rfl) rfl ?_
   refine ⟨?_,trivial⟩
   refine TO_n (is:=[]) (done':=dn 16 32767) rfl rfl rfl (by kernel_rfl) (E_sv (vs:=e32 r_1.toList) 1 inf31) (fun _ _=>rfl) (fun _=>?_)
   refine TA_all (rs:=[15]) (by kernel_rfl) rfl ?_
   refine ⟨?_,trivial⟩
   refine TO_n (is:=[]) (done':=dn 16 65535) rfl rfl rfl (by kernel_rfl) (E_sv (vs:=e32 r_2.toList) 0 inf31) (fun _ _=>rfl) (fun _=>?_)
   refine TA_done (by kernel_rfl) ?_ 0
   refine TX_next (TC_seq ?_)
   obtain ⟨r_3,hr_3,H⟩:=bind_elim H
   obtain ⟨r_4,hr_4,H⟩:=bind_elim H
   refine TA_begin [] 14 (by kernel_rfl) (N:=14) rfl ?_
   refine TA_mix (is:=[]) (done':=dn 14 4095) [itV 0 41 (vi 0) [],itV 1 42 (ptr (some (b1,0)) 0) [],itV 2 43 (aG [(8,e32 p_X.toList)]) [1],itV 3 44 (aG [(8,e32 r_2.toList)]) [],itV 4 45 (aG [(8,e32 r_3.toList)]) [0,2,3],itV 5 46 (vi 0) [],itV 6 47 (ptr (some (b2,0)) 0) [],itV 7 48 (aG [(8,e32 q_X.toList)]) [6],itV 8 49 (aG [(8,e32 r_1.toList)]) [],itV 9 50 (aG [(8,e32 r_4.toList)]) [7,8,5],itA32 10 8 8,itA32 11 9 8] [] 2 (by kernel_rfl) (QP.then QP.body) (by kernel_rfl) rfl (.v rfl (V_move rfl) (.v rfl (V_fe underlying33 inf31) (.v rfl (V_lag (.o 8) isAgg31 inf31) (.v rfl (V_lag (.o 0) isAgg31 inf31) (.e rfl (E_cu (F47_calls 0 p_X r_2 r_3 hr_3) call47 .z) (.v rfl (V_move rfl) (.v rfl (V_fe underlying33 inf31) (.v rfl (V_lag (.o 5) isAgg31 inf31) (.v rfl (V_lag (.o 1) isAgg31 inf31) (.e rfl (E_cu (F47_calls 0 q_X r_1 r_4 hr_4) call47 .z) (.c rfl (fun _ _=>(E_al32 8 inf31 zer31)) (.c rfl (fun _ _=>(E_al32 8 inf31 zer31)) .nil)))))))))))) .nil (by kernel_rfl) rfl (fun γ=>?_)
   refine TA_cut [(9,ptr (some ((γ 11),0)) 0),(8,ptr (some ((γ 10),0)) 0),(50,aG [(8,e32 r_4.toList)]),(45,aG [(8,e32 r_3.toList)]),(7,ptr (some (b5,0)) 0),(6,ptr (some (b4,0)) 0),(5,vi 0),(4,ptr (some (b3,0)) 0),(3,ptr (some (b2,0)) 0),(2,ptr (some (b1,0)) 0)] [⟨some ((γ 11),0),e32 ((replicate 8 0#32).toList)⟩,⟨some ((γ 10),0),e32 ((replicate 8 0#32).toList)⟩,⟨some (b5,0),e32 r_2.toList⟩,⟨some (b4,0),e32 r_1.toList⟩,⟨some (b3,0),e32 ((replicate 8 0#32).toList)⟩,⟨some (b3,8),e32 ((replicate 8 0#32).toList)⟩,⟨some (b3,16),e32 ((replicate 8 0#32).toList)⟩,⟨some (b2,0),e32 q_X.toList⟩,⟨some (b2,8),e32 q_Y.toList⟩,⟨some (b2,16),e32 q_Z.toList⟩,⟨some (b1,0),e32 p_X.toList⟩,⟨some (b1,8),e32 p_Y.toList⟩,⟨some (b1,16),e32 p_Z.toList⟩] ⟨rfl,rfl,rfl,rfl,rfl,rfl,rfl,rfl,rfl,rfl,trivial⟩ rfl ?_
   generalize γ 10=b6
   generalize γ 11=b7
   refine TA_all (rs:=[12]) (by kernel_rfl) rfl ?_
   refine ⟨?_,trivial⟩
   refine TO_n (is:=[]) (done':=dn 14 8191) rfl rfl rfl (by kernel_rfl) (E_sv (vs:=e32 r_3.toList) 1 inf31) (fun _ _=>rfl) (fun _=>?_)
   refine TA_all (rs:=[13]) (by kernel_rfl) rfl ?_
   refine ⟨?_,trivial⟩
   refine TO_n (is:=[]) (done':=dn 14 16383) rfl rfl rfl (by kernel_rfl) (E_sv (vs:=e32 r_4.toList) 0 inf31) (fun _ _=>rfl) (fun _=>?_)
   refine TA_done (by kernel_rfl) ?_ 0
   refine TX_next (TC_seq ?_)
   obtain ⟨r_5,hr_5,H⟩:=bind_elim H
   obtain ⟨r_6,hr_6,H⟩:=bind_elim H
   obtain ⟨r_7,hr_7,H⟩:=bind_elim H
   obtain ⟨r_8,hr_8,H⟩:=bind_elim H
   refine TA_begin [] 22 (by kernel_rfl) (N:=22) rfl ?_
   refine TA_mix (is:=[]) (done':=dn 22 1048575) [itV 0 51 (vi 0) [],itV 1 52 (ptr (some (b1,8)) 0) [],itV 2 53 (aG [(8,e32 p_Y.toList)]) [1],itV 3 54 (vi 0) [],itV 4 55 (ptr (some (b2,16)) 0) [],itV 5 56 (aG [(8,e32 q_Z.toList)]) [4],itV 6 57 (aG [(8,e32 r_2.toList)]) [],itV 7 58 (aG [(8,e32 r_5.toList)]) [5,6,3],itV 8 59 (aG [(8,e32 r_6.toList)]) [7,0,2],itV 9 60 (vi 0) [],itV 10 61 (ptr (some (b2,8)) 0) [],itV 11 62 (aG [(8,e32 q_Y.toList)]) [10],itV 12 63 (vi 0) [],itV 13 64 (ptr (some (b1,16)) 0) [],itV 14 65 (aG [(8,e32 p_Z.toList)]) [13],itV 15 66 (aG [(8,e32 r_1.toList)]) [],itV 16 67 (aG [(8,e32 r_7.toList)]) [14,15,12],itV 17 68 (aG [(8,e32 r_8.toList)]) [16,9,11],itA32 18 10 8,itA32 19 11 8] [] 2 (by kernel_rfl) (QP.then QP.body) (by kernel_rfl) rfl (.v rfl (V_move rfl) (.v rfl (V_fe underlying33 inf31) (.v rfl (V_lag (.o 11) isAgg31 inf31) (.v rfl (V_move rfl) (.v rfl (V_fe underlying33 inf31) (.v rfl (V_lag (.o 9) isAgg31 inf31) (.v rfl (V_lag (.o 2) isAgg31 inf31) (.e rfl (E_cu (F47_calls 0 q_Z r_2 r_5 hr_5) call47 .z) (.e rfl (E_cu (F47_calls 0 p_Y r_5 r_6 hr_6) call47 .z) (.v rfl (V_move rfl) (.v rfl (V_fe underlying33 inf31) (.v rfl (V_lag (.o 8) isAgg31 inf31) (.v rfl (V_move rfl) (.v rfl (V_fe underlying33 inf31) (.v rfl (V_lag (.o 12) isAgg31 inf31) (.v rfl (V_lag (.o 3) isAgg31 inf31) (.e rfl (E_cu (F47_calls 0 p_Z r_1 r_7 hr_7) call47 .z) (.e rfl (E_cu (F47_calls 0 q_Y r_7 r_8 hr_8) call47 .z) (.c rfl (fun _ _=>(E_al32 8 inf31 zer31)) (.c rfl (fun _ _=>(E_al32 8 inf31 zer31)) .nil)))))))))))))))))))) .nil (by kernel_rfl) rfl (fun γ=>?_)
   refine TA_cut [(11,ptr (some ((γ 19),0)) 0),(10,ptr (some ((γ 18),0)) 0),(68,aG [(8,e32 r_8.toList)]),(59,aG [(8,e32 r_6.toList)]),(9,ptr (some (b7,0)) 0),(8,ptr (some (b6,0)) 0),(5,vi 0),(4,ptr (some (b3,0)) 0),(3,ptr (some (b2,0)) 0),(2,ptr (some (b1,0)) 0)] [⟨some ((γ 19),0),e32 ((replicate 8 0#32).toList)⟩,⟨some ((γ 18),0),e32 ((replicate 8 0#32).toList)⟩,⟨some (b7,0),e32 r_4.toList⟩,⟨some (b6,0),e32 r_3.toList⟩,⟨some (b5,0),e32 r_2.toList⟩,⟨some (b4,0),e32 r_1.toList⟩,⟨some (b3,0),e32 ((replicate 8 0#32).toList)⟩,⟨some (b3,8),e32 ((replicate 8 0#32).toList)⟩,⟨some (b3,16),e32 ((replicate 8 0#32).toList)⟩,⟨some (b2,0),e32 q_X.toList⟩,⟨some (b2,8),e32 q_Y.toList⟩,⟨some (b2,16),e32 q_Z.toList⟩,⟨some (b1,0),e32 p_X.toList⟩,⟨some (b1,8),e32 p_Y.toList⟩,⟨some (b1,16),e32 p_Z.toList⟩] ⟨rfl,rfl,rfl,rfl,rfl,rfl,rfl,rfl,rfl,rfl,trivial⟩ rfl ?_
   generalize γ 18=b8
   generalize γ 19=b9
   refine TA_all (rs:=[20]) (by kernel_rfl) rfl ?_
   refine ⟨?_,trivial⟩
   refine TO_n (is:=[]) (done':=dn 22 2097151) rfl rfl rfl (by kernel_rfl) (E_sv (vs:=e32 r_6.toList) 1 inf31) (fun _ _=>rfl) (fun _=>?_)
   refine TA_all (rs:=[21]) (by kernel_rfl) rfl ?_
   refine ⟨?_,trivial⟩
   refine TO_n (is:=[]) (done':=dn 22 4194303) rfl rfl rfl (by kernel_rfl) (E_sv (vs:=e32 r_8.toList) 0 inf31) (fun _ _=>rfl) (fun _=>?_)
   refine TA_done (by kernel_rfl) ?_ 0
   refine TX_next (TC_seq ?_)
   obtain ⟨r_9,hr_9,H⟩:=bind_elim H
   obtain ⟨r_10,hr_10,H⟩:=bind_elim H
   refine TA_begin [] 12 (by kernel_rfl) (N:=12) rfl ?_
   refine TA_mix (is:=[]) (done':=dn 12 1023) [itV 0 69 (vi 0) [],itV 1 70 (aG [(8,e32 r_4.toList)]) [],itV 2 71 (aG [(8,e32 r_3.toList)]) [],itV 3 72 (aG [(8,e32 r_9.toList)]) [0,1,2],itV 4 73 (vi 0) [],itV 5 74 (aG [(8,e32 r_8.toList)]) [],itV 6 75 (aG [(8,e32 r_6.toList)]) [],itV 7 76 (aG [(8,e32 r_10.toList)]) [4,5,6],itA32 8 12 8,itA32 9 13 8] [] 2 (by kernel_rfl) (QP.then QP.body) (by kernel_rfl) rfl (.v rfl (V_move rfl) (.v rfl (V_lag (.o 2) isAgg31 inf31) (.v rfl (V_lag (.o 3) isAgg31 inf31) (.e rfl (E_cu (F49_calls 0 r_4 r_3 r_9 hr_9) call49 .z) (.v rfl (V_move rfl) (.v rfl (V_lag (.o 0) isAgg31 inf31) (.v rfl (V_lag (.o 1) isAgg31 inf31) (.e rfl (E_cu (F49_calls 0 r_8 r_6 r_10 hr_10) call49 .z) (.c rfl (fun _ _=>(E_al32 8 inf31 zer31)) (.c rfl (fun _ _=>(E_al32 8 inf31 zer31)) .nil)))))))))) .nil (by kernel_rfl) rfl (fun γ=>?_)
   refine TA_cut [(13,ptr (some ((γ 9),0)) 0),(12,ptr (some ((γ 8),0)) 0),(76,aG [(8,e32 r_10.toList)]),(72,aG [(8,e32 r_9.toList)]),(10,ptr (some (b8,0)) 0),(8,ptr (some (b6,0)) 0),(5,vi 0),(4,ptr (some (b3,0)) 0),(3,ptr (some (b2,0)) 0),(2,ptr (some (b1,0)) 0)] [⟨some ((γ 9),0),e32 ((replicate 8 0#32).toList)⟩,⟨some ((γ 8),0),e32 ((replicate 8 0#32).toList)⟩,⟨some (b9,0),e32 r_8.toList⟩,⟨some (b8,0),e32 r_6.toList⟩,⟨some (b7,0),e32 r_4.toList⟩,⟨some (b6,0),e32 r_3.toList⟩,⟨some (b5,0),e32 r_2.toList⟩,⟨some (b4,0),e32 r_1.toList⟩,⟨some (b3,0),e32 ((replicate 8 0#32).toList)⟩,⟨some (b3,8),e32 ((replicate 8 0#32).toList)⟩,⟨some (b3,16),e32 ((replicate 8 0#32).toList)⟩,⟨some (b2,0),e32 q_X.toList⟩,⟨some (b2,8),e32 q_Y.toList⟩,⟨some (b2,16),e32 q_Z.toList⟩,⟨some (b1,0),e32 p_X.toList⟩,⟨some (b1,8),e32 p_Y.toList⟩,⟨some (b1,16),e32 p_Z.toList⟩] ⟨rfl,rfl,rfl,rfl,rfl,rfl,rfl,rfl,rfl,rfl,trivial⟩ rfl ?_
   generalize γ 8=b10
   generalize γ 9=b11
   refine TA_all (rs:=[10]) (by kernel_rfl) rfl ?_
   refine ⟨?_,trivial⟩
   refine TO_n (is:=[]) (done':=dn 12 2047) rfl rfl rfl (by kernel_rfl) (E_sv (vs:=e32 r_9.toList) 1 inf31) (fun _ _=>rfl) (fun _=>?_)
   refine TA_all (rs:=[11]) (by kernel_rfl) rfl ?_
   refine ⟨?_,trivial⟩
   refine TO_n (is:=[]) (done':=dn 12 4095) rfl rfl rfl (by kernel_rfl) (E_sv (vs:=e32 r_10.toList) 0 inf31) (fun _ _=>rfl) (fun _=>?_)
   refine TA_done (by kernel_rfl) ?_ 0
   refine TX_next (TC_seq (TC_seq (TC_region (TLv (V_lag (.o 1) isAgg31 inf31) ?_))))
   refine TLv (V_buildArr (pv:=[]) rfl rfl underlying31 inf31 inf29 rfl zer31 (cs:=e32 ((replicate 8 0#32:Vx 32 8).toList)) (by kernel_rfl)) ?_
   refine TLv (V_bin rfl rfl (fun w=>eqlA32 w underlying31 underlying29 (by kernel_rfl) (by kernel_rfl) r_9 (replicate 8 0#32:Vx 32 8))) ?_
   refine TL_nil (TX_next (TCd H (fun hc H=>?_) (fun hc H=>?_)))
   ·refine TC_seq (TC_seq (TC_region (TLv (V_lag (.o 0) isAgg31 inf31) ?_)))
    refine TLv (V_buildArr (pv:=[]) rfl rfl underlying31 inf31 inf29 rfl zer31 (cs:=e32 ((replicate 8 0#32:Vx 32 8).toList)) (by kernel_rfl)) ?_
    refine TLv (V_bin rfl rfl (fun w=>eqlA32 w underlying31 underlying29 (by kernel_rfl) (by kernel_rfl) r_10 (replicate 8 0#32:Vx 32 8))) ?_
    refine TL_nil (TX_next (TCd H (fun hc H=>?_) (fun hc H=>?_)))
    ·refine TC_seq (TC_region (TLv (V_loadAgg (n:=24) (cs:=flat [(8,e32 p_X.toList),(8,e32 p_Y.toList),(8,e32 p_Z.toList)]) rfl (by simp) (SrcEnts (b:=b1) [(8,e32 p_X.toList),(8,e32 p_Y.toList),(8,e32 p_Z.toList)] 0 ⟨(lenV (f:=v32) p_X),(lenV (f:=v32) p_Y),(lenV (f:=v32) p_Z),trivial⟩ (AllSrc.all (M:=ents b1 0 [(8,e32 p_X.toList),(8,e32 p_Y.toList),(8,e32 p_Z.toList)]) ⟨Src.own (j:=14) rfl,Src.own (j:=15) rfl,Src.own (j:=16) rfl,trivial⟩)) isAgg33 inf33 rfl (flat_len ⟨(lenV (f:=v32) p_X),(lenV (f:=v32) p_Y),(lenV (f:=v32) p_Z),trivial⟩ rfl)) ?_))
     obtain ⟨r_11,hr_11,H⟩:=bind_elim H
     refine TLe (E_c0 (F76_calls p_X p_Y p_Z r_11 hr_11) call76 .z) (fun g_11=>?_)
     refine TLn (E_sp (b:=b3) (o:=0) [8,8,8] [(8,e32 ((replicate 8 0#32).toList)),(8,e32 ((replicate 8 0#32).toList)),(8,e32 ((replicate 8 0#32).toList))] [(8,e32 r_11.1.toList),(8,e32 r_11.2.1.toList),(8,e32 r_11.2.2.toList)] rfl inf33 ⟨(lenV (f:=v32) (replicate 8 0#32)),(lenV (f:=v32) (replicate 8 0#32)),(lenV (f:=v32) (replicate 8 0#32)),trivial⟩ ⟨(lenV (f:=v32) r_11.1),(lenV (f:=v32) r_11.2.1),(lenV (f:=v32) r_11.2.2),trivial⟩ ⟨(OneC.map (fun _=>rfl) _),(OneC.map (fun _=>rfl) _),(OneC.map (fun _=>rfl) _),trivial⟩) (fun _=>?_)
     refine TL_nil (TX_next (TC_ret (TX_then_ret (TX_then_ret ?_))))
     obtain rfl:=sj H
     exact TXr (vs:=[_]) rfl ⟨(Res_agg (n:=24) (cs:=flat [(8,e32 r_11.1.toList),(8,e32 r_11.2.1.toList),(8,e32 r_11.2.2.toList)]) rfl (by simp) (SrcEnts (b:=b3) [(8,e32 r_11.1.toList),(8,e32 r_11.2.1.toList),(8,e32 r_11.2.2.toList)] 0 ⟨(lenV (f:=v32) r_11.1),(lenV (f:=v32) r_11.2.1),(lenV (f:=v32) r_11.2.2),trivial⟩ (AllSrc.all (M:=ents b3 0 [(8,e32 r_11.1.toList),(8,e32 r_11.2.1.toList),(8,e32 r_11.2.2.toList)]) ⟨Src.own (j:=0) rfl,Src.own (j:=1) rfl,Src.own (j:=2) rfl,trivial⟩)) isAgg33 inf33 rfl (by simp [flat])),trivial⟩
    ·refine TC_skip (TX_next (TC_seq (TC_region (TLv (V_buildStruct (pv:=[]) (pl:=[(0,8),(8,8),(16,8)]) rfl rfl underlying33 inf33 places33 zer33 (cs:=flat [(8,e32 ((replicate 8 0#32).toList)),(8,e32 ((replicate 8 0#32).toList)),(8,e32 ((replicate 8 0#32).toList))]) fill_end) ?_))))
     refine TLn (E_sp (b:=b3) (o:=0) [8,8,8] [(8,e32 ((replicate 8 0#32).toList)),(8,e32 ((replicate 8 0#32).toList)),(8,e32 ((replicate 8 0#32).toList))] [(8,e32 ((replicate 8 0#32).toList)),(8,e32 ((replicate 8 0#32).toList)),(8,e32 ((replicate 8 0#32).toList))] rfl inf33 ⟨(lenV (f:=v32) (replicate 8 0#32)),(lenV (f:=v32) (replicate 8 0#32)),(lenV (f:=v32) (replicate 8 0#32)),trivial⟩ ⟨(lenV (f:=v32) (replicate 8 0#32)),(lenV (f:=v32) (replicate 8 0#32)),(lenV (f:=v32) (replicate 8 0#32)),trivial⟩ ⟨(OneC.map (fun _=>rfl) _),(OneC.map (fun _=>rfl) _),(OneC.map (fun _=>rfl) _),trivial⟩) (fun _=>?_)
     refine TL_nil (TX_next (TC_ret (TX_then_ret ?_)))
     obtain rfl:=sj H
     exact TXr (vs:=[_]) rfl ⟨(Res_agg (n:=24) (cs:=flat [(8,e32 ((replicate 8 0#32).toList)),(8,e32 ((replicate 8 0#32).toList)),(8,e32 ((replicate 8 0#32).toList))]) rfl (by simp) (SrcEnts (b:=b3) [(8,e32 ((replicate 8 0#32).toList)),(8,e32 ((replicate 8 0#32).toList)),(8,e32 ((replicate 8 0#32).toList))] 0 ⟨(lenV (f:=v32) (replicate 8 0#32)),(lenV (f:=v32) (replicate 8 0#32)),(lenV (f:=v32) (replicate 8 0#32)),trivial⟩ (AllSrc.all (M:=ents b3 0 [(8,e32 ((replicate 8 0#32).toList)),(8,e32 ((replicate 8 0#32).toList)),(8,e32 ((replicate 8 0#32).toList))]) ⟨Src.own (j:=0) rfl,Src.own (j:=1) rfl,Src.own (j:=2) rfl,trivial⟩)) isAgg33 inf33 rfl (by simp [flat])),trivial⟩
   ·refine TC_skip (TX_next (TC_seq (TC_region (TVm ?_))))
    refine TLv (V_lag (.o 1) isAgg31 inf31) ?_
    refine TLv (V_lag (.o 1) isAgg31 inf31) ?_
    obtain ⟨r_12,hr_12,H⟩:=bind_elim H
    refine TLe (E_c0 (F47_calls 0 r_9 r_9 r_12 hr_12) call47 .z) (fun g_12=>?_)
    refine TLe (E_al32 8 inf31 zer31) (fun b12=>?_)
    refine TLn (E_sv (vs:=e32 r_12.toList) 0 inf31) (fun _=>?_)
    refine TL_nil (TX_next (TC_seq (TC_region (TVm ?_))))
    refine TLv (V_lag (.o 2) isAgg31 inf31) ?_
    refine TLv (V_lag (.o 0) isAgg31 inf31) ?_
    obtain ⟨r_13,hr_13,H⟩:=bind_elim H
    refine TLe (E_c0 (F47_calls 0 r_9 r_12 r_13 hr_13) call47 .z) (fun g_13=>?_)
    refine TLe (E_al32 8 inf31 zer31) (fun b13=>?_)
    refine TLn (E_sv (vs:=e32 r_13.toList) 0 inf31) (fun _=>?_)
    refine TL_nil (TX_next (TC.sub (m':=[(2,_),(3,_),(4,_),(5,_),(8,_),(10,_),(12,_),(13,_),(14,_),(15,_)]) ⟨rfl,rfl,rfl,rfl,rfl,rfl,rfl,rfl,rfl,rfl,trivial⟩ ?_))
    refine TC.pull (is:=[16,16,16,13,13,13,10,10,10,7,5,3,2,1,0]) (L':=[_,_,_,_,_,_,_,_,_,_,_,_,_,_,_]) rfl ?_
    refine TC_seq (TC_region (TVm ?_))
    refine TLv (V_lag (.o 9) isAgg31 inf31) ?_
    refine TLv (V_lag (.o 13) isAgg31 inf31) ?_
    obtain ⟨r_14,hr_14,H⟩:=bind_elim H
    refine TLe (E_c0 (F47_calls 0 r_3 r_12 r_14 hr_14) call47 .z) (fun g_14=>?_)
    refine TLe (E_al32 8 inf31 zer31) (fun b14=>?_)
    refine TLn (E_sv (vs:=e32 r_14.toList) 0 inf31) (fun _=>?_)
    refine TL_nil (TX_next (TC_seq ?_))
    obtain ⟨r_15,hr_15,H⟩:=bind_elim H
    obtain ⟨r_16,hr_16,H⟩:=bind_elim H
    obtain ⟨r_17,hr_17,H⟩:=bind_elim H
    obtain ⟨r_18,hr_18,H⟩:=bind_elim H
    refine TA_begin [] 15 (by kernel_rfl) (N:=15) rfl ?_
    refine TA_mix (is:=[]) (done':=dn 15 16383) [itV 0 98 (vi 0) [],itV 1 99 (vi 0) [],itV 2 100 (vi 0) [],itV 3 101 (aG [(8,e32 r_10.toList)]) [],itV 4 102 (aG [(8,e32 r_10.toList)]) [],itV 5 103 (aG [(8,e32 r_15.toList)]) [2,3,4],itV 6 104 (aG [(8,e32 r_13.toList)]) [],itV 7 105 (aG [(8,e32 r_16.toList)]) [6,1,5],itV 8 106 (vi 0) [],itV 9 107 (aG [(8,e32 r_14.toList)]) [],itV 10 108 (aG [(8,e32 r_14.toList)]) [],itV 11 109 (aG [(8,e32 r_17.toList)]) [8,9,10],itV 12 110 (aG [(8,e32 r_18.toList)]) [7,0,11],itA32 13 17 8] [] 1 (by kernel_rfl) (QP.then QP.body) (by kernel_rfl) rfl (.v rfl (V_move rfl) (.v rfl (V_move rfl) (.v rfl (V_move rfl) (.v rfl (V_lag (.o 13) isAgg31 inf31) (.v rfl (V_lag (.o 13) isAgg31 inf31) (.e rfl (E_cu (F47_calls 0 r_10 r_10 r_15 hr_15) call47 .z) (.v rfl (V_lag (.o 15) isAgg31 inf31) (.e rfl (E_cu (F49_calls 0 r_15 r_13 r_16 hr_16) call49 .z) (.v rfl (V_move rfl) (.v rfl (V_lag (.o 0) isAgg31 inf31) (.v rfl (V_lag (.o 0) isAgg31 inf31) (.e rfl (E_cu (F48_calls 0 r_14 r_14 r_17 hr_17) call48 .z) (.e rfl (E_cu (F49_calls 0 r_16 r_17 r_18 hr_18) call49 .z) (.c rfl (fun _ _=>(E_al32 8 inf31 zer31)) .nil)))))))))))))) .nil (by kernel_rfl) rfl (fun γ=>?_)
    refine TA_cut [(17,ptr (some ((γ 13),0)) 0),(110,aG [(8,e32 r_18.toList)]),(16,ptr (some (b14,0)) 0),(2,ptr (some (b1,0)) 0),(3,ptr (some (b2,0)) 0),(4,ptr (some (b3,0)) 0),(5,vi 0),(10,ptr (some (b8,0)) 0),(12,ptr (some (b10,0)) 0),(13,ptr (some (b11,0)) 0),(15,ptr (some (b13,0)) 0)] [⟨some ((γ 13),0),e32 ((replicate 8 0#32).toList)⟩,⟨some (b14,0),e32 r_14.toList⟩,⟨some (b1,0),e32 p_X.toList⟩,⟨some (b1,8),e32 p_Y.toList⟩,⟨some (b1,16),e32 p_Z.toList⟩,⟨some (b2,0),e32 q_X.toList⟩,⟨some (b2,8),e32 q_Y.toList⟩,⟨some (b2,16),e32 q_Z.toList⟩,⟨some (b3,0),e32 ((replicate 8 0#32).toList)⟩,⟨some (b3,8),e32 ((replicate 8 0#32).toList)⟩,⟨some (b3,16),e32 ((replicate 8 0#32).toList)⟩,⟨some (b6,0),e32 r_3.toList⟩,⟨some (b8,0),e32 r_6.toList⟩,⟨some (b10,0),e32 r_9.toList⟩,⟨some (b11,0),e32 r_10.toList⟩,⟨some (b12,0),e32 r_12.toList⟩,⟨some (b13,0),e32 r_13.toList⟩] ⟨rfl,rfl,rfl,rfl,rfl,rfl,rfl,rfl,rfl,rfl,rfl,trivial⟩ rfl ?_
    generalize γ 13=b15
    refine TA_all (rs:=[14]) (by kernel_rfl) rfl ?_
    refine ⟨?_,trivial⟩
    refine TO_n (is:=[]) (done':=dn 15 32767) rfl rfl rfl (by kernel_rfl) (E_sv (vs:=e32 r_18.toList) 0 inf31) (fun _ _=>rfl) (fun _=>?_)
    refine TA_done (by kernel_rfl) ?_ 0
    refine TX_next (TC_seq ?_)
    obtain ⟨r_19,hr_19,H⟩:=bind_elim H
    obtain ⟨r_20,hr_20,H⟩:=bind_elim H
    obtain ⟨r_21,hr_21,H⟩:=bind_elim H
    obtain ⟨r_22,hr_22,H⟩:=bind_elim H
    refine TA_begin [] 15 (by kernel_rfl) (N:=15) rfl ?_
    refine TA_mix (is:=[]) (done':=dn 15 16383) [itV 0 111 (vi 0) [],itV 1 112 (vi 0) [],itV 2 113 (aG [(8,e32 r_10.toList)]) [],itV 3 114 (vi 0) [],itV 4 115 (aG [(8,e32 r_14.toList)]) [],itV 5 116 (aG [(8,e32 r_18.toList)]) [],itV 6 117 (aG [(8,e32 r_19.toList)]) [3,4,5],itV 7 118 (aG [(8,e32 r_20.toList)]) [1,2,6],itV 8 119 (vi 0) [],itV 9 120 (aG [(8,e32 r_6.toList)]) [],itV 10 121 (aG [(8,e32 r_13.toList)]) [],itV 11 122 (aG [(8,e32 r_21.toList)]) [9,10,8],itV 12 123 (aG [(8,e32 r_22.toList)]) [11,7,0],itA32 13 18 8] [] 1 (by kernel_rfl) (QP.then QP.body) (by kernel_rfl) rfl (.v rfl (V_move rfl) (.v rfl (V_move rfl) (.v rfl (V_lag (.o 14) isAgg31 inf31) (.v rfl (V_move rfl) (.v rfl (V_lag (.o 1) isAgg31 inf31) (.v rfl (V_lag (.o 0) isAgg31 inf31) (.e rfl (E_cu (F49_calls 0 r_14 r_18 r_19 hr_19) call49 .z) (.e rfl (E_cu (F47_calls 0 r_10 r_19 r_20 hr_20) call47 .z) (.v rfl (V_move rfl) (.v rfl (V_lag (.o 12) isAgg31 inf31) (.v rfl (V_lag (.o 16) isAgg31 inf31) (.e rfl (E_cu (F47_calls 0 r_6 r_13 r_21 hr_21) call47 .z) (.e rfl (E_cu (F49_calls 0 r_20 r_21 r_22 hr_22) call49 .z) (.c rfl (fun _ _=>(E_al32 8 inf31 zer31)) .nil)))))))))))))) .nil (by kernel_rfl) rfl (fun γ=>?_)
    refine TA_cut [(18,ptr (some ((γ 13),0)) 0),(123,aG [(8,e32 r_22.toList)]),(17,ptr (some (b15,0)) 0),(2,ptr (some (b1,0)) 0),(3,ptr (some (b2,0)) 0),(4,ptr (some (b3,0)) 0),(5,vi 0),(12,ptr (some (b10,0)) 0)] [⟨some ((γ 13),0),e32 ((replicate 8 0#32).toList)⟩,⟨some (b15,0),e32 r_18.toList⟩,⟨some (b14,0),e32 r_14.toList⟩,⟨some (b1,0),e32 p_X.toList⟩,⟨some (b1,8),e32 p_Y.toList⟩,⟨some (b1,16),e32 p_Z.toList⟩,⟨some (b2,0),e32 q_X.toList⟩,⟨some (b2,8),e32 q_Y.toList⟩,⟨some (b2,16),e32 q_Z.toList⟩,⟨some (b3,0),e32 ((replicate 8 0#32).toList)⟩,⟨some (b3,8),e32 ((replicate 8 0#32).toList)⟩,⟨some (b3,16),e32 ((replicate 8 0#32).toList)⟩,⟨some (b6,0),e32 r_3.toList⟩,⟨some (b8,0),e32 r_6.toList⟩,⟨some (b10,0),e32 r_9.toList⟩,⟨some (b11,0),e32 r_10.toList⟩,⟨some (b12,0),e32 r_12.toList⟩,⟨some (b13,0),e32 r_13.toList⟩] ⟨rfl,rfl,rfl,rfl,rfl,rfl,rfl,rfl,trivial⟩ rfl ?_
    generalize γ 13=b16
    refine TA_all (rs:=[14]) (by kernel_rfl) rfl ?_
    refine ⟨?_,trivial⟩
    refine TO_n (is:=[]) (done':=dn 15 32767) rfl rfl rfl (by kernel_rfl) (E_sv (vs:=e32 r_22.toList) 0 inf31) (fun _ _=>rfl) (fun _=>?_)
    refine TA_done (by kernel_rfl) ?_ 0
    refine TX_next (TC_seq ?_)
    obtain ⟨r_23,hr_23,H⟩:=bind_elim H
    obtain ⟨r_24,hr_24,H⟩:=bind_elim H
    refine TA_begin [] 13 (by kernel_rfl) (N:=13) rfl ?_
    refine TA_mix (is:=[]) (done':=dn 13 4095) [itV 0 124 (aG [(8,e32 r_18.toList)]) [],itV 1 125 (aG [(8,e32 r_22.toList)]) [],itV 2 126 (vi 0) [],itV 3 127 (aG [(8,e32 r_9.toList)]) [],itV 4 128 (vi 0) [],itV 5 129 (ptr (some (b1,16)) 0) [],itV 6 130 (aG [(8,e32 p_Z.toList)]) [5],itV 7 131 (ptr (some (b2,16)) 0) [],itV 8 132 (aG [(8,e32 q_Z.toList)]) [7],itV 9 133 (aG [(8,e32 r_23.toList)]) [4,6,8],itV 10 134 (aG [(8,e32 r_24.toList)]) [9,2,3],itV 11 135 (aG [(8,e32 r_18.toList),(8,e32 r_22.toList),(8,e32 r_24.toList)]) [0,1,10]] [] 1 (by kernel_rfl) (QP.then QP.body) (by kernel_rfl) rfl (.v rfl (V_lag (.o 1) isAgg31 inf31) (.v rfl (V_lag (.o 0) isAgg31 inf31) (.v rfl (V_move rfl) (.v rfl (V_lag (.o 14) isAgg31 inf31) (.v rfl (V_move rfl) (.v rfl (V_fe underlying33 inf31) (.v rfl (V_lag (.o 5) isAgg31 inf31) (.v rfl (V_fe underlying33 inf31) (.v rfl (V_lag (.o 8) isAgg31 inf31) (.e rfl (E_cu (F47_calls 0 p_Z q_Z r_23 hr_23) call47 .z) (.e rfl (E_cu (F47_calls 0 r_9 r_23 r_24 hr_24) call47 .z) (.v rfl (V_buildStruct (pv:=[(0,aG [(8,e32 r_18.toList)]),(1,aG [(8,e32 r_22.toList)]),(2,aG [(8,e32 r_24.toList)])]) (pl:=[(0,8),(8,8),(16,8)]) rfl rfl underlying33 inf33 places33 zer33 (cs:=flat [(8,e32 r_18.toList),(8,e32 r_22.toList),(8,e32 r_24.toList)]) (fill_part [] [(8,e32 ((replicate 8 0#32).toList)),(8,e32 ((replicate 8 0#32).toList))] rfl rfl trivial rfl (lenV (f:=v32) (replicate 8 0#32)) (lenV (f:=v32) r_18) (fill_part [(8,e32 r_18.toList)] [(8,e32 ((replicate 8 0#32).toList))] rfl rfl ⟨(lenV (f:=v32) r_18),trivial⟩ rfl (lenV (f:=v32) (replicate 8 0#32)) (lenV (f:=v32) r_22) (fill_part [(8,e32 r_18.toList),(8,e32 r_22.toList)] [] rfl rfl ⟨(lenV (f:=v32) r_18),(lenV (f:=v32) r_22),trivial⟩ rfl (lenV (f:=v32) (replicate 8 0#32)) (lenV (f:=v32) r_24) fill_end)))) .nil)))))))))))) .nil (by kernel_rfl) rfl (fun γ=>?_)
    refine TA_cut [(135,aG [(8,e32 r_18.toList),(8,e32 r_22.toList),(8,e32 r_24.toList)]),(4,ptr (some (b3,0)) 0)] [⟨some (b16,0),e32 r_22.toList⟩,⟨some (b15,0),e32 r_18.toList⟩,⟨some (b14,0),e32 r_14.toList⟩,⟨some (b1,0),e32 p_X.toList⟩,⟨some (b1,8),e32 p_Y.toList⟩,⟨some (b1,16),e32 p_Z.toList⟩,⟨some (b2,0),e32 q_X.toList⟩,⟨some (b2,8),e32 q_Y.toList⟩,⟨some (b2,16),e32 q_Z.toList⟩,⟨some (b3,0),e32 ((replicate 8 0#32).toList)⟩,⟨some (b3,8),e32 ((replicate 8 0#32).toList)⟩,⟨some (b3,16),e32 ((replicate 8 0#32).toList)⟩,⟨some (b6,0),e32 r_3.toList⟩,⟨some (b8,0),e32 r_6.toList⟩,⟨some (b10,0),e32 r_9.toList⟩,⟨some (b11,0),e32 r_10.toList⟩,⟨some (b12,0),e32 r_12.toList⟩,⟨some (b13,0),e32 r_13.toList⟩] ⟨rfl,rfl,trivial⟩ rfl ?_
    refine TA_all (rs:=[12]) (by kernel_rfl) rfl ?_
    refine ⟨?_,trivial⟩
    refine TO_n (is:=[]) (done':=dn 13 8191) rfl rfl rfl (by kernel_rfl) (E_sp (b:=b3) (o:=0) [9,9,9] [(8,e32 ((replicate 8 0#32).toList)),(8,e32 ((replicate 8 0#32).toList)),(8,e32 ((replicate 8 0#32).toList))] [(8,e32 r_18.toList),(8,e32 r_22.toList),(8,e32 r_24.toList)] rfl inf33 ⟨(lenV (f:=v32) (replicate 8 0#32)),(lenV (f:=v32) (replicate 8 0#32)),(lenV (f:=v32) (replicate 8 0#32)),trivial⟩ ⟨(lenV (f:=v32) r_18),(lenV (f:=v32) r_22),(lenV (f:=v32) r_24),trivial⟩ ⟨(OneC.map (fun _=>rfl) _),(OneC.map (fun _=>rfl) _),(OneC.map (fun _=>rfl) _),trivial⟩) (fun _ _=>rfl) (fun _=>?_)
    refine TA_done (by kernel_rfl) ?_ 0
    refine TX_next (TC_ret ?_)
    obtain rfl:=sj H
    exact TXr (vs:=[_]) rfl ⟨(Res_agg (n:=24) (cs:=flat [(8,e32 r_18.toList),(8,e32 r_22.toList),(8,e32 r_24.toList)]) rfl (by simp) (SrcEnts (b:=b3) [(8,e32 r_18.toList),(8,e32 r_22.toList),(8,e32 r_24.toList)] 0 ⟨(lenV (f:=v32) r_18),(lenV (f:=v32) r_22),(lenV (f:=v32) r_24),trivial⟩ (AllSrc.all (M:=ents b3 0 [(8,e32 r_18.toList),(8,e32 r_22.toList),(8,e32 r_24.toList)]) ⟨Src.own (j:=0) rfl,Src.own (j:=1) rfl,Src.own (j:=2) rfl,trivial⟩)) isAgg33 inf33 rfl (by simp [flat])),trivial⟩
end Go.Proofs
end

section
namespace Go.Kx
open Go Go.Proofs
open Vector (replicate)
open Go.Nt hiding n4
def F4 (v:Vx 64 4) (f:Fp):Prop:=R4 P256 v (toN f)
def F8 (v:Vx 32 8) (f:Fp):Prop:=R8 P256 v (toN f)
theorem F4_0:F4 (replicate 4 0#64) 0:=R4_zero md_P
theorem F8_0:F8 (replicate 8 0#32) 0:=R8_zero md_P
theorem toN_zero {f:Fp}:toN f=0 ↔ f=0:=⟨fun h=>toN_inj (h.trans toN_0.symm),fun h=>by rw [h]; rfl⟩
open Classical in
theorem F4.zero {v:Vx 64 4} {f:Fp} (h:F4 v f):num_Nat_Zero v=some (decide (f=0)):=by
 rw [R4.zero md_P h]
 congr 1
 exact decide_eq_decide.2 toN_zero
theorem F8.zero {v:Vx 32 8} {f:Fp} (h:F8 v f):v=replicate 8 0#32 ↔ f=0:=(R8.zero md_P h).trans toN_zero
section
variable {M:Vx 64 4} {inv:BitVec 64} {one two x y:Vx 64 4} {f g:Fp}
theorem Fd.mulF (F:Fd P256 M inv one two) (hx:F4 x f) (hy:F4 y g) : ∃ r,num_Field_Mul M inv one two x y=some r∧F4 r (f * g):=by
 obtain ⟨r,h1,h2⟩:=F.mul hx hy
 exact ⟨r,h1,by unfold F4; rw [toN_mul]; exact h2⟩
theorem Fd.addF (F:Fd P256 M inv one two) (hx:F4 x f) (hy:F4 y g) : ∃ r,num_Field_Add M inv one two x y=some r∧F4 r (f+g):=by
 obtain ⟨r,h1,h2⟩:=F.add hx hy
 exact ⟨r,h1,by unfold F4; rw [toN_add]; exact h2⟩
theorem Fd.subF (F:Fd P256 M inv one two) (hx:F4 x f) (hy:F4 y g) : ∃ r,num_Field_Sub M inv one two x y=some r∧F4 r (f - g):=by
 obtain ⟨r,h1,h2⟩:=F.sub hx hy
 exact ⟨r,h1,by unfold F4; rw [toN_sub]; exact h2⟩
end
section
variable {x y:Vx 32 8} {f g:Fp}
theorem Rd.mulF (F:Rd P256 0) (hx:F8 x f) (hy:F8 y g) : ∃ r,halberdref9_mont 0 x y=some r∧F8 r (f * g):=by
 obtain ⟨r,h1,h2⟩:=F.mul hx hy
 exact ⟨r,h1,by unfold F8; rw [toN_mul]; exact h2⟩
theorem Rd.addF (F:Rd P256 0) (hx:F8 x f) (hy:F8 y g) : ∃ r,halberdref9_add 0 x y=some r∧F8 r (f+g):=by
 obtain ⟨r,h1,h2⟩:=F.add hx hy
 exact ⟨r,h1,by unfold F8; rw [toN_add]; exact h2⟩
theorem Rd.subF (F:Rd P256 0) (hx:F8 x f) (hy:F8 y g) : ∃ r,halberdref9_sub 0 x y=some r∧F8 r (f - g):=by
 obtain ⟨r,h1,h2⟩:=F.sub hx hy
 exact ⟨r,h1,by unfold F8; rw [toN_sub]; exact h2⟩
end
def T4 (v:Vx 64 4 × Vx 64 4 × Vx 64 4) (t:F3):Prop:=F4 v.1 t.1∧F4 v.2.1 t.2.1∧F4 v.2.2 t.2.2
def T8 (v:Vx 32 8 × Vx 32 8 × Vx 32 8) (t:F3):Prop:=F8 v.1 t.1∧F8 v.2.1 t.2.1∧F8 v.2.2 t.2.2
theorem double_ex {M:Vx 64 4} {inv:BitVec 64} {one two b p_x p_y p_z:Vx 64 4} {t:F3} (F:Fd P256 M inv one two) (h:T4 (p_x,p_y,p_z) t) :
  ∃ r,pcurve_curve_double M inv one two b p_x p_y p_z=some r∧T4 r (jDbl t):=by
 obtain ⟨X,Y,Z⟩:=t
 obtain ⟨hp_x,hp_y,hp_z⟩:=h
 dsimp only at hp_x hp_y hp_z
 obtain ⟨r_1,er_1,fr_1⟩:=F.mulF hp_z hp_z
 obtain ⟨r_2,er_2,fr_2⟩:=F.mulF hp_y hp_y
 obtain ⟨r_3,er_3,fr_3⟩:=F.mulF hp_x fr_2
 obtain ⟨r_4,er_4,fr_4⟩:=F.subF hp_x fr_1
 obtain ⟨r_5,er_5,fr_5⟩:=F.addF hp_x fr_1
 obtain ⟨r_6,er_6,fr_6⟩:=F.mulF fr_4 fr_5
 obtain ⟨r_7,er_7,fr_7⟩:=F.addF fr_6 fr_6
 obtain ⟨r_8,er_8,fr_8⟩:=F.addF fr_6 fr_7
 obtain ⟨r_9,er_9,fr_9⟩:=F.addF fr_3 fr_3
 obtain ⟨r_10,er_10,fr_10⟩:=F.addF fr_9 fr_9
 obtain ⟨r_11,er_11,fr_11⟩:=F.mulF fr_8 fr_8
 obtain ⟨r_12,er_12,fr_12⟩:=F.addF fr_10 fr_10
 obtain ⟨r_13,er_13,fr_13⟩:=F.subF fr_11 fr_12
 obtain ⟨r_14,er_14,fr_14⟩:=F.addF hp_y hp_z
 obtain ⟨r_15,er_15,fr_15⟩:=F.mulF fr_14 fr_14
 obtain ⟨r_16,er_16,fr_16⟩:=F.subF fr_15 fr_2
 obtain ⟨r_17,er_17,fr_17⟩:=F.subF fr_16 fr_1
 obtain ⟨r_18,er_18,fr_18⟩:=F.mulF fr_2 fr_2
 obtain ⟨r_19,er_19,fr_19⟩:=F.addF fr_18 fr_18
 obtain ⟨r_20,er_20,fr_20⟩:=F.addF fr_19 fr_19
 obtain ⟨r_21,er_21,fr_21⟩:=F.subF fr_10 fr_13
 obtain ⟨r_22,er_22,fr_22⟩:=F.mulF fr_8 fr_21
 obtain ⟨r_23,er_23,fr_23⟩:=F.addF fr_20 fr_20
 obtain ⟨r_24,er_24,fr_24⟩:=F.subF fr_22 fr_23
 refine ⟨(r_13,r_24,r_17),?_,?_⟩
 ·unfold pcurve_curve_double
  exact bind_i er_1 (bind_i er_2 (bind_i er_3 (bind_i er_4 (bind_i er_5 (bind_i er_6 (bind_i er_7 (bind_i er_8 (bind_i er_9 (bind_i er_10 (bind_i er_11 (bind_i er_12 (bind_i er_13 (bind_i er_14 (bind_i er_15 (bind_i er_16 (bind_i er_17 (bind_i er_18 (bind_i er_19 (bind_i er_20 (bind_i er_21 (bind_i er_22 (bind_i er_23 (bind_i er_24 (rfl))))))))))))))))))))))))
 ·refine ⟨fr_13,fr_24,?_⟩
  have e:(jDbl (X,Y,Z)).2.2=(Y+Z) * (Y+Z) - Y * Y - Z * Z:=by unfold jDbl; dsimp only; grind
  rw [e]; exact fr_17
theorem add_ex {M:Vx 64 4} {inv:BitVec 64} {one two b p_x p_y p_z q_x q_y q_z:Vx 64 4} {t u:F3} (F:Fd P256 M inv one two) (h:T4 (p_x,p_y,p_z) t) (k:T4 (q_x,q_y,q_z) u) :
  ∃ r,pcurve_curve_add M inv one two b p_x p_y p_z q_x q_y q_z=some r∧T4 r (jAdd t u):=by
 obtain ⟨X1,Y1,Z1⟩:=t
 obtain ⟨X2,Y2,Z2⟩:=u
 have hh:=h
 obtain ⟨hp_x,hp_y,hp_z⟩:=h
 obtain ⟨hq_x,hq_y,hq_z⟩:=k
 dsimp only at hp_x hp_y hp_z hq_x hq_y hq_z
 unfold pcurve_curve_add
 by_cases hz1:Z1=0
 ·refine ⟨(q_x,q_y,q_z),bind_i hp_z.zero (if_i (by simp [hz1]) rfl),?_⟩
  rw [show jAdd (X1,Y1,Z1) (X2,Y2,Z2)=(X2,Y2,Z2) from if_pos hz1]
  exact ⟨hq_x,hq_y,hq_z⟩
 by_cases hz2:Z2=0
 ·refine ⟨(p_x,p_y,p_z),bind_i hp_z.zero (if_n (by simp [hz1]) (bind_i hq_z.zero (if_i (by simp [hz2]) rfl))),?_⟩
  rw [show jAdd (X1,Y1,Z1) (X2,Y2,Z2)=(X1,Y1,Z1) from (if_neg hz1).trans (if_pos hz2)]
  exact ⟨hp_x,hp_y,hp_z⟩
 obtain ⟨r_3,er_3,fr_3⟩:=F.mulF hp_z hp_z
 obtain ⟨r_4,er_4,fr_4⟩:=F.mulF hq_z hq_z
 obtain ⟨r_5,er_5,fr_5⟩:=F.mulF hp_x fr_4
 obtain ⟨r_6,er_6,fr_6⟩:=F.mulF hq_x fr_3
 obtain ⟨r_7,er_7,fr_7⟩:=F.mulF hq_z fr_4
 obtain ⟨r_8,er_8,fr_8⟩:=F.mulF hp_y fr_7
 obtain ⟨r_9,er_9,fr_9⟩:=F.mulF hp_z fr_3
 obtain ⟨r_10,er_10,fr_10⟩:=F.mulF hq_y fr_9
 obtain ⟨r_11,er_11,fr_11⟩:=F.subF fr_6 fr_5
 obtain ⟨r_12,er_12,fr_12⟩:=F.subF fr_10 fr_8
 by_cases hH:X2 * (Z1 * Z1) - X1 * (Z2 * Z2)=0
 ·by_cases hR:Y2 * (Z1 * (Z1 * Z1)) - Y1 * (Z2 * (Z2 * Z2))=0
  ·obtain ⟨d,hd,td⟩:=double_ex (b:=b) F hh
   refine ⟨(d.1,d.2.1,d.2.2),bind_i hp_z.zero (if_n (by simp [hz1]) (bind_i hq_z.zero (if_n (by simp [hz2]) (bind_i er_3 (bind_i er_4 (bind_i er_5 (bind_i er_6 (bind_i er_7 (bind_i er_8 (bind_i er_9 (bind_i er_10 (bind_i er_11 (bind_i er_12 (bind_i fr_11.zero (if_i (by simp [hH]) (bind_i fr_12.zero (if_i (by simp [hR]) (bind_i hd rfl)))))))))))))))))),?_⟩
   rw [show jAdd (X1,Y1,Z1) (X2,Y2,Z2)=jDbl (X1,Y1,Z1) from (if_neg hz1).trans ((if_neg hz2).trans ((if_pos hH).trans (if_pos hR)))]
   exact td
  ·refine ⟨_,bind_i hp_z.zero (if_n (by simp [hz1]) (bind_i hq_z.zero (if_n (by simp [hz2]) (bind_i er_3 (bind_i er_4 (bind_i er_5 (bind_i er_6 (bind_i er_7 (bind_i er_8 (bind_i er_9 (bind_i er_10 (bind_i er_11 (bind_i er_12 (bind_i fr_11.zero (if_i (by simp [hH]) (bind_i fr_12.zero (if_n (by simp [hR]) rfl))))))))))))))))),?_⟩
   rw [show jAdd (X1,Y1,Z1) (X2,Y2,Z2)=(0,0,0) from (if_neg hz1).trans ((if_neg hz2).trans ((if_pos hH).trans (if_neg hR)))]
   exact ⟨F4_0,F4_0,F4_0⟩
 ·obtain ⟨r_16,er_16,fr_16⟩:=F.mulF fr_11 fr_11
  obtain ⟨r_17,er_17,fr_17⟩:=F.mulF fr_11 fr_16
  obtain ⟨r_18,er_18,fr_18⟩:=F.mulF fr_5 fr_16
  obtain ⟨r_19,er_19,fr_19⟩:=F.mulF fr_12 fr_12
  obtain ⟨r_20,er_20,fr_20⟩:=F.subF fr_19 fr_17
  obtain ⟨r_21,er_21,fr_21⟩:=F.addF fr_18 fr_18
  obtain ⟨r_22,er_22,fr_22⟩:=F.subF fr_20 fr_21
  obtain ⟨r_23,er_23,fr_23⟩:=F.subF fr_18 fr_22
  obtain ⟨r_24,er_24,fr_24⟩:=F.mulF fr_12 fr_23
  obtain ⟨r_25,er_25,fr_25⟩:=F.mulF fr_8 fr_17
  obtain ⟨r_26,er_26,fr_26⟩:=F.subF fr_24 fr_25
  obtain ⟨r_27,er_27,fr_27⟩:=F.mulF hp_z hq_z
  obtain ⟨r_28,er_28,fr_28⟩:=F.mulF fr_11 fr_27
  refine ⟨(r_22,r_26,r_28),bind_i hp_z.zero (if_n (by simp [hz1]) (bind_i hq_z.zero (if_n (by simp [hz2]) (bind_i er_3 (bind_i er_4 (bind_i er_5 (bind_i er_6 (bind_i er_7 (bind_i er_8 (bind_i er_9 (bind_i er_10 (bind_i er_11 (bind_i er_12 (bind_i fr_11.zero (if_n (by simp [hH]) (bind_i er_16 (bind_i er_17 (bind_i er_18 (bind_i er_19 (bind_i er_20 (bind_i er_21 (bind_i er_22 (bind_i er_23 (bind_i er_24 (bind_i er_25 (bind_i er_26 (bind_i er_27 (bind_i er_28 (rfl))))))))))))))))))))))))))))),?_⟩
  rw [show jAdd (X1,Y1,Z1) (X2,Y2,Z2)=_ from (if_neg hz1).trans ((if_neg hz2).trans (if_neg hH))]
  exact ⟨fr_22,fr_26,fr_28⟩
open Classical in
noncomputable def jDbl' (t:F3):F3:=if t.2.2=0 then t else jDbl t
theorem twice_ex {p_X p_Y p_Z:Vx 32 8} {t:F3} (h:T8 (p_X,p_Y,p_Z) t) :
  ∃ r,halberdref9_twice p_X p_Y p_Z=some r∧T8 r (jDbl' t):=by
 have F:=Rd_P
 obtain ⟨X,Y,Z⟩:=t
 obtain ⟨hp_X,hp_Y,hp_Z⟩:=h
 dsimp only at hp_X hp_Y hp_Z
 unfold halberdref9_twice
 by_cases hz:Z=0
 ·refine ⟨_,if_i (hp_Z.zero.2 hz) rfl,?_⟩
  rw [show jDbl' (X,Y,Z)=(X,Y,Z) from if_pos hz]; exact ⟨hp_X,hp_Y,hp_Z⟩
 obtain ⟨r_1,er_1,fr_1⟩:=F.mulF hp_Y hp_Y
 obtain ⟨r_2,er_2,fr_2⟩:=F.mulF hp_X fr_1
 obtain ⟨r_3,er_3,fr_3⟩:=F.addF fr_2 fr_2
 obtain ⟨r_4,er_4,fr_4⟩:=F.addF fr_3 fr_3
 obtain ⟨r_5,er_5,fr_5⟩:=F.mulF hp_Z hp_Z
 obtain ⟨r_6,er_6,fr_6⟩:=F.subF hp_X fr_5
 obtain ⟨r_7,er_7,fr_7⟩:=F.addF hp_X fr_5
 obtain ⟨r_8,er_8,fr_8⟩:=F.mulF fr_6 fr_7
 obtain ⟨r_9,er_9,fr_9⟩:=F.addF fr_8 fr_8
 obtain ⟨r_10,er_10,fr_10⟩:=F.addF fr_8 fr_9
 obtain ⟨r_11,er_11,fr_11⟩:=F.mulF fr_10 fr_10
 obtain ⟨r_12,er_12,fr_12⟩:=F.addF fr_4 fr_4
 obtain ⟨r_13,er_13,fr_13⟩:=F.subF fr_11 fr_12
 obtain ⟨r_14,er_14,fr_14⟩:=F.mulF fr_1 fr_1
 obtain ⟨r_15,er_15,fr_15⟩:=F.addF fr_14 fr_14
 obtain ⟨r_16,er_16,fr_16⟩:=F.addF fr_15 fr_15
 obtain ⟨r_17,er_17,fr_17⟩:=F.addF fr_16 fr_16
 obtain ⟨r_18,er_18,fr_18⟩:=F.mulF hp_Y hp_Z
 obtain ⟨r_19,er_19,fr_19⟩:=F.subF fr_4 fr_13
 obtain ⟨r_20,er_20,fr_20⟩:=F.mulF fr_10 fr_19
 obtain ⟨r_21,er_21,fr_21⟩:=F.subF fr_20 fr_17
 obtain ⟨r_22,er_22,fr_22⟩:=F.addF fr_18 fr_18
 refine ⟨(r_13,r_21,r_22),if_n (fun c=>hz (hp_Z.zero.1 c)) (bind_i er_1 (bind_i er_2 (bind_i er_3 (bind_i er_4 (bind_i er_5 (bind_i er_6 (bind_i er_7 (bind_i er_8 (bind_i er_9 (bind_i er_10 (bind_i er_11 (bind_i er_12 (bind_i er_13 (bind_i er_14 (bind_i er_15 (bind_i er_16 (bind_i er_17 (bind_i er_18 (bind_i er_19 (bind_i er_20 (bind_i er_21 (bind_i er_22 (rfl))))))))))))))))))))))),?_⟩
 rw [show jDbl' (X,Y,Z)=jDbl (X,Y,Z) from if_neg hz]
 exact ⟨fr_13,fr_21,fr_22⟩
theorem together_ex {p_X p_Y p_Z q_X q_Y q_Z:Vx 32 8} {t u:F3} (h:T8 (p_X,p_Y,p_Z) t) (k:T8 (q_X,q_Y,q_Z) u) :
  ∃ r,halberdref9_together p_X p_Y p_Z q_X q_Y q_Z=some r∧T8 r (jAdd t u):=by
 have F:=Rd_P
 obtain ⟨X1,Y1,Z1⟩:=t
 obtain ⟨X2,Y2,Z2⟩:=u
 have hh:=h
 obtain ⟨hp_X,hp_Y,hp_Z⟩:=h
 obtain ⟨hq_X,hq_Y,hq_Z⟩:=k
 dsimp only at hp_X hp_Y hp_Z hq_X hq_Y hq_Z
 unfold halberdref9_together
 by_cases hz1:Z1=0
 ·refine ⟨(q_X,q_Y,q_Z),if_i (hp_Z.zero.2 hz1) rfl,?_⟩
  rw [show jAdd (X1,Y1,Z1) (X2,Y2,Z2)=(X2,Y2,Z2) from if_pos hz1]
  exact ⟨hq_X,hq_Y,hq_Z⟩
 have z1 : ¬ p_Z=replicate 8 0#32:=fun c=>hz1 (hp_Z.zero.1 c)
 by_cases hz2:Z2=0
 ·refine ⟨(p_X,p_Y,p_Z),if_n z1 (if_i (hq_Z.zero.2 hz2) rfl),?_⟩
  rw [show jAdd (X1,Y1,Z1) (X2,Y2,Z2)=(X1,Y1,Z1) from (if_neg hz1).trans (if_pos hz2)]
  exact ⟨hp_X,hp_Y,hp_Z⟩
 have z2 : ¬ q_Z=replicate 8 0#32:=fun c=>hz2 (hq_Z.zero.1 c)
 obtain ⟨r_1,er_1,fr_1⟩:=F.mulF hp_Z hp_Z
 obtain ⟨r_2,er_2,fr_2⟩:=F.mulF hq_Z hq_Z
 obtain ⟨r_3,er_3,fr_3⟩:=F.mulF hp_X fr_2
 obtain ⟨r_4,er_4,fr_4⟩:=F.mulF hq_X fr_1
 obtain ⟨r_5,er_5,fr_5⟩:=F.mulF hq_Z fr_2
 obtain ⟨r_6,er_6,fr_6⟩:=F.mulF hp_Y fr_5
 obtain ⟨r_7,er_7,fr_7⟩:=F.mulF hp_Z fr_1
 obtain ⟨r_8,er_8,fr_8⟩:=F.mulF hq_Y fr_7
 obtain ⟨r_9,er_9,fr_9⟩:=F.subF fr_4 fr_3
 obtain ⟨r_10,er_10,fr_10⟩:=F.subF fr_8 fr_6
 by_cases hH:X2 * (Z1 * Z1) - X1 * (Z2 * Z2)=0
 ·by_cases hR:Y2 * (Z1 * (Z1 * Z1)) - Y1 * (Z2 * (Z2 * Z2))=0
  ·obtain ⟨d,hd,td⟩:=twice_ex hh
   rw [show jDbl' (X1,Y1,Z1)=jDbl (X1,Y1,Z1) from if_neg hz1] at td
   refine ⟨(d.1,d.2.1,d.2.2),if_n z1 (if_n z2 (bind_i er_1 (bind_i er_2 (bind_i er_3 (bind_i er_4 (bind_i er_5 (bind_i er_6 (bind_i er_7 (bind_i er_8 (bind_i er_9 (bind_i er_10 (if_i (fr_9.zero.2 hH) (if_i (fr_10.zero.2 hR) (bind_i hd rfl)))))))))))))),?_⟩
   rw [show jAdd (X1,Y1,Z1) (X2,Y2,Z2)=jDbl (X1,Y1,Z1) from (if_neg hz1).trans ((if_neg hz2).trans ((if_pos hH).trans (if_pos hR)))]
   exact td
  ·refine ⟨_,if_n z1 (if_n z2 (bind_i er_1 (bind_i er_2 (bind_i er_3 (bind_i er_4 (bind_i er_5 (bind_i er_6 (bind_i er_7 (bind_i er_8 (bind_i er_9 (bind_i er_10 (if_i (fr_9.zero.2 hH) (if_n (fun c=>hR (fr_10.zero.1 c)) rfl))))))))))))),?_⟩
   rw [show jAdd (X1,Y1,Z1) (X2,Y2,Z2)=(0,0,0) from (if_neg hz1).trans ((if_neg hz2).trans ((if_pos hH).trans (if_neg hR)))]
   exact ⟨F8_0,F8_0,F8_0⟩
 ·obtain ⟨r_12,er_12,fr_12⟩:=F.mulF fr_9 fr_9
  obtain ⟨r_13,er_13,fr_13⟩:=F.mulF fr_9 fr_12
  obtain ⟨r_14,er_14,fr_14⟩:=F.mulF fr_3 fr_12
  obtain ⟨r_15,er_15,fr_15⟩:=F.mulF fr_10 fr_10
  obtain ⟨r_16,er_16,fr_16⟩:=F.subF fr_15 fr_13
  obtain ⟨r_17,er_17,fr_17⟩:=F.addF fr_14 fr_14
  obtain ⟨r_18,er_18,fr_18⟩:=F.subF fr_16 fr_17
  obtain ⟨r_19,er_19,fr_19⟩:=F.subF fr_14 fr_18
  obtain ⟨r_20,er_20,fr_20⟩:=F.mulF fr_10 fr_19
  obtain ⟨r_21,er_21,fr_21⟩:=F.mulF fr_6 fr_13
  obtain ⟨r_22,er_22,fr_22⟩:=F.subF fr_20 fr_21
  obtain ⟨r_23,er_23,fr_23⟩:=F.mulF hp_Z hq_Z
  obtain ⟨r_24,er_24,fr_24⟩:=F.mulF fr_9 fr_23
  refine ⟨(r_18,r_22,r_24),if_n z1 (if_n z2 (bind_i er_1 (bind_i er_2 (bind_i er_3 (bind_i er_4 (bind_i er_5 (bind_i er_6 (bind_i er_7 (bind_i er_8 (bind_i er_9 (bind_i er_10 (if_n (fun c=>hH (fr_9.zero.1 c)) (bind_i er_12 (bind_i er_13 (bind_i er_14 (bind_i er_15 (bind_i er_16 (bind_i er_17 (bind_i er_18 (bind_i er_19 (bind_i er_20 (bind_i er_21 (bind_i er_22 (bind_i er_23 (bind_i er_24 (rfl)))))))))))))))))))))))))),?_⟩
  rw [show jAdd (X1,Y1,Z1) (X2,Y2,Z2)=_ from (if_neg hz1).trans ((if_neg hz2).trans (if_neg hH))]
  exact ⟨fr_18,fr_22,fr_24⟩
end Go.Kx
end

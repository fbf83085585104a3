/-
  Part 7 of the proof of EcdsaTwins.
-/
import Derived.Test.YtiofnmmggblcgaaEcdsaTwinsA1
import Derived.Test.YtiofnmmggblcgaaEcdsaTwinsA2
import Derived.Test.YtiofnmmggblcgaaEcdsaTwinsA3
import Derived.Test.YtiofnmmggblcgaaEcdsaTwinsA4
import Derived.Test.YtiofnmmggblcgaaEcdsaTwinsA5
import Derived.Test.YtiofnmmggblcgaaEcdsaTwinsA6
set_option linter.unusedVariables false
set_option linter.unusedSimpArgs false
section
namespace Go.Proofs
open Go Go.Kx
open Vector (replicate)
def halberdref9_twice (p_X:Vx 32 8) (p_Y:Vx 32 8) (p_Z:Vx 32 8):Option (Vx 32 8 × Vx 32 8 × Vx 32 8) :=
 if p_Z=(replicate 8 0#32:Vx 32 8) then (some (p_X,p_Y,p_Z)) else ((halberdref9_mont 0 p_Y p_Y).bind fun (r_1:Vx 32 8)=>((halberdref9_mont 0 p_X r_1).bind fun (r_2:Vx 32 8)=>((halberdref9_add 0 r_2 r_2).bind fun (r_3:Vx 32 8)=>((halberdref9_add 0 r_3 r_3).bind fun (r_4:Vx 32 8)=>((halberdref9_mont 0 p_Z p_Z).bind fun (r_5:Vx 32 8)=>((halberdref9_sub 0 p_X r_5).bind fun (r_6:Vx 32 8)=>((halberdref9_add 0 p_X r_5).bind fun (r_7:Vx 32 8)=>((halberdref9_mont 0 r_6 r_7).bind fun (r_8:Vx 32 8)=>((halberdref9_add 0 r_8 r_8).bind fun (r_9:Vx 32 8)=>((halberdref9_add 0 r_8 r_9).bind fun (r_10:Vx 32 8)=>((halberdref9_mont 0 r_10 r_10).bind fun (r_11:Vx 32 8)=>((halberdref9_add 0 r_4 r_4).bind fun (r_12:Vx 32 8)=>((halberdref9_sub 0 r_11 r_12).bind fun (r_13:Vx 32 8)=>((halberdref9_mont 0 r_1 r_1).bind fun (r_14:Vx 32 8)=>((halberdref9_add 0 r_14 r_14).bind fun (r_15:Vx 32 8)=>((halberdref9_add 0 r_15 r_15).bind fun (r_16:Vx 32 8)=>((halberdref9_add 0 r_16 r_16).bind fun (r_17:Vx 32 8)=>((halberdref9_mont 0 p_Y p_Z).bind fun (r_18:Vx 32 8)=>((halberdref9_sub 0 r_4 r_13).bind fun (r_19:Vx 32 8)=>((halberdref9_mont 0 r_10 r_19).bind fun (r_20:Vx 32 8)=>((halberdref9_sub 0 r_20 r_17).bind fun (r_21:Vx 32 8)=>((halberdref9_add 0 r_18 r_18).bind fun (r_22:Vx 32 8)=>(some (r_13,r_21,r_22))))))))))))))))))))))))
set_option maxHeartbeats 4000000 in
set_option maxRecDepth 20000 in
theorem F76_calls (p_X:Vx 32 8) (p_Y:Vx 32 8) (p_Z:Vx 32 8) (r:Vx 32 8 × Vx 32 8 × Vx 32 8) (H:halberdref9_twice p_X p_Y p_Z=some r) :
  Does Try.prog 76 [aG [(8,e32 p_X.toList),(8,e32 p_Y.toList),(8,e32 p_Z.toList)]] [] [] (Γ:=Unit) (fun g=>aG [(8,e32 r.1.toList),(8,e32 r.2.1.toList),(8,e32 r.2.2.toList)]) (fun g=>[]):=by
 intro w hmem hro hd
 refine calls_of (N:=108) (m0:=[(0,aG [(8,e32 p_X.toList),(8,e32 p_Y.toList),(8,e32 p_Z.toList)])]) Try.func76 rfl Try.ntmps76 (argM_ok [aG [(8,e32 p_X.toList),(8,e32 p_Y.toList),(8,e32 p_Z.toList)]]) rfl hmem hro hd ?_
 unfold halberdref9_twice at H
 refine TC_seq (TC_region (TLe (E_boxP [(8,e32 p_X.toList),(8,e32 p_Y.toList),(8,e32 p_Z.toList)] rfl rfl ⟨(lenV (f:=v32) p_X),(lenV (f:=v32) p_Y),(lenV (f:=v32) p_Z),trivial⟩) (fun b1=>?_)))
 refine TLe (E_allocP [(8,e32 ((replicate 8 0#32).toList)),(8,e32 ((replicate 8 0#32).toList)),(8,e32 ((replicate 8 0#32).toList))] TryI.inf33 TryI.zer33 ⟨(lenV (f:=v32) (replicate 8 0#32)),(lenV (f:=v32) (replicate 8 0#32)),(lenV (f:=v32) (replicate 8 0#32)),trivial⟩) (fun b2=>?_)
 refine TL_nil (TX_next (TC_seq (TC_region (TLv (V_assign rfl) ?_))))
 refine TL_nil (TX_next (TC_seq (TC_seq (TC_region (TLv (V_fieldE rfl Try.underlying33 rfl rfl TryI.inf31 rfl (v:=ptr (some (b1,16)) 0) rfl) ?_)))))
 refine TLv (V_lag (.o 5) Try.isAgg31 TryI.inf31) ?_
 refine TLv (V_buildArr (pv:=[]) rfl rfl Try.underlying31 TryI.inf31 TryI.inf29 rfl TryI.zer31 (cs:=e32 ((replicate 8 0#32:Vx 32 8).toList)) (by kernel_rfl)) ?_
 refine TLv (V_bin rfl rfl (fun w=>eqlA32 w Try.underlying31 Try.underlying29 (by kernel_rfl) (by kernel_rfl) p_Z (replicate 8 0#32:Vx 32 8))) ?_
 refine TL_nil (TX_next (TC_cond (b:=(decide (p_Z=(replicate 8 0#32:Vx 32 8)))) rfl (fun hc=>?_) (fun hc=>?_)))
 ·replace H:=ite_t (of_decide_eq_true hc) H
  refine TC_seq (TC_region (TLv (V_loadAgg (n:=24) (cs:=flat [(8,e32 p_X.toList),(8,e32 p_Y.toList),(8,e32 p_Z.toList)]) rfl (by simp) (SrcEnts (b:=b1) [(8,e32 p_X.toList),(8,e32 p_Y.toList),(8,e32 p_Z.toList)] 0 ⟨(lenV (f:=v32) p_X),(lenV (f:=v32) p_Y),(lenV (f:=v32) p_Z),trivial⟩ (AllSrc.all (M:=ents b1 0 [(8,e32 p_X.toList),(8,e32 p_Y.toList),(8,e32 p_Z.toList)]) ⟨Src.own (j:=3) rfl,Src.own (j:=4) rfl,Src.own (j:=5) rfl,trivial⟩)) Try.isAgg33 TryI.inf33 rfl (flat_len ⟨(lenV (f:=v32) p_X),(lenV (f:=v32) p_Y),(lenV (f:=v32) p_Z),trivial⟩ rfl)) ?_))
  refine TLn (E_sp (b:=b2) (o:=0) [0,0,0] [(8,e32 ((replicate 8 0#32).toList)),(8,e32 ((replicate 8 0#32).toList)),(8,e32 ((replicate 8 0#32).toList))] [(8,e32 p_X.toList),(8,e32 p_Y.toList),(8,e32 p_Z.toList)] rfl TryI.inf33 ⟨(lenV (f:=v32) (replicate 8 0#32)),(lenV (f:=v32) (replicate 8 0#32)),(lenV (f:=v32) (replicate 8 0#32)),trivial⟩ ⟨(lenV (f:=v32) p_X),(lenV (f:=v32) p_Y),(lenV (f:=v32) p_Z),trivial⟩ ⟨(OneC.map (fun _=>rfl) _),(OneC.map (fun _=>rfl) _),(OneC.map (fun _=>rfl) _),trivial⟩) (fun _=>?_)
  refine TL_nil (TX_next (TC_ret (TX_then_ret ?_)))
  have hrv:=Option.some.inj H
  subst hrv
  exact TX_ret (rs:=[.cell 2 33]) (vs:=[aG [(8,e32 p_X.toList),(8,e32 p_Y.toList),(8,e32 p_Z.toList)]]) rfl ⟨(Res_agg (n:=24) (cs:=flat [(8,e32 p_X.toList),(8,e32 p_Y.toList),(8,e32 p_Z.toList)]) rfl (by simp) (SrcEnts (b:=b2) [(8,e32 p_X.toList),(8,e32 p_Y.toList),(8,e32 p_Z.toList)] 0 ⟨(lenV (f:=v32) p_X),(lenV (f:=v32) p_Y),(lenV (f:=v32) p_Z),trivial⟩ (AllSrc.all (M:=ents b2 0 [(8,e32 p_X.toList),(8,e32 p_Y.toList),(8,e32 p_Z.toList)]) ⟨Src.own (j:=0) rfl,Src.own (j:=1) rfl,Src.own (j:=2) rfl,trivial⟩)) Try.isAgg33 TryI.inf33 rfl (by simp [flat])),trivial⟩ (fun w' hs'=>⟨(),rfl,Step.left (Step.pulled (is:=[]) (A:=[]) hs' rfl)⟩)
 ·replace H:=ite_f (of_decide_eq_false hc) H
  refine TC_skip (TX_next (TC_seq (TC_region (TLv (V_move rfl) ?_))))
  refine TLv (V_fieldE rfl Try.underlying33 rfl rfl TryI.inf31 rfl (v:=ptr (some (b1,8)) 0) rfl) ?_
  refine TLv (V_lag (.o 4) Try.isAgg31 TryI.inf31) ?_
  refine TLv (V_fieldE rfl Try.underlying33 rfl rfl TryI.inf31 rfl (v:=ptr (some (b1,8)) 0) rfl) ?_
  refine TLv (V_lag (.o 4) Try.isAgg31 TryI.inf31) ?_
  obtain ⟨r_1,hr_1,H⟩:=bind_elim H
  refine TLe (E_c0 (F47_calls 0 p_Y p_Y r_1 hr_1) Try.call47 .z) (fun g_1=>?_)
  refine TLe (E_al32 8 TryI.inf31 TryI.zer31) (fun b3=>?_)
  refine TLn (E_sv (vs:=e32 r_1.toList) 0 TryI.inf31) (fun _=>?_)
  refine TL_nil (TX_next (TC_seq (TC_region (TLv (V_move rfl) ?_))))
  refine TLv (V_fieldE rfl Try.underlying33 rfl rfl TryI.inf31 rfl (v:=ptr (some (b1,0)) 0) rfl) ?_
  refine TLv (V_lag (.o 4) Try.isAgg31 TryI.inf31) ?_
  refine TLv (V_lag (.o 0) Try.isAgg31 TryI.inf31) ?_
  obtain ⟨r_2,hr_2,H⟩:=bind_elim H
  refine TLe (E_c0 (F47_calls 0 p_X r_1 r_2 hr_2) Try.call47 .z) (fun g_2=>?_)
  refine TLe (E_al32 8 TryI.inf31 TryI.zer31) (fun b4=>?_)
  refine TLn (E_sv (vs:=e32 r_2.toList) 0 TryI.inf31) (fun _=>?_)
  refine TL_nil (TX_next (TC.sub (m':=[(1,ptr (some (b1,0)) 0),(2,ptr (some (b2,0)) 0),(3,vi 0),(4,ptr (some (b3,0)) 0),(5,ptr (some (b4,0)) 0)]) ⟨rfl,rfl,rfl,rfl,rfl,trivial⟩ ?_))
  refine TC.pull (is:=[5,5,5,2,2,2,1,0]) (L':=[⟨some (b1,0),e32 p_X.toList⟩,⟨some (b1,8),e32 p_Y.toList⟩,⟨some (b1,16),e32 p_Z.toList⟩,⟨some (b2,0),e32 ((replicate 8 0#32).toList)⟩,⟨some (b2,8),e32 ((replicate 8 0#32).toList)⟩,⟨some (b2,16),e32 ((replicate 8 0#32).toList)⟩,⟨some (b3,0),e32 r_1.toList⟩,⟨some (b4,0),e32 r_2.toList⟩]) rfl ?_
  refine TC_seq (TC_region (TLv (V_move rfl) ?_))
  refine TLv (V_lag (.o 7) Try.isAgg31 TryI.inf31) ?_
  refine TLv (V_lag (.o 7) Try.isAgg31 TryI.inf31) ?_
  obtain ⟨r_3,hr_3,H⟩:=bind_elim H
  refine TLe (E_c0 (F48_calls 0 r_2 r_2 r_3 hr_3) Try.call48 .z) (fun g_3=>?_)
  refine TLn (E_sv (vs:=e32 r_3.toList) 7 TryI.inf31) (fun _=>?_)
  refine TL_nil (TX_next (TC_seq (TC_region (TLv (V_move rfl) ?_))))
  refine TLv (V_lag (.o 7) Try.isAgg31 TryI.inf31) ?_
  refine TLv (V_lag (.o 7) Try.isAgg31 TryI.inf31) ?_
  obtain ⟨r_4,hr_4,H⟩:=bind_elim H
  refine TLe (E_c0 (F48_calls 0 r_3 r_3 r_4 hr_4) Try.call48 .z) (fun g_4=>?_)
  refine TLn (E_sv (vs:=e32 r_4.toList) 7 TryI.inf31) (fun _=>?_)
  refine TL_nil (TX_next (TC_seq (TC_region (TLv (V_move rfl) ?_))))
  refine TLv (V_fieldE rfl Try.underlying33 rfl rfl TryI.inf31 rfl (v:=ptr (some (b1,16)) 0) rfl) ?_
  refine TLv (V_lag (.o 2) Try.isAgg31 TryI.inf31) ?_
  refine TLv (V_fieldE rfl Try.underlying33 rfl rfl TryI.inf31 rfl (v:=ptr (some (b1,16)) 0) rfl) ?_
  refine TLv (V_lag (.o 2) Try.isAgg31 TryI.inf31) ?_
  obtain ⟨r_5,hr_5,H⟩:=bind_elim H
  refine TLe (E_c0 (F47_calls 0 p_Z p_Z r_5 hr_5) Try.call47 .z) (fun g_5=>?_)
  refine TLe (E_al32 8 TryI.inf31 TryI.zer31) (fun b5=>?_)
  refine TLn (E_sv (vs:=e32 r_5.toList) 0 TryI.inf31) (fun _=>?_)
  refine TL_nil (TX_next (TC.sub (m':=[(1,ptr (some (b1,0)) 0),(2,ptr (some (b2,0)) 0),(3,vi 0),(4,ptr (some (b3,0)) 0),(5,ptr (some (b4,0)) 0),(6,ptr (some (b5,0)) 0)]) ⟨rfl,rfl,rfl,rfl,rfl,rfl,trivial⟩ ?_))
  refine TC.pull (is:=[1,1,1,1,1,1,1,1,0]) (L':=[⟨some (b1,0),e32 p_X.toList⟩,⟨some (b1,8),e32 p_Y.toList⟩,⟨some (b1,16),e32 p_Z.toList⟩,⟨some (b2,0),e32 ((replicate 8 0#32).toList)⟩,⟨some (b2,8),e32 ((replicate 8 0#32).toList)⟩,⟨some (b2,16),e32 ((replicate 8 0#32).toList)⟩,⟨some (b3,0),e32 r_1.toList⟩,⟨some (b4,0),e32 r_4.toList⟩,⟨some (b5,0),e32 r_5.toList⟩]) rfl ?_
  refine TC_seq ?_
  obtain ⟨r_6,hr_6,H⟩:=bind_elim H
  obtain ⟨r_7,hr_7,H⟩:=bind_elim H
  obtain ⟨r_8,hr_8,H⟩:=bind_elim H
  refine TA_begin [] 14 (by kernel_rfl) (N:=14) rfl ?_
  refine TA_mix (is:=[]) (done':=dn 14 8191) [itV 0 41 (vi 0) [],itV 1 42 (vi 0) [],itV 2 43 (ptr (some (b1,0)) 0) [],itV 3 44 (aG [(8,e32 p_X.toList)]) [2],itV 4 45 (aG [(8,e32 r_5.toList)]) [],itV 5 46 (aG [(8,e32 r_6.toList)]) [1,3,4],itV 6 47 (vi 0) [],itV 7 48 (ptr (some (b1,0)) 0) [],itV 8 49 (aG [(8,e32 p_X.toList)]) [7],itV 9 50 (aG [(8,e32 r_5.toList)]) [],itV 10 51 (aG [(8,e32 r_7.toList)]) [8,9,6],itV 11 52 (aG [(8,e32 r_8.toList)]) [0,10,5],itA32 12 7 8] [] 1 (by kernel_rfl) (QP.then QP.body) (by kernel_rfl) rfl (.v rfl (V_move rfl) (.v rfl (V_move rfl) (.v rfl (V_fe Try.underlying33 TryI.inf31) (.v rfl (V_lag (.o 0) Try.isAgg31 TryI.inf31) (.v rfl (V_lag (.o 8) Try.isAgg31 TryI.inf31) (.e rfl (E_cu (F49_calls 0 p_X r_5 r_6 hr_6) Try.call49 .z) (.v rfl (V_move rfl) (.v rfl (V_fe Try.underlying33 TryI.inf31) (.v rfl (V_lag (.o 0) Try.isAgg31 TryI.inf31) (.v rfl (V_lag (.o 8) Try.isAgg31 TryI.inf31) (.e rfl (E_cu (F48_calls 0 p_X r_5 r_7 hr_7) Try.call48 .z) (.e rfl (E_cu (F47_calls 0 r_6 r_7 r_8 hr_8) Try.call47 .z) (.c rfl (fun _ _=>(E_al32 8 TryI.inf31 TryI.zer31)) .nil))))))))))))) .nil (by kernel_rfl) rfl (fun γ=>?_)
  refine TA_cut [(7,ptr (some ((γ 12),0)) 0),(52,aG [(8,e32 r_8.toList)]),(1,ptr (some (b1,0)) 0),(2,ptr (some (b2,0)) 0),(3,vi 0),(4,ptr (some (b3,0)) 0),(5,ptr (some (b4,0)) 0)] [⟨some ((γ 12),0),e32 ((replicate 8 0#32).toList)⟩,⟨some (b1,0),e32 p_X.toList⟩,⟨some (b1,8),e32 p_Y.toList⟩,⟨some (b1,16),e32 p_Z.toList⟩,⟨some (b2,0),e32 ((replicate 8 0#32).toList)⟩,⟨some (b2,8),e32 ((replicate 8 0#32).toList)⟩,⟨some (b2,16),e32 ((replicate 8 0#32).toList)⟩,⟨some (b3,0),e32 r_1.toList⟩,⟨some (b4,0),e32 r_4.toList⟩,⟨some (b5,0),e32 r_5.toList⟩] ⟨rfl,rfl,rfl,rfl,rfl,rfl,rfl,trivial⟩ rfl ?_
  generalize γ 12=b6
  refine TA_all (rs:=[13]) (by kernel_rfl) rfl ?_
  refine ⟨?_,trivial⟩
  refine TO_n (is:=[]) (done':=dn 14 16383) rfl rfl rfl (by kernel_rfl) (E_sv (vs:=e32 r_8.toList) 0 TryI.inf31) (fun _ _=>rfl) (fun _=>?_)
  refine TA_done (by kernel_rfl) ?_ 0
  refine TX_next (TC_seq ?_)
  obtain ⟨r_9,hr_9,H⟩:=bind_elim H
  obtain ⟨r_10,hr_10,H⟩:=bind_elim H
  refine TA_begin [] 8 (by kernel_rfl) (N:=8) rfl ?_
  refine TA_mix (is:=[]) (done':=dn 8 127) [itV 0 53 (vi 0) [],itV 1 54 (aG [(8,e32 r_8.toList)]) [],itV 2 55 (vi 0) [],itV 3 56 (aG [(8,e32 r_8.toList)]) [],itV 4 57 (aG [(8,e32 r_8.toList)]) [],itV 5 58 (aG [(8,e32 r_9.toList)]) [3,4,2],itV 6 59 (aG [(8,e32 r_10.toList)]) [5,0,1]] [] 1 (by kernel_rfl) (QP.then QP.body) (by kernel_rfl) rfl (.v rfl (V_move rfl) (.v rfl (V_lag (.o 0) Try.isAgg31 TryI.inf31) (.v rfl (V_move rfl) (.v rfl (V_lag (.o 0) Try.isAgg31 TryI.inf31) (.v rfl (V_lag (.o 0) Try.isAgg31 TryI.inf31) (.e rfl (E_cu (F48_calls 0 r_8 r_8 r_9 hr_9) Try.call48 .z) (.e rfl (E_cu (F48_calls 0 r_8 r_9 r_10 hr_10) Try.call48 .z) .nil))))))) .nil (by kernel_rfl) rfl (fun γ=>?_)
  refine TA_cut [(59,aG [(8,e32 r_10.toList)]),(7,ptr (some (b6,0)) 0),(1,ptr (some (b1,0)) 0),(2,ptr (some (b2,0)) 0),(3,vi 0),(4,ptr (some (b3,0)) 0),(5,ptr (some (b4,0)) 0)] [⟨some (b6,0),e32 r_8.toList⟩,⟨some (b1,0),e32 p_X.toList⟩,⟨some (b1,8),e32 p_Y.toList⟩,⟨some (b1,16),e32 p_Z.toList⟩,⟨some (b2,0),e32 ((replicate 8 0#32).toList)⟩,⟨some (b2,8),e32 ((replicate 8 0#32).toList)⟩,⟨some (b2,16),e32 ((replicate 8 0#32).toList)⟩,⟨some (b3,0),e32 r_1.toList⟩,⟨some (b4,0),e32 r_4.toList⟩,⟨some (b5,0),e32 r_5.toList⟩] ⟨rfl,rfl,rfl,rfl,rfl,rfl,rfl,trivial⟩ rfl ?_
  refine TA_all (rs:=[7]) (by kernel_rfl) rfl ?_
  refine ⟨?_,trivial⟩
  refine TO_n (is:=[]) (done':=dn 8 255) rfl rfl rfl (by kernel_rfl) (E_sv (vs:=e32 r_10.toList) 0 TryI.inf31) (fun _ _=>rfl) (fun _=>?_)
  refine TA_done (by kernel_rfl) ?_ 0
  refine TX_next (TC_seq ?_)
  obtain ⟨r_11,hr_11,H⟩:=bind_elim H
  obtain ⟨r_12,hr_12,H⟩:=bind_elim H
  obtain ⟨r_13,hr_13,H⟩:=bind_elim H
  refine TA_begin [] 12 (by kernel_rfl) (N:=12) rfl ?_
  refine TA_mix (is:=[]) (done':=dn 12 2047) [itV 0 60 (vi 0) [],itV 1 61 (vi 0) [],itV 2 62 (aG [(8,e32 r_10.toList)]) [],itV 3 63 (aG [(8,e32 r_10.toList)]) [],itV 4 64 (aG [(8,e32 r_11.toList)]) [1,2,3],itV 5 65 (vi 0) [],itV 6 66 (aG [(8,e32 r_4.toList)]) [],itV 7 67 (aG [(8,e32 r_4.toList)]) [],itV 8 68 (aG [(8,e32 r_12.toList)]) [5,6,7],itV 9 69 (aG [(8,e32 r_13.toList)]) [4,0,8],itA32 10 8 8] [] 1 (by kernel_rfl) (QP.then QP.body) (by kernel_rfl) rfl (.v rfl (V_move rfl) (.v rfl (V_move rfl) (.v rfl (V_lag (.o 0) Try.isAgg31 TryI.inf31) (.v rfl (V_lag (.o 0) Try.isAgg31 TryI.inf31) (.e rfl (E_cu (F47_calls 0 r_10 r_10 r_11 hr_11) Try.call47 .z) (.v rfl (V_move rfl) (.v rfl (V_lag (.o 8) Try.isAgg31 TryI.inf31) (.v rfl (V_lag (.o 8) Try.isAgg31 TryI.inf31) (.e rfl (E_cu (F48_calls 0 r_4 r_4 r_12 hr_12) Try.call48 .z) (.e rfl (E_cu (F49_calls 0 r_11 r_12 r_13 hr_13) Try.call49 .z) (.c rfl (fun _ _=>(E_al32 8 TryI.inf31 TryI.zer31)) .nil))))))))))) .nil (by kernel_rfl) rfl (fun γ=>?_)
  refine TA_cut [(8,ptr (some ((γ 10),0)) 0),(69,aG [(8,e32 r_13.toList)]),(7,ptr (some (b6,0)) 0),(1,ptr (some (b1,0)) 0),(2,ptr (some (b2,0)) 0),(3,vi 0),(4,ptr (some (b3,0)) 0),(5,ptr (some (b4,0)) 0)] [⟨some ((γ 10),0),e32 ((replicate 8 0#32).toList)⟩,⟨some (b6,0),e32 r_10.toList⟩,⟨some (b1,0),e32 p_X.toList⟩,⟨some (b1,8),e32 p_Y.toList⟩,⟨some (b1,16),e32 p_Z.toList⟩,⟨some (b2,0),e32 ((replicate 8 0#32).toList)⟩,⟨some (b2,8),e32 ((replicate 8 0#32).toList)⟩,⟨some (b2,16),e32 ((replicate 8 0#32).toList)⟩,⟨some (b3,0),e32 r_1.toList⟩,⟨some (b4,0),e32 r_4.toList⟩,⟨some (b5,0),e32 r_5.toList⟩] ⟨rfl,rfl,rfl,rfl,rfl,rfl,rfl,rfl,trivial⟩ rfl ?_
  generalize γ 10=b7
  refine TA_all (rs:=[11]) (by kernel_rfl) rfl ?_
  refine ⟨?_,trivial⟩
  refine TO_n (is:=[]) (done':=dn 12 4095) rfl rfl rfl (by kernel_rfl) (E_sv (vs:=e32 r_13.toList) 0 TryI.inf31) (fun _ _=>rfl) (fun _=>?_)
  refine TA_done (by kernel_rfl) ?_ 0
  refine TX_next (TC_seq (TC_region (TLv (V_move rfl) ?_)))
  refine TLv (V_lag (.o 8) Try.isAgg31 TryI.inf31) ?_
  refine TLv (V_lag (.o 8) Try.isAgg31 TryI.inf31) ?_
  obtain ⟨r_14,hr_14,H⟩:=bind_elim H
  refine TLe (E_c0 (F47_calls 0 r_1 r_1 r_14 hr_14) Try.call47 .z) (fun g_14=>?_)
  refine TLe (E_al32 8 TryI.inf31 TryI.zer31) (fun b8=>?_)
  refine TLn (E_sv (vs:=e32 r_14.toList) 0 TryI.inf31) (fun _=>?_)
  refine TL_nil (TX_next (TC_seq (TC_region (TLv (V_move rfl) ?_))))
  refine TLv (V_lag (.o 0) Try.isAgg31 TryI.inf31) ?_
  refine TLv (V_lag (.o 0) Try.isAgg31 TryI.inf31) ?_
  obtain ⟨r_15,hr_15,H⟩:=bind_elim H
  refine TLe (E_c0 (F48_calls 0 r_14 r_14 r_15 hr_15) Try.call48 .z) (fun g_15=>?_)
  refine TLn (E_sv (vs:=e32 r_15.toList) 0 TryI.inf31) (fun _=>?_)
  refine TL_nil (TX_next (TC_seq (TC_region (TLv (V_move rfl) ?_))))
  refine TLv (V_lag (.o 0) Try.isAgg31 TryI.inf31) ?_
  refine TLv (V_lag (.o 0) Try.isAgg31 TryI.inf31) ?_
  obtain ⟨r_16,hr_16,H⟩:=bind_elim H
  refine TLe (E_c0 (F48_calls 0 r_15 r_15 r_16 hr_16) Try.call48 .z) (fun g_16=>?_)
  refine TLn (E_sv (vs:=e32 r_16.toList) 0 TryI.inf31) (fun _=>?_)
  refine TL_nil (TX_next (TC.sub (m':=[(1,ptr (some (b1,0)) 0),(2,ptr (some (b2,0)) 0),(3,vi 0),(5,ptr (some (b4,0)) 0),(7,ptr (some (b6,0)) 0),(8,ptr (some (b7,0)) 0),(9,ptr (some (b8,0)) 0)]) ⟨rfl,rfl,rfl,rfl,rfl,rfl,rfl,trivial⟩ ?_))
  refine TC.pull (is:=[3,3,3,3,3,3,4,2,1,0]) (L':=[⟨some (b1,0),e32 p_X.toList⟩,⟨some (b1,8),e32 p_Y.toList⟩,⟨some (b1,16),e32 p_Z.toList⟩,⟨some (b2,0),e32 ((replicate 8 0#32).toList)⟩,⟨some (b2,8),e32 ((replicate 8 0#32).toList)⟩,⟨some (b2,16),e32 ((replicate 8 0#32).toList)⟩,⟨some (b4,0),e32 r_4.toList⟩,⟨some (b6,0),e32 r_10.toList⟩,⟨some (b7,0),e32 r_13.toList⟩,⟨some (b8,0),e32 r_16.toList⟩]) rfl ?_
  refine TC_seq (TC_region (TLv (V_move rfl) ?_))
  refine TLv (V_lag (.o 9) Try.isAgg31 TryI.inf31) ?_
  refine TLv (V_lag (.o 9) Try.isAgg31 TryI.inf31) ?_
  obtain ⟨r_17,hr_17,H⟩:=bind_elim H
  refine TLe (E_c0 (F48_calls 0 r_16 r_16 r_17 hr_17) Try.call48 .z) (fun g_17=>?_)
  refine TLn (E_sv (vs:=e32 r_17.toList) 9 TryI.inf31) (fun _=>?_)
  refine TL_nil (TX_next (TC_seq (TC_region (TLv (V_move rfl) ?_))))
  refine TLv (V_fieldE rfl Try.underlying33 rfl rfl TryI.inf31 rfl (v:=ptr (some (b1,8)) 0) rfl) ?_
  refine TLv (V_lag (.o 1) Try.isAgg31 TryI.inf31) ?_
  refine TLv (V_fieldE rfl Try.underlying33 rfl rfl TryI.inf31 rfl (v:=ptr (some (b1,16)) 0) rfl) ?_
  refine TLv (V_lag (.o 2) Try.isAgg31 TryI.inf31) ?_
  obtain ⟨r_18,hr_18,H⟩:=bind_elim H
  refine TLe (E_c0 (F47_calls 0 p_Y p_Z r_18 hr_18) Try.call47 .z) (fun g_18=>?_)
  refine TLe (E_al32 8 TryI.inf31 TryI.zer31) (fun b9=>?_)
  refine TLn (E_sv (vs:=e32 r_18.toList) 0 TryI.inf31) (fun _=>?_)
  refine TL_nil (TX_next (TC_seq ?_))
  obtain ⟨r_19,hr_19,H⟩:=bind_elim H
  obtain ⟨r_20,hr_20,H⟩:=bind_elim H
  obtain ⟨r_21,hr_21,H⟩:=bind_elim H
  obtain ⟨r_22,hr_22,H⟩:=bind_elim H
  refine TA_begin [] 17 (by kernel_rfl) (N:=17) rfl ?_
  refine TA_mix (is:=[]) (done':=dn 17 65535) [itV 0 92 (aG [(8,e32 r_13.toList)]) [],itV 1 93 (vi 0) [],itV 2 94 (vi 0) [],itV 3 95 (aG [(8,e32 r_10.toList)]) [],itV 4 96 (vi 0) [],itV 5 97 (aG [(8,e32 r_4.toList)]) [],itV 6 98 (aG [(8,e32 r_13.toList)]) [],itV 7 99 (aG [(8,e32 r_19.toList)]) [4,5,6],itV 8 100 (aG [(8,e32 r_20.toList)]) [7,2,3],itV 9 101 (aG [(8,e32 r_17.toList)]) [],itV 10 102 (aG [(8,e32 r_21.toList)]) [9,8,1],itV 11 103 (vi 0) [],itV 12 104 (aG [(8,e32 r_18.toList)]) [],itV 13 105 (aG [(8,e32 r_18.toList)]) [],itV 14 106 (aG [(8,e32 r_22.toList)]) [12,13,11],itV 15 107 (aG [(8,e32 r_13.toList),(8,e32 r_21.toList),(8,e32 r_22.toList)]) [14,0,10]] [] 1 (by kernel_rfl) (QP.then QP.body) (by kernel_rfl) rfl (.v rfl (V_lag (.o 9) Try.isAgg31 TryI.inf31) (.v rfl (V_move rfl) (.v rfl (V_move rfl) (.v rfl (V_lag (.o 8) Try.isAgg31 TryI.inf31) (.v rfl (V_move rfl) (.v rfl (V_lag (.o 7) Try.isAgg31 TryI.inf31) (.v rfl (V_lag (.o 9) Try.isAgg31 TryI.inf31) (.e rfl (E_cu (F49_calls 0 r_4 r_13 r_19 hr_19) Try.call49 .z) (.e rfl (E_cu (F47_calls 0 r_10 r_19 r_20 hr_20) Try.call47 .z) (.v rfl (V_lag (.o 10) Try.isAgg31 TryI.inf31) (.e rfl (E_cu (F49_calls 0 r_20 r_17 r_21 hr_21) Try.call49 .z) (.v rfl (V_move rfl) (.v rfl (V_lag (.o 0) Try.isAgg31 TryI.inf31) (.v rfl (V_lag (.o 0) Try.isAgg31 TryI.inf31) (.e rfl (E_cu (F48_calls 0 r_18 r_18 r_22 hr_22) Try.call48 .z) (.v rfl (V_buildStruct (pv:=[(0,aG [(8,e32 r_13.toList)]),(1,aG [(8,e32 r_21.toList)]),(2,aG [(8,e32 r_22.toList)])]) (pl:=[(0,8),(8,8),(16,8)]) rfl rfl Try.underlying33 TryI.inf33 TryI.places33 TryI.zer33 (cs:=flat [(8,e32 r_13.toList),(8,e32 r_21.toList),(8,e32 r_22.toList)]) (fill_part [] [(8,e32 ((replicate 8 0#32).toList)),(8,e32 ((replicate 8 0#32).toList))] rfl rfl trivial rfl (lenV (f:=v32) (replicate 8 0#32)) (lenV (f:=v32) r_13) (fill_part [(8,e32 r_13.toList)] [(8,e32 ((replicate 8 0#32).toList))] rfl rfl ⟨(lenV (f:=v32) r_13),trivial⟩ rfl (lenV (f:=v32) (replicate 8 0#32)) (lenV (f:=v32) r_21) (fill_part [(8,e32 r_13.toList),(8,e32 r_21.toList)] [] rfl rfl ⟨(lenV (f:=v32) r_13),(lenV (f:=v32) r_21),trivial⟩ rfl (lenV (f:=v32) (replicate 8 0#32)) (lenV (f:=v32) r_22) fill_end)))) .nil)))))))))))))))) .nil (by kernel_rfl) rfl (fun γ=>?_)
  refine TA_cut [(107,aG [(8,e32 r_13.toList),(8,e32 r_21.toList),(8,e32 r_22.toList)]),(2,ptr (some (b2,0)) 0)] [⟨some (b9,0),e32 r_18.toList⟩,⟨some (b1,0),e32 p_X.toList⟩,⟨some (b1,8),e32 p_Y.toList⟩,⟨some (b1,16),e32 p_Z.toList⟩,⟨some (b2,0),e32 ((replicate 8 0#32).toList)⟩,⟨some (b2,8),e32 ((replicate 8 0#32).toList)⟩,⟨some (b2,16),e32 ((replicate 8 0#32).toList)⟩,⟨some (b4,0),e32 r_4.toList⟩,⟨some (b6,0),e32 r_10.toList⟩,⟨some (b7,0),e32 r_13.toList⟩,⟨some (b8,0),e32 r_17.toList⟩] ⟨rfl,rfl,trivial⟩ rfl ?_
  refine TA_all (rs:=[16]) (by kernel_rfl) rfl ?_
  refine ⟨?_,trivial⟩
  refine TO_n (is:=[]) (done':=dn 17 131071) rfl rfl rfl (by kernel_rfl) (E_sp (b:=b2) (o:=0) [4,4,4] [(8,e32 ((replicate 8 0#32).toList)),(8,e32 ((replicate 8 0#32).toList)),(8,e32 ((replicate 8 0#32).toList))] [(8,e32 r_13.toList),(8,e32 r_21.toList),(8,e32 r_22.toList)] rfl TryI.inf33 ⟨(lenV (f:=v32) (replicate 8 0#32)),(lenV (f:=v32) (replicate 8 0#32)),(lenV (f:=v32) (replicate 8 0#32)),trivial⟩ ⟨(lenV (f:=v32) r_13),(lenV (f:=v32) r_21),(lenV (f:=v32) r_22),trivial⟩ ⟨(OneC.map (fun _=>rfl) _),(OneC.map (fun _=>rfl) _),(OneC.map (fun _=>rfl) _),trivial⟩) (fun _ _=>rfl) (fun _=>?_)
  refine TA_done (by kernel_rfl) ?_ 0
  refine TX_next (TC_ret ?_)
  have hrv:=Option.some.inj H
  subst hrv
  exact TX_ret (rs:=[.cell 2 33]) (vs:=[aG [(8,e32 r_13.toList),(8,e32 r_21.toList),(8,e32 r_22.toList)]]) rfl ⟨(Res_agg (n:=24) (cs:=flat [(8,e32 r_13.toList),(8,e32 r_21.toList),(8,e32 r_22.toList)]) rfl (by simp) (SrcEnts (b:=b2) [(8,e32 r_13.toList),(8,e32 r_21.toList),(8,e32 r_22.toList)] 0 ⟨(lenV (f:=v32) r_13),(lenV (f:=v32) r_21),(lenV (f:=v32) r_22),trivial⟩ (AllSrc.all (M:=ents b2 0 [(8,e32 r_13.toList),(8,e32 r_21.toList),(8,e32 r_22.toList)]) ⟨Src.own (j:=0) rfl,Src.own (j:=1) rfl,Src.own (j:=2) rfl,trivial⟩)) Try.isAgg33 TryI.inf33 rfl (by simp [flat])),trivial⟩ (fun w' hs'=>⟨(),rfl,Step.left (Step.pulled (is:=[]) (A:=[]) hs' rfl)⟩)
end Go.Proofs
end

section
namespace Go.Proofs
open Go Go.Kx
open Vector (replicate)
def halberdref9_together (p_X:Vx 32 8) (p_Y:Vx 32 8) (p_Z:Vx 32 8) (q_X:Vx 32 8) (q_Y:Vx 32 8) (q_Z:Vx 32 8):Option (Vx 32 8 × Vx 32 8 × Vx 32 8) :=
 if p_Z=(replicate 8 0#32:Vx 32 8) then (some (q_X,q_Y,q_Z)) else (if q_Z=(replicate 8 0#32:Vx 32 8) then (some (p_X,p_Y,p_Z)) else ((halberdref9_mont 0 p_Z p_Z).bind fun (r_1:Vx 32 8)=>((halberdref9_mont 0 q_Z q_Z).bind fun (r_2:Vx 32 8)=>((halberdref9_mont 0 p_X r_2).bind fun (r_3:Vx 32 8)=>((halberdref9_mont 0 q_X r_1).bind fun (r_4:Vx 32 8)=>((halberdref9_mont 0 q_Z r_2).bind fun (r_5:Vx 32 8)=>((halberdref9_mont 0 p_Y r_5).bind fun (r_6:Vx 32 8)=>((halberdref9_mont 0 p_Z r_1).bind fun (r_7:Vx 32 8)=>((halberdref9_mont 0 q_Y r_7).bind fun (r_8:Vx 32 8)=>((halberdref9_sub 0 r_4 r_3).bind fun (r_9:Vx 32 8)=>((halberdref9_sub 0 r_8 r_6).bind fun (r_10:Vx 32 8)=>(if r_9=(replicate 8 0#32:Vx 32 8) then (if r_10=(replicate 8 0#32:Vx 32 8) then ((halberdref9_twice p_X p_Y p_Z).bind fun (r_11:Vx 32 8 × Vx 32 8 × Vx 32 8)=>(some (r_11.1,r_11.2.1,r_11.2.2))) else (some (replicate 8 0#32,replicate 8 0#32,replicate 8 0#32))) else ((halberdref9_mont 0 r_9 r_9).bind fun (r_12:Vx 32 8)=>((halberdref9_mont 0 r_9 r_12).bind fun (r_13:Vx 32 8)=>((halberdref9_mont 0 r_3 r_12).bind fun (r_14:Vx 32 8)=>((halberdref9_mont 0 r_10 r_10).bind fun (r_15:Vx 32 8)=>((halberdref9_sub 0 r_15 r_13).bind fun (r_16:Vx 32 8)=>((halberdref9_add 0 r_14 r_14).bind fun (r_17:Vx 32 8)=>((halberdref9_sub 0 r_16 r_17).bind fun (r_18:Vx 32 8)=>((halberdref9_sub 0 r_14 r_18).bind fun (r_19:Vx 32 8)=>((halberdref9_mont 0 r_10 r_19).bind fun (r_20:Vx 32 8)=>((halberdref9_mont 0 r_6 r_13).bind fun (r_21:Vx 32 8)=>((halberdref9_sub 0 r_20 r_21).bind fun (r_22:Vx 32 8)=>((halberdref9_mont 0 p_Z q_Z).bind fun (r_23:Vx 32 8)=>((halberdref9_mont 0 r_9 r_23).bind fun (r_24:Vx 32 8)=>(some (r_18,r_22,r_24)))))))))))))))))))))))))))
set_option maxHeartbeats 4000000 in
set_option maxRecDepth 20000 in
theorem F44_calls (p_X:Vx 32 8) (p_Y:Vx 32 8) (p_Z:Vx 32 8) (q_X:Vx 32 8) (q_Y:Vx 32 8) (q_Z:Vx 32 8) (r:Vx 32 8 × Vx 32 8 × Vx 32 8) (H:halberdref9_together p_X p_Y p_Z q_X q_Y q_Z=some r) :
  Does Try.prog 44 [aG [(8,e32 p_X.toList),(8,e32 p_Y.toList),(8,e32 p_Z.toList)],aG [(8,e32 q_X.toList),(8,e32 q_Y.toList),(8,e32 q_Z.toList)]] [] [] (Γ:=Unit) (fun g=>aG [(8,e32 r.1.toList),(8,e32 r.2.1.toList),(8,e32 r.2.2.toList)]) (fun g=>[]):=by
 intro w hmem hro hd
 refine calls_of (N:=136) (m0:=[(0,aG [(8,e32 p_X.toList),(8,e32 p_Y.toList),(8,e32 p_Z.toList)]),(1,aG [(8,e32 q_X.toList),(8,e32 q_Y.toList),(8,e32 q_Z.toList)])]) Try.func44 rfl Try.ntmps44 (argM_ok [aG [(8,e32 p_X.toList),(8,e32 p_Y.toList),(8,e32 p_Z.toList)],aG [(8,e32 q_X.toList),(8,e32 q_Y.toList),(8,e32 q_Z.toList)]]) rfl hmem hro hd ?_
 unfold halberdref9_together at H
 refine TC_seq (TC_region (TLe (E_boxP [(8,e32 p_X.toList),(8,e32 p_Y.toList),(8,e32 p_Z.toList)] rfl rfl ⟨(lenV (f:=v32) p_X),(lenV (f:=v32) p_Y),(lenV (f:=v32) p_Z),trivial⟩) (fun b1=>?_)))
 refine TLe (E_boxP [(8,e32 q_X.toList),(8,e32 q_Y.toList),(8,e32 q_Z.toList)] rfl rfl ⟨(lenV (f:=v32) q_X),(lenV (f:=v32) q_Y),(lenV (f:=v32) q_Z),trivial⟩) (fun b2=>?_)
 refine TLe (E_allocP [(8,e32 ((replicate 8 0#32).toList)),(8,e32 ((replicate 8 0#32).toList)),(8,e32 ((replicate 8 0#32).toList))] TryI.inf33 TryI.zer33 ⟨(lenV (f:=v32) (replicate 8 0#32)),(lenV (f:=v32) (replicate 8 0#32)),(lenV (f:=v32) (replicate 8 0#32)),trivial⟩) (fun b3=>?_)
 refine TL_nil (TX_next (TC_seq (TC_region (TLv (V_assign rfl) ?_))))
 refine TL_nil (TX_next (TC_seq (TC_seq (TC_region (TLv (V_fieldE rfl Try.underlying33 rfl rfl TryI.inf31 rfl (v:=ptr (some (b1,16)) 0) rfl) ?_)))))
 refine TLv (V_lag (.o 8) Try.isAgg31 TryI.inf31) ?_
 refine TLv (V_buildArr (pv:=[]) rfl rfl Try.underlying31 TryI.inf31 TryI.inf29 rfl TryI.zer31 (cs:=e32 ((replicate 8 0#32:Vx 32 8).toList)) (by kernel_rfl)) ?_
 refine TLv (V_bin rfl rfl (fun w=>eqlA32 w Try.underlying31 Try.underlying29 (by kernel_rfl) (by kernel_rfl) p_Z (replicate 8 0#32:Vx 32 8))) ?_
 refine TL_nil (TX_next (TC_cond (b:=(decide (p_Z=(replicate 8 0#32:Vx 32 8)))) rfl (fun hc=>?_) (fun hc=>?_)))
 ·replace H:=ite_t (of_decide_eq_true hc) H
  refine TC_seq (TC_region (TLv (V_loadAgg (n:=24) (cs:=flat [(8,e32 q_X.toList),(8,e32 q_Y.toList),(8,e32 q_Z.toList)]) rfl (by simp) (SrcEnts (b:=b2) [(8,e32 q_X.toList),(8,e32 q_Y.toList),(8,e32 q_Z.toList)] 0 ⟨(lenV (f:=v32) q_X),(lenV (f:=v32) q_Y),(lenV (f:=v32) q_Z),trivial⟩ (AllSrc.all (M:=ents b2 0 [(8,e32 q_X.toList),(8,e32 q_Y.toList),(8,e32 q_Z.toList)]) ⟨Src.own (j:=3) rfl,Src.own (j:=4) rfl,Src.own (j:=5) rfl,trivial⟩)) Try.isAgg33 TryI.inf33 rfl (flat_len ⟨(lenV (f:=v32) q_X),(lenV (f:=v32) q_Y),(lenV (f:=v32) q_Z),trivial⟩ rfl)) ?_))
  refine TLn (E_sp (b:=b3) (o:=0) [0,0,0] [(8,e32 ((replicate 8 0#32).toList)),(8,e32 ((replicate 8 0#32).toList)),(8,e32 ((replicate 8 0#32).toList))] [(8,e32 q_X.toList),(8,e32 q_Y.toList),(8,e32 q_Z.toList)] rfl TryI.inf33 ⟨(lenV (f:=v32) (replicate 8 0#32)),(lenV (f:=v32) (replicate 8 0#32)),(lenV (f:=v32) (replicate 8 0#32)),trivial⟩ ⟨(lenV (f:=v32) q_X),(lenV (f:=v32) q_Y),(lenV (f:=v32) q_Z),trivial⟩ ⟨(OneC.map (fun _=>rfl) _),(OneC.map (fun _=>rfl) _),(OneC.map (fun _=>rfl) _),trivial⟩) (fun _=>?_)
  refine TL_nil (TX_next (TC_ret (TX_then_ret ?_)))
  have hrv:=Option.some.inj H
  subst hrv
  exact TX_ret (rs:=[.cell 4 33]) (vs:=[aG [(8,e32 q_X.toList),(8,e32 q_Y.toList),(8,e32 q_Z.toList)]]) rfl ⟨(Res_agg (n:=24) (cs:=flat [(8,e32 q_X.toList),(8,e32 q_Y.toList),(8,e32 q_Z.toList)]) rfl (by simp) (SrcEnts (b:=b3) [(8,e32 q_X.toList),(8,e32 q_Y.toList),(8,e32 q_Z.toList)] 0 ⟨(lenV (f:=v32) q_X),(lenV (f:=v32) q_Y),(lenV (f:=v32) q_Z),trivial⟩ (AllSrc.all (M:=ents b3 0 [(8,e32 q_X.toList),(8,e32 q_Y.toList),(8,e32 q_Z.toList)]) ⟨Src.own (j:=0) rfl,Src.own (j:=1) rfl,Src.own (j:=2) rfl,trivial⟩)) Try.isAgg33 TryI.inf33 rfl (by simp [flat])),trivial⟩ (fun w' hs'=>⟨(),rfl,Step.left (Step.pulled (is:=[]) (A:=[]) hs' rfl)⟩)
 ·replace H:=ite_f (of_decide_eq_false hc) H
  refine TC_skip (TX_next (TC_seq (TC_seq (TC_region (TLv (V_fieldE rfl Try.underlying33 rfl rfl TryI.inf31 rfl (v:=ptr (some (b2,16)) 0) rfl) ?_)))))
  refine TLv (V_lag (.o 5) Try.isAgg31 TryI.inf31) ?_
  refine TLv (V_buildArr (pv:=[]) rfl rfl Try.underlying31 TryI.inf31 TryI.inf29 rfl TryI.zer31 (cs:=e32 ((replicate 8 0#32:Vx 32 8).toList)) (by kernel_rfl)) ?_
  refine TLv (V_bin rfl rfl (fun w=>eqlA32 w Try.underlying31 Try.underlying29 (by kernel_rfl) (by kernel_rfl) q_Z (replicate 8 0#32:Vx 32 8))) ?_
  refine TL_nil (TX_next (TC_cond (b:=(decide (q_Z=(replicate 8 0#32:Vx 32 8)))) rfl (fun hc=>?_) (fun hc=>?_)))
  ·replace H:=ite_t (of_decide_eq_true hc) H
   refine TC_seq (TC_region (TLv (V_loadAgg (n:=24) (cs:=flat [(8,e32 p_X.toList),(8,e32 p_Y.toList),(8,e32 p_Z.toList)]) rfl (by simp) (SrcEnts (b:=b1) [(8,e32 p_X.toList),(8,e32 p_Y.toList),(8,e32 p_Z.toList)] 0 ⟨(lenV (f:=v32) p_X),(lenV (f:=v32) p_Y),(lenV (f:=v32) p_Z),trivial⟩ (AllSrc.all (M:=ents b1 0 [(8,e32 p_X.toList),(8,e32 p_Y.toList),(8,e32 p_Z.toList)]) ⟨Src.own (j:=6) rfl,Src.own (j:=7) rfl,Src.own (j:=8) rfl,trivial⟩)) Try.isAgg33 TryI.inf33 rfl (flat_len ⟨(lenV (f:=v32) p_X),(lenV (f:=v32) p_Y),(lenV (f:=v32) p_Z),trivial⟩ rfl)) ?_))
   refine TLn (E_sp (b:=b3) (o:=0) [0,0,0] [(8,e32 ((replicate 8 0#32).toList)),(8,e32 ((replicate 8 0#32).toList)),(8,e32 ((replicate 8 0#32).toList))] [(8,e32 p_X.toList),(8,e32 p_Y.toList),(8,e32 p_Z.toList)] rfl TryI.inf33 ⟨(lenV (f:=v32) (replicate 8 0#32)),(lenV (f:=v32) (replicate 8 0#32)),(lenV (f:=v32) (replicate 8 0#32)),trivial⟩ ⟨(lenV (f:=v32) p_X),(lenV (f:=v32) p_Y),(lenV (f:=v32) p_Z),trivial⟩ ⟨(OneC.map (fun _=>rfl) _),(OneC.map (fun _=>rfl) _),(OneC.map (fun _=>rfl) _),trivial⟩) (fun _=>?_)
   refine TL_nil (TX_next (TC_ret (TX_then_ret ?_)))
   have hrv:=Option.some.inj H
   subst hrv
   exact TX_ret (rs:=[.cell 4 33]) (vs:=[aG [(8,e32 p_X.toList),(8,e32 p_Y.toList),(8,e32 p_Z.toList)]]) rfl ⟨(Res_agg (n:=24) (cs:=flat [(8,e32 p_X.toList),(8,e32 p_Y.toList),(8,e32 p_Z.toList)]) rfl (by simp) (SrcEnts (b:=b3) [(8,e32 p_X.toList),(8,e32 p_Y.toList),(8,e32 p_Z.toList)] 0 ⟨(lenV (f:=v32) p_X),(lenV (f:=v32) p_Y),(lenV (f:=v32) p_Z),trivial⟩ (AllSrc.all (M:=ents b3 0 [(8,e32 p_X.toList),(8,e32 p_Y.toList),(8,e32 p_Z.toList)]) ⟨Src.own (j:=0) rfl,Src.own (j:=1) rfl,Src.own (j:=2) rfl,trivial⟩)) Try.isAgg33 TryI.inf33 rfl (by simp [flat])),trivial⟩ (fun w' hs'=>⟨(),rfl,Step.left (Step.pulled (is:=[]) (A:=[]) hs' rfl)⟩)
  ·replace H:=ite_f (of_decide_eq_false hc) H
   refine TC_skip (TX_next (TC_seq ?_))
   obtain ⟨r_1,hr_1,H⟩:=bind_elim H
   obtain ⟨r_2,hr_2,H⟩:=bind_elim H
   refine TA_begin [] 16 (by kernel_rfl) (N:=16) rfl ?_
   refine TA_mix (is:=[]) (done':=dn 16 16383) [itV 0 29 (vi 0) [],itV 1 30 (ptr (some (b1,16)) 0) [],itV 2 31 (aG [(8,e32 p_Z.toList)]) [1],itV 3 32 (ptr (some (b1,16)) 0) [],itV 4 33 (aG [(8,e32 p_Z.toList)]) [3],itV 5 34 (aG [(8,e32 r_1.toList)]) [4,0,2],itV 6 35 (vi 0) [],itV 7 36 (ptr (some (b2,16)) 0) [],itV 8 37 (aG [(8,e32 q_Z.toList)]) [7],itV 9 38 (ptr (some (b2,16)) 0) [],itV 10 39 (aG [(8,e32 q_Z.toList)]) [9],itV 11 40 (aG [(8,e32 r_2.toList)]) [6,8,10],itA32 12 6 8,itA32 13 7 8] [] 2 (by kernel_rfl) (QP.then QP.body) (by kernel_rfl) rfl (.v rfl (V_move rfl) (.v rfl (V_fe Try.underlying33 TryI.inf31) (.v rfl (V_lag (.o 8) Try.isAgg31 TryI.inf31) (.v rfl (V_fe Try.underlying33 TryI.inf31) (.v rfl (V_lag (.o 8) Try.isAgg31 TryI.inf31) (.e rfl (E_cu (F47_calls 0 p_Z p_Z r_1 hr_1) Try.call47 .z) (.v rfl (V_move rfl) (.v rfl (V_fe Try.underlying33 TryI.inf31) (.v rfl (V_lag (.o 5) Try.isAgg31 TryI.inf31) (.v rfl (V_fe Try.underlying33 TryI.inf31) (.v rfl (V_lag (.o 5) Try.isAgg31 TryI.inf31) (.e rfl (E_cu (F47_calls 0 q_Z q_Z r_2 hr_2) Try.call47 .z) (.c rfl (fun _ _=>(E_al32 8 TryI.inf31 TryI.zer31)) (.c rfl (fun _ _=>(E_al32 8 TryI.inf31 TryI.zer31)) .nil)))))))))))))) .nil (by kernel_rfl) rfl (fun γ=>?_)
   refine TA_cut [(7,ptr (some ((γ 13),0)) 0),(6,ptr (some ((γ 12),0)) 0),(40,aG [(8,e32 r_2.toList)]),(34,aG [(8,e32 r_1.toList)]),(5,vi 0),(4,ptr (some (b3,0)) 0),(3,ptr (some (b2,0)) 0),(2,ptr (some (b1,0)) 0)] [⟨some ((γ 13),0),e32 ((replicate 8 0#32).toList)⟩,⟨some ((γ 12),0),e32 ((replicate 8 0#32).toList)⟩,⟨some (b3,0),e32 ((replicate 8 0#32).toList)⟩,⟨some (b3,8),e32 ((replicate 8 0#32).toList)⟩,⟨some (b3,16),e32 ((replicate 8 0#32).toList)⟩,⟨some (b2,0),e32 q_X.toList⟩,⟨some (b2,8),e32 q_Y.toList⟩,⟨some (b2,16),e32 q_Z.toList⟩,⟨some (b1,0),e32 p_X.toList⟩,⟨some (b1,8),e32 p_Y.toList⟩,⟨some (b1,16),e32 p_Z.toList⟩] ⟨rfl,rfl,rfl,rfl,rfl,rfl,rfl,rfl,trivial⟩ rfl ?_
   generalize γ 12=b4
   generalize γ 13=b5
   refine TA_all (rs:=[14]) (by kernel_rfl) rfl ?_
   refine ⟨?_,trivial⟩
   refine TO_n (is:=[]) (done':=dn 16 32767) rfl rfl rfl (by kernel_rfl) (E_sv (vs:=e32 r_1.toList) 1 TryI.inf31) (fun _ _=>rfl) (fun _=>?_)
   refine TA_all (rs:=[15]) (by kernel_rfl) rfl ?_
   refine ⟨?_,trivial⟩
   refine TO_n (is:=[]) (done':=dn 16 65535) rfl rfl rfl (by kernel_rfl) (E_sv (vs:=e32 r_2.toList) 0 TryI.inf31) (fun _ _=>rfl) (fun _=>?_)
   refine TA_done (by kernel_rfl) ?_ 0
   refine TX_next (TC_seq ?_)
   obtain ⟨r_3,hr_3,H⟩:=bind_elim H
   obtain ⟨r_4,hr_4,H⟩:=bind_elim H
   refine TA_begin [] 14 (by kernel_rfl) (N:=14) rfl ?_
   refine TA_mix (is:=[]) (done':=dn 14 4095) [itV 0 41 (vi 0) [],itV 1 42 (ptr (some (b1,0)) 0) [],itV 2 43 (aG [(8,e32 p_X.toList)]) [1],itV 3 44 (aG [(8,e32 r_2.toList)]) [],itV 4 45 (aG [(8,e32 r_3.toList)]) [0,2,3],itV 5 46 (vi 0) [],itV 6 47 (ptr (some (b2,0)) 0) [],itV 7 48 (aG [(8,e32 q_X.toList)]) [6],itV 8 49 (aG [(8,e32 r_1.toList)]) [],itV 9 50 (aG [(8,e32 r_4.toList)]) [7,8,5],itA32 10 8 8,itA32 11 9 8] [] 2 (by kernel_rfl) (QP.then QP.body) (by kernel_rfl) rfl (.v rfl (V_move rfl) (.v rfl (V_fe Try.underlying33 TryI.inf31) (.v rfl (V_lag (.o 8) Try.isAgg31 TryI.inf31) (.v rfl (V_lag (.o 0) Try.isAgg31 TryI.inf31) (.e rfl (E_cu (F47_calls 0 p_X r_2 r_3 hr_3) Try.call47 .z) (.v rfl (V_move rfl) (.v rfl (V_fe Try.underlying33 TryI.inf31) (.v rfl (V_lag (.o 5) Try.isAgg31 TryI.inf31) (.v rfl (V_lag (.o 1) Try.isAgg31 TryI.inf31) (.e rfl (E_cu (F47_calls 0 q_X r_1 r_4 hr_4) Try.call47 .z) (.c rfl (fun _ _=>(E_al32 8 TryI.inf31 TryI.zer31)) (.c rfl (fun _ _=>(E_al32 8 TryI.inf31 TryI.zer31)) .nil)))))))))))) .nil (by kernel_rfl) rfl (fun γ=>?_)
   refine TA_cut [(9,ptr (some ((γ 11),0)) 0),(8,ptr (some ((γ 10),0)) 0),(50,aG [(8,e32 r_4.toList)]),(45,aG [(8,e32 r_3.toList)]),(7,ptr (some (b5,0)) 0),(6,ptr (some (b4,0)) 0),(5,vi 0),(4,ptr (some (b3,0)) 0),(3,ptr (some (b2,0)) 0),(2,ptr (some (b1,0)) 0)] [⟨some ((γ 11),0),e32 ((replicate 8 0#32).toList)⟩,⟨some ((γ 10),0),e32 ((replicate 8 0#32).toList)⟩,⟨some (b5,0),e32 r_2.toList⟩,⟨some (b4,0),e32 r_1.toList⟩,⟨some (b3,0),e32 ((replicate 8 0#32).toList)⟩,⟨some (b3,8),e32 ((replicate 8 0#32).toList)⟩,⟨some (b3,16),e32 ((replicate 8 0#32).toList)⟩,⟨some (b2,0),e32 q_X.toList⟩,⟨some (b2,8),e32 q_Y.toList⟩,⟨some (b2,16),e32 q_Z.toList⟩,⟨some (b1,0),e32 p_X.toList⟩,⟨some (b1,8),e32 p_Y.toList⟩,⟨some (b1,16),e32 p_Z.toList⟩] ⟨rfl,rfl,rfl,rfl,rfl,rfl,rfl,rfl,rfl,rfl,trivial⟩ rfl ?_
   generalize γ 10=b6
   generalize γ 11=b7
   refine TA_all (rs:=[12]) (by kernel_rfl) rfl ?_
   refine ⟨?_,trivial⟩
   refine TO_n (is:=[]) (done':=dn 14 8191) rfl rfl rfl (by kernel_rfl) (E_sv (vs:=e32 r_3.toList) 1 TryI.inf31) (fun _ _=>rfl) (fun _=>?_)
   refine TA_all (rs:=[13]) (by kernel_rfl) rfl ?_
   refine ⟨?_,trivial⟩
   refine TO_n (is:=[]) (done':=dn 14 16383) rfl rfl rfl (by kernel_rfl) (E_sv (vs:=e32 r_4.toList) 0 TryI.inf31) (fun _ _=>rfl) (fun _=>?_)
   refine TA_done (by kernel_rfl) ?_ 0
   refine TX_next (TC_seq ?_)
   obtain ⟨r_5,hr_5,H⟩:=bind_elim H
   obtain ⟨r_6,hr_6,H⟩:=bind_elim H
   obtain ⟨r_7,hr_7,H⟩:=bind_elim H
   obtain ⟨r_8,hr_8,H⟩:=bind_elim H
   refine TA_begin [] 22 (by kernel_rfl) (N:=22) rfl ?_
   refine TA_mix (is:=[]) (done':=dn 22 1048575) [itV 0 51 (vi 0) [],itV 1 52 (ptr (some (b1,8)) 0) [],itV 2 53 (aG [(8,e32 p_Y.toList)]) [1],itV 3 54 (vi 0) [],itV 4 55 (ptr (some (b2,16)) 0) [],itV 5 56 (aG [(8,e32 q_Z.toList)]) [4],itV 6 57 (aG [(8,e32 r_2.toList)]) [],itV 7 58 (aG [(8,e32 r_5.toList)]) [5,6,3],itV 8 59 (aG [(8,e32 r_6.toList)]) [7,0,2],itV 9 60 (vi 0) [],itV 10 61 (ptr (some (b2,8)) 0) [],itV 11 62 (aG [(8,e32 q_Y.toList)]) [10],itV 12 63 (vi 0) [],itV 13 64 (ptr (some (b1,16)) 0) [],itV 14 65 (aG [(8,e32 p_Z.toList)]) [13],itV 15 66 (aG [(8,e32 r_1.toList)]) [],itV 16 67 (aG [(8,e32 r_7.toList)]) [14,15,12],itV 17 68 (aG [(8,e32 r_8.toList)]) [16,9,11],itA32 18 10 8,itA32 19 11 8] [] 2 (by kernel_rfl) (QP.then QP.body) (by kernel_rfl) rfl (.v rfl (V_move rfl) (.v rfl (V_fe Try.underlying33 TryI.inf31) (.v rfl (V_lag (.o 11) Try.isAgg31 TryI.inf31) (.v rfl (V_move rfl) (.v rfl (V_fe Try.underlying33 TryI.inf31) (.v rfl (V_lag (.o 9) Try.isAgg31 TryI.inf31) (.v rfl (V_lag (.o 2) Try.isAgg31 TryI.inf31) (.e rfl (E_cu (F47_calls 0 q_Z r_2 r_5 hr_5) Try.call47 .z) (.e rfl (E_cu (F47_calls 0 p_Y r_5 r_6 hr_6) Try.call47 .z) (.v rfl (V_move rfl) (.v rfl (V_fe Try.underlying33 TryI.inf31) (.v rfl (V_lag (.o 8) Try.isAgg31 TryI.inf31) (.v rfl (V_move rfl) (.v rfl (V_fe Try.underlying33 TryI.inf31) (.v rfl (V_lag (.o 12) Try.isAgg31 TryI.inf31) (.v rfl (V_lag (.o 3) Try.isAgg31 TryI.inf31) (.e rfl (E_cu (F47_calls 0 p_Z r_1 r_7 hr_7) Try.call47 .z) (.e rfl (E_cu (F47_calls 0 q_Y r_7 r_8 hr_8) Try.call47 .z) (.c rfl (fun _ _=>(E_al32 8 TryI.inf31 TryI.zer31)) (.c rfl (fun _ _=>(E_al32 8 TryI.inf31 TryI.zer31)) .nil)))))))))))))))))))) .nil (by kernel_rfl) rfl (fun γ=>?_)
   refine TA_cut [(11,ptr (some ((γ 19),0)) 0),(10,ptr (some ((γ 18),0)) 0),(68,aG [(8,e32 r_8.toList)]),(59,aG [(8,e32 r_6.toList)]),(9,ptr (some (b7,0)) 0),(8,ptr (some (b6,0)) 0),(5,vi 0),(4,ptr (some (b3,0)) 0),(3,ptr (some (b2,0)) 0),(2,ptr (some (b1,0)) 0)] [⟨some ((γ 19),0),e32 ((replicate 8 0#32).toList)⟩,⟨some ((γ 18),0),e32 ((replicate 8 0#32).toList)⟩,⟨some (b7,0),e32 r_4.toList⟩,⟨some (b6,0),e32 r_3.toList⟩,⟨some (b5,0),e32 r_2.toList⟩,⟨some (b4,0),e32 r_1.toList⟩,⟨some (b3,0),e32 ((replicate 8 0#32).toList)⟩,⟨some (b3,8),e32 ((replicate 8 0#32).toList)⟩,⟨some (b3,16),e32 ((replicate 8 0#32).toList)⟩,⟨some (b2,0),e32 q_X.toList⟩,⟨some (b2,8),e32 q_Y.toList⟩,⟨some (b2,16),e32 q_Z.toList⟩,⟨some (b1,0),e32 p_X.toList⟩,⟨some (b1,8),e32 p_Y.toList⟩,⟨some (b1,16),e32 p_Z.toList⟩] ⟨rfl,rfl,rfl,rfl,rfl,rfl,rfl,rfl,rfl,rfl,trivial⟩ rfl ?_
   generalize γ 18=b8
   generalize γ 19=b9
   refine TA_all (rs:=[20]) (by kernel_rfl) rfl ?_
   refine ⟨?_,trivial⟩
   refine TO_n (is:=[]) (done':=dn 22 2097151) rfl rfl rfl (by kernel_rfl) (E_sv (vs:=e32 r_6.toList) 1 TryI.inf31) (fun _ _=>rfl) (fun _=>?_)
   refine TA_all (rs:=[21]) (by kernel_rfl) rfl ?_
   refine ⟨?_,trivial⟩
   refine TO_n (is:=[]) (done':=dn 22 4194303) rfl rfl rfl (by kernel_rfl) (E_sv (vs:=e32 r_8.toList) 0 TryI.inf31) (fun _ _=>rfl) (fun _=>?_)
   refine TA_done (by kernel_rfl) ?_ 0
   refine TX_next (TC_seq ?_)
   obtain ⟨r_9,hr_9,H⟩:=bind_elim H
   obtain ⟨r_10,hr_10,H⟩:=bind_elim H
   refine TA_begin [] 12 (by kernel_rfl) (N:=12) rfl ?_
   refine TA_mix (is:=[]) (done':=dn 12 1023) [itV 0 69 (vi 0) [],itV 1 70 (aG [(8,e32 r_4.toList)]) [],itV 2 71 (aG [(8,e32 r_3.toList)]) [],itV 3 72 (aG [(8,e32 r_9.toList)]) [0,1,2],itV 4 73 (vi 0) [],itV 5 74 (aG [(8,e32 r_8.toList)]) [],itV 6 75 (aG [(8,e32 r_6.toList)]) [],itV 7 76 (aG [(8,e32 r_10.toList)]) [4,5,6],itA32 8 12 8,itA32 9 13 8] [] 2 (by kernel_rfl) (QP.then QP.body) (by kernel_rfl) rfl (.v rfl (V_move rfl) (.v rfl (V_lag (.o 2) Try.isAgg31 TryI.inf31) (.v rfl (V_lag (.o 3) Try.isAgg31 TryI.inf31) (.e rfl (E_cu (F49_calls 0 r_4 r_3 r_9 hr_9) Try.call49 .z) (.v rfl (V_move rfl) (.v rfl (V_lag (.o 0) Try.isAgg31 TryI.inf31) (.v rfl (V_lag (.o 1) Try.isAgg31 TryI.inf31) (.e rfl (E_cu (F49_calls 0 r_8 r_6 r_10 hr_10) Try.call49 .z) (.c rfl (fun _ _=>(E_al32 8 TryI.inf31 TryI.zer31)) (.c rfl (fun _ _=>(E_al32 8 TryI.inf31 TryI.zer31)) .nil)))))))))) .nil (by kernel_rfl) rfl (fun γ=>?_)
   refine TA_cut [(13,ptr (some ((γ 9),0)) 0),(12,ptr (some ((γ 8),0)) 0),(76,aG [(8,e32 r_10.toList)]),(72,aG [(8,e32 r_9.toList)]),(10,ptr (some (b8,0)) 0),(8,ptr (some (b6,0)) 0),(5,vi 0),(4,ptr (some (b3,0)) 0),(3,ptr (some (b2,0)) 0),(2,ptr (some (b1,0)) 0)] [⟨some ((γ 9),0),e32 ((replicate 8 0#32).toList)⟩,⟨some ((γ 8),0),e32 ((replicate 8 0#32).toList)⟩,⟨some (b9,0),e32 r_8.toList⟩,⟨some (b8,0),e32 r_6.toList⟩,⟨some (b7,0),e32 r_4.toList⟩,⟨some (b6,0),e32 r_3.toList⟩,⟨some (b5,0),e32 r_2.toList⟩,⟨some (b4,0),e32 r_1.toList⟩,⟨some (b3,0),e32 ((replicate 8 0#32).toList)⟩,⟨some (b3,8),e32 ((replicate 8 0#32).toList)⟩,⟨some (b3,16),e32 ((replicate 8 0#32).toList)⟩,⟨some (b2,0),e32 q_X.toList⟩,⟨some (b2,8),e32 q_Y.toList⟩,⟨some (b2,16),e32 q_Z.toList⟩,⟨some (b1,0),e32 p_X.toList⟩,⟨some (b1,8),e32 p_Y.toList⟩,⟨some (b1,16),e32 p_Z.toList⟩] ⟨rfl,rfl,rfl,rfl,rfl,rfl,rfl,rfl,rfl,rfl,trivial⟩ rfl ?_
   generalize γ 8=b10
   generalize γ 9=b11
   refine TA_all (rs:=[10]) (by kernel_rfl) rfl ?_
   refine ⟨?_,trivial⟩
   refine TO_n (is:=[]) (done':=dn 12 2047) rfl rfl rfl (by kernel_rfl) (E_sv (vs:=e32 r_9.toList) 1 TryI.inf31) (fun _ _=>rfl) (fun _=>?_)
   refine TA_all (rs:=[11]) (by kernel_rfl) rfl ?_
   refine ⟨?_,trivial⟩
   refine TO_n (is:=[]) (done':=dn 12 4095) rfl rfl rfl (by kernel_rfl) (E_sv (vs:=e32 r_10.toList) 0 TryI.inf31) (fun _ _=>rfl) (fun _=>?_)
   refine TA_done (by kernel_rfl) ?_ 0
   refine TX_next (TC_seq (TC_seq (TC_region (TLv (V_lag (.o 1) Try.isAgg31 TryI.inf31) ?_))))
   refine TLv (V_buildArr (pv:=[]) rfl rfl Try.underlying31 TryI.inf31 TryI.inf29 rfl TryI.zer31 (cs:=e32 ((replicate 8 0#32:Vx 32 8).toList)) (by kernel_rfl)) ?_
   refine TLv (V_bin rfl rfl (fun w=>eqlA32 w Try.underlying31 Try.underlying29 (by kernel_rfl) (by kernel_rfl) r_9 (replicate 8 0#32:Vx 32 8))) ?_
   refine TL_nil (TX_next (TC_cond (b:=(decide (r_9=(replicate 8 0#32:Vx 32 8)))) rfl (fun hc=>?_) (fun hc=>?_)))
   ·replace H:=ite_t (of_decide_eq_true hc) H
    refine TC_seq (TC_seq (TC_region (TLv (V_lag (.o 0) Try.isAgg31 TryI.inf31) ?_)))
    refine TLv (V_buildArr (pv:=[]) rfl rfl Try.underlying31 TryI.inf31 TryI.inf29 rfl TryI.zer31 (cs:=e32 ((replicate 8 0#32:Vx 32 8).toList)) (by kernel_rfl)) ?_
    refine TLv (V_bin rfl rfl (fun w=>eqlA32 w Try.underlying31 Try.underlying29 (by kernel_rfl) (by kernel_rfl) r_10 (replicate 8 0#32:Vx 32 8))) ?_
    refine TL_nil (TX_next (TC_cond (b:=(decide (r_10=(replicate 8 0#32:Vx 32 8)))) rfl (fun hc=>?_) (fun hc=>?_)))
    ·replace H:=ite_t (of_decide_eq_true hc) H
     refine TC_seq (TC_region (TLv (V_loadAgg (n:=24) (cs:=flat [(8,e32 p_X.toList),(8,e32 p_Y.toList),(8,e32 p_Z.toList)]) rfl (by simp) (SrcEnts (b:=b1) [(8,e32 p_X.toList),(8,e32 p_Y.toList),(8,e32 p_Z.toList)] 0 ⟨(lenV (f:=v32) p_X),(lenV (f:=v32) p_Y),(lenV (f:=v32) p_Z),trivial⟩ (AllSrc.all (M:=ents b1 0 [(8,e32 p_X.toList),(8,e32 p_Y.toList),(8,e32 p_Z.toList)]) ⟨Src.own (j:=14) rfl,Src.own (j:=15) rfl,Src.own (j:=16) rfl,trivial⟩)) Try.isAgg33 TryI.inf33 rfl (flat_len ⟨(lenV (f:=v32) p_X),(lenV (f:=v32) p_Y),(lenV (f:=v32) p_Z),trivial⟩ rfl)) ?_))
     obtain ⟨r_11,hr_11,H⟩:=bind_elim H
     refine TLe (E_c0 (F76_calls p_X p_Y p_Z r_11 hr_11) Try.call76 .z) (fun g_11=>?_)
     refine TLn (E_sp (b:=b3) (o:=0) [8,8,8] [(8,e32 ((replicate 8 0#32).toList)),(8,e32 ((replicate 8 0#32).toList)),(8,e32 ((replicate 8 0#32).toList))] [(8,e32 r_11.1.toList),(8,e32 r_11.2.1.toList),(8,e32 r_11.2.2.toList)] rfl TryI.inf33 ⟨(lenV (f:=v32) (replicate 8 0#32)),(lenV (f:=v32) (replicate 8 0#32)),(lenV (f:=v32) (replicate 8 0#32)),trivial⟩ ⟨(lenV (f:=v32) r_11.1),(lenV (f:=v32) r_11.2.1),(lenV (f:=v32) r_11.2.2),trivial⟩ ⟨(OneC.map (fun _=>rfl) _),(OneC.map (fun _=>rfl) _),(OneC.map (fun _=>rfl) _),trivial⟩) (fun _=>?_)
     refine TL_nil (TX_next (TC_ret (TX_then_ret (TX_then_ret ?_))))
     have hrv:=Option.some.inj H
     subst hrv
     exact TX_ret (rs:=[.cell 4 33]) (vs:=[aG [(8,e32 r_11.1.toList),(8,e32 r_11.2.1.toList),(8,e32 r_11.2.2.toList)]]) rfl ⟨(Res_agg (n:=24) (cs:=flat [(8,e32 r_11.1.toList),(8,e32 r_11.2.1.toList),(8,e32 r_11.2.2.toList)]) rfl (by simp) (SrcEnts (b:=b3) [(8,e32 r_11.1.toList),(8,e32 r_11.2.1.toList),(8,e32 r_11.2.2.toList)] 0 ⟨(lenV (f:=v32) r_11.1),(lenV (f:=v32) r_11.2.1),(lenV (f:=v32) r_11.2.2),trivial⟩ (AllSrc.all (M:=ents b3 0 [(8,e32 r_11.1.toList),(8,e32 r_11.2.1.toList),(8,e32 r_11.2.2.toList)]) ⟨Src.own (j:=0) rfl,Src.own (j:=1) rfl,Src.own (j:=2) rfl,trivial⟩)) Try.isAgg33 TryI.inf33 rfl (by simp [flat])),trivial⟩ (fun w' hs'=>⟨(),rfl,Step.left (Step.pulled (is:=[]) (A:=[]) hs' rfl)⟩)
    ·replace H:=ite_f (of_decide_eq_false hc) H
     refine TC_skip (TX_next (TC_seq (TC_region (TLv (V_buildStruct (pv:=[]) (pl:=[(0,8),(8,8),(16,8)]) rfl rfl Try.underlying33 TryI.inf33 TryI.places33 TryI.zer33 (cs:=flat [(8,e32 ((replicate 8 0#32).toList)),(8,e32 ((replicate 8 0#32).toList)),(8,e32 ((replicate 8 0#32).toList))]) fill_end) ?_))))
     refine TLn (E_sp (b:=b3) (o:=0) [8,8,8] [(8,e32 ((replicate 8 0#32).toList)),(8,e32 ((replicate 8 0#32).toList)),(8,e32 ((replicate 8 0#32).toList))] [(8,e32 ((replicate 8 0#32).toList)),(8,e32 ((replicate 8 0#32).toList)),(8,e32 ((replicate 8 0#32).toList))] rfl TryI.inf33 ⟨(lenV (f:=v32) (replicate 8 0#32)),(lenV (f:=v32) (replicate 8 0#32)),(lenV (f:=v32) (replicate 8 0#32)),trivial⟩ ⟨(lenV (f:=v32) (replicate 8 0#32)),(lenV (f:=v32) (replicate 8 0#32)),(lenV (f:=v32) (replicate 8 0#32)),trivial⟩ ⟨(OneC.map (fun _=>rfl) _),(OneC.map (fun _=>rfl) _),(OneC.map (fun _=>rfl) _),trivial⟩) (fun _=>?_)
     refine TL_nil (TX_next (TC_ret (TX_then_ret ?_)))
     have hrv:=Option.some.inj H
     subst hrv
     exact TX_ret (rs:=[.cell 4 33]) (vs:=[aG [(8,e32 ((replicate 8 0#32).toList)),(8,e32 ((replicate 8 0#32).toList)),(8,e32 ((replicate 8 0#32).toList))]]) rfl ⟨(Res_agg (n:=24) (cs:=flat [(8,e32 ((replicate 8 0#32).toList)),(8,e32 ((replicate 8 0#32).toList)),(8,e32 ((replicate 8 0#32).toList))]) rfl (by simp) (SrcEnts (b:=b3) [(8,e32 ((replicate 8 0#32).toList)),(8,e32 ((replicate 8 0#32).toList)),(8,e32 ((replicate 8 0#32).toList))] 0 ⟨(lenV (f:=v32) (replicate 8 0#32)),(lenV (f:=v32) (replicate 8 0#32)),(lenV (f:=v32) (replicate 8 0#32)),trivial⟩ (AllSrc.all (M:=ents b3 0 [(8,e32 ((replicate 8 0#32).toList)),(8,e32 ((replicate 8 0#32).toList)),(8,e32 ((replicate 8 0#32).toList))]) ⟨Src.own (j:=0) rfl,Src.own (j:=1) rfl,Src.own (j:=2) rfl,trivial⟩)) Try.isAgg33 TryI.inf33 rfl (by simp [flat])),trivial⟩ (fun w' hs'=>⟨(),rfl,Step.left (Step.pulled (is:=[]) (A:=[]) hs' rfl)⟩)
   ·replace H:=ite_f (of_decide_eq_false hc) H
    refine TC_skip (TX_next (TC_seq (TC_region (TLv (V_move rfl) ?_))))
    refine TLv (V_lag (.o 1) Try.isAgg31 TryI.inf31) ?_
    refine TLv (V_lag (.o 1) Try.isAgg31 TryI.inf31) ?_
    obtain ⟨r_12,hr_12,H⟩:=bind_elim H
    refine TLe (E_c0 (F47_calls 0 r_9 r_9 r_12 hr_12) Try.call47 .z) (fun g_12=>?_)
    refine TLe (E_al32 8 TryI.inf31 TryI.zer31) (fun b12=>?_)
    refine TLn (E_sv (vs:=e32 r_12.toList) 0 TryI.inf31) (fun _=>?_)
    refine TL_nil (TX_next (TC_seq (TC_region (TLv (V_move rfl) ?_))))
    refine TLv (V_lag (.o 2) Try.isAgg31 TryI.inf31) ?_
    refine TLv (V_lag (.o 0) Try.isAgg31 TryI.inf31) ?_
    obtain ⟨r_13,hr_13,H⟩:=bind_elim H
    refine TLe (E_c0 (F47_calls 0 r_9 r_12 r_13 hr_13) Try.call47 .z) (fun g_13=>?_)
    refine TLe (E_al32 8 TryI.inf31 TryI.zer31) (fun b13=>?_)
    refine TLn (E_sv (vs:=e32 r_13.toList) 0 TryI.inf31) (fun _=>?_)
    refine TL_nil (TX_next (TC.sub (m':=[(2,ptr (some (b1,0)) 0),(3,ptr (some (b2,0)) 0),(4,ptr (some (b3,0)) 0),(5,vi 0),(8,ptr (some (b6,0)) 0),(10,ptr (some (b8,0)) 0),(12,ptr (some (b10,0)) 0),(13,ptr (some (b11,0)) 0),(14,ptr (some (b12,0)) 0),(15,ptr (some (b13,0)) 0)]) ⟨rfl,rfl,rfl,rfl,rfl,rfl,rfl,rfl,rfl,rfl,trivial⟩ ?_))
    refine TC.pull (is:=[16,16,16,13,13,13,10,10,10,7,5,3,2,1,0]) (L':=[⟨some (b1,0),e32 p_X.toList⟩,⟨some (b1,8),e32 p_Y.toList⟩,⟨some (b1,16),e32 p_Z.toList⟩,⟨some (b2,0),e32 q_X.toList⟩,⟨some (b2,8),e32 q_Y.toList⟩,⟨some (b2,16),e32 q_Z.toList⟩,⟨some (b3,0),e32 ((replicate 8 0#32).toList)⟩,⟨some (b3,8),e32 ((replicate 8 0#32).toList)⟩,⟨some (b3,16),e32 ((replicate 8 0#32).toList)⟩,⟨some (b6,0),e32 r_3.toList⟩,⟨some (b8,0),e32 r_6.toList⟩,⟨some (b10,0),e32 r_9.toList⟩,⟨some (b11,0),e32 r_10.toList⟩,⟨some (b12,0),e32 r_12.toList⟩,⟨some (b13,0),e32 r_13.toList⟩]) rfl ?_
    refine TC_seq (TC_region (TLv (V_move rfl) ?_))
    refine TLv (V_lag (.o 9) Try.isAgg31 TryI.inf31) ?_
    refine TLv (V_lag (.o 13) Try.isAgg31 TryI.inf31) ?_
    obtain ⟨r_14,hr_14,H⟩:=bind_elim H
    refine TLe (E_c0 (F47_calls 0 r_3 r_12 r_14 hr_14) Try.call47 .z) (fun g_14=>?_)
    refine TLe (E_al32 8 TryI.inf31 TryI.zer31) (fun b14=>?_)
    refine TLn (E_sv (vs:=e32 r_14.toList) 0 TryI.inf31) (fun _=>?_)
    refine TL_nil (TX_next (TC_seq ?_))
    obtain ⟨r_15,hr_15,H⟩:=bind_elim H
    obtain ⟨r_16,hr_16,H⟩:=bind_elim H
    obtain ⟨r_17,hr_17,H⟩:=bind_elim H
    obtain ⟨r_18,hr_18,H⟩:=bind_elim H
    refine TA_begin [] 15 (by kernel_rfl) (N:=15) rfl ?_
    refine TA_mix (is:=[]) (done':=dn 15 16383) [itV 0 98 (vi 0) [],itV 1 99 (vi 0) [],itV 2 100 (vi 0) [],itV 3 101 (aG [(8,e32 r_10.toList)]) [],itV 4 102 (aG [(8,e32 r_10.toList)]) [],itV 5 103 (aG [(8,e32 r_15.toList)]) [2,3,4],itV 6 104 (aG [(8,e32 r_13.toList)]) [],itV 7 105 (aG [(8,e32 r_16.toList)]) [6,1,5],itV 8 106 (vi 0) [],itV 9 107 (aG [(8,e32 r_14.toList)]) [],itV 10 108 (aG [(8,e32 r_14.toList)]) [],itV 11 109 (aG [(8,e32 r_17.toList)]) [8,9,10],itV 12 110 (aG [(8,e32 r_18.toList)]) [7,0,11],itA32 13 17 8] [] 1 (by kernel_rfl) (QP.then QP.body) (by kernel_rfl) rfl (.v rfl (V_move rfl) (.v rfl (V_move rfl) (.v rfl (V_move rfl) (.v rfl (V_lag (.o 13) Try.isAgg31 TryI.inf31) (.v rfl (V_lag (.o 13) Try.isAgg31 TryI.inf31) (.e rfl (E_cu (F47_calls 0 r_10 r_10 r_15 hr_15) Try.call47 .z) (.v rfl (V_lag (.o 15) Try.isAgg31 TryI.inf31) (.e rfl (E_cu (F49_calls 0 r_15 r_13 r_16 hr_16) Try.call49 .z) (.v rfl (V_move rfl) (.v rfl (V_lag (.o 0) Try.isAgg31 TryI.inf31) (.v rfl (V_lag (.o 0) Try.isAgg31 TryI.inf31) (.e rfl (E_cu (F48_calls 0 r_14 r_14 r_17 hr_17) Try.call48 .z) (.e rfl (E_cu (F49_calls 0 r_16 r_17 r_18 hr_18) Try.call49 .z) (.c rfl (fun _ _=>(E_al32 8 TryI.inf31 TryI.zer31)) .nil)))))))))))))) .nil (by kernel_rfl) rfl (fun γ=>?_)
    refine TA_cut [(17,ptr (some ((γ 13),0)) 0),(110,aG [(8,e32 r_18.toList)]),(16,ptr (some (b14,0)) 0),(2,ptr (some (b1,0)) 0),(3,ptr (some (b2,0)) 0),(4,ptr (some (b3,0)) 0),(5,vi 0),(10,ptr (some (b8,0)) 0),(12,ptr (some (b10,0)) 0),(13,ptr (some (b11,0)) 0),(15,ptr (some (b13,0)) 0)] [⟨some ((γ 13),0),e32 ((replicate 8 0#32).toList)⟩,⟨some (b14,0),e32 r_14.toList⟩,⟨some (b1,0),e32 p_X.toList⟩,⟨some (b1,8),e32 p_Y.toList⟩,⟨some (b1,16),e32 p_Z.toList⟩,⟨some (b2,0),e32 q_X.toList⟩,⟨some (b2,8),e32 q_Y.toList⟩,⟨some (b2,16),e32 q_Z.toList⟩,⟨some (b3,0),e32 ((replicate 8 0#32).toList)⟩,⟨some (b3,8),e32 ((replicate 8 0#32).toList)⟩,⟨some (b3,16),e32 ((replicate 8 0#32).toList)⟩,⟨some (b6,0),e32 r_3.toList⟩,⟨some (b8,0),e32 r_6.toList⟩,⟨some (b10,0),e32 r_9.toList⟩,⟨some (b11,0),e32 r_10.toList⟩,⟨some (b12,0),e32 r_12.toList⟩,⟨some (b13,0),e32 r_13.toList⟩] ⟨rfl,rfl,rfl,rfl,rfl,rfl,rfl,rfl,rfl,rfl,rfl,trivial⟩ rfl ?_
    generalize γ 13=b15
    refine TA_all (rs:=[14]) (by kernel_rfl) rfl ?_
    refine ⟨?_,trivial⟩
    refine TO_n (is:=[]) (done':=dn 15 32767) rfl rfl rfl (by kernel_rfl) (E_sv (vs:=e32 r_18.toList) 0 TryI.inf31) (fun _ _=>rfl) (fun _=>?_)
    refine TA_done (by kernel_rfl) ?_ 0
    refine TX_next (TC_seq ?_)
    obtain ⟨r_19,hr_19,H⟩:=bind_elim H
    obtain ⟨r_20,hr_20,H⟩:=bind_elim H
    obtain ⟨r_21,hr_21,H⟩:=bind_elim H
    obtain ⟨r_22,hr_22,H⟩:=bind_elim H
    refine TA_begin [] 15 (by kernel_rfl) (N:=15) rfl ?_
    refine TA_mix (is:=[]) (done':=dn 15 16383) [itV 0 111 (vi 0) [],itV 1 112 (vi 0) [],itV 2 113 (aG [(8,e32 r_10.toList)]) [],itV 3 114 (vi 0) [],itV 4 115 (aG [(8,e32 r_14.toList)]) [],itV 5 116 (aG [(8,e32 r_18.toList)]) [],itV 6 117 (aG [(8,e32 r_19.toList)]) [3,4,5],itV 7 118 (aG [(8,e32 r_20.toList)]) [1,2,6],itV 8 119 (vi 0) [],itV 9 120 (aG [(8,e32 r_6.toList)]) [],itV 10 121 (aG [(8,e32 r_13.toList)]) [],itV 11 122 (aG [(8,e32 r_21.toList)]) [9,10,8],itV 12 123 (aG [(8,e32 r_22.toList)]) [11,7,0],itA32 13 18 8] [] 1 (by kernel_rfl) (QP.then QP.body) (by kernel_rfl) rfl (.v rfl (V_move rfl) (.v rfl (V_move rfl) (.v rfl (V_lag (.o 14) Try.isAgg31 TryI.inf31) (.v rfl (V_move rfl) (.v rfl (V_lag (.o 1) Try.isAgg31 TryI.inf31) (.v rfl (V_lag (.o 0) Try.isAgg31 TryI.inf31) (.e rfl (E_cu (F49_calls 0 r_14 r_18 r_19 hr_19) Try.call49 .z) (.e rfl (E_cu (F47_calls 0 r_10 r_19 r_20 hr_20) Try.call47 .z) (.v rfl (V_move rfl) (.v rfl (V_lag (.o 12) Try.isAgg31 TryI.inf31) (.v rfl (V_lag (.o 16) Try.isAgg31 TryI.inf31) (.e rfl (E_cu (F47_calls 0 r_6 r_13 r_21 hr_21) Try.call47 .z) (.e rfl (E_cu (F49_calls 0 r_20 r_21 r_22 hr_22) Try.call49 .z) (.c rfl (fun _ _=>(E_al32 8 TryI.inf31 TryI.zer31)) .nil)))))))))))))) .nil (by kernel_rfl) rfl (fun γ=>?_)
    refine TA_cut [(18,ptr (some ((γ 13),0)) 0),(123,aG [(8,e32 r_22.toList)]),(17,ptr (some (b15,0)) 0),(2,ptr (some (b1,0)) 0),(3,ptr (some (b2,0)) 0),(4,ptr (some (b3,0)) 0),(5,vi 0),(12,ptr (some (b10,0)) 0)] [⟨some ((γ 13),0),e32 ((replicate 8 0#32).toList)⟩,⟨some (b15,0),e32 r_18.toList⟩,⟨some (b14,0),e32 r_14.toList⟩,⟨some (b1,0),e32 p_X.toList⟩,⟨some (b1,8),e32 p_Y.toList⟩,⟨some (b1,16),e32 p_Z.toList⟩,⟨some (b2,0),e32 q_X.toList⟩,⟨some (b2,8),e32 q_Y.toList⟩,⟨some (b2,16),e32 q_Z.toList⟩,⟨some (b3,0),e32 ((replicate 8 0#32).toList)⟩,⟨some (b3,8),e32 ((replicate 8 0#32).toList)⟩,⟨some (b3,16),e32 ((replicate 8 0#32).toList)⟩,⟨some (b6,0),e32 r_3.toList⟩,⟨some (b8,0),e32 r_6.toList⟩,⟨some (b10,0),e32 r_9.toList⟩,⟨some (b11,0),e32 r_10.toList⟩,⟨some (b12,0),e32 r_12.toList⟩,⟨some (b13,0),e32 r_13.toList⟩] ⟨rfl,rfl,rfl,rfl,rfl,rfl,rfl,rfl,trivial⟩ rfl ?_
    generalize γ 13=b16
    refine TA_all (rs:=[14]) (by kernel_rfl) rfl ?_
    refine ⟨?_,trivial⟩
    refine TO_n (is:=[]) (done':=dn 15 32767) rfl rfl rfl (by kernel_rfl) (E_sv (vs:=e32 r_22.toList) 0 TryI.inf31) (fun _ _=>rfl) (fun _=>?_)
    refine TA_done (by kernel_rfl) ?_ 0
    refine TX_next (TC_seq ?_)
    obtain ⟨r_23,hr_23,H⟩:=bind_elim H
    obtain ⟨r_24,hr_24,H⟩:=bind_elim H
    refine TA_begin [] 13 (by kernel_rfl) (N:=13) rfl ?_
    refine TA_mix (is:=[]) (done':=dn 13 4095) [itV 0 124 (aG [(8,e32 r_18.toList)]) [],itV 1 125 (aG [(8,e32 r_22.toList)]) [],itV 2 126 (vi 0) [],itV 3 127 (aG [(8,e32 r_9.toList)]) [],itV 4 128 (vi 0) [],itV 5 129 (ptr (some (b1,16)) 0) [],itV 6 130 (aG [(8,e32 p_Z.toList)]) [5],itV 7 131 (ptr (some (b2,16)) 0) [],itV 8 132 (aG [(8,e32 q_Z.toList)]) [7],itV 9 133 (aG [(8,e32 r_23.toList)]) [4,6,8],itV 10 134 (aG [(8,e32 r_24.toList)]) [9,2,3],itV 11 135 (aG [(8,e32 r_18.toList),(8,e32 r_22.toList),(8,e32 r_24.toList)]) [0,1,10]] [] 1 (by kernel_rfl) (QP.then QP.body) (by kernel_rfl) rfl (.v rfl (V_lag (.o 1) Try.isAgg31 TryI.inf31) (.v rfl (V_lag (.o 0) Try.isAgg31 TryI.inf31) (.v rfl (V_move rfl) (.v rfl (V_lag (.o 14) Try.isAgg31 TryI.inf31) (.v rfl (V_move rfl) (.v rfl (V_fe Try.underlying33 TryI.inf31) (.v rfl (V_lag (.o 5) Try.isAgg31 TryI.inf31) (.v rfl (V_fe Try.underlying33 TryI.inf31) (.v rfl (V_lag (.o 8) Try.isAgg31 TryI.inf31) (.e rfl (E_cu (F47_calls 0 p_Z q_Z r_23 hr_23) Try.call47 .z) (.e rfl (E_cu (F47_calls 0 r_9 r_23 r_24 hr_24) Try.call47 .z) (.v rfl (V_buildStruct (pv:=[(0,aG [(8,e32 r_18.toList)]),(1,aG [(8,e32 r_22.toList)]),(2,aG [(8,e32 r_24.toList)])]) (pl:=[(0,8),(8,8),(16,8)]) rfl rfl Try.underlying33 TryI.inf33 TryI.places33 TryI.zer33 (cs:=flat [(8,e32 r_18.toList),(8,e32 r_22.toList),(8,e32 r_24.toList)]) (fill_part [] [(8,e32 ((replicate 8 0#32).toList)),(8,e32 ((replicate 8 0#32).toList))] rfl rfl trivial rfl (lenV (f:=v32) (replicate 8 0#32)) (lenV (f:=v32) r_18) (fill_part [(8,e32 r_18.toList)] [(8,e32 ((replicate 8 0#32).toList))] rfl rfl ⟨(lenV (f:=v32) r_18),trivial⟩ rfl (lenV (f:=v32) (replicate 8 0#32)) (lenV (f:=v32) r_22) (fill_part [(8,e32 r_18.toList),(8,e32 r_22.toList)] [] rfl rfl ⟨(lenV (f:=v32) r_18),(lenV (f:=v32) r_22),trivial⟩ rfl (lenV (f:=v32) (replicate 8 0#32)) (lenV (f:=v32) r_24) fill_end)))) .nil)))))))))))) .nil (by kernel_rfl) rfl (fun γ=>?_)
    refine TA_cut [(135,aG [(8,e32 r_18.toList),(8,e32 r_22.toList),(8,e32 r_24.toList)]),(4,ptr (some (b3,0)) 0)] [⟨some (b16,0),e32 r_22.toList⟩,⟨some (b15,0),e32 r_18.toList⟩,⟨some (b14,0),e32 r_14.toList⟩,⟨some (b1,0),e32 p_X.toList⟩,⟨some (b1,8),e32 p_Y.toList⟩,⟨some (b1,16),e32 p_Z.toList⟩,⟨some (b2,0),e32 q_X.toList⟩,⟨some (b2,8),e32 q_Y.toList⟩,⟨some (b2,16),e32 q_Z.toList⟩,⟨some (b3,0),e32 ((replicate 8 0#32).toList)⟩,⟨some (b3,8),e32 ((replicate 8 0#32).toList)⟩,⟨some (b3,16),e32 ((replicate 8 0#32).toList)⟩,⟨some (b6,0),e32 r_3.toList⟩,⟨some (b8,0),e32 r_6.toList⟩,⟨some (b10,0),e32 r_9.toList⟩,⟨some (b11,0),e32 r_10.toList⟩,⟨some (b12,0),e32 r_12.toList⟩,⟨some (b13,0),e32 r_13.toList⟩] ⟨rfl,rfl,trivial⟩ rfl ?_
    refine TA_all (rs:=[12]) (by kernel_rfl) rfl ?_
    refine ⟨?_,trivial⟩
    refine TO_n (is:=[]) (done':=dn 13 8191) rfl rfl rfl (by kernel_rfl) (E_sp (b:=b3) (o:=0) [9,9,9] [(8,e32 ((replicate 8 0#32).toList)),(8,e32 ((replicate 8 0#32).toList)),(8,e32 ((replicate 8 0#32).toList))] [(8,e32 r_18.toList),(8,e32 r_22.toList),(8,e32 r_24.toList)] rfl TryI.inf33 ⟨(lenV (f:=v32) (replicate 8 0#32)),(lenV (f:=v32) (replicate 8 0#32)),(lenV (f:=v32) (replicate 8 0#32)),trivial⟩ ⟨(lenV (f:=v32) r_18),(lenV (f:=v32) r_22),(lenV (f:=v32) r_24),trivial⟩ ⟨(OneC.map (fun _=>rfl) _),(OneC.map (fun _=>rfl) _),(OneC.map (fun _=>rfl) _),trivial⟩) (fun _ _=>rfl) (fun _=>?_)
    refine TA_done (by kernel_rfl) ?_ 0
    refine TX_next (TC_ret ?_)
    have hrv:=Option.some.inj H
    subst hrv
    exact TX_ret (rs:=[.cell 4 33]) (vs:=[aG [(8,e32 r_18.toList),(8,e32 r_22.toList),(8,e32 r_24.toList)]]) rfl ⟨(Res_agg (n:=24) (cs:=flat [(8,e32 r_18.toList),(8,e32 r_22.toList),(8,e32 r_24.toList)]) rfl (by simp) (SrcEnts (b:=b3) [(8,e32 r_18.toList),(8,e32 r_22.toList),(8,e32 r_24.toList)] 0 ⟨(lenV (f:=v32) r_18),(lenV (f:=v32) r_22),(lenV (f:=v32) r_24),trivial⟩ (AllSrc.all (M:=ents b3 0 [(8,e32 r_18.toList),(8,e32 r_22.toList),(8,e32 r_24.toList)]) ⟨Src.own (j:=0) rfl,Src.own (j:=1) rfl,Src.own (j:=2) rfl,trivial⟩)) Try.isAgg33 TryI.inf33 rfl (by simp [flat])),trivial⟩ (fun w' hs'=>⟨(),rfl,Step.left (Step.pulled (is:=[]) (A:=[]) hs' rfl)⟩)
end Go.Proofs
end

section
namespace Go.Kx
open Go Go.Proofs
open Vector (replicate)
open Go.Nt hiding n4
def F4 (v:Vx 64 4) (f:Fp):Prop:=R4 P256 v (toN f)
def F8 (v:Vx 32 8) (f:Fp):Prop:=R8 P256 v (toN f)
theorem F4_0:F4 (replicate 4 0#64) 0:=R4_zero md_P
theorem F8_0:F8 (replicate 8 0#32) 0:=R8_zero md_P
theorem toN_zero {f:Fp}:toN f=0 ↔ f=0:=⟨fun h=>toN_inj (h.trans toN_0.symm),fun h=>by rw [h]; rfl⟩
open Classical in
theorem F4.zero {v:Vx 64 4} {f:Fp} (h:F4 v f):num_Nat_Zero v=some (decide (f=0)):=by
 rw [R4.zero md_P h]
 congr 1
 exact decide_eq_decide.2 toN_zero
theorem F8.zero {v:Vx 32 8} {f:Fp} (h:F8 v f):v=replicate 8 0#32 ↔ f=0:=(R8.zero md_P h).trans toN_zero
section
variable {M:Vx 64 4} {inv:BitVec 64} {one two x y:Vx 64 4} {f g:Fp}
theorem Fd.mulF (F:Fd P256 M inv one two) (hx:F4 x f) (hy:F4 y g) : ∃ r,num_Field_Mul M inv one two x y=some r∧F4 r (f * g):=by
 obtain ⟨r,h1,h2⟩:=F.mul hx hy
 exact ⟨r,h1,by unfold F4; rw [toN_mul]; exact h2⟩
theorem Fd.addF (F:Fd P256 M inv one two) (hx:F4 x f) (hy:F4 y g) : ∃ r,num_Field_Add M inv one two x y=some r∧F4 r (f+g):=by
 obtain ⟨r,h1,h2⟩:=F.add hx hy
 exact ⟨r,h1,by unfold F4; rw [toN_add]; exact h2⟩
theorem Fd.subF (F:Fd P256 M inv one two) (hx:F4 x f) (hy:F4 y g) : ∃ r,num_Field_Sub M inv one two x y=some r∧F4 r (f - g):=by
 obtain ⟨r,h1,h2⟩:=F.sub hx hy
 exact ⟨r,h1,by unfold F4; rw [toN_sub]; exact h2⟩
end
section
variable {x y:Vx 32 8} {f g:Fp}
theorem Rd.mulF (F:Rd P256 0) (hx:F8 x f) (hy:F8 y g) : ∃ r,halberdref9_mont 0 x y=some r∧F8 r (f * g):=by
 obtain ⟨r,h1,h2⟩:=F.mul hx hy
 exact ⟨r,h1,by unfold F8; rw [toN_mul]; exact h2⟩
theorem Rd.addF (F:Rd P256 0) (hx:F8 x f) (hy:F8 y g) : ∃ r,halberdref9_add 0 x y=some r∧F8 r (f+g):=by
 obtain ⟨r,h1,h2⟩:=F.add hx hy
 exact ⟨r,h1,by unfold F8; rw [toN_add]; exact h2⟩
theorem Rd.subF (F:Rd P256 0) (hx:F8 x f) (hy:F8 y g) : ∃ r,halberdref9_sub 0 x y=some r∧F8 r (f - g):=by
 obtain ⟨r,h1,h2⟩:=F.sub hx hy
 exact ⟨r,h1,by unfold F8; rw [toN_sub]; exact h2⟩
end
def T4 (v:Vx 64 4 × Vx 64 4 × Vx 64 4) (t:F3):Prop:=F4 v.1 t.1∧F4 v.2.1 t.2.1∧F4 v.2.2 t.2.2
def T8 (v:Vx 32 8 × Vx 32 8 × Vx 32 8) (t:F3):Prop:=F8 v.1 t.1∧F8 v.2.1 t.2.1∧F8 v.2.2 t.2.2
theorem double_ex {M:Vx 64 4} {inv:BitVec 64} {one two b p_x p_y p_z:Vx 64 4} {t:F3} (F:Fd P256 M inv one two) (h:T4 (p_x,p_y,p_z) t) :
  ∃ r,pcurve_curve_double M inv one two b p_x p_y p_z=some r∧T4 r (jDbl t):=by
 obtain ⟨X,Y,Z⟩:=t
 obtain ⟨hp_x,hp_y,hp_z⟩:=h
 dsimp only at hp_x hp_y hp_z
 obtain ⟨r_1,er_1,fr_1⟩:=F.mulF hp_z hp_z
 obtain ⟨r_2,er_2,fr_2⟩:=F.mulF hp_y hp_y
 obtain ⟨r_3,er_3,fr_3⟩:=F.mulF hp_x fr_2
 obtain ⟨r_4,er_4,fr_4⟩:=F.subF hp_x fr_1
 obtain ⟨r_5,er_5,fr_5⟩:=F.addF hp_x fr_1
 obtain ⟨r_6,er_6,fr_6⟩:=F.mulF fr_4 fr_5
 obtain ⟨r_7,er_7,fr_7⟩:=F.addF fr_6 fr_6
 obtain ⟨r_8,er_8,fr_8⟩:=F.addF fr_6 fr_7
 obtain ⟨r_9,er_9,fr_9⟩:=F.addF fr_3 fr_3
 obtain ⟨r_10,er_10,fr_10⟩:=F.addF fr_9 fr_9
 obtain ⟨r_11,er_11,fr_11⟩:=F.mulF fr_8 fr_8
 obtain ⟨r_12,er_12,fr_12⟩:=F.addF fr_10 fr_10
 obtain ⟨r_13,er_13,fr_13⟩:=F.subF fr_11 fr_12
 obtain ⟨r_14,er_14,fr_14⟩:=F.addF hp_y hp_z
 obtain ⟨r_15,er_15,fr_15⟩:=F.mulF fr_14 fr_14
 obtain ⟨r_16,er_16,fr_16⟩:=F.subF fr_15 fr_2
 obtain ⟨r_17,er_17,fr_17⟩:=F.subF fr_16 fr_1
 obtain ⟨r_18,er_18,fr_18⟩:=F.mulF fr_2 fr_2
 obtain ⟨r_19,er_19,fr_19⟩:=F.addF fr_18 fr_18
 obtain ⟨r_20,er_20,fr_20⟩:=F.addF fr_19 fr_19
 obtain ⟨r_21,er_21,fr_21⟩:=F.subF fr_10 fr_13
 obtain ⟨r_22,er_22,fr_22⟩:=F.mulF fr_8 fr_21
 obtain ⟨r_23,er_23,fr_23⟩:=F.addF fr_20 fr_20
 obtain ⟨r_24,er_24,fr_24⟩:=F.subF fr_22 fr_23
 refine ⟨(r_13,r_24,r_17),?_,?_⟩
 ·unfold pcurve_curve_double
  exact bind_i er_1 (bind_i er_2 (bind_i er_3 (bind_i er_4 (bind_i er_5 (bind_i er_6 (bind_i er_7 (bind_i er_8 (bind_i er_9 (bind_i er_10 (bind_i er_11 (bind_i er_12 (bind_i er_13 (bind_i er_14 (bind_i er_15 (bind_i er_16 (bind_i er_17 (bind_i er_18 (bind_i er_19 (bind_i er_20 (bind_i er_21 (bind_i er_22 (bind_i er_23 (bind_i er_24 (rfl))))))))))))))))))))))))
 ·refine ⟨fr_13,fr_24,?_⟩
  have e:(jDbl (X,Y,Z)).2.2=(Y+Z) * (Y+Z) - Y * Y - Z * Z:=by unfold jDbl; dsimp only; grind
  rw [e]; exact fr_17
theorem add_ex {M:Vx 64 4} {inv:BitVec 64} {one two b p_x p_y p_z q_x q_y q_z:Vx 64 4} {t u:F3} (F:Fd P256 M inv one two) (h:T4 (p_x,p_y,p_z) t) (k:T4 (q_x,q_y,q_z) u) :
  ∃ r,pcurve_curve_add M inv one two b p_x p_y p_z q_x q_y q_z=some r∧T4 r (jAdd t u):=by
 obtain ⟨X1,Y1,Z1⟩:=t
 obtain ⟨X2,Y2,Z2⟩:=u
 have hh:=h
 obtain ⟨hp_x,hp_y,hp_z⟩:=h
 obtain ⟨hq_x,hq_y,hq_z⟩:=k
 dsimp only at hp_x hp_y hp_z hq_x hq_y hq_z
 unfold pcurve_curve_add
 by_cases hz1:Z1=0
 ·refine ⟨(q_x,q_y,q_z),bind_i hp_z.zero (if_i (by simp [hz1]) rfl),?_⟩
  rw [show jAdd (X1,Y1,Z1) (X2,Y2,Z2)=(X2,Y2,Z2) from if_pos hz1]
  exact ⟨hq_x,hq_y,hq_z⟩
 by_cases hz2:Z2=0
 ·refine ⟨(p_x,p_y,p_z),bind_i hp_z.zero (if_n (by simp [hz1]) (bind_i hq_z.zero (if_i (by simp [hz2]) rfl))),?_⟩
  rw [show jAdd (X1,Y1,Z1) (X2,Y2,Z2)=(X1,Y1,Z1) from (if_neg hz1).trans (if_pos hz2)]
  exact ⟨hp_x,hp_y,hp_z⟩
 obtain ⟨r_3,er_3,fr_3⟩:=F.mulF hp_z hp_z
 obtain ⟨r_4,er_4,fr_4⟩:=F.mulF hq_z hq_z
 obtain ⟨r_5,er_5,fr_5⟩:=F.mulF hp_x fr_4
 obtain ⟨r_6,er_6,fr_6⟩:=F.mulF hq_x fr_3
 obtain ⟨r_7,er_7,fr_7⟩:=F.mulF hq_z fr_4
 obtain ⟨r_8,er_8,fr_8⟩:=F.mulF hp_y fr_7
 obtain ⟨r_9,er_9,fr_9⟩:=F.mulF hp_z fr_3
 obtain ⟨r_10,er_10,fr_10⟩:=F.mulF hq_y fr_9
 obtain ⟨r_11,er_11,fr_11⟩:=F.subF fr_6 fr_5
 obtain ⟨r_12,er_12,fr_12⟩:=F.subF fr_10 fr_8
 by_cases hH:X2 * (Z1 * Z1) - X1 * (Z2 * Z2)=0
 ·by_cases hR:Y2 * (Z1 * (Z1 * Z1)) - Y1 * (Z2 * (Z2 * Z2))=0
  ·obtain ⟨d,hd,td⟩:=double_ex (b:=b) F hh
   refine ⟨(d.1,d.2.1,d.2.2),bind_i hp_z.zero (if_n (by simp [hz1]) (bind_i hq_z.zero (if_n (by simp [hz2]) (bind_i er_3 (bind_i er_4 (bind_i er_5 (bind_i er_6 (bind_i er_7 (bind_i er_8 (bind_i er_9 (bind_i er_10 (bind_i er_11 (bind_i er_12 (bind_i fr_11.zero (if_i (by simp [hH]) (bind_i fr_12.zero (if_i (by simp [hR]) (bind_i hd rfl)))))))))))))))))),?_⟩
   rw [show jAdd (X1,Y1,Z1) (X2,Y2,Z2)=jDbl (X1,Y1,Z1) from (if_neg hz1).trans ((if_neg hz2).trans ((if_pos hH).trans (if_pos hR)))]
   exact td
  ·refine ⟨_,bind_i hp_z.zero (if_n (by simp [hz1]) (bind_i hq_z.zero (if_n (by simp [hz2]) (bind_i er_3 (bind_i er_4 (bind_i er_5 (bind_i er_6 (bind_i er_7 (bind_i er_8 (bind_i er_9 (bind_i er_10 (bind_i er_11 (bind_i er_12 (bind_i fr_11.zero (if_i (by simp [hH]) (bind_i fr_12.zero (if_n (by simp [hR]) rfl))))))))))))))))),?_⟩
   rw [show jAdd (X1,Y1,Z1) (X2,Y2,Z2)=(0,0,0) from (if_neg hz1).trans ((if_neg hz2).trans ((if_pos hH).trans (if_neg hR)))]
   exact ⟨F4_0,F4_0,F4_0⟩
 ·obtain ⟨r_16,er_16,fr_16⟩:=F.mulF fr_11 fr_11
  obtain ⟨r_17,er_17,fr_17⟩:=F.mulF fr_11 fr_16
  obtain ⟨r_18,er_18,fr_18⟩:=F.mulF fr_5 fr_16
  obtain ⟨r_19,er_19,fr_19⟩:=F.mulF fr_12 fr_12
  obtain ⟨r_20,er_20,fr_20⟩:=F.subF fr_19 fr_17
  obtain ⟨r_21,er_21,fr_21⟩:=F.addF fr_18 fr_18
  obtain ⟨r_22,er_22,fr_22⟩:=F.subF fr_20 fr_21
  obtain ⟨r_23,er_23,fr_23⟩:=F.subF fr_18 fr_22
  obtain ⟨r_24,er_24,fr_24⟩:=F.mulF fr_12 fr_23
  obtain ⟨r_25,er_25,fr_25⟩:=F.mulF fr_8 fr_17
  obtain ⟨r_26,er_26,fr_26⟩:=F.subF fr_24 fr_25
  obtain ⟨r_27,er_27,fr_27⟩:=F.mulF hp_z hq_z
  obtain ⟨r_28,er_28,fr_28⟩:=F.mulF fr_11 fr_27
  refine ⟨(r_22,r_26,r_28),bind_i hp_z.zero (if_n (by simp [hz1]) (bind_i hq_z.zero (if_n (by simp [hz2]) (bind_i er_3 (bind_i er_4 (bind_i er_5 (bind_i er_6 (bind_i er_7 (bind_i er_8 (bind_i er_9 (bind_i er_10 (bind_i er_11 (bind_i er_12 (bind_i fr_11.zero (if_n (by simp [hH]) (bind_i er_16 (bind_i er_17 (bind_i er_18 (bind_i er_19 (bind_i er_20 (bind_i er_21 (bind_i er_22 (bind_i er_23 (bind_i er_24 (bind_i er_25 (bind_i er_26 (bind_i er_27 (bind_i er_28 (rfl))))))))))))))))))))))))))))),?_⟩
  rw [show jAdd (X1,Y1,Z1) (X2,Y2,Z2)=_ from (if_neg hz1).trans ((if_neg hz2).trans (if_neg hH))]
  exact ⟨fr_22,fr_26,fr_28⟩
open Classical in
noncomputable def jDbl' (t:F3):F3:=if t.2.2=0 then t else jDbl t
theorem twice_ex {p_X p_Y p_Z:Vx 32 8} {t:F3} (h:T8 (p_X,p_Y,p_Z) t) :
  ∃ r,halberdref9_twice p_X p_Y p_Z=some r∧T8 r (jDbl' t):=by
 have F:=Rd_P
 obtain ⟨X,Y,Z⟩:=t
 obtain ⟨hp_X,hp_Y,hp_Z⟩:=h
 dsimp only at hp_X hp_Y hp_Z
 unfold halberdref9_twice
 by_cases hz:Z=0
 ·refine ⟨_,if_i (hp_Z.zero.2 hz) rfl,?_⟩
  rw [show jDbl' (X,Y,Z)=(X,Y,Z) from if_pos hz]; exact ⟨hp_X,hp_Y,hp_Z⟩
 obtain ⟨r_1,er_1,fr_1⟩:=F.mulF hp_Y hp_Y
 obtain ⟨r_2,er_2,fr_2⟩:=F.mulF hp_X fr_1
 obtain ⟨r_3,er_3,fr_3⟩:=F.addF fr_2 fr_2
 obtain ⟨r_4,er_4,fr_4⟩:=F.addF fr_3 fr_3
 obtain ⟨r_5,er_5,fr_5⟩:=F.mulF hp_Z hp_Z
 obtain ⟨r_6,er_6,fr_6⟩:=F.subF hp_X fr_5
 obtain ⟨r_7,er_7,fr_7⟩:=F.addF hp_X fr_5
 obtain ⟨r_8,er_8,fr_8⟩:=F.mulF fr_6 fr_7
 obtain ⟨r_9,er_9,fr_9⟩:=F.addF fr_8 fr_8
 obtain ⟨r_10,er_10,fr_10⟩:=F.addF fr_8 fr_9
 obtain ⟨r_11,er_11,fr_11⟩:=F.mulF fr_10 fr_10
 obtain ⟨r_12,er_12,fr_12⟩:=F.addF fr_4 fr_4
 obtain ⟨r_13,er_13,fr_13⟩:=F.subF fr_11 fr_12
 obtain ⟨r_14,er_14,fr_14⟩:=F.mulF fr_1 fr_1
 obtain ⟨r_15,er_15,fr_15⟩:=F.addF fr_14 fr_14
 obtain ⟨r_16,er_16,fr_16⟩:=F.addF fr_15 fr_15
 obtain ⟨r_17,er_17,fr_17⟩:=F.addF fr_16 fr_16
 obtain ⟨r_18,er_18,fr_18⟩:=F.mulF hp_Y hp_Z
 obtain ⟨r_19,er_19,fr_19⟩:=F.subF fr_4 fr_13
 obtain ⟨r_20,er_20,fr_20⟩:=F.mulF fr_10 fr_19
 obtain ⟨r_21,er_21,fr_21⟩:=F.subF fr_20 fr_17
 obtain ⟨r_22,er_22,fr_22⟩:=F.addF fr_18 fr_18
 refine ⟨(r_13,r_21,r_22),if_n (fun c=>hz (hp_Z.zero.1 c)) (bind_i er_1 (bind_i er_2 (bind_i er_3 (bind_i er_4 (bind_i er_5 (bind_i er_6 (bind_i er_7 (bind_i er_8 (bind_i er_9 (bind_i er_10 (bind_i er_11 (bind_i er_12 (bind_i er_13 (bind_i er_14 (bind_i er_15 (bind_i er_16 (bind_i er_17 (bind_i er_18 (bind_i er_19 (bind_i er_20 (bind_i er_21 (bind_i er_22 (rfl))))))))))))))))))))))),?_⟩
 rw [show jDbl' (X,Y,Z)=jDbl (X,Y,Z) from if_neg hz]
 exact ⟨fr_13,fr_21,fr_22⟩
theorem together_ex {p_X p_Y p_Z q_X q_Y q_Z:Vx 32 8} {t u:F3} (h:T8 (p_X,p_Y,p_Z) t) (k:T8 (q_X,q_Y,q_Z) u) :
  ∃ r,halberdref9_together p_X p_Y p_Z q_X q_Y q_Z=some r∧T8 r (jAdd t u):=by
 have F:=Rd_P
 obtain ⟨X1,Y1,Z1⟩:=t
 obtain ⟨X2,Y2,Z2⟩:=u
 have hh:=h
 obtain ⟨hp_X,hp_Y,hp_Z⟩:=h
 obtain ⟨hq_X,hq_Y,hq_Z⟩:=k
 dsimp only at hp_X hp_Y hp_Z hq_X hq_Y hq_Z
 unfold halberdref9_together
 by_cases hz1:Z1=0
 ·refine ⟨(q_X,q_Y,q_Z),if_i (hp_Z.zero.2 hz1) rfl,?_⟩
  rw [show jAdd (X1,Y1,Z1) (X2,Y2,Z2)=(X2,Y2,Z2) from if_pos hz1]
  exact ⟨hq_X,hq_Y,hq_Z⟩
 have z1 : ¬ p_Z=replicate 8 0#32:=fun c=>hz1 (hp_Z.zero.1 c)
 by_cases hz2:Z2=0
 ·refine ⟨(p_X,p_Y,p_Z),if_n z1 (if_i (hq_Z.zero.2 hz2) rfl),?_⟩
  rw [show jAdd (X1,Y1,Z1) (X2,Y2,Z2)=(X1,Y1,Z1) from (if_neg hz1).trans (if_pos hz2)]
  exact ⟨hp_X,hp_Y,hp_Z⟩
 have z2 : ¬ q_Z=replicate 8 0#32:=fun c=>hz2 (hq_Z.zero.1 c)
 obtain ⟨r_1,er_1,fr_1⟩:=F.mulF hp_Z hp_Z
 obtain ⟨r_2,er_2,fr_2⟩:=F.mulF hq_Z hq_Z
 obtain ⟨r_3,er_3,fr_3⟩:=F.mulF hp_X fr_2
 obtain ⟨r_4,er_4,fr_4⟩:=F.mulF hq_X fr_1
 obtain ⟨r_5,er_5,fr_5⟩:=F.mulF hq_Z fr_2
 obtain ⟨r_6,er_6,fr_6⟩:=F.mulF hp_Y fr_5
 obtain ⟨r_7,er_7,fr_7⟩:=F.mulF hp_Z fr_1
 obtain ⟨r_8,er_8,fr_8⟩:=F.mulF hq_Y fr_7
 obtain ⟨r_9,er_9,fr_9⟩:=F.subF fr_4 fr_3
 obtain ⟨r_10,er_10,fr_10⟩:=F.subF fr_8 fr_6
 by_cases hH:X2 * (Z1 * Z1) - X1 * (Z2 * Z2)=0
 ·by_cases hR:Y2 * (Z1 * (Z1 * Z1)) - Y1 * (Z2 * (Z2 * Z2))=0
  ·obtain ⟨d,hd,td⟩:=twice_ex hh
   rw [show jDbl' (X1,Y1,Z1)=jDbl (X1,Y1,Z1) from if_neg hz1] at td
   refine ⟨(d.1,d.2.1,d.2.2),if_n z1 (if_n z2 (bind_i er_1 (bind_i er_2 (bind_i er_3 (bind_i er_4 (bind_i er_5 (bind_i er_6 (bind_i er_7 (bind_i er_8 (bind_i er_9 (bind_i er_10 (if_i (fr_9.zero.2 hH) (if_i (fr_10.zero.2 hR) (bind_i hd rfl)))))))))))))),?_⟩
   rw [show jAdd (X1,Y1,Z1) (X2,Y2,Z2)=jDbl (X1,Y1,Z1) from (if_neg hz1).trans ((if_neg hz2).trans ((if_pos hH).trans (if_pos hR)))]
   exact td
  ·refine ⟨_,if_n z1 (if_n z2 (bind_i er_1 (bind_i er_2 (bind_i er_3 (bind_i er_4 (bind_i er_5 (bind_i er_6 (bind_i er_7 (bind_i er_8 (bind_i er_9 (bind_i er_10 (if_i (fr_9.zero.2 hH) (if_n (fun c=>hR (fr_10.zero.1 c)) rfl))))))))))))),?_⟩
   rw [show jAdd (X1,Y1,Z1) (X2,Y2,Z2)=(0,0,0) from (if_neg hz1).trans ((if_neg hz2).trans ((if_pos hH).trans (if_neg hR)))]
   exact ⟨F8_0,F8_0,F8_0⟩
 ·obtain ⟨r_12,er_12,fr_12⟩:=F.mulF fr_9 fr_9
  obtain ⟨r_13,er_13,fr_13⟩:=F.mulF fr_9 fr_12
  obtain ⟨r_14,er_14,fr_14⟩:=F.mulF fr_3 fr_12
  obtain ⟨r_15,er_15,fr_15⟩:=F.mulF fr_10 fr_10
  obtain ⟨r_16,er_16,fr_16⟩:=F.subF fr_15 fr_13
  obtain ⟨r_17,er_17,fr_17⟩:=F.addF fr_14 fr_14
  obtain ⟨r_18,er_18,fr_18⟩:=F.subF fr_16 fr_17
  obtain ⟨r_19,er_19,fr_19⟩:=F.subF fr_14 fr_18
  obtain ⟨r_20,er_20,fr_20⟩:=F.mulF fr_10 fr_19
  obtain ⟨r_21,er_21,fr_21⟩:=F.mulF fr_6 fr_13
  obtain ⟨r_22,er_22,fr_22⟩:=F.subF fr_20 fr_21
  obtain ⟨r_23,er_23,fr_23⟩:=F.mulF hp_Z hq_Z
  obtain ⟨r_24,er_24,fr_24⟩:=F.mulF fr_9 fr_23
  refine ⟨(r_18,r_22,r_24),if_n z1 (if_n z2 (bind_i er_1 (bind_i er_2 (bind_i er_3 (bind_i er_4 (bind_i er_5 (bind_i er_6 (bind_i er_7 (bind_i er_8 (bind_i er_9 (bind_i er_10 (if_n (fun c=>hH (fr_9.zero.1 c)) (bind_i er_12 (bind_i er_13 (bind_i er_14 (bind_i er_15 (bind_i er_16 (bind_i er_17 (bind_i er_18 (bind_i er_19 (bind_i er_20 (bind_i er_21 (bind_i er_22 (bind_i er_23 (bind_i er_24 (rfl)))))))))))))))))))))))))),?_⟩
  rw [show jAdd (X1,Y1,Z1) (X2,Y2,Z2)=_ from (if_neg hz1).trans ((if_neg hz2).trans (if_neg hH))]
  exact ⟨fr_18,fr_22,fr_24⟩
end Go.Kx
end

section
namespace Go.Proofs
open Go Go.Kx
open Vector (replicate)
def pcurve_newCurve:Option (Vx 64 4 × BitVec 64 × Vx 64 4 × Vx 64 4 × Vx 64 4) :=
 (num_New 0).bind fun (r_1:(Unit) ⊕ (Vx 64 4 × BitVec 64 × Vx 64 4 × Vx 64 4))=>(match r_1 with | .inl r_1=>(none) | .inr r_1=>((num_Field_In r_1.1 r_1.2.1 r_1.2.2.1 r_1.2.2.2 (#v[4309448131093880907#64,7285987128567378166#64,12964664127075681980#64,6540974713487397863#64]:Vx 64 4)).bind fun (r_2:Vx 64 4)=>(some (r_1.1,r_1.2.1,r_1.2.2.1,r_1.2.2.2,r_2))))
set_option maxHeartbeats 4000000 in
set_option maxRecDepth 20000 in
theorem F33_calls (r:Vx 64 4 × BitVec 64 × Vx 64 4 × Vx 64 4 × Vx 64 4) (H:pcurve_newCurve=some r) :
  Does Try.prog 33 [] [] [] (Γ:=Nat × Nat) (fun g=>ptr (some (g.1,0)) 0) (fun g=>[⟨some (g.1,0),[ptr (some (g.2,0)) 0]⟩,⟨some (g.2,0),e64 r.1.toList⟩,⟨some (g.2,4),[v64 r.2.1]⟩,⟨some (g.2,5),e64 r.2.2.1.toList⟩,⟨some (g.2,9),e64 r.2.2.2.1.toList⟩,⟨some (g.1,1),e64 r.2.2.2.2.toList⟩]):=by
 intro w hmem hro hd
 refine calls_of (N:=9) (m0:=[]) Try.func33 rfl Try.ntmps33 (argM_ok []) rfl hmem hro hd ?_
 unfold pcurve_newCurve at H
 refine TC_seq (TC_region (TLv (V_assign rfl) ?_))
 refine TL_nil (TX_next (TC_seq (TC_region ?_)))
 obtain ⟨r_1,hr_1,H⟩:=bind_elim H
 rcases r_1 with r_1 | r_1
 ·dsimp only at H
  refine TL_e rfl rfl rfl (E_call (Γ:=Unit × Nat) (val:=fun g=>Value.pointer none) (mem:=fun g=>[]) (vs:=[vi 0]) (Lin:=[]) (Ro:=[]) (is:=[]) rfl Try.call53 (F53_calls 0 (.inl r_1) hr_1) rfl trivial) (fun g_1=>?_)
  refine TLv (V_assign rfl) ?_
  refine TL_nil (TX_next (TC_seq (TC_region (TLv (V_move rfl) ?_))))
  refine TLv (V_move rfl) ?_
  refine TLv (V_buildArr (pv:=[(0,v64 4309448131093880907#64),(1,v64 7285987128567378166#64),(2,v64 12964664127075681980#64),(3,v64 6540974713487397863#64)]) rfl rfl Try.underlying57 TryI.inf57 TryI.inf55 rfl TryI.zer57 (cs:=e64 ((#v[4309448131093880907#64,7285987128567378166#64,12964664127075681980#64,6540974713487397863#64]:Vx 64 4).toList)) (by kernel_rfl)) ?_
  exact absurd (show (none:Option _)=some _ from H) (fun h=>by cases h)
 ·dsimp only at H
  refine TL_e rfl rfl rfl (E_call (Γ:=Unit × Nat) (val:=fun g=>ptr (some (g.2,0)) 0) (mem:=fun g=>[⟨some (g.2,0),e64 r_1.1.toList⟩,⟨some (g.2,4),[v64 r_1.2.1]⟩,⟨some (g.2,5),e64 r_1.2.2.1.toList⟩,⟨some (g.2,9),e64 r_1.2.2.2.toList⟩]) (vs:=[vi 0]) (Lin:=[]) (Ro:=[]) (is:=[]) rfl Try.call53 (F53_calls 0 (.inr r_1) hr_1) rfl trivial) (fun g_2=>?_)
  refine TLv (V_assign rfl) ?_
  refine TL_nil (TX_next (TC_seq (TC_region (TLv (V_move rfl) ?_))))
  refine TLv (V_move rfl) ?_
  refine TLv (V_buildArr (pv:=[(0,v64 4309448131093880907#64),(1,v64 7285987128567378166#64),(2,v64 12964664127075681980#64),(3,v64 6540974713487397863#64)]) rfl rfl Try.underlying57 TryI.inf57 TryI.inf55 rfl TryI.zer57 (cs:=e64 ((#v[4309448131093880907#64,7285987128567378166#64,12964664127075681980#64,6540974713487397863#64]:Vx 64 4).toList)) (by kernel_rfl)) ?_
  obtain ⟨r_2,hr_2,H⟩:=bind_elim H
  refine TLe (E_c0 (F56_calls g_2.2 0 r_1.1 r_1.2.1 r_1.2.2.1 r_1.2.2.2 (#v[4309448131093880907#64,7285987128567378166#64,12964664127075681980#64,6540974713487397863#64]:Vx 64 4) r_2 hr_2) Try.call56 ⟨.o 0, .o 1, .o 2, .o 3,trivial⟩) (fun g_3=>?_)
  refine TLv (V_buildStruct (pv:=[(0,ptr (some (g_2.2,0)) 0),(1,aG [(4,e64 r_2.toList)])]) (pl:=[(0,1),(1,4)]) rfl rfl Try.underlying100 TryI.inf100 TryI.places100 TryI.zer100 (cs:=flat [(1,[ptr (some (g_2.2,0)) 0]),(4,e64 r_2.toList)]) (fill_part [] [(4,e64 ((replicate 4 0#64).toList))] rfl rfl trivial rfl rfl rfl (fill_part [(1,[ptr (some (g_2.2,0)) 0])] [] rfl rfl ⟨rfl,trivial⟩ rfl (lenV (f:=v64) (replicate 4 0#64)) (lenV (f:=v64) r_2) fill_end))) ?_
  refine TLe (E_boxP [(1,[ptr (some (g_2.2,0)) 0]),(4,e64 r_2.toList)] rfl rfl ⟨rfl,(lenV (f:=v64) r_2),trivial⟩) (fun b1=>?_)
  refine TLv (V_assign rfl) ?_
  refine TL_nil (TX_next (TC_ret ?_))
  have hrv:=Option.some.inj H
  subst hrv
  exact TX_ret (rs:=[.tmp 0]) (vs:=[ptr (some (b1,0)) 0]) rfl ⟨rfl,trivial⟩ (fun w' hs'=>⟨(b1,g_2.2),rfl,Step.left (Step.pulled (is:=[0,1,1,1,1,0]) (A:=[⟨some (b1,0),[ptr (some (g_2.2,0)) 0]⟩,⟨some (g_2.2,0),e64 r_1.1.toList⟩,⟨some (g_2.2,4),[v64 r_1.2.1]⟩,⟨some (g_2.2,5),e64 r_1.2.2.1.toList⟩,⟨some (g_2.2,9),e64 r_1.2.2.2.toList⟩,⟨some (b1,1),e64 r_2.toList⟩]) hs' rfl)⟩)
end Go.Proofs
end

section
namespace Go.Proofs
open Go Go.Kx
def num_Field_One (f_M:Vx 64 4) (f_inv:BitVec 64) (f_one:Vx 64 4) (f_two:Vx 64 4):Option (Vx 64 4) :=
 some f_one
set_option maxHeartbeats 4000000 in
set_option maxRecDepth 20000 in
theorem F75_calls (bf:Nat) (obf:Nat) (f_M:Vx 64 4) (f_inv:BitVec 64) (f_one:Vx 64 4) (f_two:Vx 64 4) (r:Vx 64 4) (H:num_Field_One f_M f_inv f_one f_two=some r) :
  Does Try.prog 75 [ptr (some (bf,obf)) 0] [] [⟨some (bf,obf),e64 f_M.toList⟩,⟨some (bf,obf+4),[v64 f_inv]⟩,⟨some (bf,obf+5),e64 f_one.toList⟩,⟨some (bf,obf+9),e64 f_two.toList⟩] (Γ:=Unit) (fun g=>aG [(4,e64 r.toList)]) (fun g=>[]):=by
 intro w hmem hro hd
 refine calls_of (N:=7) (m0:=[(0,ptr (some (bf,obf)) 0)]) Try.func75 rfl Try.ntmps75 (argM_ok [ptr (some (bf,obf)) 0]) rfl hmem hro hd ?_
 unfold num_Field_One at H
 refine TC_seq (TC_region (TLe (E_al64 4 TryI.inf57 TryI.zer57) (fun b1=>?_)))
 refine TL_nil (TX_next (TC_seq (TC_region (TLv (V_move rfl) ?_))))
 refine TLv (V_nilCheck rfl) ?_
 refine TLv (V_fieldE rfl Try.underlying113 rfl rfl TryI.inf57 rfl (v:=ptr (some (bf,obf+5)) 0) rfl) ?_
 refine TLv (V_lag (.r 2) Try.isAgg57 TryI.inf57) ?_
 refine TLn (E_sv (vs:=e64 f_one.toList) 0 TryI.inf57) (fun _=>?_)
 refine TL_nil (TX_next (TC_ret ?_))
 have hrv:=Option.some.inj H
 subst hrv
 exact TX_ret (rs:=[.cell 2 57]) (vs:=[aG [(4,e64 f_one.toList)]]) rfl ⟨(Res_agg (n:=4) rfl (by simp) (.o 0) Try.isAgg57 TryI.inf57 rfl (lenV (f:=v64) f_one)),trivial⟩ (fun w' hs'=>⟨(),rfl,Step.left (Step.pulled (is:=[]) (A:=[]) hs' rfl)⟩)
end Go.Proofs
end

section
namespace Go.Proofs
open Go Go.Kx
open Vector (replicate)
def pcurve_curve_read (cM:Vx 64 4) (cI:BitVec 64) (cO:Vx 64 4) (cT:Vx 64 4) (c_b:Vx 64 4) (p:Str):Option (Vx 64 4 × Vx 64 4 × Vx 64 4 × Bool) :=
 (if ((p).length:Int) ≠ 65 then (some true) else (if 0≤(0:Int)∧(0:Int)<((p).length:Int) then (some (decide ((sg p 0) ≠ 4#8))) else none)).bind fun (j1:Bool)=>(if j1=true then (some (replicate 4 0#64,replicate 4 0#64,replicate 4 0#64,false)) else (if 33≤(p).length then ((num_Field_Read cM cI cO cT (sub p 1 33)).bind fun (r_1:Vx 64 4 × Bool)=>(if 33≤(p).length then ((num_Field_Read cM cI cO cT (sub p 33 ((p).length))).bind fun (r_2:Vx 64 4 × Bool)=>((if (!r_1.2)=true then (some true) else (some (!r_2.2))).bind fun (j2:Bool)=>(if j2=true then (some (replicate 4 0#64,replicate 4 0#64,replicate 4 0#64,false)) else ((num_Field_In cM cI cO cT r_1.1).bind fun (r_3:Vx 64 4)=>((num_Field_In cM cI cO cT r_2.1).bind fun (r_4:Vx 64 4)=>((num_Field_Add cM cI cO cT r_3 r_3).bind fun (r_5:Vx 64 4)=>((num_Field_Add cM cI cO cT r_3 r_5).bind fun (r_6:Vx 64 4)=>((num_Field_Mul cM cI cO cT r_3 r_3).bind fun (r_7:Vx 64 4)=>((num_Field_Mul cM cI cO cT r_3 r_7).bind fun (r_8:Vx 64 4)=>((num_Field_Sub cM cI cO cT r_8 r_6).bind fun (r_9:Vx 64 4)=>((num_Field_Add cM cI cO cT r_9 c_b).bind fun (r_10:Vx 64 4)=>((num_Field_One cM cI cO cT).bind fun (r_11:Vx 64 4)=>((num_Field_Mul cM cI cO cT r_4 r_4).bind fun (r_12:Vx 64 4)=>(ltt (decide (r_12=r_10)) fun (x1:Bool)=>(some (r_3,r_4,r_11,x1)))))))))))))))) else none)) else none))
set_option maxHeartbeats 4000000 in
set_option maxRecDepth 20000 in
theorem F41_calls (bc:Nat) (obc:Nat) (bF:Nat) (oF:Nat) (cM:Vx 64 4) (cI:BitVec 64) (cO:Vx 64 4) (cT:Vx 64 4) (c_b:Vx 64 4) (p:Str) (r:Vx 64 4 × Vx 64 4 × Vx 64 4 × Bool) (H:pcurve_curve_read cM cI cO cT c_b p=some r) :
  Does Try.prog 41 [ptr (some (bc,obc)) 0,vs p] [] [⟨some (bc,obc),[ptr (some (bF,oF)) 0]⟩,⟨some (bc,obc+1),e64 c_b.toList⟩,⟨some (bF,oF),e64 cM.toList⟩,⟨some (bF,oF+4),[v64 cI]⟩,⟨some (bF,oF+5),e64 cO.toList⟩,⟨some (bF,oF+9),e64 cT.toList⟩] (Γ:=Unit) (fun g=>Value.tuple [aG [(4,e64 r.1.toList),(4,e64 r.2.1.toList),(4,e64 r.2.2.1.toList)],vb r.2.2.2].toArray) (fun g=>[]):=by
 intro w hmem hro hd
 refine calls_of (N:=118) (m0:=[(0,ptr (some (bc,obc)) 0),(1,vs p)]) Try.func41 rfl Try.ntmps41 (argM_ok [ptr (some (bc,obc)) 0,vs p]) rfl hmem hro hd ?_
 unfold pcurve_curve_read at H
 refine TC_seq (TC_region (TLe (E_allocP [(4,e64 ((replicate 4 0#64).toList)),(4,e64 ((replicate 4 0#64).toList)),(4,e64 ((replicate 4 0#64).toList))] TryI.inf64 TryI.zer64 ⟨(lenV (f:=v64) (replicate 4 0#64)),(lenV (f:=v64) (replicate 4 0#64)),(lenV (f:=v64) (replicate 4 0#64)),trivial⟩) (fun b1=>?_)))
 refine TLv (V_assign rfl) ?_
 refine TL_nil (TX_next (TC_seq (TC_seq (TC_region (TLv (V_move rfl) ?_)))))
 refine TLv (V_len_str rfl Try.underlying9) ?_
 refine TLv (V_bin rfl rfl (fun w=>neqI w ((p).length:Int) 65)) ?_
 refine TLv (V_move rfl) ?_
 obtain ⟨j1,Hj,H⟩:=bind_elim H
 refine TL_join (Γ:=Unit) (fun gj1=>[(0,ptr (some (bc,obc)) 0),(1,vs p),(4,ptr (some (b1,0)) 0),(19,vb j1)]) (fun gj1=>[⟨some (b1,0),e64 ((replicate 4 0#64).toList)⟩,⟨some (b1,4),e64 ((replicate 4 0#64).toList)⟩,⟨some (b1,8),e64 ((replicate 4 0#64).toList)⟩]) ?_ ?_
 ·intro gj1
  refine TX_next (TC_cond (b:=j1) rfl (fun hc=>?_) (fun hc=>?_))
  ·replace H:=ite_t hc H
   refine TC_seq (TC_region (TLv (V_buildStruct (pv:=[]) (pl:=[(0,4),(4,4),(8,4)]) rfl rfl Try.underlying64 TryI.inf64 TryI.places64 TryI.zer64 (cs:=flat [(4,e64 ((replicate 4 0#64).toList)),(4,e64 ((replicate 4 0#64).toList)),(4,e64 ((replicate 4 0#64).toList))]) fill_end) ?_))
   refine TLn (E_sp (b:=b1) (o:=0) [0,0,0] [(4,e64 ((replicate 4 0#64).toList)),(4,e64 ((replicate 4 0#64).toList)),(4,e64 ((replicate 4 0#64).toList))] [(4,e64 ((replicate 4 0#64).toList)),(4,e64 ((replicate 4 0#64).toList)),(4,e64 ((replicate 4 0#64).toList))] rfl TryI.inf64 ⟨(lenV (f:=v64) (replicate 4 0#64)),(lenV (f:=v64) (replicate 4 0#64)),(lenV (f:=v64) (replicate 4 0#64)),trivial⟩ ⟨(lenV (f:=v64) (replicate 4 0#64)),(lenV (f:=v64) (replicate 4 0#64)),(lenV (f:=v64) (replicate 4 0#64)),trivial⟩ ⟨(OneC.map (fun _=>rfl) _),(OneC.map (fun _=>rfl) _),(OneC.map (fun _=>rfl) _),trivial⟩) (fun _=>?_)
   refine TLv (V_assign rfl) ?_
   refine TL_nil (TX_next (TC_ret (TX_then_ret ?_)))
   have hrv:=Option.some.inj H
   subst hrv
   exact TX_ret (rs:=[.cell 4 64, .tmp 5]) (vs:=[aG [(4,e64 ((replicate 4 0#64).toList)),(4,e64 ((replicate 4 0#64).toList)),(4,e64 ((replicate 4 0#64).toList))],vb false]) rfl ⟨(Res_agg (n:=12) (cs:=flat [(4,e64 ((replicate 4 0#64).toList)),(4,e64 ((replicate 4 0#64).toList)),(4,e64 ((replicate 4 0#64).toList))]) rfl (by simp) (SrcEnts (b:=b1) [(4,e64 ((replicate 4 0#64).toList)),(4,e64 ((replicate 4 0#64).toList)),(4,e64 ((replicate 4 0#64).toList))] 0 ⟨(lenV (f:=v64) (replicate 4 0#64)),(lenV (f:=v64) (replicate 4 0#64)),(lenV (f:=v64) (replicate 4 0#64)),trivial⟩ (AllSrc.all (M:=ents b1 0 [(4,e64 ((replicate 4 0#64).toList)),(4,e64 ((replicate 4 0#64).toList)),(4,e64 ((replicate 4 0#64).toList))]) ⟨Src.own (j:=0) rfl,Src.own (j:=1) rfl,Src.own (j:=2) rfl,trivial⟩)) Try.isAgg64 TryI.inf64 rfl (by simp [flat])),rfl,trivial⟩ (fun w' hs'=>⟨(),rfl,Step.left (Step.pulled (is:=[]) (A:=[]) hs' rfl)⟩)
  ·replace H:=ite_f (Bool.eq_false_iff.1 hc) H
   refine TC_skip (TX_next (TC_seq ?_))
   obtain ⟨h1,H⟩:=if_elim H
   obtain ⟨r_1,hr_1,H⟩:=bind_elim H
   refine TA_begin [⟨some (b1,0),e64 ((replicate 4 0#64).toList)⟩,⟨some (b1,4),e64 ((replicate 4 0#64).toList)⟩,⟨some (b1,8),e64 ((replicate 4 0#64).toList)⟩] 12 (by kernel_rfl) (N:=13) rfl ?_
   refine TA_tk 0 [0,0,0] (dn 13 1) rfl rfl (V_move rfl) ?_
   refine TA_tk 1 [0,0,0] (dn 13 3) rfl rfl (V_nilCheck rfl) ?_
   refine TA_tk 2 [0,0,0] (dn 13 7) rfl rfl (V_fieldE rfl Try.underlying100 rfl rfl TryI.inf82 rfl (v:=ptr (some (bc,obc)) 0) rfl) ?_
   refine TA_tk 3 [0,0,0] (dn 13 15) rfl rfl (V_load rfl (.r 0) rfl Try.isAgg82) ?_
   refine TA_tk 4 [0,0,0] (dn 13 31) rfl rfl (V_move rfl) ?_
   refine TA_tk 5 [0,0,0] (dn 13 63) rfl rfl (V_sliceStr (l:=1) (h:=33) rfl Try.underlying9 (Bnd.some' (i:=1) rfl (by decide)) (Bnd.some' (i:=33) rfl (by decide)) (by decide) h1) ?_
   refine TA_mix (is:=[0,0,0]) (done':=dn 13 2047) [itV 6 28 (Value.tuple [aG [(4,e64 r_1.1.toList)],vb r_1.2].toArray) [],itV 7 21 (Value.tuple [aG [(4,e64 r_1.1.toList)],vb r_1.2].toArray) [6],itV 8 29 (aG [(4,e64 r_1.1.toList)]) [7],itA64 10 6 4] [itV 9 30 (vb r_1.2) [7]] 2 (by kernel_rfl) (QP.then QP.body) (by kernel_rfl) rfl (.e rfl (E_cu (F73_calls bF oF cM cI cO cT (sub p 1 33) r_1 hr_1) Try.call73 ⟨.r 2, .r 3, .r 4, .r 5,trivial⟩) (.v rfl (V_move rfl) (.v rfl V_ex (.c rfl (fun _ _=>(E_al64 4 TryI.inf57 TryI.zer57)) .nil)))) (.c rfl (fun _=>V_ex) .nil) (by kernel_rfl) rfl (fun γ=>?_)
   refine TA_cut [(30,vb r_1.2),(6,ptr (some ((γ 10),0)) 0),(29,aG [(4,e64 r_1.1.toList)]),(0,ptr (some (bc,obc)) 0),(1,vs p),(4,ptr (some (b1,0)) 0)] [⟨some ((γ 10),0),e64 ((replicate 4 0#64).toList)⟩,⟨some (b1,0),e64 ((replicate 4 0#64).toList)⟩,⟨some (b1,4),e64 ((replicate 4 0#64).toList)⟩,⟨some (b1,8),e64 ((replicate 4 0#64).toList)⟩] ⟨rfl,rfl,rfl,rfl,rfl,rfl,trivial⟩ rfl ?_
   generalize γ 10=b2
   refine TA_all (rs:=[11]) (by kernel_rfl) rfl ?_
   refine ⟨?_,trivial⟩
   refine TO_n (is:=[1,1,1]) (done':=dn 13 4095) rfl rfl rfl (by kernel_rfl) (E_sv (vs:=e64 r_1.1.toList) 0 TryI.inf57) (fun _ _=>rfl) (fun _=>?_)
   refine TA_all (rs:=[12]) (by kernel_rfl) rfl ?_
   refine ⟨?_,trivial⟩
   refine TO_v (is:=[]) (R:=[]) (done':=dn 13 8191) rfl rfl rfl rfl (by kernel_rfl) (V_assign rfl) (fun h=>by cases h) ?_
   refine TA_done (by kernel_rfl) ?_ 0
   refine TX_next (TC_seq ?_)
   obtain ⟨h2,H⟩:=if_elim H
   obtain ⟨r_2,hr_2,H⟩:=bind_elim H
   refine TA_begin [⟨some (b2,0),e64 r_1.1.toList⟩,⟨some (b1,0),e64 ((replicate 4 0#64).toList)⟩,⟨some (b1,4),e64 ((replicate 4 0#64).toList)⟩,⟨some (b1,8),e64 ((replicate 4 0#64).toList)⟩] 12 (by kernel_rfl) (N:=13) rfl ?_
   refine TA_tk 0 [0,0,0,0] (dn 13 1) rfl rfl (V_move rfl) ?_
   refine TA_tk 1 [0,0,0,0] (dn 13 3) rfl rfl (V_nilCheck rfl) ?_
   refine TA_tk 2 [0,0,0,0] (dn 13 7) rfl rfl (V_fieldE rfl Try.underlying100 rfl rfl TryI.inf82 rfl (v:=ptr (some (bc,obc)) 0) rfl) ?_
   refine TA_tk 3 [0,0,0,0] (dn 13 15) rfl rfl (V_load rfl (.r 0) rfl Try.isAgg82) ?_
   refine TA_tk 4 [0,0,0,0] (dn 13 31) rfl rfl (V_move rfl) ?_
   refine TA_tk 5 [0,0,0,0] (dn 13 63) rfl rfl (V_sliceStr (l:=33) (h:=(p).length) rfl Try.underlying9 (Bnd.some' (i:=33) rfl (by decide)) Bnd.none' h2 (Nat.le_refl _)) ?_
   refine TA_mix (is:=[0,0,0,0]) (done':=dn 13 2047) [itV 6 38 (Value.tuple [aG [(4,e64 r_2.1.toList)],vb r_2.2].toArray) [],itV 7 31 (Value.tuple [aG [(4,e64 r_2.1.toList)],vb r_2.2].toArray) [6],itV 8 39 (aG [(4,e64 r_2.1.toList)]) [7],itA64 10 8 4] [itV 9 40 (vb r_2.2) [7]] 2 (by kernel_rfl) (QP.then QP.body) (by kernel_rfl) rfl (.e rfl (E_cu (F73_calls bF oF cM cI cO cT (sub p 33 ((p).length)) r_2 hr_2) Try.call73 ⟨.r 2, .r 3, .r 4, .r 5,trivial⟩) (.v rfl (V_move rfl) (.v rfl V_ex (.c rfl (fun _ _=>(E_al64 4 TryI.inf57 TryI.zer57)) .nil)))) (.c rfl (fun _=>V_ex) .nil) (by kernel_rfl) rfl (fun γ=>?_)
   refine TA_cut [(40,vb r_2.2),(8,ptr (some ((γ 10),0)) 0),(39,aG [(4,e64 r_2.1.toList)]),(7,vb r_1.2),(6,ptr (some (b2,0)) 0),(0,ptr (some (bc,obc)) 0),(4,ptr (some (b1,0)) 0)] [⟨some ((γ 10),0),e64 ((replicate 4 0#64).toList)⟩,⟨some (b2,0),e64 r_1.1.toList⟩,⟨some (b1,0),e64 ((replicate 4 0#64).toList)⟩,⟨some (b1,4),e64 ((replicate 4 0#64).toList)⟩,⟨some (b1,8),e64 ((replicate 4 0#64).toList)⟩] ⟨rfl,rfl,rfl,rfl,rfl,rfl,rfl,trivial⟩ rfl ?_
   generalize γ 10=b3
   refine TA_all (rs:=[11]) (by kernel_rfl) rfl ?_
   refine ⟨?_,trivial⟩
   refine TO_n (is:=[1,1,1,1]) (done':=dn 13 4095) rfl rfl rfl (by kernel_rfl) (E_sv (vs:=e64 r_2.1.toList) 0 TryI.inf57) (fun _ _=>rfl) (fun _=>?_)
   refine TA_all (rs:=[12]) (by kernel_rfl) rfl ?_
   refine ⟨?_,trivial⟩
   refine TO_v (is:=[]) (R:=[]) (done':=dn 13 8191) rfl rfl rfl rfl (by kernel_rfl) (V_assign rfl) (fun h=>by cases h) ?_
   refine TA_done (by kernel_rfl) ?_ 0
   refine TX_next (TC_seq (TC_seq (TC_region (TLv (V_move rfl) ?_))))
   refine TLv (V_un rfl (fun w=>notB w r_1.2)) ?_
   refine TLv (V_move rfl) ?_
   obtain ⟨j2,Hj,H⟩:=bind_elim H
   refine TL_join (Γ:=Unit) (fun gj2=>[(0,ptr (some (bc,obc)) 0),(4,ptr (some (b1,0)) 0),(6,ptr (some (b2,0)) 0),(8,ptr (some (b3,0)) 0),(46,vb j2)]) (fun gj2=>[⟨some (b1,0),e64 ((replicate 4 0#64).toList)⟩,⟨some (b1,4),e64 ((replicate 4 0#64).toList)⟩,⟨some (b1,8),e64 ((replicate 4 0#64).toList)⟩,⟨some (b2,0),e64 r_1.1.toList⟩,⟨some (b3,0),e64 r_2.1.toList⟩]) ?_ ?_
   ·intro gj2
    refine TX_next (TC_cond (b:=j2) rfl (fun hc=>?_) (fun hc=>?_))
    ·replace H:=ite_t hc H
     refine TC_seq (TC_region (TLv (V_buildStruct (pv:=[]) (pl:=[(0,4),(4,4),(8,4)]) rfl rfl Try.underlying64 TryI.inf64 TryI.places64 TryI.zer64 (cs:=flat [(4,e64 ((replicate 4 0#64).toList)),(4,e64 ((replicate 4 0#64).toList)),(4,e64 ((replicate 4 0#64).toList))]) fill_end) ?_))
     refine TLn (E_sp (b:=b1) (o:=0) [0,0,0] [(4,e64 ((replicate 4 0#64).toList)),(4,e64 ((replicate 4 0#64).toList)),(4,e64 ((replicate 4 0#64).toList))] [(4,e64 ((replicate 4 0#64).toList)),(4,e64 ((replicate 4 0#64).toList)),(4,e64 ((replicate 4 0#64).toList))] rfl TryI.inf64 ⟨(lenV (f:=v64) (replicate 4 0#64)),(lenV (f:=v64) (replicate 4 0#64)),(lenV (f:=v64) (replicate 4 0#64)),trivial⟩ ⟨(lenV (f:=v64) (replicate 4 0#64)),(lenV (f:=v64) (replicate 4 0#64)),(lenV (f:=v64) (replicate 4 0#64)),trivial⟩ ⟨(OneC.map (fun _=>rfl) _),(OneC.map (fun _=>rfl) _),(OneC.map (fun _=>rfl) _),trivial⟩) (fun _=>?_)
     refine TLv (V_assign rfl) ?_
     refine TL_nil (TX_next (TC_ret (TX_then_ret ?_)))
     have hrv:=Option.some.inj H
     subst hrv
     exact TX_ret (rs:=[.cell 4 64, .tmp 5]) (vs:=[aG [(4,e64 ((replicate 4 0#64).toList)),(4,e64 ((replicate 4 0#64).toList)),(4,e64 ((replicate 4 0#64).toList))],vb false]) rfl ⟨(Res_agg (n:=12) (cs:=flat [(4,e64 ((replicate 4 0#64).toList)),(4,e64 ((replicate 4 0#64).toList)),(4,e64 ((replicate 4 0#64).toList))]) rfl (by simp) (SrcEnts (b:=b1) [(4,e64 ((replicate 4 0#64).toList)),(4,e64 ((replicate 4 0#64).toList)),(4,e64 ((replicate 4 0#64).toList))] 0 ⟨(lenV (f:=v64) (replicate 4 0#64)),(lenV (f:=v64) (replicate 4 0#64)),(lenV (f:=v64) (replicate 4 0#64)),trivial⟩ (AllSrc.all (M:=ents b1 0 [(4,e64 ((replicate 4 0#64).toList)),(4,e64 ((replicate 4 0#64).toList)),(4,e64 ((replicate 4 0#64).toList))]) ⟨Src.own (j:=0) rfl,Src.own (j:=1) rfl,Src.own (j:=2) rfl,trivial⟩)) Try.isAgg64 TryI.inf64 rfl (by simp [flat])),rfl,trivial⟩ (fun w' hs'=>⟨(),rfl,Step.left (Step.pulled (is:=[]) (A:=[]) hs' rfl)⟩)
    ·replace H:=ite_f (Bool.eq_false_iff.1 hc) H
     refine TC_skip (TX_next (TC_seq ?_))
     obtain ⟨r_3,hr_3,H⟩:=bind_elim H
     obtain ⟨r_4,hr_4,H⟩:=bind_elim H
     refine TA_begin [] 14 (by kernel_rfl) (N:=14) rfl ?_
     refine TA_mix (is:=[]) (done':=dn 14 4095) [itV 0 48 (ptr (some (bc,obc)) 0) [],itV 1 49 (ptr (some (bc,obc)) 0) [0],itV 2 50 (ptr (some (bc,obc)) 0) [1],itV 3 51 (ptr (some (bF,oF)) 0) [2],itV 4 52 (aG [(4,e64 r_1.1.toList)]) [],itV 5 53 (aG [(4,e64 r_3.toList)]) [3,4],itV 6 54 (ptr (some (bc,obc)) 0) [],itV 7 55 (ptr (some (bc,obc)) 0) [6],itV 8 56 (ptr (some (bc,obc)) 0) [7],itV 9 57 (ptr (some (bF,oF)) 0) [8],itV 10 58 (aG [(4,e64 r_2.1.toList)]) [],itV 11 59 (aG [(4,e64 r_4.toList)]) [9,10]] [] 2 (by kernel_rfl) (QP.then QP.body) (by kernel_rfl) rfl (.v rfl (V_move rfl) (.v rfl (V_nilCheck rfl) (.v rfl (V_fe Try.underlying100 TryI.inf82) (.v rfl (V_load rfl (.r 0) rfl Try.isAgg82) (.v rfl (V_lag (.o 3) Try.isAgg57 TryI.inf57) (.e rfl (E_cu (F56_calls bF oF cM cI cO cT r_1.1 r_3 hr_3) Try.call56 ⟨.r 2, .r 3, .r 4, .r 5,trivial⟩) (.v rfl (V_move rfl) (.v rfl (V_nilCheck rfl) (.v rfl (V_fe Try.underlying100 TryI.inf82) (.v rfl (V_load rfl (.r 0) rfl Try.isAgg82) (.v rfl (V_lag (.o 4) Try.isAgg57 TryI.inf57) (.e rfl (E_cu (F56_calls bF oF cM cI cO cT r_2.1 r_4 hr_4) Try.call56 ⟨.r 2, .r 3, .r 4, .r 5,trivial⟩) .nil)))))))))))) .nil (by kernel_rfl) rfl (fun γ=>?_)
     refine TA_cut [(59,aG [(4,e64 r_4.toList)]),(53,aG [(4,e64 r_3.toList)]),(0,ptr (some (bc,obc)) 0),(4,ptr (some (b1,0)) 0),(6,ptr (some (b2,0)) 0),(8,ptr (some (b3,0)) 0)] [⟨some (b1,0),e64 ((replicate 4 0#64).toList)⟩,⟨some (b1,4),e64 ((replicate 4 0#64).toList)⟩,⟨some (b1,8),e64 ((replicate 4 0#64).toList)⟩,⟨some (b2,0),e64 r_1.1.toList⟩,⟨some (b3,0),e64 r_2.1.toList⟩] ⟨rfl,rfl,rfl,rfl,rfl,rfl,trivial⟩ rfl ?_
     refine TA_all (rs:=[12]) (by kernel_rfl) rfl ?_
     refine ⟨?_,trivial⟩
     refine TO_n (is:=[]) (done':=dn 14 8191) rfl rfl rfl (by kernel_rfl) (E_sv (vs:=e64 r_3.toList) 3 TryI.inf57) (fun _ _=>rfl) (fun _=>?_)
     refine TA_all (rs:=[13]) (by kernel_rfl) rfl ?_
     refine ⟨?_,trivial⟩
     refine TO_n (is:=[]) (done':=dn 14 16383) rfl rfl rfl (by kernel_rfl) (E_sv (vs:=e64 r_4.toList) 4 TryI.inf57) (fun _ _=>rfl) (fun _=>?_)
     refine TA_done (by kernel_rfl) ?_ 0
     refine TX_next (TC_seq ?_)
     obtain ⟨r_5,hr_5,H⟩:=bind_elim H
     obtain ⟨r_6,hr_6,H⟩:=bind_elim H
     refine TA_begin [] 15 (by kernel_rfl) (N:=15) rfl ?_
     refine TA_mix (is:=[]) (done':=dn 15 16383) [itV 0 60 (ptr (some (bc,obc)) 0) [],itV 1 61 (ptr (some (bc,obc)) 0) [0],itV 2 62 (ptr (some (bc,obc)) 0) [1],itV 3 63 (ptr (some (bF,oF)) 0) [2],itV 4 64 (aG [(4,e64 r_3.toList)]) [],itV 5 65 (ptr (some (bc,obc)) 0) [],itV 6 66 (ptr (some (bc,obc)) 0) [5],itV 7 67 (ptr (some (bc,obc)) 0) [6],itV 8 68 (ptr (some (bF,oF)) 0) [7],itV 9 69 (aG [(4,e64 r_3.toList)]) [],itV 10 70 (aG [(4,e64 r_3.toList)]) [],itV 11 71 (aG [(4,e64 r_5.toList)]) [8,9,10],itV 12 72 (aG [(4,e64 r_6.toList)]) [4,11,3],itA64 13 10 4] [] 1 (by kernel_rfl) (QP.then QP.body) (by kernel_rfl) rfl (.v rfl (V_move rfl) (.v rfl (V_nilCheck rfl) (.v rfl (V_fe Try.underlying100 TryI.inf82) (.v rfl (V_load rfl (.r 0) rfl Try.isAgg82) (.v rfl (V_lag (.o 3) Try.isAgg57 TryI.inf57) (.v rfl (V_move rfl) (.v rfl (V_nilCheck rfl) (.v rfl (V_fe Try.underlying100 TryI.inf82) (.v rfl (V_load rfl (.r 0) rfl Try.isAgg82) (.v rfl (V_lag (.o 3) Try.isAgg57 TryI.inf57) (.v rfl (V_lag (.o 3) Try.isAgg57 TryI.inf57) (.e rfl (E_cu (F59_calls bF oF cM cI cO cT r_3 r_3 r_5 hr_5) Try.call59 ⟨.r 2, .r 3, .r 4, .r 5,trivial⟩) (.e rfl (E_cu (F59_calls bF oF cM cI cO cT r_3 r_5 r_6 hr_6) Try.call59 ⟨.r 2, .r 3, .r 4, .r 5,trivial⟩) (.c rfl (fun _ _=>(E_al64 4 TryI.inf57 TryI.zer57)) .nil)))))))))))))) .nil (by kernel_rfl) rfl (fun γ=>?_)
     refine TA_cut [(10,ptr (some ((γ 13),0)) 0),(72,aG [(4,e64 r_6.toList)]),(0,ptr (some (bc,obc)) 0),(4,ptr (some (b1,0)) 0),(6,ptr (some (b2,0)) 0),(8,ptr (some (b3,0)) 0)] [⟨some ((γ 13),0),e64 ((replicate 4 0#64).toList)⟩,⟨some (b1,0),e64 ((replicate 4 0#64).toList)⟩,⟨some (b1,4),e64 ((replicate 4 0#64).toList)⟩,⟨some (b1,8),e64 ((replicate 4 0#64).toList)⟩,⟨some (b2,0),e64 r_3.toList⟩,⟨some (b3,0),e64 r_4.toList⟩] ⟨rfl,rfl,rfl,rfl,rfl,rfl,trivial⟩ rfl ?_
     generalize γ 13=b4
     refine TA_all (rs:=[14]) (by kernel_rfl) rfl ?_
     refine ⟨?_,trivial⟩
     refine TO_n (is:=[]) (done':=dn 15 32767) rfl rfl rfl (by kernel_rfl) (E_sv (vs:=e64 r_6.toList) 0 TryI.inf57) (fun _ _=>rfl) (fun _=>?_)
     refine TA_done (by kernel_rfl) ?_ 0
     refine TX_next (TC_seq ?_)
     obtain ⟨r_7,hr_7,H⟩:=bind_elim H
     obtain ⟨r_8,hr_8,H⟩:=bind_elim H
     obtain ⟨r_9,hr_9,H⟩:=bind_elim H
     obtain ⟨r_10,hr_10,H⟩:=bind_elim H
     refine TA_begin [] 30 (by kernel_rfl) (N:=30) rfl ?_
     refine TA_mix (is:=[]) (done':=dn 30 536870911) [itV 0 73 (ptr (some (bc,obc)) 0) [],itV 1 74 (ptr (some (bc,obc)) 0) [0],itV 2 75 (ptr (some (bc,obc)) 0) [1],itV 3 76 (ptr (some (bF,oF)) 0) [2],itV 4 77 (ptr (some (bc,obc)) 0) [],itV 5 78 (ptr (some (bc,obc)) 0) [4],itV 6 79 (ptr (some (bc,obc)) 0) [5],itV 7 80 (ptr (some (bF,oF)) 0) [6],itV 8 81 (ptr (some (bc,obc)) 0) [],itV 9 82 (ptr (some (bc,obc)) 0) [8],itV 10 83 (ptr (some (bc,obc)) 0) [9],itV 11 84 (ptr (some (bF,oF)) 0) [10],itV 12 85 (aG [(4,e64 r_3.toList)]) [],itV 13 86 (ptr (some (bc,obc)) 0) [],itV 14 87 (ptr (some (bc,obc)) 0) [13],itV 15 88 (ptr (some (bc,obc)) 0) [14],itV 16 89 (ptr (some (bF,oF)) 0) [15],itV 17 90 (aG [(4,e64 r_3.toList)]) [],itV 18 91 (aG [(4,e64 r_3.toList)]) [],itV 19 92 (aG [(4,e64 r_7.toList)]) [16,17,18],itV 20 93 (aG [(4,e64 r_8.toList)]) [11,12,19],itV 21 94 (aG [(4,e64 r_6.toList)]) [],itV 22 95 (aG [(4,e64 r_9.toList)]) [7,20,21],itV 23 96 (ptr (some (bc,obc)) 0) [],itV 24 97 (ptr (some (bc,obc)) 0) [23],itV 25 98 (ptr (some (bc,obc+1)) 0) [24],itV 26 99 (aG [(4,e64 c_b.toList)]) [25],itV 27 100 (aG [(4,e64 r_10.toList)]) [26,3,22],itA64 28 11 4] [] 1 (by kernel_rfl) (QP.then QP.body) (by kernel_rfl) rfl (.v rfl (V_move rfl) (.v rfl (V_nilCheck rfl) (.v rfl (V_fe Try.underlying100 TryI.inf82) (.v rfl (V_load rfl (.r 0) rfl Try.isAgg82) (.v rfl (V_move rfl) (.v rfl (V_nilCheck rfl) (.v rfl (V_fe Try.underlying100 TryI.inf82) (.v rfl (V_load rfl (.r 0) rfl Try.isAgg82) (.v rfl (V_move rfl) (.v rfl (V_nilCheck rfl) (.v rfl (V_fe Try.underlying100 TryI.inf82) (.v rfl (V_load rfl (.r 0) rfl Try.isAgg82) (.v rfl (V_lag (.o 4) Try.isAgg57 TryI.inf57) (.v rfl (V_move rfl) (.v rfl (V_nilCheck rfl) (.v rfl (V_fe Try.underlying100 TryI.inf82) (.v rfl (V_load rfl (.r 0) rfl Try.isAgg82) (.v rfl (V_lag (.o 4) Try.isAgg57 TryI.inf57) (.v rfl (V_lag (.o 4) Try.isAgg57 TryI.inf57) (.e rfl (E_cu (F58_calls bF oF cM cI cO cT r_3 r_3 r_7 hr_7) Try.call58 ⟨.r 2, .r 3, .r 4, .r 5,trivial⟩) (.e rfl (E_cu (F58_calls bF oF cM cI cO cT r_3 r_7 r_8 hr_8) Try.call58 ⟨.r 2, .r 3, .r 4, .r 5,trivial⟩) (.v rfl (V_lag (.o 0) Try.isAgg57 TryI.inf57) (.e rfl (E_cu (F77_calls bF oF cM cI cO cT r_8 r_6 r_9 hr_9) Try.call77 ⟨.r 2, .r 3, .r 4, .r 5,trivial⟩) (.v rfl (V_move rfl) (.v rfl (V_nilCheck rfl) (.v rfl (V_fe Try.underlying100 TryI.inf57) (.v rfl (V_lag (.r 1) Try.isAgg57 TryI.inf57) (.e rfl (E_cu (F59_calls bF oF cM cI cO cT r_9 c_b r_10 hr_10) Try.call59 ⟨.r 2, .r 3, .r 4, .r 5,trivial⟩) (.c rfl (fun _ _=>(E_al64 4 TryI.inf57 TryI.zer57)) .nil))))))))))))))))))))))))))))) .nil (by kernel_rfl) rfl (fun γ=>?_)
     refine TA_cut [(11,ptr (some ((γ 28),0)) 0),(100,aG [(4,e64 r_10.toList)]),(0,ptr (some (bc,obc)) 0),(4,ptr (some (b1,0)) 0),(6,ptr (some (b2,0)) 0),(8,ptr (some (b3,0)) 0)] [⟨some ((γ 28),0),e64 ((replicate 4 0#64).toList)⟩,⟨some (b4,0),e64 r_6.toList⟩,⟨some (b1,0),e64 ((replicate 4 0#64).toList)⟩,⟨some (b1,4),e64 ((replicate 4 0#64).toList)⟩,⟨some (b1,8),e64 ((replicate 4 0#64).toList)⟩,⟨some (b2,0),e64 r_3.toList⟩,⟨some (b3,0),e64 r_4.toList⟩] ⟨rfl,rfl,rfl,rfl,rfl,rfl,trivial⟩ rfl ?_
     generalize γ 28=b5
     refine TA_all (rs:=[29]) (by kernel_rfl) rfl ?_
     refine ⟨?_,trivial⟩
     refine TO_n (is:=[]) (done':=dn 30 1073741823) rfl rfl rfl (by kernel_rfl) (E_sv (vs:=e64 r_10.toList) 0 TryI.inf57) (fun _ _=>rfl) (fun _=>?_)
     refine TA_done (by kernel_rfl) ?_ 0
     refine TX_next (TC_seq ?_)
     obtain ⟨r_11,hr_11,H⟩:=bind_elim H
     obtain ⟨r_12,hr_12,H⟩:=bind_elim H
     obtain ⟨x1,hx1,H⟩:=ltt_elim H
     refine TA_begin [⟨some (b5,0),e64 r_10.toList⟩,⟨some (b4,0),e64 r_6.toList⟩,⟨some (b2,0),e64 r_3.toList⟩,⟨some (b3,0),e64 r_4.toList⟩] 18 (by kernel_rfl) (N:=19) rfl ?_
     refine TA_tk 0 [0,0,3,3] (dn 19 1) rfl rfl (V_lag (.o 2) Try.isAgg57 TryI.inf57) ?_
     refine TA_tk 1 [0,0,3,3] (dn 19 3) rfl rfl (V_lag (.o 3) Try.isAgg57 TryI.inf57) ?_
     refine TA_tk 2 [0,0,3,3] (dn 19 7) rfl rfl (V_move rfl) ?_
     refine TA_tk 3 [0,0,3,3] (dn 19 15) rfl rfl (V_nilCheck rfl) ?_
     refine TA_tk 4 [0,0,3,3] (dn 19 31) rfl rfl (V_fieldE rfl Try.underlying100 rfl rfl TryI.inf82 rfl (v:=ptr (some (bc,obc)) 0) rfl) ?_
     refine TA_tk 5 [0,0,3,3] (dn 19 63) rfl rfl (V_load rfl (.r 0) rfl Try.isAgg82) ?_
     refine TA_tk 8 [0,0,3,3] (dn 19 319) rfl rfl (V_move rfl) ?_
     refine TA_tk 9 [0,0,3,3] (dn 19 831) rfl rfl (V_nilCheck rfl) ?_
     refine TA_tk 10 [0,0,3,3] (dn 19 1855) rfl rfl (V_fieldE rfl Try.underlying100 rfl rfl TryI.inf82 rfl (v:=ptr (some (bc,obc)) 0) rfl) ?_
     refine TA_tk 11 [0,0,3,3] (dn 19 3903) rfl rfl (V_load rfl (.r 0) rfl Try.isAgg82) ?_
     refine TA_tk 12 [0,0,3,3] (dn 19 7999) rfl rfl (V_lag (.o 3) Try.isAgg57 TryI.inf57) ?_
     refine TA_tk 13 [0,0,3,3] (dn 19 16191) rfl rfl (V_lag (.o 3) Try.isAgg57 TryI.inf57) ?_
     refine TA_tk 15 [0,0,3,3] (dn 19 48959) rfl rfl (V_lag (.o 0) Try.isAgg57 TryI.inf57) ?_
     refine TA_all (rs:=[6]) (by kernel_rfl) rfl ?_
     refine ⟨?_,trivial⟩
     refine TO_e (is:=[0,0,3,3]) (done':=dn 19 49023) rfl rfl rfl rfl (by kernel_rfl) (E_c0 (F75_calls bF oF cM cI cO cT r_11 hr_11) Try.call75 ⟨.r 2, .r 3, .r 4, .r 5,trivial⟩) (fun _ _=>rfl) (fun g_11=>?_)
     refine TA_tk 7 [0,0,3,3] (dn 19 49151) rfl rfl (V_buildStruct (pv:=[(0,aG [(4,e64 r_3.toList)]),(1,aG [(4,e64 r_4.toList)]),(2,aG [(4,e64 r_11.toList)])]) (pl:=[(0,4),(4,4),(8,4)]) rfl rfl Try.underlying64 TryI.inf64 TryI.places64 TryI.zer64 (cs:=flat [(4,e64 r_3.toList),(4,e64 r_4.toList),(4,e64 r_11.toList)]) (fill_part [] [(4,e64 ((replicate 4 0#64).toList)),(4,e64 ((replicate 4 0#64).toList))] rfl rfl trivial rfl (lenV (f:=v64) (replicate 4 0#64)) (lenV (f:=v64) r_3) (fill_part [(4,e64 r_3.toList)] [(4,e64 ((replicate 4 0#64).toList))] rfl rfl ⟨(lenV (f:=v64) r_3),trivial⟩ rfl (lenV (f:=v64) (replicate 4 0#64)) (lenV (f:=v64) r_4) (fill_part [(4,e64 r_3.toList),(4,e64 r_4.toList)] [] rfl rfl ⟨(lenV (f:=v64) r_3),(lenV (f:=v64) r_4),trivial⟩ rfl (lenV (f:=v64) (replicate 4 0#64)) (lenV (f:=v64) r_11) fill_end)))) ?_
     refine TA_all (rs:=[14]) (by kernel_rfl) rfl ?_
     refine ⟨?_,trivial⟩
     refine TO_e (is:=[0,0,3,3]) (done':=dn 19 65535) rfl rfl rfl rfl (by kernel_rfl) (E_c0 (F58_calls bF oF cM cI cO cT r_4 r_4 r_12 hr_12) Try.call58 ⟨.r 2, .r 3, .r 4, .r 5,trivial⟩) (fun _ _=>rfl) (fun g_12=>?_)
     refine TA_tk 16 [0,0,3,3] (dn 19 131071) rfl rfl (V_bin rfl rfl (fun w=>eqlA w Try.underlying57 Try.underlying55 (by kernel_rfl) (by kernel_rfl) r_12 r_10)) ?_
     refine TA_all (rs:=[17]) (by kernel_rfl) rfl ?_
     refine ⟨?_,trivial⟩
     refine TO_n (is:=[3,3,3,3]) (done':=dn 19 262143) rfl rfl rfl (by kernel_rfl) (E_sp (b:=b1) (o:=0) [2,2,2] [(4,e64 ((replicate 4 0#64).toList)),(4,e64 ((replicate 4 0#64).toList)),(4,e64 ((replicate 4 0#64).toList))] [(4,e64 r_3.toList),(4,e64 r_4.toList),(4,e64 r_11.toList)] rfl TryI.inf64 ⟨(lenV (f:=v64) (replicate 4 0#64)),(lenV (f:=v64) (replicate 4 0#64)),(lenV (f:=v64) (replicate 4 0#64)),trivial⟩ ⟨(lenV (f:=v64) r_3),(lenV (f:=v64) r_4),(lenV (f:=v64) r_11),trivial⟩ ⟨(OneC.map (fun _=>rfl) _),(OneC.map (fun _=>rfl) _),(OneC.map (fun _=>rfl) _),trivial⟩) (fun _ _=>rfl) (fun _=>?_)
     refine TA_all (rs:=[18]) (by kernel_rfl) rfl ?_
     refine ⟨?_,trivial⟩
     refine TO_v (is:=[]) (R:=[]) (done':=dn 19 524287) rfl rfl rfl rfl (by kernel_rfl) (V_assign rfl) (fun h=>by cases h) ?_
     refine TA_re (d:=5) (v:=vb (decide (r_12=r_10))) (v':=vb x1) rfl (congrArg vb hx1) ?_
     refine TA_done (by kernel_rfl) ?_ 0
     refine TX_next (TC_ret ?_)
     have hrv:=Option.some.inj H
     subst hrv
     exact TX_ret (rs:=[.cell 4 64, .tmp 5]) (vs:=[aG [(4,e64 r_3.toList),(4,e64 r_4.toList),(4,e64 r_11.toList)],vb x1]) rfl ⟨(Res_agg (n:=12) (cs:=flat [(4,e64 r_3.toList),(4,e64 r_4.toList),(4,e64 r_11.toList)]) rfl (by simp) (SrcEnts (b:=b1) [(4,e64 r_3.toList),(4,e64 r_4.toList),(4,e64 r_11.toList)] 0 ⟨(lenV (f:=v64) r_3),(lenV (f:=v64) r_4),(lenV (f:=v64) r_11),trivial⟩ (AllSrc.all (M:=ents b1 0 [(4,e64 r_3.toList),(4,e64 r_4.toList),(4,e64 r_11.toList)]) ⟨Src.own (j:=0) rfl,Src.own (j:=1) rfl,Src.own (j:=2) rfl,trivial⟩)) Try.isAgg64 TryI.inf64 rfl (by simp [flat])),rfl,trivial⟩ (fun w' hs'=>⟨(),rfl,Step.left (Step.pulled (is:=[]) (A:=[]) hs' rfl)⟩)
   ·intro hJ
    replace H:=Hj
    refine TL_fork (d:=43) (b:=(!r_1.2)) rfl (fun hc=>?_) (fun hc=>?_)
    ·replace H:=ite_t hc H
     refine TL_skip rfl rfl rfl rfl rfl rfl rfl ?_
     refine TL_skip rfl rfl rfl rfl rfl rfl rfl ?_
     refine TLv (V_pick (b:=true) rfl rfl) ?_
     refine TL_nil (TX.sub (m':=[(0,ptr (some (bc,obc)) 0),(4,ptr (some (b1,0)) 0),(6,ptr (some (b2,0)) 0),(8,ptr (some (b3,0)) 0),(46,vb true)]) ⟨rfl,rfl,rfl,rfl,rfl,trivial⟩ ?_)
     refine TX.pull (is:=[2,2,2,1,0]) (L':=[⟨some (b1,0),e64 ((replicate 4 0#64).toList)⟩,⟨some (b1,4),e64 ((replicate 4 0#64).toList)⟩,⟨some (b1,8),e64 ((replicate 4 0#64).toList)⟩,⟨some (b2,0),e64 r_1.1.toList⟩,⟨some (b3,0),e64 r_2.1.toList⟩]) rfl ?_
     obtain rfl:=Option.some.inj H
     exact hJ ()
    ·replace H:=ite_f (Bool.eq_false_iff.1 hc) H
     refine TL_want rfl rfl rfl rfl rfl rfl (V_move rfl) ?_
     refine TL_want rfl rfl rfl rfl rfl rfl (V_un rfl (fun w=>notB w r_2.2)) ?_
     refine TLv (V_pick (b:=false) rfl rfl) ?_
     refine TL_nil (TX.sub (m':=[(0,ptr (some (bc,obc)) 0),(4,ptr (some (b1,0)) 0),(6,ptr (some (b2,0)) 0),(8,ptr (some (b3,0)) 0),(46,vb (!r_2.2))]) ⟨rfl,rfl,rfl,rfl,rfl,trivial⟩ ?_)
     refine TX.pull (is:=[2,2,2,1,0]) (L':=[⟨some (b1,0),e64 ((replicate 4 0#64).toList)⟩,⟨some (b1,4),e64 ((replicate 4 0#64).toList)⟩,⟨some (b1,8),e64 ((replicate 4 0#64).toList)⟩,⟨some (b2,0),e64 r_1.1.toList⟩,⟨some (b3,0),e64 r_2.1.toList⟩]) rfl ?_
     obtain rfl:=Option.some.inj H
     exact hJ ()
 ·intro hJ
  replace H:=Hj
  refine TL_fork (d:=15) (b:=(decide (((p).length:Int) ≠ 65))) rfl (fun hc=>?_) (fun hc=>?_)
  ·replace H:=ite_t (of_decide_eq_true hc) H
   refine TL_skip rfl rfl rfl rfl rfl rfl rfl ?_
   refine TL_skip rfl rfl rfl rfl rfl rfl rfl ?_
   refine TL_skip rfl rfl rfl rfl rfl rfl rfl ?_
   refine TLv (V_pick (b:=true) rfl rfl) ?_
   refine TL_nil (TX.sub (m':=[(0,ptr (some (bc,obc)) 0),(1,vs p),(4,ptr (some (b1,0)) 0),(19,vb true)]) ⟨rfl,rfl,rfl,rfl,trivial⟩ ?_)
   refine TX.pull (is:=[0,0,0]) (L':=[⟨some (b1,0),e64 ((replicate 4 0#64).toList)⟩,⟨some (b1,4),e64 ((replicate 4 0#64).toList)⟩,⟨some (b1,8),e64 ((replicate 4 0#64).toList)⟩]) rfl ?_
   obtain rfl:=Option.some.inj H
   exact hJ ()
  ·replace H:=ite_f (of_decide_eq_false hc) H
   refine TL_want rfl rfl rfl rfl rfl rfl (V_move rfl) ?_
   obtain ⟨h3,H⟩:=if_elim H
   refine TL_want rfl rfl rfl rfl rfl rfl (V_idxStr rfl rfl (i:=0) Try.underlying9 h3.1 h3.2) ?_
   refine TL_want rfl rfl rfl rfl rfl rfl (V_bin rfl rfl (fun w=>neq8 w (sg p 0) 4#8)) ?_
   refine TLv (V_pick (b:=false) rfl rfl) ?_
   refine TL_nil (TX.sub (m':=[(0,ptr (some (bc,obc)) 0),(1,vs p),(4,ptr (some (b1,0)) 0),(19,vb (decide ((sg p 0) ≠ 4#8)))]) ⟨rfl,rfl,rfl,rfl,trivial⟩ ?_)
   refine TX.pull (is:=[0,0,0]) (L':=[⟨some (b1,0),e64 ((replicate 4 0#64).toList)⟩,⟨some (b1,4),e64 ((replicate 4 0#64).toList)⟩,⟨some (b1,8),e64 ((replicate 4 0#64).toList)⟩]) rfl ?_
   obtain rfl:=Option.some.inj H
   exact hJ ()
end Go.Proofs
end

section
namespace Go.Proofs
open Go Go.Kx
open Vector (replicate)
def pcurve_curve_write (cM:Vx 64 4) (cI:BitVec 64) (cO:Vx 64 4) (cT:Vx 64 4) (c_b:Vx 64 4) (p_x:Vx 64 4) (p_y:Vx 64 4) (p_z:Vx 64 4):Option (Str) :=
 (num_Field_Inv cM cI cO cT p_z).bind fun (r_1:Vx 64 4)=>((num_Field_Mul cM cI cO cT r_1 r_1).bind fun (r_2:Vx 64 4)=>((num_Field_Mul cM cI cO cT p_x r_2).bind fun (r_3:Vx 64 4)=>((num_Field_Out cM cI cO cT r_3).bind fun (r_4:Vx 64 4)=>((num_Field_Mul cM cI cO cT r_1 r_2).bind fun (r_5:Vx 64 4)=>((num_Field_Mul cM cI cO cT p_y r_5).bind fun (r_6:Vx 64 4)=>((num_Field_Out cM cI cO cT r_6).bind fun (r_7:Vx 64 4)=>(if (([4#8]:List (BitVec 8))).length=1 then ((num_Nat_Bytes r_4).bind fun (r_8:Str)=>(if (([4#8]:List (BitVec 8))).length+(r_8).length≤4611686018427387904 then ((num_Nat_Bytes r_7).bind fun (r_9:Str)=>(if (([4#8]:List (BitVec 8))++r_8).length+(r_9).length≤4611686018427387904 then (ltt ((([4#8]:List (BitVec 8))++r_8)++r_9) fun (x1:Str)=>(some x1)) else none)) else none)) else none)))))))
set_option maxHeartbeats 4000000 in
set_option maxRecDepth 20000 in
theorem F34_calls (bc:Nat) (obc:Nat) (bF:Nat) (oF:Nat) (cM:Vx 64 4) (cI:BitVec 64) (cO:Vx 64 4) (cT:Vx 64 4) (c_b:Vx 64 4) (p_x:Vx 64 4) (p_y:Vx 64 4) (p_z:Vx 64 4) (r:Str) (H:pcurve_curve_write cM cI cO cT c_b p_x p_y p_z=some r) :
  Does Try.prog 34 [ptr (some (bc,obc)) 0,aG [(4,e64 p_x.toList),(4,e64 p_y.toList),(4,e64 p_z.toList)]] [] [⟨some (bc,obc),[ptr (some (bF,oF)) 0]⟩,⟨some (bc,obc+1),e64 c_b.toList⟩,⟨some (bF,oF),e64 cM.toList⟩,⟨some (bF,oF+4),[v64 cI]⟩,⟨some (bF,oF+5),e64 cO.toList⟩,⟨some (bF,oF+9),e64 cT.toList⟩] (Γ:=Unit) (fun g=>vs r) (fun g=>[]):=by
 intro w hmem hro hd
 refine calls_of (N:=63) (m0:=[(0,ptr (some (bc,obc)) 0),(1,aG [(4,e64 p_x.toList),(4,e64 p_y.toList),(4,e64 p_z.toList)])]) Try.func34 rfl Try.ntmps34 (argM_ok [ptr (some (bc,obc)) 0,aG [(4,e64 p_x.toList),(4,e64 p_y.toList),(4,e64 p_z.toList)]]) rfl hmem hro hd ?_
 unfold pcurve_curve_write at H
 refine TC_seq (TC_region (TLe (E_boxP [(4,e64 p_x.toList),(4,e64 p_y.toList),(4,e64 p_z.toList)] rfl rfl ⟨(lenV (f:=v64) p_x),(lenV (f:=v64) p_y),(lenV (f:=v64) p_z),trivial⟩) (fun b1=>?_)))
 refine TLv (V_assign rfl) ?_
 refine TL_nil (TX_next (TC_seq ?_))
 obtain ⟨r_1,hr_1,H⟩:=bind_elim H
 refine TA_begin [] 9 (by kernel_rfl) (N:=9) rfl ?_
 refine TA_mix (is:=[]) (done':=dn 9 255) [itV 0 9 (ptr (some (bc,obc)) 0) [],itV 1 10 (ptr (some (bc,obc)) 0) [0],itV 2 11 (ptr (some (bc,obc)) 0) [1],itV 3 12 (ptr (some (bF,oF)) 0) [2],itV 4 13 (ptr (some (b1,8)) 0) [],itV 5 14 (aG [(4,e64 p_z.toList)]) [4],itV 6 15 (aG [(4,e64 r_1.toList)]) [3,5],itA64 7 5 4] [] 1 (by kernel_rfl) (QP.then QP.body) (by kernel_rfl) rfl (.v rfl (V_move rfl) (.v rfl (V_nilCheck rfl) (.v rfl (V_fe Try.underlying100 TryI.inf82) (.v rfl (V_load rfl (.r 0) rfl Try.isAgg82) (.v rfl (V_fe Try.underlying64 TryI.inf57) (.v rfl (V_lag (.o 2) Try.isAgg57 TryI.inf57) (.e rfl (E_cu (F60_calls bF oF cM cI cO cT p_z r_1 hr_1) Try.call60 ⟨.r 2, .r 3, .r 4, .r 5,trivial⟩) (.c rfl (fun _ _=>(E_al64 4 TryI.inf57 TryI.zer57)) .nil)))))))) .nil (by kernel_rfl) rfl (fun γ=>?_)
 refine TA_cut [(5,ptr (some ((γ 7),0)) 0),(15,aG [(4,e64 r_1.toList)]),(3,ptr (some (b1,0)) 0),(0,ptr (some (bc,obc)) 0)] [⟨some ((γ 7),0),e64 ((replicate 4 0#64).toList)⟩,⟨some (b1,0),e64 p_x.toList⟩,⟨some (b1,4),e64 p_y.toList⟩,⟨some (b1,8),e64 p_z.toList⟩] ⟨rfl,rfl,rfl,rfl,trivial⟩ rfl ?_
 generalize γ 7=b2
 refine TA_all (rs:=[8]) (by kernel_rfl) rfl ?_
 refine ⟨?_,trivial⟩
 refine TO_n (is:=[]) (done':=dn 9 511) rfl rfl rfl (by kernel_rfl) (E_sv (vs:=e64 r_1.toList) 0 TryI.inf57) (fun _ _=>rfl) (fun _=>?_)
 refine TA_done (by kernel_rfl) ?_ 0
 refine TX_next (TC_seq ?_)
 obtain ⟨r_2,hr_2,H⟩:=bind_elim H
 refine TA_begin [] 9 (by kernel_rfl) (N:=9) rfl ?_
 refine TA_mix (is:=[]) (done':=dn 9 255) [itV 0 16 (ptr (some (bc,obc)) 0) [],itV 1 17 (ptr (some (bc,obc)) 0) [0],itV 2 18 (ptr (some (bc,obc)) 0) [1],itV 3 19 (ptr (some (bF,oF)) 0) [2],itV 4 20 (aG [(4,e64 r_1.toList)]) [],itV 5 21 (aG [(4,e64 r_1.toList)]) [],itV 6 22 (aG [(4,e64 r_2.toList)]) [3,4,5],itA64 7 6 4] [] 1 (by kernel_rfl) (QP.then QP.body) (by kernel_rfl) rfl (.v rfl (V_move rfl) (.v rfl (V_nilCheck rfl) (.v rfl (V_fe Try.underlying100 TryI.inf82) (.v rfl (V_load rfl (.r 0) rfl Try.isAgg82) (.v rfl (V_lag (.o 0) Try.isAgg57 TryI.inf57) (.v rfl (V_lag (.o 0) Try.isAgg57 TryI.inf57) (.e rfl (E_cu (F58_calls bF oF cM cI cO cT r_1 r_1 r_2 hr_2) Try.call58 ⟨.r 2, .r 3, .r 4, .r 5,trivial⟩) (.c rfl (fun _ _=>(E_al64 4 TryI.inf57 TryI.zer57)) .nil)))))))) .nil (by kernel_rfl) rfl (fun γ=>?_)
 refine TA_cut [(6,ptr (some ((γ 7),0)) 0),(22,aG [(4,e64 r_2.toList)]),(5,ptr (some (b2,0)) 0),(3,ptr (some (b1,0)) 0),(0,ptr (some (bc,obc)) 0)] [⟨some ((γ 7),0),e64 ((replicate 4 0#64).toList)⟩,⟨some (b2,0),e64 r_1.toList⟩,⟨some (b1,0),e64 p_x.toList⟩,⟨some (b1,4),e64 p_y.toList⟩,⟨some (b1,8),e64 p_z.toList⟩] ⟨rfl,rfl,rfl,rfl,rfl,trivial⟩ rfl ?_
 generalize γ 7=b3
 refine TA_all (rs:=[8]) (by kernel_rfl) rfl ?_
 refine ⟨?_,trivial⟩
 refine TO_n (is:=[]) (done':=dn 9 511) rfl rfl rfl (by kernel_rfl) (E_sv (vs:=e64 r_2.toList) 0 TryI.inf57) (fun _ _=>rfl) (fun _=>?_)
 refine TA_done (by kernel_rfl) ?_ 0
 refine TX_next (TC_seq ?_)
 obtain ⟨r_3,hr_3,H⟩:=bind_elim H
 obtain ⟨r_4,hr_4,H⟩:=bind_elim H
 obtain ⟨r_5,hr_5,H⟩:=bind_elim H
 obtain ⟨r_6,hr_6,H⟩:=bind_elim H
 obtain ⟨r_7,hr_7,H⟩:=bind_elim H
 refine TA_begin [] 36 (by kernel_rfl) (N:=36) rfl ?_
 refine TA_mix (is:=[]) (done':=dn 36 17179869183) [itV 0 23 (ptr (some (bc,obc)) 0) [],itV 1 24 (ptr (some (bc,obc)) 0) [0],itV 2 25 (ptr (some (bc,obc)) 0) [1],itV 3 26 (ptr (some (bF,oF)) 0) [2],itV 4 27 (ptr (some (bc,obc)) 0) [],itV 5 28 (ptr (some (bc,obc)) 0) [4],itV 6 29 (ptr (some (bc,obc)) 0) [5],itV 7 30 (ptr (some (bF,oF)) 0) [6],itV 8 31 (ptr (some (b1,0)) 0) [],itV 9 32 (aG [(4,e64 p_x.toList)]) [8],itV 10 33 (aG [(4,e64 r_2.toList)]) [],itV 11 34 (aG [(4,e64 r_3.toList)]) [9,10,7],itV 12 35 (aG [(4,e64 r_4.toList)]) [3,11],itV 13 36 (ptr (some (bc,obc)) 0) [],itV 14 37 (ptr (some (bc,obc)) 0) [13],itV 15 38 (ptr (some (bc,obc)) 0) [14],itV 16 39 (ptr (some (bF,oF)) 0) [15],itV 17 40 (ptr (some (bc,obc)) 0) [],itV 18 41 (ptr (some (bc,obc)) 0) [17],itV 19 42 (ptr (some (bc,obc)) 0) [18],itV 20 43 (ptr (some (bF,oF)) 0) [19],itV 21 44 (ptr (some (b1,4)) 0) [],itV 22 45 (aG [(4,e64 p_y.toList)]) [21],itV 23 46 (ptr (some (bc,obc)) 0) [],itV 24 47 (ptr (some (bc,obc)) 0) [23],itV 25 48 (ptr (some (bc,obc)) 0) [24],itV 26 49 (ptr (some (bF,oF)) 0) [25],itV 27 50 (aG [(4,e64 r_1.toList)]) [],itV 28 51 (aG [(4,e64 r_2.toList)]) [],itV 29 52 (aG [(4,e64 r_5.toList)]) [26,27,28],itV 30 53 (aG [(4,e64 r_6.toList)]) [20,29,22],itV 31 54 (aG [(4,e64 r_7.toList)]) [30,16],itA64 32 7 4,itA64 33 8 4] [] 2 (by kernel_rfl) (QP.then QP.body) (by kernel_rfl) rfl (.v rfl (V_move rfl) (.v rfl (V_nilCheck rfl) (.v rfl (V_fe Try.underlying100 TryI.inf82) (.v rfl (V_load rfl (.r 0) rfl Try.isAgg82) (.v rfl (V_move rfl) (.v rfl (V_nilCheck rfl) (.v rfl (V_fe Try.underlying100 TryI.inf82) (.v rfl (V_load rfl (.r 0) rfl Try.isAgg82) (.v rfl (V_fe Try.underlying64 TryI.inf57) (.v rfl (V_lag (.o 2) Try.isAgg57 TryI.inf57) (.v rfl (V_lag (.o 0) Try.isAgg57 TryI.inf57) (.e rfl (E_cu (F58_calls bF oF cM cI cO cT p_x r_2 r_3 hr_3) Try.call58 ⟨.r 2, .r 3, .r 4, .r 5,trivial⟩) (.e rfl (E_cu (F57_calls bF oF cM cI cO cT r_3 r_4 hr_4) Try.call57 ⟨.r 2, .r 3, .r 4, .r 5,trivial⟩) (.v rfl (V_move rfl) (.v rfl (V_nilCheck rfl) (.v rfl (V_fe Try.underlying100 TryI.inf82) (.v rfl (V_load rfl (.r 0) rfl Try.isAgg82) (.v rfl (V_move rfl) (.v rfl (V_nilCheck rfl) (.v rfl (V_fe Try.underlying100 TryI.inf82) (.v rfl (V_load rfl (.r 0) rfl Try.isAgg82) (.v rfl (V_fe Try.underlying64 TryI.inf57) (.v rfl (V_lag (.o 3) Try.isAgg57 TryI.inf57) (.v rfl (V_move rfl) (.v rfl (V_nilCheck rfl) (.v rfl (V_fe Try.underlying100 TryI.inf82) (.v rfl (V_load rfl (.r 0) rfl Try.isAgg82) (.v rfl (V_lag (.o 1) Try.isAgg57 TryI.inf57) (.v rfl (V_lag (.o 0) Try.isAgg57 TryI.inf57) (.e rfl (E_cu (F58_calls bF oF cM cI cO cT r_1 r_2 r_5 hr_5) Try.call58 ⟨.r 2, .r 3, .r 4, .r 5,trivial⟩) (.e rfl (E_cu (F58_calls bF oF cM cI cO cT p_y r_5 r_6 hr_6) Try.call58 ⟨.r 2, .r 3, .r 4, .r 5,trivial⟩) (.e rfl (E_cu (F57_calls bF oF cM cI cO cT r_6 r_7 hr_7) Try.call57 ⟨.r 2, .r 3, .r 4, .r 5,trivial⟩) (.c rfl (fun _ _=>(E_al64 4 TryI.inf57 TryI.zer57)) (.c rfl (fun _ _=>(E_al64 4 TryI.inf57 TryI.zer57)) .nil)))))))))))))))))))))))))))))))))) .nil (by kernel_rfl) rfl (fun γ=>?_)
 refine TA_cut [(8,ptr (some ((γ 33),0)) 0),(7,ptr (some ((γ 32),0)) 0),(54,aG [(4,e64 r_7.toList)]),(35,aG [(4,e64 r_4.toList)])] [⟨some ((γ 33),0),e64 ((replicate 4 0#64).toList)⟩,⟨some ((γ 32),0),e64 ((replicate 4 0#64).toList)⟩,⟨some (b3,0),e64 r_2.toList⟩,⟨some (b2,0),e64 r_1.toList⟩,⟨some (b1,0),e64 p_x.toList⟩,⟨some (b1,4),e64 p_y.toList⟩,⟨some (b1,8),e64 p_z.toList⟩] ⟨rfl,rfl,rfl,rfl,trivial⟩ rfl ?_
 generalize γ 32=b4
 generalize γ 33=b5
 refine TA_all (rs:=[34]) (by kernel_rfl) rfl ?_
 refine ⟨?_,trivial⟩
 refine TO_n (is:=[]) (done':=dn 36 34359738367) rfl rfl rfl (by kernel_rfl) (E_sv (vs:=e64 r_4.toList) 1 TryI.inf57) (fun _ _=>rfl) (fun _=>?_)
 refine TA_all (rs:=[35]) (by kernel_rfl) rfl ?_
 refine ⟨?_,trivial⟩
 refine TO_n (is:=[]) (done':=dn 36 68719476735) rfl rfl rfl (by kernel_rfl) (E_sv (vs:=e64 r_7.toList) 0 TryI.inf57) (fun _ _=>rfl) (fun _=>?_)
 refine TA_done (by kernel_rfl) ?_ 0
 refine TX_next (TC_seq ?_)
 obtain ⟨h1,H⟩:=if_elim H
 obtain ⟨r_8,hr_8,H⟩:=bind_elim H
 obtain ⟨h2,H⟩:=if_elim H
 obtain ⟨r_9,hr_9,H⟩:=bind_elim H
 obtain ⟨h3,H⟩:=if_elim H
 obtain ⟨x1,hx1,H⟩:=ltt_elim H
 refine TA_begin [] 9 (by kernel_rfl) (N:=9) rfl ?_
 refine TA_mix (is:=[]) (done':=dn 9 255) [⟨0,55,fun b6=>sl (some (b6,0)) 1 1,fun b6=>[⟨some (b6,0),e8 ([4#8]:List (BitVec 8))⟩],[],none⟩,⟨1,56,fun _=>vs ([4#8]:List (BitVec 8)),fun _=>[],[0],some 0⟩,itV 2 57 (aG [(4,e64 r_4.toList)]) [],itV 3 58 (vs r_8) [2],itV 4 59 (vs (([4#8]:List (BitVec 8))++r_8)) [1,3],itV 5 60 (aG [(4,e64 r_7.toList)]) [],itV 6 61 (vs r_9) [5],itV 7 62 (vs ((([4#8]:List (BitVec 8))++r_8)++r_9)) [4,6]] [] 1 (by kernel_rfl) (QP.then QP.body) (by kernel_rfl) rfl (.c rfl (fun _ _=>(E_buildSlice (pv:=[(0,v8 4#8)]) rfl rfl Try.underlying42 TryI.inf5 (s:=1) rfl TryI.zer5 rfl rfl rfl (cs:=e8 ([4#8]:List (BitVec 8))) (by kernel_rfl))) (.c rfl (fun _ _=>OpE_v (V_b2s rfl Try.underlying42 Try.underlying5 Try.underlying9 (.o 0) h1)) (.v rfl (V_lag (.o 1) Try.isAgg57 TryI.inf57) (.e rfl (E_cu (F62_calls r_4 r_8 hr_8) Try.call62 .z) (.v rfl (V_bin rfl rfl (fun w=>addS w ([4#8]:List (BitVec 8)) r_8 h2)) (.v rfl (V_lag (.o 0) Try.isAgg57 TryI.inf57) (.e rfl (E_cu (F62_calls r_7 r_9 hr_9) Try.call62 .z) (.v rfl (V_bin rfl rfl (fun w=>addS w (([4#8]:List (BitVec 8))++r_8) r_9 h3)) .nil)))))))) .nil (by kernel_rfl) rfl (fun γ=>?_)
 refine TA_cut [(62,vs ((([4#8]:List (BitVec 8))++r_8)++r_9))] [⟨some ((γ 0),0),e8 ([4#8]:List (BitVec 8))⟩,⟨some (b5,0),e64 r_7.toList⟩,⟨some (b4,0),e64 r_4.toList⟩,⟨some (b3,0),e64 r_2.toList⟩,⟨some (b2,0),e64 r_1.toList⟩,⟨some (b1,0),e64 p_x.toList⟩,⟨some (b1,4),e64 p_y.toList⟩,⟨some (b1,8),e64 p_z.toList⟩] ⟨rfl,trivial⟩ rfl ?_
 generalize γ 0=b6
 refine TA_all (rs:=[8]) (by kernel_rfl) rfl ?_
 refine ⟨?_,trivial⟩
 refine TO_v (is:=[]) (done':=dn 9 511) rfl rfl rfl rfl (by kernel_rfl) (V_assign rfl) (fun _=>rfl) ?_
 refine TA_re (d:=4) (v:=vs ((([4#8]:List (BitVec 8))++r_8)++r_9)) (v':=vs x1) rfl (congrArg vs hx1) ?_
 refine TA_done (by kernel_rfl) ?_ 0
 refine TX_next (TC_ret ?_)
 have hrv:=Option.some.inj H
 subst hrv
 exact TX_ret (rs:=[.tmp 4]) (vs:=[vs x1]) rfl ⟨rfl,trivial⟩ (fun w' hs'=>⟨(),rfl,Step.left (Step.pulled (is:=[]) (A:=[]) hs' rfl)⟩)
end Go.Proofs
end

section
namespace Go.Proofs
open Go Go.Kx
def pcurve_Scalar (k:Str):Option (Vx 64 4 × Bool) :=
 (num_New 1).bind fun (r_1:(Unit) ⊕ (Vx 64 4 × BitVec 64 × Vx 64 4 × Vx 64 4))=>(match r_1 with | .inl r_1=>((num_Field_Read_nil0 k).bind fun (r_2:Vx 64 4)=>(some (r_2,false))) | .inr r_1=>((num_Field_Read r_1.1 r_1.2.1 r_1.2.2.1 r_1.2.2.2 k).bind fun (r_3:Vx 64 4 × Bool)=>(if r_3.2=true then ((num_Nat_Zero r_3.1).bind fun (r_4:Bool)=>(some (r_3.1, !r_4))) else (some (r_3.1,false)))))
set_option maxHeartbeats 4000000 in
set_option maxRecDepth 20000 in
theorem F32_calls (k:Str) (r:Vx 64 4 × Bool) (H:pcurve_Scalar k=some r) :
  Does Try.prog 32 [vs k] [] [] (Γ:=Unit) (fun g=>Value.tuple [aG [(4,e64 r.1.toList)],vb r.2].toArray) (fun g=>[]):=by
 intro w hmem hro hd
 refine calls_of (N:=19) (m0:=[(0,vs k)]) Try.func32 rfl Try.ntmps32 (argM_ok [vs k]) rfl hmem hro hd ?_
 unfold pcurve_Scalar at H
 refine TC_seq (TC_region (TLe (E_al64 4 TryI.inf57 TryI.zer57) (fun b1=>?_)))
 refine TLv (V_assign rfl) ?_
 refine TL_nil (TX_next (TC_seq (TC_region ?_)))
 obtain ⟨r_1,hr_1,H⟩:=bind_elim H
 rcases r_1 with r_1 | r_1
 ·dsimp only at H
  refine TL_e rfl rfl rfl (E_call (Γ:=Unit × Nat) (val:=fun g=>Value.pointer none) (mem:=fun g=>[]) (vs:=[vi 1]) (Lin:=[]) (Ro:=[]) (is:=[]) rfl Try.call53 (F53_calls 1 (.inl r_1) hr_1) rfl trivial) (fun g_1=>?_)
  refine TLv (V_move rfl) ?_
  obtain ⟨r_2,hr_2,H⟩:=bind_elim H
  refine TLe (E_c0 (F73_nil0_calls k r_2 hr_2) Try.call73 .z) (fun g_2=>?_)
  refine TLv (V_move rfl) ?_
  refine TLv V_ex ?_
  refine TLv V_ex ?_
  refine TLe (E_al64 4 TryI.inf57 TryI.zer57) (fun b2=>?_)
  refine TLn (E_sv (vs:=e64 r_2.toList) 0 TryI.inf57) (fun _=>?_)
  refine TLv (V_assign rfl) ?_
  refine TL_nil (TX_next (TC_seq (TA_begin [⟨some (b2,0),e64 r_2.toList⟩] 8 (by kernel_rfl) (N:=9) rfl ?_)))
  refine TA_tk 0 [0] (dn 9 1) rfl rfl (V_lag (.o 0) Try.isAgg57 TryI.inf57) ?_
  refine TA_tk 1 [0] (dn 9 3) rfl rfl (V_move rfl) ?_
  refine TA_tk 2 [0] (dn 9 7) rfl rfl (V_move rfl) ?_
  refine TA_ts 3 [0] (dn 9 15) rfl rfl ?_
  refine TA_ts 4 [0] (dn 9 31) rfl rfl ?_
  refine TA_ts 5 [0] (dn 9 63) rfl rfl ?_
  refine TA_tk 6 [0] (dn 9 127) rfl rfl (V_pick (b:=false) rfl rfl) ?_
  refine TA_all (rs:=[7]) (by kernel_rfl) rfl ?_
  refine ⟨?_,trivial⟩
  refine TO_n (is:=[0]) (done':=dn 9 255) rfl rfl rfl (by kernel_rfl) (E_sv (vs:=e64 r_2.toList) 1 TryI.inf57) (fun _ _=>rfl) (fun _=>?_)
  refine TA_all (rs:=[8]) (by kernel_rfl) rfl ?_
  refine ⟨?_,trivial⟩
  refine TO_v (is:=[]) (R:=[]) (done':=dn 9 511) rfl rfl rfl rfl (by kernel_rfl) (V_assign rfl) (fun h=>by cases h) ?_
  refine TA_done (by kernel_rfl) ?_ 0
  refine TX_next (TC_ret ?_)
  have hrv:=Option.some.inj H
  subst hrv
  exact TX_ret (rs:=[.cell 2 57, .tmp 3]) (vs:=[aG [(4,e64 r_2.toList)],vb false]) rfl ⟨(Res_agg (n:=4) rfl (by simp) (.o 1) Try.isAgg57 TryI.inf57 rfl (lenV (f:=v64) r_2)),rfl,trivial⟩ (fun w' hs'=>⟨(),rfl,Step.left (Step.pulled (is:=[]) (A:=[]) hs' rfl)⟩)
 ·dsimp only at H
  refine TL_e rfl rfl rfl (E_call (Γ:=Unit × Nat) (val:=fun g=>ptr (some (g.2,0)) 0) (mem:=fun g=>[⟨some (g.2,0),e64 r_1.1.toList⟩,⟨some (g.2,4),[v64 r_1.2.1]⟩,⟨some (g.2,5),e64 r_1.2.2.1.toList⟩,⟨some (g.2,9),e64 r_1.2.2.2.toList⟩]) (vs:=[vi 1]) (Lin:=[]) (Ro:=[]) (is:=[]) rfl Try.call53 (F53_calls 1 (.inr r_1) hr_1) rfl trivial) (fun g_3=>?_)
  refine TLv (V_move rfl) ?_
  obtain ⟨r_3,hr_3,H⟩:=bind_elim H
  refine TLe (E_c0 (F73_calls g_3.2 0 r_1.1 r_1.2.1 r_1.2.2.1 r_1.2.2.2 k r_3 hr_3) Try.call73 ⟨.o 0, .o 1, .o 2, .o 3,trivial⟩) (fun g_4=>?_)
  refine TLv (V_move rfl) ?_
  refine TLv V_ex ?_
  refine TLv V_ex ?_
  refine TLe (E_al64 4 TryI.inf57 TryI.zer57) (fun b3=>?_)
  refine TLn (E_sv (vs:=e64 r_3.1.toList) 0 TryI.inf57) (fun _=>?_)
  refine TLv (V_assign rfl) ?_
  refine TL_nil (TX_next (TC_seq (TC_em r_3.2 (fun hg2_3=>?_) (fun hg2_3=>?_))))
  ·replace H:=ite_t hg2_3 H
   obtain ⟨r_4,hr_4,H⟩:=bind_elim H
   refine TA_begin [⟨some (b3,0),e64 r_3.1.toList⟩,⟨some (g_3.2,0),e64 r_1.1.toList⟩,⟨some (g_3.2,4),[v64 r_1.2.1]⟩,⟨some (g_3.2,5),e64 r_1.2.2.1.toList⟩,⟨some (g_3.2,9),e64 r_1.2.2.2.toList⟩] 8 (by kernel_rfl) (N:=9) rfl ?_
   refine TA_tk 0 [0,0,0,0,0] (dn 9 1) rfl rfl (V_lag (.o 0) Try.isAgg57 TryI.inf57) ?_
   refine TA_tk 1 [0,0,0,0,0] (dn 9 3) rfl rfl (V_move rfl) ?_
   refine TA_tk 2 [0,0,0,0,0] (dn 9 7) rfl rfl (V_move rfl) ?_
   refine TA_re (d:=14) (v:=vb r_3.2) (v':=vb true) rfl (congrArg vb hg2_3) ?_
   refine TA_tw 3 [0,0,0,0,0] (dn 9 15) rfl rfl (V_lag (.o 0) Try.isAgg57 TryI.inf57) ?_
   refine TA_all (rs:=[4]) (by kernel_rfl) rfl ?_
   refine ⟨?_,trivial⟩
   refine TO_eW (is:=[0,0,0,0,0]) (done':=dn 9 31) rfl rfl rfl rfl rfl rfl rfl (by kernel_rfl) (E_c0 (F43_calls r_3.1 r_4 hr_4) Try.call43 .z) (fun _ _=>rfl) (fun g_5=>?_)
   refine TA_tw 5 [0,0,0,0,0] (dn 9 63) rfl rfl (V_un rfl (fun w=>notB w r_4)) ?_
   refine TA_tk 6 [0,0,0,0,0] (dn 9 127) rfl rfl (V_pick (b:=true) rfl rfl) ?_
   refine TA_all (rs:=[7]) (by kernel_rfl) rfl ?_
   refine ⟨?_,trivial⟩
   refine TO_n (is:=[0,0,0,0,0]) (done':=dn 9 255) rfl rfl rfl (by kernel_rfl) (E_sv (vs:=e64 r_3.1.toList) 5 TryI.inf57) (fun _ _=>rfl) (fun _=>?_)
   refine TA_all (rs:=[8]) (by kernel_rfl) rfl ?_
   refine ⟨?_,trivial⟩
   refine TO_v (is:=[]) (R:=[]) (done':=dn 9 511) rfl rfl rfl rfl (by kernel_rfl) (V_assign rfl) (fun h=>by cases h) ?_
   refine TA_done (by kernel_rfl) ?_ 0
   refine TX_next (TC_ret ?_)
   have hrv:=Option.some.inj H
   subst hrv
   exact TX_ret (rs:=[.cell 2 57, .tmp 3]) (vs:=[aG [(4,e64 r_3.1.toList)],vb (!r_4)]) rfl ⟨(Res_agg (n:=4) rfl (by simp) (.o 5) Try.isAgg57 TryI.inf57 rfl (lenV (f:=v64) r_3.1)),rfl,trivial⟩ (fun w' hs'=>⟨(),rfl,Step.left (Step.pulled (is:=[]) (A:=[]) hs' rfl)⟩)
  ·replace H:=ite_f (Bool.eq_false_iff.1 hg2_3) H
   refine TA_begin [⟨some (b3,0),e64 r_3.1.toList⟩,⟨some (g_3.2,0),e64 r_1.1.toList⟩,⟨some (g_3.2,4),[v64 r_1.2.1]⟩,⟨some (g_3.2,5),e64 r_1.2.2.1.toList⟩,⟨some (g_3.2,9),e64 r_1.2.2.2.toList⟩] 8 (by kernel_rfl) (N:=9) rfl ?_
   refine TA_tk 0 [0,0,0,0,0] (dn 9 1) rfl rfl (V_lag (.o 0) Try.isAgg57 TryI.inf57) ?_
   refine TA_tk 1 [0,0,0,0,0] (dn 9 3) rfl rfl (V_move rfl) ?_
   refine TA_tk 2 [0,0,0,0,0] (dn 9 7) rfl rfl (V_move rfl) ?_
   refine TA_re (d:=14) (v:=vb r_3.2) (v':=vb false) rfl (congrArg vb hg2_3) ?_
   refine TA_ts 3 [0,0,0,0,0] (dn 9 15) rfl rfl ?_
   refine TA_ts 4 [0,0,0,0,0] (dn 9 31) rfl rfl ?_
   refine TA_ts 5 [0,0,0,0,0] (dn 9 63) rfl rfl ?_
   refine TA_tk 6 [0,0,0,0,0] (dn 9 127) rfl rfl (V_pick (b:=false) rfl rfl) ?_
   refine TA_all (rs:=[7]) (by kernel_rfl) rfl ?_
   refine ⟨?_,trivial⟩
   refine TO_n (is:=[0,0,0,0,0]) (done':=dn 9 255) rfl rfl rfl (by kernel_rfl) (E_sv (vs:=e64 r_3.1.toList) 5 TryI.inf57) (fun _ _=>rfl) (fun _=>?_)
   refine TA_all (rs:=[8]) (by kernel_rfl) rfl ?_
   refine ⟨?_,trivial⟩
   refine TO_v (is:=[]) (R:=[]) (done':=dn 9 511) rfl rfl rfl rfl (by kernel_rfl) (V_assign rfl) (fun h=>by cases h) ?_
   refine TA_done (by kernel_rfl) ?_ 0
   refine TX_next (TC_ret ?_)
   have hrv:=Option.some.inj H
   subst hrv
   exact TX_ret (rs:=[.cell 2 57, .tmp 3]) (vs:=[aG [(4,e64 r_3.1.toList)],vb false]) rfl ⟨(Res_agg (n:=4) rfl (by simp) (.o 5) Try.isAgg57 TryI.inf57 rfl (lenV (f:=v64) r_3.1)),rfl,trivial⟩ (fun w' hs'=>⟨(),rfl,Step.left (Step.pulled (is:=[]) (A:=[]) hs' rfl)⟩)
end Go.Proofs
end

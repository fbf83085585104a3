/-
  Part 23 of the proof of what several laws share.
-/
import Derived.Test.YtiofnmmggblcgaaEsC1
import Derived.Test.YtiofnmmggblcgaaEsC2
import Derived.Test.YtiofnmmggblcgaaEsC3
import Derived.Test.YtiofnmmggblcgaaEsC4
import Derived.Test.YtiofnmmggblcgaaEsC5
import Derived.Test.YtiofnmmggblcgaaEsC6
import Derived.Test.YtiofnmmggblcgaaEsC8
import Derived.Test.YtiofnmmggblcgaaEsC9
import Derived.Test.YtiofnmmggblcgaaEsC11
import Derived.Test.YtiofnmmggblcgaaEsC12
import Derived.Test.YtiofnmmggblcgaaEsC13
import Derived.Test.YtiofnmmggblcgaaEsC19
import Derived.Test.YtiofnmmggblcgaaEsC20
import Derived.Test.YtiofnmmggblcgaaEsC22
set_option linter.unusedVariables false
set_option linter.unusedSimpArgs false
section
namespace Go.Proofs
open Go Go.Kx
open Vector (replicate)
open TryI Try
def halberdref9_Decode (s_:Str):Option (Vx 32 8 × Vx 32 8 × Vx 32 8 × Bool) :=
 (if ((s_).length:Int) ≠ 65 then (some true) else (if 0≤(0:Int)∧(0:Int)<((s_).length:Int) then (some (decide ((sg s_ 0) ≠ 4#8))) else none)).bind fun (j1:Bool)=>(if j1=true then (some (replicate 8 0#32,replicate 8 0#32,replicate 8 0#32,false)) else (if 33≤(s_).length then ((halberdref9_Number 0 (sub s_ 1 33)).bind fun (r_1:Vx 32 8 × Bool)=>(if 33≤(s_).length then ((halberdref9_Number 0 (sub s_ 33 ((s_).length))).bind fun (r_2:Vx 32 8 × Bool)=>((if (!r_1.2)=true then (some true) else (some (!r_2.2))).bind fun (j2:Bool)=>(if j2=true then (some (replicate 8 0#32,replicate 8 0#32,replicate 8 0#32,false)) else ((halberdref9_into 0 r_1.1).bind fun (r_3:Vx 32 8)=>((halberdref9_into 0 r_2.1).bind fun (r_4:Vx 32 8)=>((halberdref9_mont 0 r_3 r_3).bind fun (r_5:Vx 32 8)=>((halberdref9_mont 0 r_3 r_5).bind fun (r_6:Vx 32 8)=>((halberdref9_add 0 r_3 r_3).bind fun (r_7:Vx 32 8)=>((halberdref9_add 0 r_3 r_7).bind fun (r_8:Vx 32 8)=>((halberdref9_sub 0 r_6 r_8).bind fun (r_9:Vx 32 8)=>((halberdref9_curveB).bind fun (r_10:Vx 32 8)=>((halberdref9_into 0 r_10).bind fun (r_11:Vx 32 8)=>((halberdref9_add 0 r_9 r_11).bind fun (r_12:Vx 32 8)=>((halberdref9_into 0 (vp (replicate 8 0#32) 0 1#32:Vx 32 8)).bind fun (r_13:Vx 32 8)=>((halberdref9_mont 0 r_4 r_4).bind fun (r_14:Vx 32 8)=>(ltt (decide (r_14=r_12)) fun (x1:Bool)=>(some (r_3,r_4,r_13,x1)))))))))))))))))) else none)) else none))
set_option maxHeartbeats 4000000 in
set_option maxRecDepth 20000 in
theorem F19_calls (s_:Str) (r:Vx 32 8 × Vx 32 8 × Vx 32 8 × Bool) (H:halberdref9_Decode s_=some r) :
  Does Try.prog 19 [vs s_] [] [] (Γ:=Unit) (fun g=>Value.tuple [aG [(8,e32 r.1.toList),(8,e32 r.2.1.toList),(8,e32 r.2.2.1.toList)],vb r.2.2.2].toArray) (fun g=>[]):=by
 intro w hmem hro hd
 refine calls_of (N:=81) (m0:=[(0,vs s_)]) func19 rfl ntmps19 (argM_ok [vs s_]) rfl hmem hro hd ?_
 unfold halberdref9_Decode at H
 refine TC_seq (TC_region (TLe (E_allocP [(8,e32 ((replicate 8 0#32).toList)),(8,e32 ((replicate 8 0#32).toList)),(8,e32 ((replicate 8 0#32).toList))] inf33 zer33 ⟨(lenV (f:=v32) (replicate 8 0#32)),(lenV (f:=v32) (replicate 8 0#32)),(lenV (f:=v32) (replicate 8 0#32)),trivial⟩) (fun b1=>?_)))
 refine TVa ?_
 refine TL_nil (TX_next (TC_seq (TC_seq (TC_region (TVm ?_)))))
 refine TLv (V_len_str rfl underlying9) ?_
 refine TLv (V_bin rfl rfl (fun w=>neqI w ((s_).length:Int) 65)) ?_
 refine TVm ?_
 obtain ⟨j1,Hj,H⟩:=bind_elim H
 refine TL_join (Γ:=Unit) (fun gj1=>[(0,vs s_),(2,ptr (some (b1,0)) 0),(20,vb j1)]) (fun gj1=>[⟨some (b1,0),e32 ((replicate 8 0#32).toList)⟩,⟨some (b1,8),e32 ((replicate 8 0#32).toList)⟩,⟨some (b1,16),e32 ((replicate 8 0#32).toList)⟩]) ?_ ?_
 ·intro gj1
  refine TX_next (TCb H (fun hc H=>?_) (fun hc H=>?_))
  ·refine TC_seq (TC_region (TLv (V_buildStruct (pv:=[]) (pl:=[(0,8),(8,8),(16,8)]) rfl rfl underlying33 inf33 places33 zer33 (cs:=flat [(8,e32 ((replicate 8 0#32).toList)),(8,e32 ((replicate 8 0#32).toList)),(8,e32 ((replicate 8 0#32).toList))]) fill_end) ?_))
   refine TLn (E_sp (b:=b1) (o:=0) [0,0,0] [(8,e32 ((replicate 8 0#32).toList)),(8,e32 ((replicate 8 0#32).toList)),(8,e32 ((replicate 8 0#32).toList))] [(8,e32 ((replicate 8 0#32).toList)),(8,e32 ((replicate 8 0#32).toList)),(8,e32 ((replicate 8 0#32).toList))] rfl inf33 ⟨(lenV (f:=v32) (replicate 8 0#32)),(lenV (f:=v32) (replicate 8 0#32)),(lenV (f:=v32) (replicate 8 0#32)),trivial⟩ ⟨(lenV (f:=v32) (replicate 8 0#32)),(lenV (f:=v32) (replicate 8 0#32)),(lenV (f:=v32) (replicate 8 0#32)),trivial⟩ ⟨(OneC.map (fun _=>rfl) _),(OneC.map (fun _=>rfl) _),(OneC.map (fun _=>rfl) _),trivial⟩) (fun _=>?_)
   refine TVa ?_
   refine TL_nil (TX_next (TC_ret (TX_then_ret ?_)))
   obtain rfl:=sj H
   exact TXr (vs:=[_,_]) rfl ⟨(Res_agg (n:=24) (cs:=flat [(8,e32 ((replicate 8 0#32).toList)),(8,e32 ((replicate 8 0#32).toList)),(8,e32 ((replicate 8 0#32).toList))]) rfl (by simp) (SrcEnts (b:=b1) [(8,e32 ((replicate 8 0#32).toList)),(8,e32 ((replicate 8 0#32).toList)),(8,e32 ((replicate 8 0#32).toList))] 0 ⟨(lenV (f:=v32) (replicate 8 0#32)),(lenV (f:=v32) (replicate 8 0#32)),(lenV (f:=v32) (replicate 8 0#32)),trivial⟩ (AllSrc.all (M:=ents b1 0 [(8,e32 ((replicate 8 0#32).toList)),(8,e32 ((replicate 8 0#32).toList)),(8,e32 ((replicate 8 0#32).toList))]) ⟨Src.own (j:=0) rfl,Src.own (j:=1) rfl,Src.own (j:=2) rfl,trivial⟩)) isAgg33 inf33 rfl (by simp [flat])),rfl,trivial⟩
  ·refine TC_skip (TX_next (TC_seq (TC_region (TVm ?_))))
   obtain ⟨h1,H⟩:=if_elim H
   refine TLv (V_sliceStr (l:=1) (h:=33) rfl underlying9 (Bnd.some' (i:=1) rfl (by decide)) (Bnd.some' (i:=33) rfl (by decide)) (by decide) h1) ?_
   obtain ⟨r_1,hr_1,H⟩:=bind_elim H
   refine TLe (E_c0 (F45_calls 0 (sub s_ 1 33) r_1 hr_1) call45 .z) (fun g_1=>?_)
   refine TVm ?_
   refine TLv V_ex ?_
   refine TLv V_ex ?_
   refine TLe (E_al32 8 inf31 zer31) (fun b2=>?_)
   refine TLn (E_sv (vs:=e32 r_1.1.toList) 0 inf31) (fun _=>?_)
   refine TVa ?_
   refine TL_nil (TX_next (TC_seq (TC_region (TVm ?_))))
   obtain ⟨h2,H⟩:=if_elim H
   refine TLv (V_sliceStr (l:=33) (h:=(s_).length) rfl underlying9 (Bnd.some' (i:=33) rfl (by decide)) Bnd.none' h2 (Nat.le_refl _)) ?_
   obtain ⟨r_2,hr_2,H⟩:=bind_elim H
   refine TLe (E_c0 (F45_calls 0 (sub s_ 33 ((s_).length)) r_2 hr_2) call45 .z) (fun g_2=>?_)
   refine TVm ?_
   refine TLv V_ex ?_
   refine TLv V_ex ?_
   refine TLe (E_al32 8 inf31 zer31) (fun b3=>?_)
   refine TLn (E_sv (vs:=e32 r_2.1.toList) 0 inf31) (fun _=>?_)
   refine TVa ?_
   refine TL_nil (TX_next (TC_seq (TC_seq (TC_region (TVm ?_)))))
   refine TLv (V_un rfl (fun w=>notB w r_1.2)) ?_
   refine TVm ?_
   obtain ⟨j2,Hj,H⟩:=bind_elim H
   refine TL_join (Γ:=Unit) (fun gj2=>[(2,ptr (some (b1,0)) 0),(4,ptr (some (b2,0)) 0),(6,ptr (some (b3,0)) 0),(39,vb j2)]) (fun gj2=>[⟨some (b1,0),e32 ((replicate 8 0#32).toList)⟩,⟨some (b1,8),e32 ((replicate 8 0#32).toList)⟩,⟨some (b1,16),e32 ((replicate 8 0#32).toList)⟩,⟨some (b2,0),e32 r_1.1.toList⟩,⟨some (b3,0),e32 r_2.1.toList⟩]) ?_ ?_
   ·intro gj2
    refine TX_next (TCb H (fun hc H=>?_) (fun hc H=>?_))
    ·refine TC_seq (TC_region (TLv (V_buildStruct (pv:=[]) (pl:=[(0,8),(8,8),(16,8)]) rfl rfl underlying33 inf33 places33 zer33 (cs:=flat [(8,e32 ((replicate 8 0#32).toList)),(8,e32 ((replicate 8 0#32).toList)),(8,e32 ((replicate 8 0#32).toList))]) fill_end) ?_))
     refine TLn (E_sp (b:=b1) (o:=0) [0,0,0] [(8,e32 ((replicate 8 0#32).toList)),(8,e32 ((replicate 8 0#32).toList)),(8,e32 ((replicate 8 0#32).toList))] [(8,e32 ((replicate 8 0#32).toList)),(8,e32 ((replicate 8 0#32).toList)),(8,e32 ((replicate 8 0#32).toList))] rfl inf33 ⟨(lenV (f:=v32) (replicate 8 0#32)),(lenV (f:=v32) (replicate 8 0#32)),(lenV (f:=v32) (replicate 8 0#32)),trivial⟩ ⟨(lenV (f:=v32) (replicate 8 0#32)),(lenV (f:=v32) (replicate 8 0#32)),(lenV (f:=v32) (replicate 8 0#32)),trivial⟩ ⟨(OneC.map (fun _=>rfl) _),(OneC.map (fun _=>rfl) _),(OneC.map (fun _=>rfl) _),trivial⟩) (fun _=>?_)
     refine TVa ?_
     refine TL_nil (TX_next (TC_ret (TX_then_ret ?_)))
     obtain rfl:=sj H
     exact TXr (vs:=[_,_]) rfl ⟨(Res_agg (n:=24) (cs:=flat [(8,e32 ((replicate 8 0#32).toList)),(8,e32 ((replicate 8 0#32).toList)),(8,e32 ((replicate 8 0#32).toList))]) rfl (by simp) (SrcEnts (b:=b1) [(8,e32 ((replicate 8 0#32).toList)),(8,e32 ((replicate 8 0#32).toList)),(8,e32 ((replicate 8 0#32).toList))] 0 ⟨(lenV (f:=v32) (replicate 8 0#32)),(lenV (f:=v32) (replicate 8 0#32)),(lenV (f:=v32) (replicate 8 0#32)),trivial⟩ (AllSrc.all (M:=ents b1 0 [(8,e32 ((replicate 8 0#32).toList)),(8,e32 ((replicate 8 0#32).toList)),(8,e32 ((replicate 8 0#32).toList))]) ⟨Src.own (j:=0) rfl,Src.own (j:=1) rfl,Src.own (j:=2) rfl,trivial⟩)) isAgg33 inf33 rfl (by simp [flat])),rfl,trivial⟩
    ·refine TC_skip (TX_next (TC_seq (TC_region (TVa ?_))))
     refine TL_nil (TX_next (TC_seq ?_))
     obtain ⟨r_3,hr_3,H⟩:=bind_elim H
     obtain ⟨r_4,hr_4,H⟩:=bind_elim H
     refine TA_begin [] 10 (by kernel_rfl) (N:=10) rfl ?_
     refine TA_mix (is:=[]) (done':=dn 10 255) [itV 0 41 (vi 0) [],itV 1 42 (aG [(8,e32 r_1.1.toList)]) [],itV 2 43 (aG [(8,e32 r_3.toList)]) [0,1],itV 3 44 (vi 0) [],itV 4 45 (aG [(8,e32 r_2.1.toList)]) [],itV 5 46 (aG [(8,e32 r_4.toList)]) [3,4],itA32 6 9 8,itA32 7 10 8] [] 2 (by kernel_rfl) (QP.then QP.body) (by kernel_rfl) rfl (.v rfl (V_move rfl) (.v rfl (V_lag (.o 3) isAgg31 inf31) (.e rfl (E_cu (F46_calls 0 r_1.1 r_3 hr_3) call46 .z) (.v rfl (V_move rfl) (.v rfl (V_lag (.o 4) isAgg31 inf31) (.e rfl (E_cu (F46_calls 0 r_2.1 r_4 hr_4) call46 .z) (.c rfl (fun _ _=>(E_al32 8 inf31 zer31)) (.c rfl (fun _ _=>(E_al32 8 inf31 zer31)) .nil)))))))) .nil (by kernel_rfl) rfl (fun γ=>?_)
     refine TA_cut [(10,ptr (some ((γ 7),0)) 0),(9,ptr (some ((γ 6),0)) 0),(46,aG [(8,e32 r_4.toList)]),(43,aG [(8,e32 r_3.toList)]),(8,vi 0),(2,ptr (some (b1,0)) 0)] [⟨some ((γ 7),0),e32 ((replicate 8 0#32).toList)⟩,⟨some ((γ 6),0),e32 ((replicate 8 0#32).toList)⟩,⟨some (b1,0),e32 ((replicate 8 0#32).toList)⟩,⟨some (b1,8),e32 ((replicate 8 0#32).toList)⟩,⟨some (b1,16),e32 ((replicate 8 0#32).toList)⟩,⟨some (b2,0),e32 r_1.1.toList⟩,⟨some (b3,0),e32 r_2.1.toList⟩] ⟨rfl,rfl,rfl,rfl,rfl,rfl,trivial⟩ rfl ?_
     generalize γ 6=b4
     generalize γ 7=b5
     refine TA_all (rs:=[8]) (by kernel_rfl) rfl ?_
     refine ⟨?_,trivial⟩
     refine TO_n (is:=[]) (done':=dn 10 511) rfl rfl rfl (by kernel_rfl) (E_sv (vs:=e32 r_3.toList) 1 inf31) (fun _ _=>rfl) (fun _=>?_)
     refine TA_all (rs:=[9]) (by kernel_rfl) rfl ?_
     refine ⟨?_,trivial⟩
     refine TO_n (is:=[]) (done':=dn 10 1023) rfl rfl rfl (by kernel_rfl) (E_sv (vs:=e32 r_4.toList) 0 inf31) (fun _ _=>rfl) (fun _=>?_)
     refine TA_done (by kernel_rfl) ?_ 0
     refine TX_next (TC_seq ?_)
     obtain ⟨r_5,hr_5,H⟩:=bind_elim H
     obtain ⟨r_6,hr_6,H⟩:=bind_elim H
     refine TA_begin [] 9 (by kernel_rfl) (N:=9) rfl ?_
     refine TA_mix (is:=[]) (done':=dn 9 255) [itV 0 47 (vi 0) [],itV 1 48 (aG [(8,e32 r_3.toList)]) [],itV 2 49 (vi 0) [],itV 3 50 (aG [(8,e32 r_3.toList)]) [],itV 4 51 (aG [(8,e32 r_3.toList)]) [],itV 5 52 (aG [(8,e32 r_5.toList)]) [2,3,4],itV 6 53 (aG [(8,e32 r_6.toList)]) [1,5,0],itA32 7 11 8] [] 1 (by kernel_rfl) (QP.then QP.body) (by kernel_rfl) rfl (.v rfl (V_move rfl) (.v rfl (V_lag (.o 1) isAgg31 inf31) (.v rfl (V_move rfl) (.v rfl (V_lag (.o 1) isAgg31 inf31) (.v rfl (V_lag (.o 1) isAgg31 inf31) (.e rfl (E_cu (F47_calls 0 r_3 r_3 r_5 hr_5) call47 .z) (.e rfl (E_cu (F47_calls 0 r_3 r_5 r_6 hr_6) call47 .z) (.c rfl (fun _ _=>(E_al32 8 inf31 zer31)) .nil)))))))) .nil (by kernel_rfl) rfl (fun γ=>?_)
     refine TA_cut [(11,ptr (some ((γ 7),0)) 0),(53,aG [(8,e32 r_6.toList)]),(10,ptr (some (b5,0)) 0),(9,ptr (some (b4,0)) 0),(8,vi 0),(2,ptr (some (b1,0)) 0)] [⟨some ((γ 7),0),e32 ((replicate 8 0#32).toList)⟩,⟨some (b5,0),e32 r_4.toList⟩,⟨some (b4,0),e32 r_3.toList⟩,⟨some (b1,0),e32 ((replicate 8 0#32).toList)⟩,⟨some (b1,8),e32 ((replicate 8 0#32).toList)⟩,⟨some (b1,16),e32 ((replicate 8 0#32).toList)⟩,⟨some (b2,0),e32 r_1.1.toList⟩,⟨some (b3,0),e32 r_2.1.toList⟩] ⟨rfl,rfl,rfl,rfl,rfl,rfl,trivial⟩ rfl ?_
     generalize γ 7=b6
     refine TA_all (rs:=[8]) (by kernel_rfl) rfl ?_
     refine ⟨?_,trivial⟩
     refine TO_n (is:=[]) (done':=dn 9 511) rfl rfl rfl (by kernel_rfl) (E_sv (vs:=e32 r_6.toList) 0 inf31) (fun _ _=>rfl) (fun _=>?_)
     refine TA_done (by kernel_rfl) ?_ 0
     refine TX_next (TC_seq ?_)
     obtain ⟨r_7,hr_7,H⟩:=bind_elim H
     obtain ⟨r_8,hr_8,H⟩:=bind_elim H
     obtain ⟨r_9,hr_9,H⟩:=bind_elim H
     obtain ⟨r_10,hr_10,H⟩:=bind_elim H
     obtain ⟨r_11,hr_11,H⟩:=bind_elim H
     obtain ⟨r_12,hr_12,H⟩:=bind_elim H
     refine TA_begin [] 17 (by kernel_rfl) (N:=17) rfl ?_
     refine TA_mix (is:=[]) (done':=dn 17 65535) [itV 0 54 (vi 0) [],itV 1 55 (vi 0) [],itV 2 56 (aG [(8,e32 r_6.toList)]) [],itV 3 57 (vi 0) [],itV 4 58 (aG [(8,e32 r_3.toList)]) [],itV 5 59 (vi 0) [],itV 6 60 (aG [(8,e32 r_3.toList)]) [],itV 7 61 (aG [(8,e32 r_3.toList)]) [],itV 8 62 (aG [(8,e32 r_7.toList)]) [5,6,7],itV 9 63 (aG [(8,e32 r_8.toList)]) [3,4,8],itV 10 64 (aG [(8,e32 r_9.toList)]) [2,9,1],itV 11 65 (vi 0) [],itV 12 66 (aG [(8,e32 r_10.toList)]) [],itV 13 67 (aG [(8,e32 r_11.toList)]) [11,12],itV 14 68 (aG [(8,e32 r_12.toList)]) [10,13,0],itA32 15 12 8] [] 1 (by kernel_rfl) (QP.then QP.body) (by kernel_rfl) rfl (.v rfl (V_move rfl) (.v rfl (V_move rfl) (.v rfl (V_lag (.o 0) isAgg31 inf31) (.v rfl (V_move rfl) (.v rfl (V_lag (.o 2) isAgg31 inf31) (.v rfl (V_move rfl) (.v rfl (V_lag (.o 2) isAgg31 inf31) (.v rfl (V_lag (.o 2) isAgg31 inf31) (.e rfl (E_cu (F48_calls 0 r_3 r_3 r_7 hr_7) call48 .z) (.e rfl (E_cu (F48_calls 0 r_3 r_7 r_8 hr_8) call48 .z) (.e rfl (E_cu (F49_calls 0 r_6 r_8 r_9 hr_9) call49 .z) (.v rfl (V_move rfl) (.e rfl (E_cu (F50_calls r_10 hr_10) call50 .z) (.e rfl (E_cu (F46_calls 0 r_10 r_11 hr_11) call46 .z) (.e rfl (E_cu (F48_calls 0 r_9 r_11 r_12 hr_12) call48 .z) (.c rfl (fun _ _=>(E_al32 8 inf31 zer31)) .nil)))))))))))))))) .nil (by kernel_rfl) rfl (fun γ=>?_)
     refine TA_cut [(12,ptr (some ((γ 15),0)) 0),(68,aG [(8,e32 r_12.toList)]),(10,ptr (some (b5,0)) 0),(9,ptr (some (b4,0)) 0),(8,vi 0),(2,ptr (some (b1,0)) 0)] [⟨some ((γ 15),0),e32 ((replicate 8 0#32).toList)⟩,⟨some (b6,0),e32 r_6.toList⟩,⟨some (b5,0),e32 r_4.toList⟩,⟨some (b4,0),e32 r_3.toList⟩,⟨some (b1,0),e32 ((replicate 8 0#32).toList)⟩,⟨some (b1,8),e32 ((replicate 8 0#32).toList)⟩,⟨some (b1,16),e32 ((replicate 8 0#32).toList)⟩,⟨some (b2,0),e32 r_1.1.toList⟩,⟨some (b3,0),e32 r_2.1.toList⟩] ⟨rfl,rfl,rfl,rfl,rfl,rfl,trivial⟩ rfl ?_
     generalize γ 15=b7
     refine TA_all (rs:=[16]) (by kernel_rfl) rfl ?_
     refine ⟨?_,trivial⟩
     refine TO_n (is:=[]) (done':=dn 17 131071) rfl rfl rfl (by kernel_rfl) (E_sv (vs:=e32 r_12.toList) 0 inf31) (fun _ _=>rfl) (fun _=>?_)
     refine TA_done (by kernel_rfl) ?_ 0
     refine TX_next (TC_seq ?_)
     obtain ⟨r_13,hr_13,H⟩:=bind_elim H
     obtain ⟨r_14,hr_14,H⟩:=bind_elim H
     obtain ⟨x1,hx1,H⟩:=ltt_elim H
     refine TA_begin [⟨some (b7,0),e32 r_12.toList⟩,⟨some (b6,0),e32 r_6.toList⟩,⟨some (b5,0),e32 r_4.toList⟩,⟨some (b4,0),e32 r_3.toList⟩,⟨some (b2,0),e32 r_1.1.toList⟩,⟨some (b3,0),e32 r_2.1.toList⟩] 13 (by kernel_rfl) (N:=14) rfl ?_
     refine TA_tk 0 [0,0,0,0,3,3] (dn 14 1) rfl rfl (V_lag (.o 3) isAgg31 inf31) ?_
     refine TA_tk 1 [0,0,0,0,3,3] (dn 14 3) rfl rfl (V_lag (.o 2) isAgg31 inf31) ?_
     refine TA_tk 2 [0,0,0,0,3,3] (dn 14 7) rfl rfl (V_move rfl) ?_
     refine TA_tk 3 [0,0,0,0,3,3] (dn 14 15) rfl rfl (V_buildArr (pv:=[(0,v32 1#32)]) rfl rfl underlying31 inf31 inf29 rfl zer31 (cs:=e32 ((vp (replicate 8 0#32) 0 1#32:Vx 32 8).toList)) (by kernel_rfl)) ?_
     refine TA_tk 6 [0,0,0,0,3,3] (dn 14 79) rfl rfl (V_move rfl) ?_
     refine TA_tk 7 [0,0,0,0,3,3] (dn 14 207) rfl rfl (V_lag (.o 2) isAgg31 inf31) ?_
     refine TA_tk 8 [0,0,0,0,3,3] (dn 14 463) rfl rfl (V_lag (.o 2) isAgg31 inf31) ?_
     refine TA_tk 10 [0,0,0,0,3,3] (dn 14 1487) rfl rfl (V_lag (.o 0) isAgg31 inf31) ?_
     refine TA_all (rs:=[4]) (by kernel_rfl) rfl ?_
     refine ⟨?_,trivial⟩
     refine TO_e (is:=[0,0,0,0,3,3]) (done':=dn 14 1503) rfl rfl rfl rfl (by kernel_rfl) (E_c0 (F46_calls 0 (vp (replicate 8 0#32) 0 1#32:Vx 32 8) r_13 hr_13) call46 .z) (fun _ _=>rfl) (fun g_13=>?_)
     refine TA_tk 5 [0,0,0,0,3,3] (dn 14 1535) rfl rfl (V_buildStruct (pv:=[(0,aG [(8,e32 r_3.toList)]),(1,aG [(8,e32 r_4.toList)]),(2,aG [(8,e32 r_13.toList)])]) (pl:=[(0,8),(8,8),(16,8)]) rfl rfl underlying33 inf33 places33 zer33 (cs:=flat [(8,e32 r_3.toList),(8,e32 r_4.toList),(8,e32 r_13.toList)]) (fill_part [] [(8,e32 ((replicate 8 0#32).toList)),(8,e32 ((replicate 8 0#32).toList))] rfl rfl trivial rfl (lenV (f:=v32) (replicate 8 0#32)) (lenV (f:=v32) r_3) (fill_part [(8,e32 r_3.toList)] [(8,e32 ((replicate 8 0#32).toList))] rfl rfl ⟨(lenV (f:=v32) r_3),trivial⟩ rfl (lenV (f:=v32) (replicate 8 0#32)) (lenV (f:=v32) r_4) (fill_part [(8,e32 r_3.toList),(8,e32 r_4.toList)] [] rfl rfl ⟨(lenV (f:=v32) r_3),(lenV (f:=v32) r_4),trivial⟩ rfl (lenV (f:=v32) (replicate 8 0#32)) (lenV (f:=v32) r_13) fill_end)))) ?_
     refine TA_all (rs:=[9]) (by kernel_rfl) rfl ?_
     refine ⟨?_,trivial⟩
     refine TO_e (is:=[0,0,0,0,3,3]) (done':=dn 14 2047) rfl rfl rfl rfl (by kernel_rfl) (E_c0 (F47_calls 0 r_4 r_4 r_14 hr_14) call47 .z) (fun _ _=>rfl) (fun g_14=>?_)
     refine TA_tk 11 [0,0,0,0,3,3] (dn 14 4095) rfl rfl (V_bin rfl rfl (fun w=>eqlA32 w underlying31 underlying29 (by kernel_rfl) (by kernel_rfl) r_14 r_12)) ?_
     refine TA_all (rs:=[12]) (by kernel_rfl) rfl ?_
     refine ⟨?_,trivial⟩
     refine TO_n (is:=[3,3,3,3,3,3]) (done':=dn 14 8191) rfl rfl rfl (by kernel_rfl) (E_sp (b:=b1) (o:=0) [4,4,4] [(8,e32 ((replicate 8 0#32).toList)),(8,e32 ((replicate 8 0#32).toList)),(8,e32 ((replicate 8 0#32).toList))] [(8,e32 r_3.toList),(8,e32 r_4.toList),(8,e32 r_13.toList)] rfl inf33 ⟨(lenV (f:=v32) (replicate 8 0#32)),(lenV (f:=v32) (replicate 8 0#32)),(lenV (f:=v32) (replicate 8 0#32)),trivial⟩ ⟨(lenV (f:=v32) r_3),(lenV (f:=v32) r_4),(lenV (f:=v32) r_13),trivial⟩ ⟨(OneC.map (fun _=>rfl) _),(OneC.map (fun _=>rfl) _),(OneC.map (fun _=>rfl) _),trivial⟩) (fun _ _=>rfl) (fun _=>?_)
     refine TA_all (rs:=[13]) (by kernel_rfl) rfl ?_
     refine ⟨?_,trivial⟩
     refine TO_v (is:=[]) (R:=[]) (done':=dn 14 16383) rfl rfl rfl rfl (by kernel_rfl) (V_assign rfl) (fun h=>by cases h) ?_
     refine TA_re (d:=3) (v:=vb (decide (r_14=r_12))) (v':=vb x1) rfl (congrArg vb hx1) ?_
     refine TA_done (by kernel_rfl) ?_ 0
     refine TX_next (TC_ret ?_)
     obtain rfl:=sj H
     exact TXr (vs:=[_,_]) rfl ⟨(Res_agg (n:=24) (cs:=flat [(8,e32 r_3.toList),(8,e32 r_4.toList),(8,e32 r_13.toList)]) rfl (by simp) (SrcEnts (b:=b1) [(8,e32 r_3.toList),(8,e32 r_4.toList),(8,e32 r_13.toList)] 0 ⟨(lenV (f:=v32) r_3),(lenV (f:=v32) r_4),(lenV (f:=v32) r_13),trivial⟩ (AllSrc.all (M:=ents b1 0 [(8,e32 r_3.toList),(8,e32 r_4.toList),(8,e32 r_13.toList)]) ⟨Src.own (j:=0) rfl,Src.own (j:=1) rfl,Src.own (j:=2) rfl,trivial⟩)) isAgg33 inf33 rfl (by simp [flat])),rfl,trivial⟩
   ·intro hJ
    replace H:=Hj
    refine TFb (d:=36) H (fun hc H=>?_) (fun hc H=>?_)
    ·refine TLs ?_
     refine TLs ?_
     refine TVt ?_
     refine TL_nil ?_
     obtain rfl:=sj H
     exact TXj [2,2,2,1,0] (hJ ())
    ·refine TLw (V_move rfl) ?_
     refine TLw (V_un rfl (fun w=>notB w r_2.2)) ?_
     refine TVf ?_
     refine TL_nil ?_
     obtain rfl:=sj H
     exact TXj [2,2,2,1,0] (hJ ())
 ·intro hJ
  replace H:=Hj
  refine TFd (d:=16) H (fun hc H=>?_) (fun hc H=>?_)
  ·refine TLs ?_
   refine TLs ?_
   refine TLs ?_
   refine TVt ?_
   refine TL_nil ?_
   obtain rfl:=sj H
   exact TXj [0,0,0] (hJ ())
  ·refine TLw (V_move rfl) ?_
   obtain ⟨h3,H⟩:=if_elim H
   refine TLw (V_idxStr rfl rfl (i:=0) underlying9 h3.1 h3.2) ?_
   refine TLw (V_bin rfl rfl (fun w=>neq8 w (sg s_ 0) 4#8)) ?_
   refine TVf ?_
   refine TL_nil ?_
   obtain rfl:=sj H
   exact TXj [0,0,0] (hJ ())
end Go.Proofs
end

section
namespace Go.Proofs
open Go Go.Kx
open Vector (replicate)
open TryI Try
def halberdref9_plain (p_X:Vx 32 8) (p_Y:Vx 32 8) (p_Z:Vx 32 8):Option (Vx 32 8 × Vx 32 8 × Bool) :=
 if p_Z=(replicate 8 0#32:Vx 32 8) then (ltt ((replicate 8 0#32:Vx 32 8)) fun (m_1:Vx 32 8)=>(ltt ((replicate 8 0#32:Vx 32 8)) fun (m_2:Vx 32 8)=>(some (m_1,m_2,false)))) else ((halberdref9_power 0 p_Z).bind fun (r_1:Vx 32 8)=>((halberdref9_mont 0 r_1 r_1).bind fun (r_2:Vx 32 8)=>((halberdref9_mont 0 p_X r_2).bind fun (r_3:Vx 32 8)=>((halberdref9_out 0 r_3).bind fun (r_4:Vx 32 8)=>((halberdref9_mont 0 r_1 r_2).bind fun (r_5:Vx 32 8)=>((halberdref9_mont 0 p_Y r_5).bind fun (r_6:Vx 32 8)=>((halberdref9_out 0 r_6).bind fun (r_7:Vx 32 8)=>(some (r_4,r_7,true)))))))))
set_option maxHeartbeats 4000000 in
set_option maxRecDepth 20000 in
theorem F64_calls (p_X:Vx 32 8) (p_Y:Vx 32 8) (p_Z:Vx 32 8) (r:Vx 32 8 × Vx 32 8 × Bool) (H:halberdref9_plain p_X p_Y p_Z=some r) :
  Does Try.prog 64 [aG [(8,e32 p_X.toList),(8,e32 p_Y.toList),(8,e32 p_Z.toList)]] [] [] (Γ:=Unit) (fun g=>Value.tuple [aG [(8,e32 r.1.toList)],aG [(8,e32 r.2.1.toList)],vb r.2.2].toArray) (fun g=>[]):=by
 intro w hmem hro hd
 refine calls_of (N:=39) (m0:=[(0,aG [(8,e32 p_X.toList),(8,e32 p_Y.toList),(8,e32 p_Z.toList)])]) func64 rfl ntmps64 (argM_ok [aG [(8,e32 p_X.toList),(8,e32 p_Y.toList),(8,e32 p_Z.toList)]]) rfl hmem hro hd ?_
 unfold halberdref9_plain at H
 refine TC_seq (TC_region (TLe (E_boxP [(8,e32 p_X.toList),(8,e32 p_Y.toList),(8,e32 p_Z.toList)] rfl rfl ⟨(lenV (f:=v32) p_X),(lenV (f:=v32) p_Y),(lenV (f:=v32) p_Z),trivial⟩) (fun b1=>?_)))
 refine TLe (E_al32 8 inf31 zer31) (fun b2=>?_)
 refine TLe (E_al32 8 inf31 zer31) (fun b3=>?_)
 refine TVa ?_
 refine TL_nil (TX_next (TC_seq (TC_seq (TC_region (TLv (V_fieldE rfl underlying33 rfl rfl inf31 rfl (v:=ptr (some (b1,16)) 0) rfl) ?_)))))
 refine TLv (V_lag (.o 4) isAgg31 inf31) ?_
 refine TLv (V_buildArr (pv:=[]) rfl rfl underlying31 inf31 inf29 rfl zer31 (cs:=e32 ((replicate 8 0#32:Vx 32 8).toList)) (by kernel_rfl)) ?_
 refine TLv (V_bin rfl rfl (fun w=>eqlA32 w underlying31 underlying29 (by kernel_rfl) (by kernel_rfl) p_Z (replicate 8 0#32:Vx 32 8))) ?_
 refine TL_nil (TX_next (TCd H (fun hc H=>?_) (fun hc H=>?_)))
 ·refine TC_seq (TC_region (TLv (V_buildArr (pv:=[]) rfl rfl underlying31 inf31 inf29 rfl zer31 (cs:=e32 ((replicate 8 0#32:Vx 32 8).toList)) (by kernel_rfl)) ?_))
  refine TLv (V_buildArr (pv:=[]) rfl rfl underlying31 inf31 inf29 rfl zer31 (cs:=e32 ((replicate 8 0#32:Vx 32 8).toList)) (by kernel_rfl)) ?_
  refine TLn (E_sv 1 inf31) (fun _=>?_)
  obtain ⟨m_1,hm_1,H⟩:=ltt_elim H
  refine TL_reE (j:=1) (A:=some (b2,0)) (cs:=e32 ((replicate 8 0#32:Vx 32 8).toList)) (cs':=e32 m_1.toList) rfl (congrArg (fun z:Vx 32 8=>e32 (Vector.toList z)) hm_1) ?_
  refine TLn (E_sv 0 inf31) (fun _=>?_)
  obtain ⟨m_2,hm_2,H⟩:=ltt_elim H
  refine TL_reE (j:=0) (A:=some (b3,0)) (cs:=e32 ((replicate 8 0#32:Vx 32 8).toList)) (cs':=e32 m_2.toList) rfl (congrArg (fun z:Vx 32 8=>e32 (Vector.toList z)) hm_2) ?_
  refine TVa ?_
  refine TL_nil (TX_next (TC_ret (TX_then_ret ?_)))
  obtain rfl:=sj H
  exact TXr (vs:=[_,_,_]) rfl ⟨(Res_agg (n:=8) rfl (by simp) (.o 1) isAgg31 inf31 rfl (lenV (f:=v32) m_1)),(Res_agg (n:=8) rfl (by simp) (.o 0) isAgg31 inf31 rfl (lenV (f:=v32) m_2)),rfl,trivial⟩
 ·refine TC_skip (TX_next (TC_seq (TC_region (TVa ?_))))
  refine TL_nil (TX_next (TC_seq (TC_region (TVm ?_))))
  refine TLv (V_fieldE rfl underlying33 rfl rfl inf31 rfl (v:=ptr (some (b1,16)) 0) rfl) ?_
  refine TLv (V_lag (.o 4) isAgg31 inf31) ?_
  obtain ⟨r_1,hr_1,H⟩:=bind_elim H
  refine TLe (E_c0 (F91_calls 0 p_Z r_1 hr_1) call91 .z) (fun g_1=>?_)
  refine TLe (E_al32 8 inf31 zer31) (fun b4=>?_)
  refine TLn (E_sv (vs:=e32 r_1.toList) 0 inf31) (fun _=>?_)
  refine TL_nil (TX_next (TC_seq (TC_region (TVm ?_))))
  refine TLv (V_lag (.o 0) isAgg31 inf31) ?_
  refine TLv (V_lag (.o 0) isAgg31 inf31) ?_
  obtain ⟨r_2,hr_2,H⟩:=bind_elim H
  refine TLe (E_c0 (F47_calls 0 r_1 r_1 r_2 hr_2) call47 .z) (fun g_2=>?_)
  refine TLe (E_al32 8 inf31 zer31) (fun b5=>?_)
  refine TLn (E_sv (vs:=e32 r_2.toList) 0 inf31) (fun _=>?_)
  refine TL_nil (TX_next (TC.sub (m':=[(1,_),(2,_),(3,_),(5,_),(6,_),(7,_)]) ⟨rfl,rfl,rfl,rfl,rfl,rfl,trivial⟩ ?_))
  refine TC.pull (is:=[4,4,4,3,2,1,0]) (L':=[_,_,_,_,_,_,_]) rfl ?_
  refine TC_seq ?_
  obtain ⟨r_3,hr_3,H⟩:=bind_elim H
  obtain ⟨r_4,hr_4,H⟩:=bind_elim H
  obtain ⟨r_5,hr_5,H⟩:=bind_elim H
  obtain ⟨r_6,hr_6,H⟩:=bind_elim H
  obtain ⟨r_7,hr_7,H⟩:=bind_elim H
  refine TA_begin [] 20 (by kernel_rfl) (N:=20) rfl ?_
  refine TA_mix (is:=[]) (done':=dn 20 131071) [itV 0 22 (vi 0) [],itV 1 23 (vi 0) [],itV 2 24 (ptr (some (b1,0)) 0) [],itV 3 25 (aG [(8,e32 p_X.toList)]) [2],itV 4 26 (aG [(8,e32 r_2.toList)]) [],itV 5 27 (aG [(8,e32 r_3.toList)]) [3,4,1],itV 6 28 (aG [(8,e32 r_4.toList)]) [5,0],itV 7 29 (vi 0) [],itV 8 30 (vi 0) [],itV 9 31 (ptr (some (b1,8)) 0) [],itV 10 32 (aG [(8,e32 p_Y.toList)]) [9],itV 11 33 (vi 0) [],itV 12 34 (aG [(8,e32 r_1.toList)]) [],itV 13 35 (aG [(8,e32 r_2.toList)]) [],itV 14 36 (aG [(8,e32 r_5.toList)]) [11,12,13],itV 15 37 (aG [(8,e32 r_6.toList)]) [10,14,8],itV 16 38 (aG [(8,e32 r_7.toList)]) [15,7]] [] 3 (by kernel_rfl) (QP.then QP.body) (by kernel_rfl) rfl (.v rfl (V_move rfl) (.v rfl (V_move rfl) (.v rfl (V_fe underlying33 inf31) (.v rfl (V_lag (.o 0) isAgg31 inf31) (.v rfl (V_lag (.o 6) isAgg31 inf31) (.e rfl (E_cu (F47_calls 0 p_X r_2 r_3 hr_3) call47 .z) (.e rfl (E_cu (F92_calls 0 r_3 r_4 hr_4) call92 .z) (.v rfl (V_move rfl) (.v rfl (V_move rfl) (.v rfl (V_fe underlying33 inf31) (.v rfl (V_lag (.o 1) isAgg31 inf31) (.v rfl (V_move rfl) (.v rfl (V_lag (.o 5) isAgg31 inf31) (.v rfl (V_lag (.o 6) isAgg31 inf31) (.e rfl (E_cu (F47_calls 0 r_1 r_2 r_5 hr_5) call47 .z) (.e rfl (E_cu (F47_calls 0 p_Y r_5 r_6 hr_6) call47 .z) (.e rfl (E_cu (F92_calls 0 r_6 r_7 hr_7) call92 .z) .nil))))))))))))))))) .nil (by kernel_rfl) rfl (fun γ=>?_)
  refine TA_cut [(38,aG [(8,e32 r_7.toList)]),(28,aG [(8,e32 r_4.toList)]),(2,ptr (some (b2,0)) 0),(3,ptr (some (b3,0)) 0)] [⟨some (b1,0),e32 p_X.toList⟩,⟨some (b1,8),e32 p_Y.toList⟩,⟨some (b1,16),e32 p_Z.toList⟩,⟨some (b2,0),e32 ((replicate 8 0#32).toList)⟩,⟨some (b3,0),e32 ((replicate 8 0#32).toList)⟩,⟨some (b4,0),e32 r_1.toList⟩,⟨some (b5,0),e32 r_2.toList⟩] ⟨rfl,rfl,rfl,rfl,trivial⟩ rfl ?_
  refine TA_all (rs:=[17]) (by kernel_rfl) rfl ?_
  refine ⟨?_,trivial⟩
  refine TO_n (is:=[]) (done':=dn 20 262143) rfl rfl rfl (by kernel_rfl) (E_sv (vs:=e32 r_4.toList) 3 inf31) (fun _ _=>rfl) (fun _=>?_)
  refine TA_all (rs:=[18]) (by kernel_rfl) rfl ?_
  refine ⟨?_,trivial⟩
  refine TO_n (is:=[]) (done':=dn 20 524287) rfl rfl rfl (by kernel_rfl) (E_sv (vs:=e32 r_7.toList) 4 inf31) (fun _ _=>rfl) (fun _=>?_)
  refine TA_all (rs:=[19]) (by kernel_rfl) rfl ?_
  refine ⟨?_,trivial⟩
  refine TO_v (is:=[]) (done':=dn 20 1048575) rfl rfl rfl rfl (by kernel_rfl) (V_assign rfl) (fun _=>rfl) ?_
  refine TA_done (by kernel_rfl) ?_ 0
  refine TX_next (TC_ret ?_)
  obtain rfl:=sj H
  exact TXr (vs:=[_,_,_]) rfl ⟨(Res_agg (n:=8) rfl (by simp) (.o 3) isAgg31 inf31 rfl (lenV (f:=v32) r_4)),(Res_agg (n:=8) rfl (by simp) (.o 4) isAgg31 inf31 rfl (lenV (f:=v32) r_7)),rfl,trivial⟩
end Go.Proofs
end

section
namespace Go.Proofs
open Go Go.Kx
open TryI Try
def halberdref9_encode (p_X:Vx 32 8) (p_Y:Vx 32 8) (p_Z:Vx 32 8):Option (Str × Bool) :=
 (halberdref9_plain p_X p_Y p_Z).bind fun (r_1:Vx 32 8 × Vx 32 8 × Bool)=>(if (!r_1.2.2)=true then (some (([]:Str),false)) else ((halberdref9_put r_1.1).bind fun (r_2:Str)=>(if (([4#8]:Str)).length+(r_2).length≤4611686018427387904 then ((halberdref9_put r_1.2.1).bind fun (r_3:Str)=>(if (([4#8]:Str)++r_2).length+(r_3).length≤4611686018427387904 then (ltt ((([4#8]:Str)++r_2)++r_3) fun (x1:Str)=>(some (x1,true))) else none)) else none)))
set_option maxHeartbeats 4000000 in
set_option maxRecDepth 20000 in
theorem F38_calls (p_X:Vx 32 8) (p_Y:Vx 32 8) (p_Z:Vx 32 8) (r:Str × Bool) (H:halberdref9_encode p_X p_Y p_Z=some r) :
  Does Try.prog 38 [aG [(8,e32 p_X.toList),(8,e32 p_Y.toList),(8,e32 p_Z.toList)]] [] [] (Γ:=Unit) (fun g=>Value.tuple [vs r.1,vb r.2].toArray) (fun g=>[]):=by
 intro w hmem hro hd
 refine calls_of (N:=21) (m0:=[(0,aG [(8,e32 p_X.toList),(8,e32 p_Y.toList),(8,e32 p_Z.toList)])]) func38 rfl ntmps38 (argM_ok [aG [(8,e32 p_X.toList),(8,e32 p_Y.toList),(8,e32 p_Z.toList)]]) rfl hmem hro hd ?_
 unfold halberdref9_encode at H
 refine TC_seq (TC_region (TLe (E_boxP [(8,e32 p_X.toList),(8,e32 p_Y.toList),(8,e32 p_Z.toList)] rfl rfl ⟨(lenV (f:=v32) p_X),(lenV (f:=v32) p_Y),(lenV (f:=v32) p_Z),trivial⟩) (fun b1=>?_)))
 refine TVa ?_
 refine TVa ?_
 refine TL_nil (TX_next (TC_seq (TC_region (TLv (V_loadAgg (n:=24) (cs:=flat [(8,e32 p_X.toList),(8,e32 p_Y.toList),(8,e32 p_Z.toList)]) rfl (by simp) (SrcEnts (b:=b1) [(8,e32 p_X.toList),(8,e32 p_Y.toList),(8,e32 p_Z.toList)] 0 ⟨(lenV (f:=v32) p_X),(lenV (f:=v32) p_Y),(lenV (f:=v32) p_Z),trivial⟩ (AllSrc.all (M:=ents b1 0 [(8,e32 p_X.toList),(8,e32 p_Y.toList),(8,e32 p_Z.toList)]) ⟨Src.own (j:=0) rfl,Src.own (j:=1) rfl,Src.own (j:=2) rfl,trivial⟩)) isAgg33 inf33 rfl (flat_len ⟨(lenV (f:=v32) p_X),(lenV (f:=v32) p_Y),(lenV (f:=v32) p_Z),trivial⟩ rfl)) ?_))))
 obtain ⟨r_1,hr_1,H⟩:=bind_elim H
 refine TLe (E_c0 (F64_calls p_X p_Y p_Z r_1 hr_1) call64 .z) (fun g_1=>?_)
 refine TVm ?_
 refine TLv V_ex ?_
 refine TLv V_ex ?_
 refine TLv V_ex ?_
 refine TLe (E_al32 8 inf31 zer31) (fun b2=>?_)
 refine TLe (E_al32 8 inf31 zer31) (fun b3=>?_)
 refine TLn (E_sv (vs:=e32 r_1.1.toList) 1 inf31) (fun _=>?_)
 refine TLn (E_sv (vs:=e32 r_1.2.1.toList) 0 inf31) (fun _=>?_)
 refine TVa ?_
 refine TL_nil (TX_next (TC_seq (TC_seq (TC_region (TVm ?_)))))
 refine TLv (V_un rfl (fun w=>notB w r_1.2.2)) ?_
 refine TL_nil (TX_next (TCb H (fun hc H=>?_) (fun hc H=>?_)))
 ·refine TC_seq (TC_region (TVa ?_))
  refine TVa ?_
  refine TL_nil (TX_next (TC_ret (TX_then_ret ?_)))
  obtain rfl:=sj H
  exact TX2
 ·refine TC_skip (TX_next (TC_seq ?_))
  obtain ⟨r_2,hr_2,H⟩:=bind_elim H
  obtain ⟨h1,H⟩:=if_elim H
  obtain ⟨r_3,hr_3,H⟩:=bind_elim H
  obtain ⟨h2,H⟩:=if_elim H
  obtain ⟨x1,hx1,H⟩:=ltt_elim H
  refine TA_begin [] 8 (by kernel_rfl) (N:=8) rfl ?_
  refine TA_mix (is:=[]) (done':=dn 8 63) [itV 0 15 (aG [(8,e32 r_1.1.toList)]) [],itV 1 16 (vs r_2) [0],itV 2 17 (vs (([4#8]:Str)++r_2)) [1],itV 3 18 (aG [(8,e32 r_1.2.1.toList)]) [],itV 4 19 (vs r_3) [3],itV 5 20 (vs ((([4#8]:Str)++r_2)++r_3)) [2,4]] [] 2 (by kernel_rfl) (QP.then QP.body) (by kernel_rfl) rfl (.v rfl (V_lag (.o 1) isAgg31 inf31) (.e rfl (E_cu (F51_calls r_1.1 r_2 hr_2) call51 .z) (.v rfl (V_bin rfl rfl (fun w=>addS w ([4#8]:Str) r_2 h1)) (.v rfl (V_lag (.o 0) isAgg31 inf31) (.e rfl (E_cu (F51_calls r_1.2.1 r_3 hr_3) call51 .z) (.v rfl (V_bin rfl rfl (fun w=>addS w (([4#8]:Str)++r_2) r_3 h2)) .nil)))))) .nil (by kernel_rfl) rfl (fun γ=>?_)
  refine TA_cut [(20,vs ((([4#8]:Str)++r_2)++r_3)),(3,vb false),(2,vs ([]:Str))] [⟨some (b3,0),e32 r_1.2.1.toList⟩,⟨some (b2,0),e32 r_1.1.toList⟩,⟨some (b1,0),e32 p_X.toList⟩,⟨some (b1,8),e32 p_Y.toList⟩,⟨some (b1,16),e32 p_Z.toList⟩] ⟨rfl,rfl,rfl,trivial⟩ rfl ?_
  refine TA_all (rs:=[6]) (by kernel_rfl) rfl ?_
  refine ⟨?_,trivial⟩
  refine TO_v (is:=[]) (done':=dn 8 127) rfl rfl rfl rfl (by kernel_rfl) (V_assign rfl) (fun _=>rfl) ?_
  refine TA_re (d:=2) (v:=vs ((([4#8]:Str)++r_2)++r_3)) (v':=vs x1) rfl (congrArg vs hx1) ?_
  refine TA_all (rs:=[7]) (by kernel_rfl) rfl ?_
  refine ⟨?_,trivial⟩
  refine TO_v (is:=[]) (done':=dn 8 255) rfl rfl rfl rfl (by kernel_rfl) (V_assign rfl) (fun _=>rfl) ?_
  refine TA_done (by kernel_rfl) ?_ 0
  refine TX_next (TC_ret ?_)
  obtain rfl:=sj H
  exact TX2
end Go.Proofs
end

section
namespace Go.Proofs
open Go Go.Kx
open Vector (replicate)
open TryI Try
def halberdref9_scalar (k:Str):Option (Vx 32 8 × Bool) :=
 (halberdref9_Number 1 k).bind fun (r_1:Vx 32 8 × Bool)=>(if r_1.2=true then (ltt (decide (r_1.1 ≠ (replicate 8 0#32:Vx 32 8))) fun (x1:Bool)=>(some (r_1.1,x1))) else (some (r_1.1,false)))
set_option maxHeartbeats 4000000 in
set_option maxRecDepth 20000 in
theorem F37_calls (k:Str) (r:Vx 32 8 × Bool) (H:halberdref9_scalar k=some r) :
  Does Try.prog 37 [vs k] [] [] (Γ:=Unit) (fun g=>Value.tuple [aG [(8,e32 r.1.toList)],vb r.2].toArray) (fun g=>[]):=by
 intro w hmem hro hd
 refine calls_of (N:=18) (m0:=[(0,vs k)]) func37 rfl ntmps37 (argM_ok [vs k]) rfl hmem hro hd ?_
 unfold halberdref9_scalar at H
 refine TC_seq (TC_region (TLe (E_al32 8 inf31 zer31) (fun b1=>?_)))
 refine TVa ?_
 refine TL_nil (TX_next (TC_seq (TC_region (TVm ?_))))
 obtain ⟨r_1,hr_1,H⟩:=bind_elim H
 refine TLe (E_c0 (F45_calls 1 k r_1 hr_1) call45 .z) (fun g_1=>?_)
 refine TVm ?_
 refine TLv V_ex ?_
 refine TLv V_ex ?_
 refine TLe (E_al32 8 inf31 zer31) (fun b2=>?_)
 refine TLn (E_sv (vs:=e32 r_1.1.toList) 0 inf31) (fun _=>?_)
 refine TVa ?_
 refine TL_nil (TX_next (TC_seq (TC_em r_1.2 (fun hg2_3=>?_) (fun hg2_3=>?_))))
 ·replace H:=ite_t hg2_3 H
  obtain ⟨x1,hx1,H⟩:=ltt_elim H
  refine TA_begin [⟨some (b2,0),e32 r_1.1.toList⟩] 8 (by kernel_rfl) (N:=9) rfl ?_
  refine TA_tk 0 [0] (dn 9 1) rfl rfl (V_lag (.o 0) isAgg31 inf31) ?_
  refine TA_tk 1 [0] (dn 9 3) rfl rfl (V_move rfl) ?_
  refine TA_tk 2 [0] (dn 9 7) rfl rfl (V_move rfl) ?_
  refine TA_re (d:=13) (v:=vb r_1.2) (v':=vb true) rfl (congrArg vb hg2_3) ?_
  refine TA_tw 3 [0] (dn 9 15) rfl rfl (V_lag (.o 0) isAgg31 inf31) ?_
  refine TA_tw 4 [0] (dn 9 31) rfl rfl (V_buildArr (pv:=[]) rfl rfl underlying31 inf31 inf29 rfl zer31 (cs:=e32 ((replicate 8 0#32:Vx 32 8).toList)) (by kernel_rfl)) ?_
  refine TA_tw 5 [0] (dn 9 63) rfl rfl (V_bin rfl rfl (fun w=>neqA32 w underlying31 underlying29 (by kernel_rfl) (by kernel_rfl) r_1.1 (replicate 8 0#32:Vx 32 8))) ?_
  refine TA_tk 6 [0] (dn 9 127) rfl rfl (V_pick (b:=true) rfl rfl) ?_
  refine TA_all (rs:=[7]) (by kernel_rfl) rfl ?_
  refine ⟨?_,trivial⟩
  refine TO_n (is:=[0]) (done':=dn 9 255) rfl rfl rfl (by kernel_rfl) (E_sv (vs:=e32 r_1.1.toList) 1 inf31) (fun _ _=>rfl) (fun _=>?_)
  refine TA_all (rs:=[8]) (by kernel_rfl) rfl ?_
  refine ⟨?_,trivial⟩
  refine TO_v (is:=[]) (R:=[]) (done':=dn 9 511) rfl rfl rfl rfl (by kernel_rfl) (V_assign rfl) (fun h=>by cases h) ?_
  refine TA_re (d:=3) (v:=vb (decide (r_1.1 ≠ (replicate 8 0#32:Vx 32 8)))) (v':=vb x1) rfl (congrArg vb hx1) ?_
  refine TA_done (by kernel_rfl) ?_ 0
  refine TX_next (TC_ret ?_)
  obtain rfl:=sj H
  exact TXr (vs:=[_,_]) rfl ⟨(Res_agg (n:=8) rfl (by simp) (.o 1) isAgg31 inf31 rfl (lenV (f:=v32) r_1.1)),rfl,trivial⟩
 ·replace H:=ite_f (Bool.eq_false_iff.1 hg2_3) H
  refine TA_begin [⟨some (b2,0),e32 r_1.1.toList⟩] 8 (by kernel_rfl) (N:=9) rfl ?_
  refine TA_tk 0 [0] (dn 9 1) rfl rfl (V_lag (.o 0) isAgg31 inf31) ?_
  refine TA_tk 1 [0] (dn 9 3) rfl rfl (V_move rfl) ?_
  refine TA_tk 2 [0] (dn 9 7) rfl rfl (V_move rfl) ?_
  refine TA_re (d:=13) (v:=vb r_1.2) (v':=vb false) rfl (congrArg vb hg2_3) ?_
  refine TA_ts 3 [0] (dn 9 15) rfl rfl ?_
  refine TA_ts 4 [0] (dn 9 31) rfl rfl ?_
  refine TA_ts 5 [0] (dn 9 63) rfl rfl ?_
  refine TA_tk 6 [0] (dn 9 127) rfl rfl (V_pick (b:=false) rfl rfl) ?_
  refine TA_all (rs:=[7]) (by kernel_rfl) rfl ?_
  refine ⟨?_,trivial⟩
  refine TO_n (is:=[0]) (done':=dn 9 255) rfl rfl rfl (by kernel_rfl) (E_sv (vs:=e32 r_1.1.toList) 1 inf31) (fun _ _=>rfl) (fun _=>?_)
  refine TA_all (rs:=[8]) (by kernel_rfl) rfl ?_
  refine ⟨?_,trivial⟩
  refine TO_v (is:=[]) (R:=[]) (done':=dn 9 511) rfl rfl rfl rfl (by kernel_rfl) (V_assign rfl) (fun h=>by cases h) ?_
  refine TA_done (by kernel_rfl) ?_ 0
  refine TX_next (TC_ret ?_)
  obtain rfl:=sj H
  exact TXr (vs:=[_,_]) rfl ⟨(Res_agg (n:=8) rfl (by simp) (.o 1) isAgg31 inf31 rfl (lenV (f:=v32) r_1.1)),rfl,trivial⟩
end Go.Proofs
end

section
namespace Go.Proofs
open Go Go.Kx
open Vector (replicate)
open TryI Try
def halberdref9_product.b0 (k:Vx 32 8) (p_X:Vx 32 8) (p_Y:Vx 32 8) (p_Z:Vx 32 8) (s0:Int × Vx 32 8 × Vx 32 8 × Vx 32 8):Option ((Int × Vx 32 8 × Vx 32 8 × Vx 32 8) ⊕ (Vx 32 8 × Vx 32 8 × Vx 32 8)) :=
 if 0≤s0.1 then ((halberdref9_twice s0.2.1 s0.2.2.1 s0.2.2.2).bind fun (r_1:Vx 32 8 × Vx 32 8 × Vx 32 8)=>(if 0≤w64 (s0.1.tdiv 32)∧w64 (s0.1.tdiv 32)<(8:Int) then (if 0≤s0.1.tmod 32 then (if (((vg k ((w64 (s0.1.tdiv 32)).toNat)) >>> (s0.1.tmod 32).toNat) &&& 1#32)=1#32 then ((halberdref9_together r_1.1 r_1.2.1 r_1.2.2 p_X p_Y p_Z).bind fun (r_2:Vx 32 8 × Vx 32 8 × Vx 32 8)=>(ltt (w64 (s0.1 - 1)) fun (i1:Int)=>(some (.inl (i1,r_2.1,r_2.2.1,r_2.2.2))))) else (ltt (w64 (s0.1 - 1)) fun (i2:Int)=>(some (.inl (i2,r_1.1,r_1.2.1,r_1.2.2))))) else none) else none)) else (some (.inr (s0.2.1,s0.2.2.1,s0.2.2.2)))
def halberdref9_product (k:Vx 32 8) (p_X:Vx 32 8) (p_Y:Vx 32 8) (p_Z:Vx 32 8):Option (Vx 32 8 × Vx 32 8 × Vx 32 8) :=
 (loop (halberdref9_product.b0 k p_X p_Y p_Z) BIG (255,replicate 8 0#32,replicate 8 0#32,replicate 8 0#32)).bind fun (t_1:Vx 32 8 × Vx 32 8 × Vx 32 8)=>(some (t_1.1,t_1.2.1,t_1.2.2))
set_option maxHeartbeats 4000000 in
set_option maxRecDepth 20000 in
theorem F39_calls (k:Vx 32 8) (p_X:Vx 32 8) (p_Y:Vx 32 8) (p_Z:Vx 32 8) (r:Vx 32 8 × Vx 32 8 × Vx 32 8) (H:halberdref9_product k p_X p_Y p_Z=some r) :
  Does Try.prog 39 [aG [(8,e32 k.toList)],aG [(8,e32 p_X.toList),(8,e32 p_Y.toList),(8,e32 p_Z.toList)]] [] [] (Γ:=Unit) (fun g=>aG [(8,e32 r.1.toList),(8,e32 r.2.1.toList),(8,e32 r.2.2.toList)]) (fun g=>[]):=by
 intro w hmem hro hd
 refine calls_of (N:=27) (m0:=[(0,aG [(8,e32 k.toList)]),(1,aG [(8,e32 p_X.toList),(8,e32 p_Y.toList),(8,e32 p_Z.toList)])]) func39 rfl ntmps39 (argM_ok [aG [(8,e32 k.toList)],aG [(8,e32 p_X.toList),(8,e32 p_Y.toList),(8,e32 p_Z.toList)]]) rfl hmem hro hd ?_
 unfold halberdref9_product at H
 refine TC_seq (TC_region (TLe (E_boxP [(8,e32 k.toList)] rfl rfl ⟨(lenV (f:=v32) k),trivial⟩) (fun b1=>?_)))
 refine TLe (E_boxP [(8,e32 p_X.toList),(8,e32 p_Y.toList),(8,e32 p_Z.toList)] rfl rfl ⟨(lenV (f:=v32) p_X),(lenV (f:=v32) p_Y),(lenV (f:=v32) p_Z),trivial⟩) (fun b2=>?_)
 refine TLe (E_allocP [(8,e32 ((replicate 8 0#32).toList)),(8,e32 ((replicate 8 0#32).toList)),(8,e32 ((replicate 8 0#32).toList))] inf33 zer33 ⟨(lenV (f:=v32) (replicate 8 0#32)),(lenV (f:=v32) (replicate 8 0#32)),(lenV (f:=v32) (replicate 8 0#32)),trivial⟩) (fun b3=>?_)
 refine TL_nil (TX_next (TC_seq (TC_region (TLv (V_buildStruct (pv:=[]) (pl:=[(0,8),(8,8),(16,8)]) rfl rfl underlying33 inf33 places33 zer33 (cs:=flat [(8,e32 ((replicate 8 0#32).toList)),(8,e32 ((replicate 8 0#32).toList)),(8,e32 ((replicate 8 0#32).toList))]) fill_end) ?_))))
 refine TLe (E_allocP [(8,e32 ((replicate 8 0#32).toList)),(8,e32 ((replicate 8 0#32).toList)),(8,e32 ((replicate 8 0#32).toList))] inf33 zer33 ⟨(lenV (f:=v32) (replicate 8 0#32)),(lenV (f:=v32) (replicate 8 0#32)),(lenV (f:=v32) (replicate 8 0#32)),trivial⟩) (fun b4=>?_)
 refine TLn (E_sp (b:=b4) (o:=0) [0,0,0] [(8,e32 ((replicate 8 0#32).toList)),(8,e32 ((replicate 8 0#32).toList)),(8,e32 ((replicate 8 0#32).toList))] [(8,e32 ((replicate 8 0#32).toList)),(8,e32 ((replicate 8 0#32).toList)),(8,e32 ((replicate 8 0#32).toList))] rfl inf33 ⟨(lenV (f:=v32) (replicate 8 0#32)),(lenV (f:=v32) (replicate 8 0#32)),(lenV (f:=v32) (replicate 8 0#32)),trivial⟩ ⟨(lenV (f:=v32) (replicate 8 0#32)),(lenV (f:=v32) (replicate 8 0#32)),(lenV (f:=v32) (replicate 8 0#32)),trivial⟩ ⟨(OneC.map (fun _=>rfl) _),(OneC.map (fun _=>rfl) _),(OneC.map (fun _=>rfl) _),trivial⟩) (fun _=>?_)
 refine TL_nil (TX_next (TC_seq (TC_seq (TC_region (TVa ?_)))))
 refine TL_nil (TX_next (TC_block ?_))
 obtain ⟨t_1,Hl,H⟩:=bind_elim H
 refine TC.sub (m':=[(2,_),(3,_),(4,_),(5,_),(6,_)]) ⟨rfl,rfl,rfl,rfl,rfl,trivial⟩ ?_
 refine TC.pull (is:=[9,6,6,6,3,3,3,0,0,0]) (L':=[_,_,_,_,_,_,_,_,_,_]) rfl ?_
 refine TC_loopL (id:=0) (body:=(halberdref9_product.b0 k p_X p_Y p_Z)) (σ:=Int × Vx 32 8 × Vx 32 8 × Vx 32 8) (Γ:=Unit) (Γx:=Unit) (fun s0 g0_=>[(2,ptr (some (b1,0)) 0),(3,ptr (some (b2,0)) 0),(4,ptr (some (b3,0)) 0),(5,ptr (some (b4,0)) 0),(6,vi s0.1)]) (fun s0 g0_=>[⟨some (b1,0),e32 k.toList⟩,⟨some (b2,0),e32 p_X.toList⟩,⟨some (b2,8),e32 p_Y.toList⟩,⟨some (b2,16),e32 p_Z.toList⟩,⟨some (b3,0),e32 ((replicate 8 0#32).toList)⟩,⟨some (b3,8),e32 ((replicate 8 0#32).toList)⟩,⟨some (b3,16),e32 ((replicate 8 0#32).toList)⟩,⟨some (b4,0),e32 s0.2.1.toList⟩,⟨some (b4,8),e32 s0.2.2.1.toList⟩,⟨some (b4,16),e32 s0.2.2.2.toList⟩]) (fun t g=>[(4,ptr (some (b3,0)) 0),(5,ptr (some (b4,0)) 0)]) (fun t g=>[⟨some (b3,0),e32 ((replicate 8 0#32).toList)⟩,⟨some (b3,8),e32 ((replicate 8 0#32).toList)⟩,⟨some (b3,16),e32 ((replicate 8 0#32).toList)⟩,⟨some (b4,0),e32 t.1.toList⟩,⟨some (b4,8),e32 t.2.1.toList⟩,⟨some (b4,16),e32 t.2.2.toList⟩]) ?_ BIG (255,replicate 8 0#32,replicate 8 0#32,replicate 8 0#32) () t_1 Hl ?_
 ·intro s0 g0_ r1 H K hK hE
  unfold halberdref9_product.b0 at H
  refine TC_seq (TC_seq (TC_region (TVm ?_)))
  refine TLv (V_bin rfl rfl (fun w=>geqI w s0.1 0)) ?_
  refine TL_nil (TX_next (TCd H (fun hc H=>?_) (fun hc H=>?_)))
  ·refine TC_skip (TX_next (TC_seq (TC_block (TC_seq (TC_region (TLv (V_loadAgg (n:=24) (cs:=flat [(8,e32 s0.2.1.toList),(8,e32 s0.2.2.1.toList),(8,e32 s0.2.2.2.toList)]) rfl (by simp) (SrcEnts (b:=b4) [(8,e32 s0.2.1.toList),(8,e32 s0.2.2.1.toList),(8,e32 s0.2.2.2.toList)] 0 ⟨(lenV (f:=v32) s0.2.1),(lenV (f:=v32) s0.2.2.1),(lenV (f:=v32) s0.2.2.2),trivial⟩ (AllSrc.all (M:=ents b4 0 [(8,e32 s0.2.1.toList),(8,e32 s0.2.2.1.toList),(8,e32 s0.2.2.2.toList)]) ⟨Src.own (j:=7) rfl,Src.own (j:=8) rfl,Src.own (j:=9) rfl,trivial⟩)) isAgg33 inf33 rfl (flat_len ⟨(lenV (f:=v32) s0.2.1),(lenV (f:=v32) s0.2.2.1),(lenV (f:=v32) s0.2.2.2),trivial⟩ rfl)) ?_))))))
   obtain ⟨r_1,hr_1,H⟩:=bind_elim H
   refine TLe (E_c0 (F76_calls s0.2.1 s0.2.2.1 s0.2.2.2 r_1 hr_1) call76 .z) (fun g_1=>?_)
   refine TLn (E_sp (b:=b4) (o:=0) [7,7,7] [(8,e32 s0.2.1.toList),(8,e32 s0.2.2.1.toList),(8,e32 s0.2.2.2.toList)] [(8,e32 r_1.1.toList),(8,e32 r_1.2.1.toList),(8,e32 r_1.2.2.toList)] rfl inf33 ⟨(lenV (f:=v32) s0.2.1),(lenV (f:=v32) s0.2.2.1),(lenV (f:=v32) s0.2.2.2),trivial⟩ ⟨(lenV (f:=v32) r_1.1),(lenV (f:=v32) r_1.2.1),(lenV (f:=v32) r_1.2.2),trivial⟩ ⟨(OneC.map (fun _=>rfl) _),(OneC.map (fun _=>rfl) _),(OneC.map (fun _=>rfl) _),trivial⟩) (fun _=>?_)
   refine TL_nil (TX_next (TC_seq (TC_region (TVm ?_))))
   refine TLv (V_bin rfl rfl (fun w=>quoI w s0.1 32 (by decide))) ?_
   obtain ⟨h1,H⟩:=if_elim H
   refine TLv (V_idxArr (i:=w64 (s0.1.tdiv 32)) rfl rfl underlying31 inf29 rfl h1.1 h1.2 (k:=(w64 (s0.1.tdiv 32)).toNat) (k01 _)) ?_
   refine TLv (V_load rfl (.o 3) (get_vec (f:=v32) (V:=k) (toNat_lt h1.1 h1.2)) isAgg29) ?_
   refine TVm ?_
   refine TLv (V_bin rfl rfl (fun w=>remI w s0.1 32 (by decide))) ?_
   obtain ⟨h2,H⟩:=if_elim H
   refine TLv (V_bin rfl rfl (fun w=>shr32 w (vg k ((w64 (s0.1.tdiv 32)).toNat)) .i64 (s0.1.tmod 32) h2)) ?_
   refine TLv (V_bin rfl rfl (fun w=>and32 w ((vg k ((w64 (s0.1.tdiv 32)).toNat)) >>> (s0.1.tmod 32).toNat) 1#32)) ?_
   refine TLv (V_bin rfl rfl (fun w=>eql32 w (((vg k ((w64 (s0.1.tdiv 32)).toNat)) >>> (s0.1.tmod 32).toNat) &&& 1#32) 1#32)) ?_
   refine TL_nil (TX_next (TCd H (fun hc H=>?_) (fun hc H=>?_)))
   ·refine TC_region (TLv (V_loadAgg (n:=24) (cs:=flat [(8,e32 r_1.1.toList),(8,e32 r_1.2.1.toList),(8,e32 r_1.2.2.toList)]) rfl (by simp) (SrcEnts (b:=b4) [(8,e32 r_1.1.toList),(8,e32 r_1.2.1.toList),(8,e32 r_1.2.2.toList)] 0 ⟨(lenV (f:=v32) r_1.1),(lenV (f:=v32) r_1.2.1),(lenV (f:=v32) r_1.2.2),trivial⟩ (AllSrc.all (M:=ents b4 0 [(8,e32 r_1.1.toList),(8,e32 r_1.2.1.toList),(8,e32 r_1.2.2.toList)]) ⟨Src.own (j:=0) rfl,Src.own (j:=1) rfl,Src.own (j:=2) rfl,trivial⟩)) isAgg33 inf33 rfl (flat_len ⟨(lenV (f:=v32) r_1.1),(lenV (f:=v32) r_1.2.1),(lenV (f:=v32) r_1.2.2),trivial⟩ rfl)) ?_)
    refine TLv (V_loadAgg (n:=24) (cs:=flat [(8,e32 p_X.toList),(8,e32 p_Y.toList),(8,e32 p_Z.toList)]) rfl (by simp) (SrcEnts (b:=b2) [(8,e32 p_X.toList),(8,e32 p_Y.toList),(8,e32 p_Z.toList)] 0 ⟨(lenV (f:=v32) p_X),(lenV (f:=v32) p_Y),(lenV (f:=v32) p_Z),trivial⟩ (AllSrc.all (M:=ents b2 0 [(8,e32 p_X.toList),(8,e32 p_Y.toList),(8,e32 p_Z.toList)]) ⟨Src.own (j:=4) rfl,Src.own (j:=5) rfl,Src.own (j:=6) rfl,trivial⟩)) isAgg33 inf33 rfl (flat_len ⟨(lenV (f:=v32) p_X),(lenV (f:=v32) p_Y),(lenV (f:=v32) p_Z),trivial⟩ rfl)) ?_
    obtain ⟨r_2,hr_2,H⟩:=bind_elim H
    refine TLe (E_c0 (F44_calls r_1.1 r_1.2.1 r_1.2.2 p_X p_Y p_Z r_2 hr_2) call44 .z) (fun g_2=>?_)
    refine TLn (E_sp (b:=b4) (o:=0) [0,0,0] [(8,e32 r_1.1.toList),(8,e32 r_1.2.1.toList),(8,e32 r_1.2.2.toList)] [(8,e32 r_2.1.toList),(8,e32 r_2.2.1.toList),(8,e32 r_2.2.2.toList)] rfl inf33 ⟨(lenV (f:=v32) r_1.1),(lenV (f:=v32) r_1.2.1),(lenV (f:=v32) r_1.2.2),trivial⟩ ⟨(lenV (f:=v32) r_2.1),(lenV (f:=v32) r_2.2.1),(lenV (f:=v32) r_2.2.2),trivial⟩ ⟨(OneC.map (fun _=>rfl) _),(OneC.map (fun _=>rfl) _),(OneC.map (fun _=>rfl) _),trivial⟩) (fun _=>?_)
    refine TL_nil (TX_block_normal (TX_next (TC_region (TVm ?_))))
    refine TLv (V_bin rfl rfl (fun w=>subI w s0.1 1)) ?_
    refine TVa ?_
    obtain ⟨i1,hi1,H⟩:=ltt_elim H
    refine TLr 6 (congrArg vi hi1) ?_
    refine TL_nil ?_
    obtain rfl:=sj H
    exact TXk [3,3,3,3,3,3,3,0,0,0] (hK (i1,r_2.1,r_2.2.1,r_2.2.2) rfl ())
   ·refine TC_skip (TX_block_normal (TX_next (TC_region (TVm ?_))))
    refine TLv (V_bin rfl rfl (fun w=>subI w s0.1 1)) ?_
    refine TVa ?_
    obtain ⟨i2,hi2,H⟩:=ltt_elim H
    refine TLr 6 (congrArg vi hi2) ?_
    refine TL_nil ?_
    obtain rfl:=sj H
    exact TXk [3,3,3,3,3,3,3,0,0,0] (hK (i2,r_1.1,r_1.2.1,r_1.2.2) rfl ())
  ·refine TC_exit (TX_then_exit (TX_then_exit ?_))
   obtain rfl:=sj H
   exact TXj [4,4,4,4,4,4] (hE (s0.2.1,s0.2.2.1,s0.2.2.2) rfl ())
 ·intro g
  refine TX_block_exit (TX_next (TC_seq (TC_region (TLv (V_loadAgg (n:=24) (cs:=flat [(8,e32 t_1.1.toList),(8,e32 t_1.2.1.toList),(8,e32 t_1.2.2.toList)]) rfl (by simp) (SrcEnts (b:=b4) [(8,e32 t_1.1.toList),(8,e32 t_1.2.1.toList),(8,e32 t_1.2.2.toList)] 0 ⟨(lenV (f:=v32) t_1.1),(lenV (f:=v32) t_1.2.1),(lenV (f:=v32) t_1.2.2),trivial⟩ (AllSrc.all (M:=ents b4 0 [(8,e32 t_1.1.toList),(8,e32 t_1.2.1.toList),(8,e32 t_1.2.2.toList)]) ⟨Src.own (j:=3) rfl,Src.own (j:=4) rfl,Src.own (j:=5) rfl,trivial⟩)) isAgg33 inf33 rfl (flat_len ⟨(lenV (f:=v32) t_1.1),(lenV (f:=v32) t_1.2.1),(lenV (f:=v32) t_1.2.2),trivial⟩ rfl)) ?_))))
  refine TLn (E_sp (b:=b3) (o:=0) [0,0,0] [(8,e32 ((replicate 8 0#32).toList)),(8,e32 ((replicate 8 0#32).toList)),(8,e32 ((replicate 8 0#32).toList))] [(8,e32 t_1.1.toList),(8,e32 t_1.2.1.toList),(8,e32 t_1.2.2.toList)] rfl inf33 ⟨(lenV (f:=v32) (replicate 8 0#32)),(lenV (f:=v32) (replicate 8 0#32)),(lenV (f:=v32) (replicate 8 0#32)),trivial⟩ ⟨(lenV (f:=v32) t_1.1),(lenV (f:=v32) t_1.2.1),(lenV (f:=v32) t_1.2.2),trivial⟩ ⟨(OneC.map (fun _=>rfl) _),(OneC.map (fun _=>rfl) _),(OneC.map (fun _=>rfl) _),trivial⟩) (fun _=>?_)
  refine TL_nil (TX_next (TC_ret ?_))
  obtain rfl:=sj H
  exact TXr (vs:=[_]) rfl ⟨(Res_agg (n:=24) (cs:=flat [(8,e32 t_1.1.toList),(8,e32 t_1.2.1.toList),(8,e32 t_1.2.2.toList)]) rfl (by simp) (SrcEnts (b:=b3) [(8,e32 t_1.1.toList),(8,e32 t_1.2.1.toList),(8,e32 t_1.2.2.toList)] 0 ⟨(lenV (f:=v32) t_1.1),(lenV (f:=v32) t_1.2.1),(lenV (f:=v32) t_1.2.2),trivial⟩ (AllSrc.all (M:=ents b3 0 [(8,e32 t_1.1.toList),(8,e32 t_1.2.1.toList),(8,e32 t_1.2.2.toList)]) ⟨Src.own (j:=0) rfl,Src.own (j:=1) rfl,Src.own (j:=2) rfl,trivial⟩)) isAgg33 inf33 rfl (by simp [flat])),trivial⟩
end Go.Proofs
end

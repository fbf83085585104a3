/-
  Part 29 of the proof of what several laws share.
-/
import Derived.Test.YtiofnmmggblcgaaEsC1
import Derived.Test.YtiofnmmggblcgaaEsC2
import Derived.Test.YtiofnmmggblcgaaEsC3
import Derived.Test.YtiofnmmggblcgaaEsC4
import Derived.Test.YtiofnmmggblcgaaEsC5
import Derived.Test.YtiofnmmggblcgaaEsC6
import Derived.Test.YtiofnmmggblcgaaEsC7
import Derived.Test.YtiofnmmggblcgaaEsC8
import Derived.Test.YtiofnmmggblcgaaEsC9
import Derived.Test.YtiofnmmggblcgaaEsC10
import Derived.Test.YtiofnmmggblcgaaEsC11
import Derived.Test.YtiofnmmggblcgaaEsC12
import Derived.Test.YtiofnmmggblcgaaEsC13
import Derived.Test.YtiofnmmggblcgaaEsC14
import Derived.Test.YtiofnmmggblcgaaEsC15
import Derived.Test.YtiofnmmggblcgaaEsC16
import Derived.Test.YtiofnmmggblcgaaEsC17
import Derived.Test.YtiofnmmggblcgaaEsC18
import Derived.Test.YtiofnmmggblcgaaEsC19
import Derived.Test.YtiofnmmggblcgaaEsC20
import Derived.Test.YtiofnmmggblcgaaEsC21
import Derived.Test.YtiofnmmggblcgaaEsC22
import Derived.Test.YtiofnmmggblcgaaEsC23
import Derived.Test.YtiofnmmggblcgaaEsC24
import Derived.Test.YtiofnmmggblcgaaEsC25
import Derived.Test.YtiofnmmggblcgaaEsC26
import Derived.Test.YtiofnmmggblcgaaEsC27
import Derived.Test.YtiofnmmggblcgaaEsC28
set_option linter.unusedVariables false
set_option linter.unusedSimpArgs false
section
namespace Go.Proofs
open Go Go.Kx
open Vector (replicate)
open TryI Try
def halberdref9_Verify (public_:Str) (digest:Str) (sig:Str):Option (Int) :=
 (halberdref9_Decode public_).bind fun (r_1:Vx 32 8 × Vx 32 8 × Vx 32 8 × Bool)=>((if (!r_1.2.2.2)=true then (some true) else (if ((digest).length:Int) ≠ 32 then (some true) else (if ((sig).length:Int)<2 then (some true) else (if 0≤(0:Int)∧(0:Int)<((sig).length:Int) then (if (sg sig 0) ≠ 48#8 then (some true) else (if 0≤(1:Int)∧(1:Int)<((sig).length:Int) then (some (decide (((sg sig 1).toNat:Int) ≠ (w64 (((sig).length:Int) - 2))))) else none)) else none)))).bind fun (j1:Bool)=>(if j1=true then (some 1200) else ((halberdref9_taken sig 2).bind fun (r_2:Vx 32 8 × Int × Bool)=>(if (!r_2.2.2)=true then (some 1200) else ((halberdref9_taken sig r_2.2.1).bind fun (r_3:Vx 32 8 × Int × Bool)=>((if (!r_3.2.2)=true then (some true) else (some (decide (r_3.2.1 ≠ ((sig).length:Int))))).bind fun (j2:Bool)=>(if j2=true then (some 1200) else ((halberdref9_inv 1 r_3.1).bind fun (r_4:Vx 32 8)=>((halberdref9_get digest).bind fun (r_5:Vx 32 8)=>((halberdref9_small r_5).bind fun (r_6:Vx 32 8)=>((halberdref9_mul 1 r_6 r_4).bind fun (r_7:Vx 32 8)=>((halberdref9_mul 1 r_2.1 r_4).bind fun (r_8:Vx 32 8)=>((halberdref9_G).bind fun (r_9:Vx 32 8 × Vx 32 8 × Vx 32 8)=>((halberdref9_product r_7 r_9.1 r_9.2.1 r_9.2.2).bind fun (r_10:Vx 32 8 × Vx 32 8 × Vx 32 8)=>((halberdref9_product r_8 r_1.1 r_1.2.1 r_1.2.2.1).bind fun (r_11:Vx 32 8 × Vx 32 8 × Vx 32 8)=>((halberdref9_together r_10.1 r_10.2.1 r_10.2.2 r_11.1 r_11.2.1 r_11.2.2).bind fun (r_12:Vx 32 8 × Vx 32 8 × Vx 32 8)=>((halberdref9_plain r_12.1 r_12.2.1 r_12.2.2).bind fun (r_13:Vx 32 8 × Vx 32 8 × Bool)=>(if (!r_13.2.2)=true then (some 1201) else ((halberdref9_small r_13.1).bind fun (r_14:Vx 32 8)=>(if r_14 ≠ r_2.1 then (some 1201) else (some 0)))))))))))))))))))))
set_option maxHeartbeats 4000000 in
set_option maxRecDepth 20000 in
theorem F28_calls (public_:Str) (digest:Str) (sig:Str) (r:Int) (H:halberdref9_Verify public_ digest sig=some r) :
  Does Try.prog 28 [vs public_,vs digest,vs sig] [] [] (Γ:=Unit) (fun g=>vi r) (fun g=>[]):=by
 intro w hmem hro hd
 refine calls_of (N:=109) (m0:=[(0,vs public_),(1,vs digest),(2,vs sig)]) func28 rfl ntmps28 (argM_ok [vs public_,vs digest,vs sig]) rfl hmem hro hd ?_
 unfold halberdref9_Verify at H
 refine TC_seq (TC_region (TVa ?_))
 refine TL_nil (TX_next (TC_seq (TC_region (TVm ?_))))
 obtain ⟨r_1,hr_1,H⟩:=bind_elim H
 refine TLe (E_c0 (F19_calls public_ r_1 hr_1) call19 .z) (fun g_1=>?_)
 refine TVm ?_
 refine TLv V_ex ?_
 refine TLv V_ex ?_
 refine TLe (E_allocP [(8,e32 ((replicate 8 0#32).toList)),(8,e32 ((replicate 8 0#32).toList)),(8,e32 ((replicate 8 0#32).toList))] inf33 zer33 ⟨(lenV (f:=v32) (replicate 8 0#32)),(lenV (f:=v32) (replicate 8 0#32)),(lenV (f:=v32) (replicate 8 0#32)),trivial⟩) (fun b1=>?_)
 refine TLn (E_sp (b:=b1) (o:=0) [0,0,0] [(8,e32 ((replicate 8 0#32).toList)),(8,e32 ((replicate 8 0#32).toList)),(8,e32 ((replicate 8 0#32).toList))] [(8,e32 r_1.1.toList),(8,e32 r_1.2.1.toList),(8,e32 r_1.2.2.1.toList)] rfl inf33 ⟨(lenV (f:=v32) (replicate 8 0#32)),(lenV (f:=v32) (replicate 8 0#32)),(lenV (f:=v32) (replicate 8 0#32)),trivial⟩ ⟨(lenV (f:=v32) r_1.1),(lenV (f:=v32) r_1.2.1),(lenV (f:=v32) r_1.2.2.1),trivial⟩ ⟨(OneC.map (fun _=>rfl) _),(OneC.map (fun _=>rfl) _),(OneC.map (fun _=>rfl) _),trivial⟩) (fun _=>?_)
 refine TVa ?_
 refine TL_nil (TX_next (TC_seq (TC_seq (TC_region (TVm ?_)))))
 refine TLv (V_un rfl (fun w=>notB w r_1.2.2.2)) ?_
 refine TVm ?_
 obtain ⟨j1,Hj,H⟩:=bind_elim H
 refine TL_join (Γ:=Unit) (fun gj1=>[(1,vs digest),(2,vs sig),(7,ptr (some (b1,0)) 0),(52,vb j1)]) (fun gj1=>[⟨some (b1,0),e32 r_1.1.toList⟩,⟨some (b1,8),e32 r_1.2.1.toList⟩,⟨some (b1,16),e32 r_1.2.2.1.toList⟩]) ?_ ?_
 ·intro gj1
  refine TX_next (TCb H (fun hc H=>?_) (fun hc H=>?_))
  ·refine TC_seq (TC_region (TVa ?_))
   refine TL_nil (TX_next (TC_ret (TX_then_ret ?_)))
   obtain rfl:=sj H
   exact TX1
  ·refine TC_skip (TX_next (TC_seq (TC_region (TVm ?_))))
   obtain ⟨r_2,hr_2,H⟩:=bind_elim H
   refine TLe (E_c0 (F71_calls sig 2 r_2 hr_2) call71 .z) (fun g_2=>?_)
   refine TVm ?_
   refine TLv V_ex ?_
   refine TLv V_ex ?_
   refine TLv V_ex ?_
   refine TLe (E_al32 8 inf31 zer31) (fun b2=>?_)
   refine TLn (E_sv (vs:=e32 r_2.1.toList) 0 inf31) (fun _=>?_)
   refine TVa ?_
   refine TVa ?_
   refine TL_nil (TX_next (TC_seq (TC_seq (TC_region (TVm ?_)))))
   refine TLv (V_un rfl (fun w=>notB w r_2.2.2)) ?_
   refine TL_nil (TX_next (TCb H (fun hc H=>?_) (fun hc H=>?_)))
   ·refine TC_seq (TC_region (TVa ?_))
    refine TL_nil (TX_next (TC_ret (TX_then_ret ?_)))
    obtain rfl:=sj H
    exact TX1
   ·refine TC_skip (TX_next (TC_seq (TC_region (TVm ?_))))
    refine TVm ?_
    obtain ⟨r_3,hr_3,H⟩:=bind_elim H
    refine TLe (E_c0 (F71_calls sig r_2.2.1 r_3 hr_3) call71 .z) (fun g_3=>?_)
    refine TVm ?_
    refine TLv V_ex ?_
    refine TLv V_ex ?_
    refine TLv V_ex ?_
    refine TLe (E_al32 8 inf31 zer31) (fun b3=>?_)
    refine TLn (E_sv (vs:=e32 r_3.1.toList) 0 inf31) (fun _=>?_)
    refine TVa ?_
    refine TVa ?_
    refine TL_nil (TX_next (TC_seq (TC_seq (TC_region (TVm ?_)))))
    refine TLv (V_un rfl (fun w=>notB w r_3.2.2)) ?_
    refine TVm ?_
    obtain ⟨j2,Hj,H⟩:=bind_elim H
    refine TL_join (Γ:=Unit) (fun gj2=>[(1,vs digest),(7,ptr (some (b1,0)) 0),(9,ptr (some (b2,0)) 0),(12,ptr (some (b3,0)) 0),(75,vb j2)]) (fun gj2=>[⟨some (b1,0),e32 r_1.1.toList⟩,⟨some (b1,8),e32 r_1.2.1.toList⟩,⟨some (b1,16),e32 r_1.2.2.1.toList⟩,⟨some (b2,0),e32 r_2.1.toList⟩,⟨some (b3,0),e32 r_3.1.toList⟩]) ?_ ?_
    ·intro gj2
     refine TX_next (TCb H (fun hc H=>?_) (fun hc H=>?_))
     ·refine TC_seq (TC_region (TVa ?_))
      refine TL_nil (TX_next (TC_ret (TX_then_ret ?_)))
      obtain rfl:=sj H
      exact TX1
     ·refine TC_skip (TX_next (TC_seq (TC_region (TVa ?_))))
      refine TL_nil (TX_next (TC_seq (TC_region (TVm ?_))))
      refine TLv (V_lag (.o 4) isAgg31 inf31) ?_
      obtain ⟨r_4,hr_4,H⟩:=bind_elim H
      refine TLe (E_c0 (F66_calls 1 r_3.1 r_4 hr_4) call66 .z) (fun g_4=>?_)
      refine TLe (E_al32 8 inf31 zer31) (fun b4=>?_)
      refine TLn (E_sv (vs:=e32 r_4.toList) 0 inf31) (fun _=>?_)
      refine TL_nil (TX_next (TC_seq ?_))
      obtain ⟨r_5,hr_5,H⟩:=bind_elim H
      obtain ⟨r_6,hr_6,H⟩:=bind_elim H
      obtain ⟨r_7,hr_7,H⟩:=bind_elim H
      obtain ⟨r_8,hr_8,H⟩:=bind_elim H
      refine TA_begin [] 14 (by kernel_rfl) (N:=14) rfl ?_
      refine TA_mix (is:=[]) (done':=dn 14 4095) [itV 0 79 (vi 1) [],itV 1 80 (vs digest) [],itV 2 81 (aG [(8,e32 r_5.toList)]) [1],itV 3 82 (aG [(8,e32 r_6.toList)]) [2],itV 4 83 (aG [(8,e32 r_4.toList)]) [],itV 5 84 (aG [(8,e32 r_7.toList)]) [3,4,0],itV 6 85 (vi 1) [],itV 7 86 (aG [(8,e32 r_2.1.toList)]) [],itV 8 87 (aG [(8,e32 r_4.toList)]) [],itV 9 88 (aG [(8,e32 r_8.toList)]) [6,7,8],itA32 10 17 8,itA32 11 18 8] [] 2 (by kernel_rfl) (QP.then QP.body) (by kernel_rfl) rfl (.v rfl (V_move rfl) (.v rfl (V_move rfl) (.e rfl (E_cu (F67_calls digest r_5 hr_5) call67 .z) (.e rfl (E_cu (F65_calls r_5 r_6 hr_6) call65 .z) (.v rfl (V_lag (.o 0) isAgg31 inf31) (.e rfl (E_cu (F52_calls 1 r_6 r_4 r_7 hr_7) call52 .z) (.v rfl (V_move rfl) (.v rfl (V_lag (.o 4) isAgg31 inf31) (.v rfl (V_lag (.o 0) isAgg31 inf31) (.e rfl (E_cu (F52_calls 1 r_2.1 r_4 r_8 hr_8) call52 .z) (.c rfl (fun _ _=>(E_al32 8 inf31 zer31)) (.c rfl (fun _ _=>(E_al32 8 inf31 zer31)) .nil)))))))))))) .nil (by kernel_rfl) rfl (fun γ=>?_)
      refine TA_cut [(18,ptr (some ((γ 11),0)) 0),(17,ptr (some ((γ 10),0)) 0),(88,aG [(8,e32 r_8.toList)]),(84,aG [(8,e32 r_7.toList)]),(7,ptr (some (b1,0)) 0),(9,ptr (some (b2,0)) 0)] [⟨some ((γ 11),0),e32 ((replicate 8 0#32).toList)⟩,⟨some ((γ 10),0),e32 ((replicate 8 0#32).toList)⟩,⟨some (b4,0),e32 r_4.toList⟩,⟨some (b1,0),e32 r_1.1.toList⟩,⟨some (b1,8),e32 r_1.2.1.toList⟩,⟨some (b1,16),e32 r_1.2.2.1.toList⟩,⟨some (b2,0),e32 r_2.1.toList⟩,⟨some (b3,0),e32 r_3.1.toList⟩] ⟨rfl,rfl,rfl,rfl,rfl,rfl,trivial⟩ rfl ?_
      generalize γ 10=b5
      generalize γ 11=b6
      refine TA_all (rs:=[12]) (by kernel_rfl) rfl ?_
      refine ⟨?_,trivial⟩
      refine TO_n (is:=[]) (done':=dn 14 8191) rfl rfl rfl (by kernel_rfl) (E_sv (vs:=e32 r_7.toList) 1 inf31) (fun _ _=>rfl) (fun _=>?_)
      refine TA_all (rs:=[13]) (by kernel_rfl) rfl ?_
      refine ⟨?_,trivial⟩
      refine TO_n (is:=[]) (done':=dn 14 16383) rfl rfl rfl (by kernel_rfl) (E_sv (vs:=e32 r_8.toList) 0 inf31) (fun _ _=>rfl) (fun _=>?_)
      refine TA_done (by kernel_rfl) ?_ 0
      refine TX_next (TC_seq ?_)
      obtain ⟨r_9,hr_9,H⟩:=bind_elim H
      obtain ⟨r_10,hr_10,H⟩:=bind_elim H
      obtain ⟨r_11,hr_11,H⟩:=bind_elim H
      obtain ⟨r_12,hr_12,H⟩:=bind_elim H
      obtain ⟨r_13,hr_13,H⟩:=bind_elim H
      refine TA_begin [⟨some (b6,0),e32 r_8.toList⟩,⟨some (b5,0),e32 r_7.toList⟩,⟨some (b4,0),e32 r_4.toList⟩,⟨some (b1,0),e32 r_1.1.toList⟩,⟨some (b1,8),e32 r_1.2.1.toList⟩,⟨some (b1,16),e32 r_1.2.2.1.toList⟩,⟨some (b2,0),e32 r_2.1.toList⟩,⟨some (b3,0),e32 r_3.1.toList⟩] 16 (by kernel_rfl) (N:=17) rfl ?_
      refine TA_tk 0 [0,0,0,0,0,0,0,0] (dn 17 1) rfl rfl (V_lag (.o 1) isAgg31 inf31) ?_
      refine TA_tk 3 [0,0,0,0,0,0,0,0] (dn 17 9) rfl rfl (V_lag (.o 0) isAgg31 inf31) ?_
      refine TA_tk 4 [0,0,0,0,0,0,0,0] (dn 17 25) rfl rfl (V_loadAgg (n:=24) (cs:=flat [(8,e32 r_1.1.toList),(8,e32 r_1.2.1.toList),(8,e32 r_1.2.2.1.toList)]) rfl (by simp) (SrcEnts (b:=b1) [(8,e32 r_1.1.toList),(8,e32 r_1.2.1.toList),(8,e32 r_1.2.2.1.toList)] 0 ⟨(lenV (f:=v32) r_1.1),(lenV (f:=v32) r_1.2.1),(lenV (f:=v32) r_1.2.2.1),trivial⟩ (AllSrc.all (M:=ents b1 0 [(8,e32 r_1.1.toList),(8,e32 r_1.2.1.toList),(8,e32 r_1.2.2.1.toList)]) ⟨Src.own (j:=3) rfl,Src.own (j:=4) rfl,Src.own (j:=5) rfl,trivial⟩)) isAgg33 inf33 rfl (flat_len ⟨(lenV (f:=v32) r_1.1),(lenV (f:=v32) r_1.2.1),(lenV (f:=v32) r_1.2.2.1),trivial⟩ rfl)) ?_
      refine TA_mix (is:=[0,0,0,0,0,0,0,0]) (done':=dn 17 16383) [itV 1 91 (aG [(8,e32 r_9.1.toList),(8,e32 r_9.2.1.toList),(8,e32 r_9.2.2.toList)]) [],itV 2 92 (aG [(8,e32 r_10.1.toList),(8,e32 r_10.2.1.toList),(8,e32 r_10.2.2.toList)]) [1],itV 5 95 (aG [(8,e32 r_11.1.toList),(8,e32 r_11.2.1.toList),(8,e32 r_11.2.2.toList)]) [],itV 6 96 (aG [(8,e32 r_12.1.toList),(8,e32 r_12.2.1.toList),(8,e32 r_12.2.2.toList)]) [2,5],itV 7 97 (Value.tuple [aG [(8,e32 r_13.1.toList)],aG [(8,e32 r_13.2.1.toList)],vb r_13.2.2].toArray) [6],itV 8 89 (Value.tuple [aG [(8,e32 r_13.1.toList)],aG [(8,e32 r_13.2.1.toList)],vb r_13.2.2].toArray) [7],itV 9 98 (aG [(8,e32 r_13.1.toList)]) [8],itA32 12 19 8,itA32 13 20 8] [itV 10 99 (aG [(8,e32 r_13.2.1.toList)]) [8],itV 11 100 (vb r_13.2.2) [8]] 3 (by kernel_rfl) (QP.then QP.body) (by kernel_rfl) rfl (.e rfl (E_cu (F40_calls r_9 hr_9) call40 .z) (.e rfl (E_cu (F39_calls r_7 r_9.1 r_9.2.1 r_9.2.2 r_10 hr_10) call39 .z) (.e rfl (E_cu (F39_calls r_8 r_1.1 r_1.2.1 r_1.2.2.1 r_11 hr_11) call39 .z) (.e rfl (E_cu (F44_calls r_10.1 r_10.2.1 r_10.2.2 r_11.1 r_11.2.1 r_11.2.2 r_12 hr_12) call44 .z) (.e rfl (E_cu (F64_calls r_12.1 r_12.2.1 r_12.2.2 r_13 hr_13) call64 .z) (.v rfl (V_move rfl) (.v rfl V_ex (.c rfl (fun _ _=>(E_al32 8 inf31 zer31)) (.c rfl (fun _ _=>(E_al32 8 inf31 zer31)) .nil))))))))) (.c rfl (fun _=>V_ex) (.c rfl (fun _=>V_ex) .nil)) (by kernel_rfl) rfl (fun γ=>?_)
      refine TA_cut [(100,vb r_13.2.2),(99,aG [(8,e32 r_13.2.1.toList)]),(20,ptr (some ((γ 13),0)) 0),(19,ptr (some ((γ 12),0)) 0),(98,aG [(8,e32 r_13.1.toList)]),(9,ptr (some (b2,0)) 0)] [⟨some ((γ 13),0),e32 ((replicate 8 0#32).toList)⟩,⟨some ((γ 12),0),e32 ((replicate 8 0#32).toList)⟩,⟨some (b6,0),e32 r_8.toList⟩,⟨some (b5,0),e32 r_7.toList⟩,⟨some (b4,0),e32 r_4.toList⟩,⟨some (b1,0),e32 r_1.1.toList⟩,⟨some (b1,8),e32 r_1.2.1.toList⟩,⟨some (b1,16),e32 r_1.2.2.1.toList⟩,⟨some (b2,0),e32 r_2.1.toList⟩,⟨some (b3,0),e32 r_3.1.toList⟩] ⟨rfl,rfl,rfl,rfl,rfl,rfl,trivial⟩ rfl ?_
      generalize γ 12=b7
      generalize γ 13=b8
      refine TA_all (rs:=[14]) (by kernel_rfl) rfl ?_
      refine ⟨?_,trivial⟩
      refine TO_n (is:=[2,2,2,2,2,2,2,2]) (done':=dn 17 32767) rfl rfl rfl (by kernel_rfl) (E_sv (vs:=e32 r_13.1.toList) 1 inf31) (fun _ _=>rfl) (fun _=>?_)
      refine TA_all (rs:=[15]) (by kernel_rfl) rfl ?_
      refine ⟨?_,trivial⟩
      refine TO_n (is:=[2,2,2,2,2,2,2,2]) (done':=dn 17 65535) rfl rfl rfl (by kernel_rfl) (E_sv (vs:=e32 r_13.2.1.toList) 0 inf31) (fun _ _=>rfl) (fun _=>?_)
      refine TA_all (rs:=[16]) (by kernel_rfl) rfl ?_
      refine ⟨?_,trivial⟩
      refine TO_v (is:=[]) (R:=[]) (done':=dn 17 131071) rfl rfl rfl rfl (by kernel_rfl) (V_assign rfl) (fun h=>by cases h) ?_
      refine TA_done (by kernel_rfl) ?_ 0
      refine TX_next (TC_seq (TC_seq (TC_em (!r_13.2.2) (fun hg14_3=>?_) (fun hg14_3=>?_))))
      ·replace H:=ite_t hg14_3 H
       refine TA_begin [⟨some (b8,0),e32 r_13.2.1.toList⟩,⟨some (b7,0),e32 r_13.1.toList⟩,⟨some (b6,0),e32 r_8.toList⟩,⟨some (b5,0),e32 r_7.toList⟩,⟨some (b4,0),e32 r_4.toList⟩,⟨some (b1,0),e32 r_1.1.toList⟩,⟨some (b1,8),e32 r_1.2.1.toList⟩,⟨some (b1,16),e32 r_1.2.2.1.toList⟩,⟨some (b2,0),e32 r_2.1.toList⟩,⟨some (b3,0),e32 r_3.1.toList⟩] 8 (by kernel_rfl) (N:=8) rfl ?_
       refine TA_tk 0 [0,0,0,0,0,0,0,0,0,0] (dn 8 1) rfl rfl (V_move rfl) ?_
       refine TA_tk 1 [0,0,0,0,0,0,0,0,0,0] (dn 8 3) rfl rfl (V_un rfl (fun w=>notB w r_13.2.2)) ?_
       refine TA_tk 2 [0,0,0,0,0,0,0,0,0,0] (dn 8 7) rfl rfl (V_move rfl) ?_
       refine TA_re (d:=103) (v:=vb (!r_13.2.2)) (v':=vb true) rfl (congrArg vb hg14_3) ?_
       refine TA_ts 3 [0,0,0,0,0,0,0,0,0,0] (dn 8 15) rfl rfl ?_
       refine TA_ts 4 [0,0,0,0,0,0,0,0,0,0] (dn 8 31) rfl rfl ?_
       refine TA_ts 5 [0,0,0,0,0,0,0,0,0,0] (dn 8 63) rfl rfl ?_
       refine TA_ts 6 [0,0,0,0,0,0,0,0,0,0] (dn 8 127) rfl rfl ?_
       refine TA_tk 7 [0,0,0,0,0,0,0,0,0,0] (dn 8 255) rfl rfl (V_pick (b:=true) rfl rfl) ?_
       refine TA_done (by kernel_rfl) ?_ 0
       refine TX_next (TC_cond_t rfl ?_)
       refine TC_seq (TC_region (TVa ?_))
       refine TL_nil (TX_next (TC_ret (TX_then_ret ?_)))
       obtain rfl:=sj H
       exact TX1
      ·replace H:=ite_f (Bool.eq_false_iff.1 hg14_3) H
       obtain ⟨r_14,hr_14,H⟩:=bind_elim H
       refine TA_begin [⟨some (b8,0),e32 r_13.2.1.toList⟩,⟨some (b7,0),e32 r_13.1.toList⟩,⟨some (b6,0),e32 r_8.toList⟩,⟨some (b5,0),e32 r_7.toList⟩,⟨some (b4,0),e32 r_4.toList⟩,⟨some (b1,0),e32 r_1.1.toList⟩,⟨some (b1,8),e32 r_1.2.1.toList⟩,⟨some (b1,16),e32 r_1.2.2.1.toList⟩,⟨some (b2,0),e32 r_2.1.toList⟩,⟨some (b3,0),e32 r_3.1.toList⟩] 8 (by kernel_rfl) (N:=8) rfl ?_
       refine TA_tk 0 [0,0,0,0,0,0,0,0,0,0] (dn 8 1) rfl rfl (V_move rfl) ?_
       refine TA_tk 1 [0,0,0,0,0,0,0,0,0,0] (dn 8 3) rfl rfl (V_un rfl (fun w=>notB w r_13.2.2)) ?_
       refine TA_tk 2 [0,0,0,0,0,0,0,0,0,0] (dn 8 7) rfl rfl (V_move rfl) ?_
       refine TA_re (d:=103) (v:=vb (!r_13.2.2)) (v':=vb false) rfl (congrArg vb hg14_3) ?_
       refine TA_tw 3 [0,0,0,0,0,0,0,0,0,0] (dn 8 15) rfl rfl (V_lag (.o 1) isAgg31 inf31) ?_
       refine TA_tw 5 [0,0,0,0,0,0,0,0,0,0] (dn 8 47) rfl rfl (V_lag (.o 8) isAgg31 inf31) ?_
       refine TA_all (rs:=[4]) (by kernel_rfl) rfl ?_
       refine ⟨?_,trivial⟩
       refine TO_eW (is:=[0,0,0,0,0,0,0,0,0,0]) (done':=dn 8 63) rfl rfl rfl rfl rfl rfl rfl (by kernel_rfl) (E_c0 (F65_calls r_13.1 r_14 hr_14) call65 .z) (fun _ _=>rfl) (fun g_14=>?_)
       refine TA_tw 6 [0,0,0,0,0,0,0,0,0,0] (dn 8 127) rfl rfl (V_bin rfl rfl (fun w=>neqA32 w underlying31 underlying29 (by kernel_rfl) (by kernel_rfl) r_14 r_2.1)) ?_
       refine TA_tk 7 [0,0,0,0,0,0,0,0,0,0] (dn 8 255) rfl rfl (V_pick (b:=false) rfl rfl) ?_
       refine TA_done (by kernel_rfl) ?_ 0
       refine TX_next (TCd H (fun hc H=>?_) (fun hc H=>?_))
       ·refine TC_seq (TC_region (TVa ?_))
        refine TL_nil (TX_next (TC_ret (TX_then_ret ?_)))
        obtain rfl:=sj H
        exact TX1
       ·refine TC_skip (TX_next (TC_seq (TC_region (TVa ?_))))
        refine TL_nil (TX_next (TC_ret ?_))
        obtain rfl:=sj H
        exact TX1
    ·intro hJ
     replace H:=Hj
     refine TFb (d:=70) H (fun hc H=>?_) (fun hc H=>?_)
     ·refine TLs ?_
      refine TLs ?_
      refine TLs ?_
      refine TLs ?_
      refine TVt ?_
      refine TL_nil ?_
      obtain rfl:=sj H
      exact TXj [2,2,2,1,0] (hJ ())
     ·refine TLw (V_move rfl) ?_
      refine TLw (V_move rfl) ?_
      refine TLw (V_len_str rfl underlying9) ?_
      refine TLw (V_bin rfl rfl (fun w=>neqI w r_3.2.1 ((sig).length:Int))) ?_
      refine TVf ?_
      refine TL_nil ?_
      obtain rfl:=sj H
      exact TXj [2,2,2,1,0] (hJ ())
 ·intro hJ
  replace H:=Hj
  refine TFb (d:=29) H (fun hc H=>?_) (fun hc H=>?_)
  ·refine TLs ?_
   refine TLs ?_
   refine TLs ?_
   refine TVt ?_
   refine TVm ?_
   refine TLs ?_
   refine TLs ?_
   refine TLs ?_
   refine TVt ?_
   refine TVm ?_
   refine TLs ?_
   refine TLs ?_
   refine TLs ?_
   refine TVt ?_
   refine TVm ?_
   refine TLs ?_
   refine TLs ?_
   refine TLs ?_
   refine TLs ?_
   refine TLs ?_
   refine TLs ?_
   refine TLs ?_
   refine TVt ?_
   refine TL_nil ?_
   obtain rfl:=sj H
   exact TXj [0,0,0] (hJ ())
  ·refine TLw (V_move rfl) ?_
   refine TLw (V_len_str rfl underlying9) ?_
   refine TLw (V_bin rfl rfl (fun w=>neqI w ((digest).length:Int) 32)) ?_
   refine TVf ?_
   refine TVm ?_
   refine TFd (d:=34) H (fun hc H=>?_) (fun hc H=>?_)
   ·refine TLs ?_
    refine TLs ?_
    refine TLs ?_
    refine TVt ?_
    refine TVm ?_
    refine TLs ?_
    refine TLs ?_
    refine TLs ?_
    refine TVt ?_
    refine TVm ?_
    refine TLs ?_
    refine TLs ?_
    refine TLs ?_
    refine TLs ?_
    refine TLs ?_
    refine TLs ?_
    refine TLs ?_
    refine TVt ?_
    refine TL_nil ?_
    obtain rfl:=sj H
    exact TXj [0,0,0] (hJ ())
   ·refine TLw (V_move rfl) ?_
    refine TLw (V_len_str rfl underlying9) ?_
    refine TLw (V_bin rfl rfl (fun w=>lssI w ((sig).length:Int) 2)) ?_
    refine TVf ?_
    refine TVm ?_
    refine TFd (d:=39) H (fun hc H=>?_) (fun hc H=>?_)
    ·refine TLs ?_
     refine TLs ?_
     refine TLs ?_
     refine TVt ?_
     refine TVm ?_
     refine TLs ?_
     refine TLs ?_
     refine TLs ?_
     refine TLs ?_
     refine TLs ?_
     refine TLs ?_
     refine TLs ?_
     refine TVt ?_
     refine TL_nil ?_
     obtain rfl:=sj H
     exact TXj [0,0,0] (hJ ())
    ·refine TLw (V_move rfl) ?_
     obtain ⟨h1,H⟩:=if_elim H
     refine TLw (V_idxStr rfl rfl (i:=0) underlying9 h1.1 h1.2) ?_
     refine TLw (V_bin rfl rfl (fun w=>neq8 w (sg sig 0) 48#8)) ?_
     refine TVf ?_
     refine TVm ?_
     refine TFd (d:=44) H (fun hc H=>?_) (fun hc H=>?_)
     ·refine TLs ?_
      refine TLs ?_
      refine TLs ?_
      refine TLs ?_
      refine TLs ?_
      refine TLs ?_
      refine TLs ?_
      refine TVt ?_
      refine TL_nil ?_
      obtain rfl:=sj H
      exact TXj [0,0,0] (hJ ())
     ·refine TLw (V_move rfl) ?_
      obtain ⟨h2,H⟩:=if_elim H
      refine TLw (V_idxStr rfl rfl (i:=1) underlying9 h2.1 h2.2) ?_
      refine TLw (V_conv rfl (fun w=>cv8toI w _ _ underlying3 (und5) (sg sig 1))) ?_
      refine TLw (V_move rfl) ?_
      refine TLw (V_len_str rfl underlying9) ?_
      refine TLw (V_bin rfl rfl (fun w=>subI w ((sig).length:Int) 2)) ?_
      refine TLw (V_bin rfl rfl (fun w=>neqI w ((sg sig 1).toNat:Int) (w64 (((sig).length:Int) - 2)))) ?_
      refine TVf ?_
      refine TL_nil ?_
      obtain rfl:=sj H
      exact TXj [0,0,0] (hJ ())
end Go.Proofs
end

section
namespace Go.Proofs
open Go Go.Kx
open Vector (replicate)
open TryI Try
def halberdref9_Sign (key:Str) (nonce:Str) (digest:Str):Option (Str × Int) :=
 (halberdref9_scalar key).bind fun (r_1:Vx 32 8 × Bool)=>((halberdref9_scalar nonce).bind fun (r_2:Vx 32 8 × Bool)=>((if (!r_1.2)=true then (some true) else (if (!r_2.2)=true then (some true) else (some (decide (((digest).length:Int) ≠ 32))))).bind fun (j1:Bool)=>(if j1=true then (some (([]:Str),1200)) else ((halberdref9_G).bind fun (r_3:Vx 32 8 × Vx 32 8 × Vx 32 8)=>((halberdref9_product r_2.1 r_3.1 r_3.2.1 r_3.2.2).bind fun (r_4:Vx 32 8 × Vx 32 8 × Vx 32 8)=>((halberdref9_plain r_4.1 r_4.2.1 r_4.2.2).bind fun (r_5:Vx 32 8 × Vx 32 8 × Bool)=>((halberdref9_small r_5.1).bind fun (r_6:Vx 32 8)=>((halberdref9_inv 1 r_2.1).bind fun (r_7:Vx 32 8)=>((halberdref9_get digest).bind fun (r_8:Vx 32 8)=>((halberdref9_small r_8).bind fun (r_9:Vx 32 8)=>((halberdref9_mul 1 r_6 r_1.1).bind fun (r_10:Vx 32 8)=>((halberdref9_add 1 r_9 r_10).bind fun (r_11:Vx 32 8)=>((halberdref9_mul 1 r_7 r_11).bind fun (r_12:Vx 32 8)=>((if r_6=(replicate 8 0#32:Vx 32 8) then (some true) else (some (decide (r_12=(replicate 8 0#32:Vx 32 8))))).bind fun (j2:Bool)=>(if j2=true then (some (([]:Str),1201)) else ((halberdref9_integer r_6).bind fun (r_13:Str)=>((halberdref9_integer r_12).bind fun (r_14:Str)=>(if (r_13).length+(r_14).length≤4611686018427387904 then (if (([BitVec.ofInt 8 ((r_13++r_14).length:Int)]:List (BitVec 8))).length=1 then (if (([48#8]:Str)).length+(([BitVec.ofInt 8 ((r_13++r_14).length:Int)]:List (BitVec 8))).length≤4611686018427387904 then (if (([48#8]:Str)++([BitVec.ofInt 8 ((r_13++r_14).length:Int)]:List (BitVec 8))).length+(r_13++r_14).length≤4611686018427387904 then (ltt ((([48#8]:Str)++([BitVec.ofInt 8 ((r_13++r_14).length:Int)]:List (BitVec 8)))++(r_13++r_14)) fun (x1:Str)=>(some (x1,0))) else none) else none) else none) else none))))))))))))))))))
set_option maxHeartbeats 4000000 in
set_option maxRecDepth 20000 in
theorem F26_calls (key:Str) (nonce:Str) (digest:Str) (r:Str × Int) (H:halberdref9_Sign key nonce digest=some r) :
  Does Try.prog 26 [vs key,vs nonce,vs digest] [] [] (Γ:=Unit) (fun g=>Value.tuple [vs r.1,vi r.2].toArray) (fun g=>[]):=by
 intro w hmem hro hd
 refine calls_of (N:=85) (m0:=[(0,vs key),(1,vs nonce),(2,vs digest)]) func26 rfl ntmps26 (argM_ok [vs key,vs nonce,vs digest]) rfl hmem hro hd ?_
 unfold halberdref9_Sign at H
 refine TC_seq (TC_region (TVa ?_))
 refine TVa ?_
 refine TL_nil (TX_next (TC_seq (TC_region (TVm ?_))))
 obtain ⟨r_1,hr_1,H⟩:=bind_elim H
 refine TLe (E_c0 (F37_calls key r_1 hr_1) call37 .z) (fun g_1=>?_)
 refine TVm ?_
 refine TLv V_ex ?_
 refine TLv V_ex ?_
 refine TLe (E_al32 8 inf31 zer31) (fun b1=>?_)
 refine TLn (E_sv (vs:=e32 r_1.1.toList) 0 inf31) (fun _=>?_)
 refine TVa ?_
 refine TL_nil (TX_next (TC_seq (TC_region (TVm ?_))))
 obtain ⟨r_2,hr_2,H⟩:=bind_elim H
 refine TLe (E_c0 (F37_calls nonce r_2 hr_2) call37 .z) (fun g_2=>?_)
 refine TVm ?_
 refine TLv V_ex ?_
 refine TLv V_ex ?_
 refine TLe (E_al32 8 inf31 zer31) (fun b2=>?_)
 refine TLn (E_sv (vs:=e32 r_2.1.toList) 0 inf31) (fun _=>?_)
 refine TVa ?_
 refine TL_nil (TX_next (TC_seq (TC_seq (TC_region (TVm ?_)))))
 refine TLv (V_un rfl (fun w=>notB w r_1.2)) ?_
 refine TVm ?_
 obtain ⟨j1,Hj,H⟩:=bind_elim H
 refine TL_join (Γ:=Unit) (fun gj1=>[(2,vs digest),(8,ptr (some (b1,0)) 0),(10,ptr (some (b2,0)) 0),(39,vb j1)]) (fun gj1=>[⟨some (b1,0),e32 r_1.1.toList⟩,⟨some (b2,0),e32 r_2.1.toList⟩]) ?_ ?_
 ·intro gj1
  refine TX_next (TCb H (fun hc H=>?_) (fun hc H=>?_))
  ·refine TC_seq (TC_region (TVa ?_))
   refine TVa ?_
   refine TL_nil (TX_next (TC_ret (TX_then_ret ?_)))
   obtain rfl:=sj H
   exact TX2
  ·refine TC_skip (TX_next (TC_seq ?_))
   obtain ⟨r_3,hr_3,H⟩:=bind_elim H
   obtain ⟨r_4,hr_4,H⟩:=bind_elim H
   obtain ⟨r_5,hr_5,H⟩:=bind_elim H
   refine TA_begin [⟨some (b1,0),e32 r_1.1.toList⟩,⟨some (b2,0),e32 r_2.1.toList⟩] 12 (by kernel_rfl) (N:=13) rfl ?_
   refine TA_tk 0 [0,0] (dn 13 1) rfl rfl (V_lag (.o 1) isAgg31 inf31) ?_
   refine TA_mix (is:=[0,0]) (done':=dn 13 1023) [itV 1 42 (aG [(8,e32 r_3.1.toList),(8,e32 r_3.2.1.toList),(8,e32 r_3.2.2.toList)]) [],itV 2 43 (aG [(8,e32 r_4.1.toList),(8,e32 r_4.2.1.toList),(8,e32 r_4.2.2.toList)]) [1],itV 3 44 (Value.tuple [aG [(8,e32 r_5.1.toList)],aG [(8,e32 r_5.2.1.toList)],vb r_5.2.2].toArray) [2],itV 4 40 (Value.tuple [aG [(8,e32 r_5.1.toList)],aG [(8,e32 r_5.2.1.toList)],vb r_5.2.2].toArray) [3],itV 5 45 (aG [(8,e32 r_5.1.toList)]) [4],itA32 8 12 8,itA32 9 13 8] [itV 6 46 (aG [(8,e32 r_5.2.1.toList)]) [4],itV 7 47 (vb r_5.2.2) [4]] 3 (by kernel_rfl) (QP.then QP.body) (by kernel_rfl) rfl (.e rfl (E_cu (F40_calls r_3 hr_3) call40 .z) (.e rfl (E_cu (F39_calls r_2.1 r_3.1 r_3.2.1 r_3.2.2 r_4 hr_4) call39 .z) (.e rfl (E_cu (F64_calls r_4.1 r_4.2.1 r_4.2.2 r_5 hr_5) call64 .z) (.v rfl (V_move rfl) (.v rfl V_ex (.c rfl (fun _ _=>(E_al32 8 inf31 zer31)) (.c rfl (fun _ _=>(E_al32 8 inf31 zer31)) .nil))))))) (.c rfl (fun _=>V_ex) (.c rfl (fun _=>V_ex) .nil)) (by kernel_rfl) rfl (fun γ=>?_)
   refine TA_cut [(47,vb r_5.2.2),(46,aG [(8,e32 r_5.2.1.toList)]),(13,ptr (some ((γ 9),0)) 0),(12,ptr (some ((γ 8),0)) 0),(45,aG [(8,e32 r_5.1.toList)]),(2,vs digest),(8,ptr (some (b1,0)) 0),(10,ptr (some (b2,0)) 0)] [⟨some ((γ 9),0),e32 ((replicate 8 0#32).toList)⟩,⟨some ((γ 8),0),e32 ((replicate 8 0#32).toList)⟩,⟨some (b1,0),e32 r_1.1.toList⟩,⟨some (b2,0),e32 r_2.1.toList⟩] ⟨rfl,rfl,rfl,rfl,rfl,rfl,rfl,rfl,trivial⟩ rfl ?_
   generalize γ 8=b3
   generalize γ 9=b4
   refine TA_all (rs:=[10]) (by kernel_rfl) rfl ?_
   refine ⟨?_,trivial⟩
   refine TO_n (is:=[2,2]) (done':=dn 13 2047) rfl rfl rfl (by kernel_rfl) (E_sv (vs:=e32 r_5.1.toList) 1 inf31) (fun _ _=>rfl) (fun _=>?_)
   refine TA_all (rs:=[11]) (by kernel_rfl) rfl ?_
   refine ⟨?_,trivial⟩
   refine TO_n (is:=[2,2]) (done':=dn 13 4095) rfl rfl rfl (by kernel_rfl) (E_sv (vs:=e32 r_5.2.1.toList) 0 inf31) (fun _ _=>rfl) (fun _=>?_)
   refine TA_all (rs:=[12]) (by kernel_rfl) rfl ?_
   refine ⟨?_,trivial⟩
   refine TO_v (is:=[]) (R:=[]) (done':=dn 13 8191) rfl rfl rfl rfl (by kernel_rfl) (V_assign rfl) (fun h=>by cases h) ?_
   refine TA_done (by kernel_rfl) ?_ 0
   refine TX_next (TC_seq (TC_region (TVa ?_)))
   refine TL_nil (TX_next (TC_seq (TC_region (TLv (V_lag (.o 1) isAgg31 inf31) ?_))))
   obtain ⟨r_6,hr_6,H⟩:=bind_elim H
   refine TLe (E_c0 (F65_calls r_5.1 r_6 hr_6) call65 .z) (fun g_6=>?_)
   refine TLe (E_al32 8 inf31 zer31) (fun b5=>?_)
   refine TLn (E_sv (vs:=e32 r_6.toList) 0 inf31) (fun _=>?_)
   refine TL_nil (TX_next (TC_seq ?_))
   obtain ⟨r_7,hr_7,H⟩:=bind_elim H
   obtain ⟨r_8,hr_8,H⟩:=bind_elim H
   obtain ⟨r_9,hr_9,H⟩:=bind_elim H
   obtain ⟨r_10,hr_10,H⟩:=bind_elim H
   obtain ⟨r_11,hr_11,H⟩:=bind_elim H
   obtain ⟨r_12,hr_12,H⟩:=bind_elim H
   refine TA_begin [] 16 (by kernel_rfl) (N:=16) rfl ?_
   refine TA_mix (is:=[]) (done':=dn 16 32767) [itV 0 50 (vi 1) [],itV 1 51 (vi 1) [],itV 2 52 (aG [(8,e32 r_2.1.toList)]) [],itV 3 53 (aG [(8,e32 r_7.toList)]) [1,2],itV 4 54 (vi 1) [],itV 5 55 (vs digest) [],itV 6 56 (aG [(8,e32 r_8.toList)]) [5],itV 7 57 (aG [(8,e32 r_9.toList)]) [6],itV 8 58 (vi 1) [],itV 9 59 (aG [(8,e32 r_6.toList)]) [],itV 10 60 (aG [(8,e32 r_1.1.toList)]) [],itV 11 61 (aG [(8,e32 r_10.toList)]) [8,9,10],itV 12 62 (aG [(8,e32 r_11.toList)]) [7,11,4],itV 13 63 (aG [(8,e32 r_12.toList)]) [0,3,12],itA32 14 17 8] [] 1 (by kernel_rfl) (QP.then QP.body) (by kernel_rfl) rfl (.v rfl (V_move rfl) (.v rfl (V_move rfl) (.v rfl (V_lag (.o 4) isAgg31 inf31) (.e rfl (E_cu (F66_calls 1 r_2.1 r_7 hr_7) call66 .z) (.v rfl (V_move rfl) (.v rfl (V_move rfl) (.e rfl (E_cu (F67_calls digest r_8 hr_8) call67 .z) (.e rfl (E_cu (F65_calls r_8 r_9 hr_9) call65 .z) (.v rfl (V_move rfl) (.v rfl (V_lag (.o 0) isAgg31 inf31) (.v rfl (V_lag (.o 3) isAgg31 inf31) (.e rfl (E_cu (F52_calls 1 r_6 r_1.1 r_10 hr_10) call52 .z) (.e rfl (E_cu (F48_calls 1 r_9 r_10 r_11 hr_11) call48 .z) (.e rfl (E_cu (F52_calls 1 r_7 r_11 r_12 hr_12) call52 .z) (.c rfl (fun _ _=>(E_al32 8 inf31 zer31)) .nil))))))))))))))) .nil (by kernel_rfl) rfl (fun γ=>?_)
   refine TA_cut [(17,ptr (some ((γ 14),0)) 0),(63,aG [(8,e32 r_12.toList)]),(16,ptr (some (b5,0)) 0)] [⟨some ((γ 14),0),e32 ((replicate 8 0#32).toList)⟩,⟨some (b5,0),e32 r_6.toList⟩,⟨some (b4,0),e32 r_5.2.1.toList⟩,⟨some (b3,0),e32 r_5.1.toList⟩,⟨some (b1,0),e32 r_1.1.toList⟩,⟨some (b2,0),e32 r_2.1.toList⟩] ⟨rfl,rfl,rfl,trivial⟩ rfl ?_
   generalize γ 14=b6
   refine TA_all (rs:=[15]) (by kernel_rfl) rfl ?_
   refine ⟨?_,trivial⟩
   refine TO_n (is:=[]) (done':=dn 16 65535) rfl rfl rfl (by kernel_rfl) (E_sv (vs:=e32 r_12.toList) 0 inf31) (fun _ _=>rfl) (fun _=>?_)
   refine TA_done (by kernel_rfl) ?_ 0
   refine TX_next (TC_seq (TC_seq (TC_region (TLv (V_lag (.o 1) isAgg31 inf31) ?_))))
   refine TLv (V_buildArr (pv:=[]) rfl rfl underlying31 inf31 inf29 rfl zer31 (cs:=e32 ((replicate 8 0#32:Vx 32 8).toList)) (by kernel_rfl)) ?_
   refine TLv (V_bin rfl rfl (fun w=>eqlA32 w underlying31 underlying29 (by kernel_rfl) (by kernel_rfl) r_6 (replicate 8 0#32:Vx 32 8))) ?_
   refine TVm ?_
   obtain ⟨j2,Hj,H⟩:=bind_elim H
   refine TL_join (Γ:=Unit) (fun gj2=>[(16,ptr (some (b5,0)) 0),(17,ptr (some (b6,0)) 0),(71,vb j2)]) (fun gj2=>[⟨some (b5,0),e32 r_6.toList⟩,⟨some (b6,0),e32 r_12.toList⟩]) ?_ ?_
   ·intro gj2
    refine TX_next (TCb H (fun hc H=>?_) (fun hc H=>?_))
    ·refine TC_seq (TC_region (TVa ?_))
     refine TVa ?_
     refine TL_nil (TX_next (TC_ret (TX_then_ret ?_)))
     obtain rfl:=sj H
     exact TX2
    ·refine TC_skip (TX_next (TC_seq ?_))
     obtain ⟨r_13,hr_13,H⟩:=bind_elim H
     obtain ⟨r_14,hr_14,H⟩:=bind_elim H
     obtain ⟨h1,H⟩:=if_elim H
     refine TA_begin [] 6 (by kernel_rfl) (N:=6) rfl ?_
     refine TA_mix (is:=[]) (done':=dn 6 63) [itV 0 72 (aG [(8,e32 r_6.toList)]) [],itV 1 73 (vs r_13) [0],itV 2 74 (aG [(8,e32 r_12.toList)]) [],itV 3 75 (vs r_14) [2],itV 4 76 (vs (r_13++r_14)) [1,3],itV 5 18 (vs (r_13++r_14)) [4]] [] 0 (by kernel_rfl) (QP.then QP.body) (by kernel_rfl) rfl (.v rfl (V_lag (.o 0) isAgg31 inf31) (.e rfl (E_cu (F68_calls r_6 r_13 hr_13) call68 .z) (.v rfl (V_lag (.o 1) isAgg31 inf31) (.e rfl (E_cu (F68_calls r_12 r_14 hr_14) call68 .z) (.v rfl (V_bin rfl rfl (fun w=>addS w r_13 r_14 h1)) (.v rfl (V_assign rfl) .nil)))))) .nil (by kernel_rfl) rfl (fun γ=>?_)
     refine TA_cut [(18,vs (r_13++r_14))] [⟨some (b5,0),e32 r_6.toList⟩,⟨some (b6,0),e32 r_12.toList⟩] ⟨rfl,trivial⟩ rfl ?_
     refine TA_done (by kernel_rfl) ?_ 0
     refine TX_next (TC_seq (TC_region (TVm ?_)))
     refine TLv (V_len_str rfl underlying9) ?_
     refine TLv (V_conv rfl (fun w=>cvI8 w _ _ underlying5 (und3) .i64 ((r_13++r_14).length:Int))) ?_
     refine TLe (E_buildSlice (pv:=[(0,v8 (BitVec.ofInt 8 ((r_13++r_14).length:Int)))]) rfl rfl underlying42 inf5 (s:=1) rfl zer5 rfl rfl rfl (cs:=e8 ([BitVec.ofInt 8 ((r_13++r_14).length:Int)]:List (BitVec 8))) (by kernel_rfl)) (fun b7=>?_)
     obtain ⟨h2,H⟩:=if_elim H
     refine TLv (V_b2s rfl underlying42 underlying5 underlying9 (.o 0) h2) ?_
     obtain ⟨h3,H⟩:=if_elim H
     refine TLv (V_bin rfl rfl (fun w=>addS w ([48#8]:Str) ([BitVec.ofInt 8 ((r_13++r_14).length:Int)]:List (BitVec 8)) h3)) ?_
     refine TVm ?_
     obtain ⟨h4,H⟩:=if_elim H
     refine TLv (V_bin rfl rfl (fun w=>addS w (([48#8]:Str)++([BitVec.ofInt 8 ((r_13++r_14).length:Int)]:List (BitVec 8))) (r_13++r_14) h4)) ?_
     refine TVa ?_
     obtain ⟨x1,hx1,H⟩:=ltt_elim H
     refine TLr 6 (congrArg vs hx1) ?_
     refine TVa ?_
     refine TL_nil (TX_next (TC_ret ?_))
     obtain rfl:=sj H
     exact TX2
   ·intro hJ
    replace H:=Hj
    refine TFd (d:=67) H (fun hc H=>?_) (fun hc H=>?_)
    ·refine TLs ?_
     refine TLs ?_
     refine TLs ?_
     refine TVt ?_
     refine TL_nil ?_
     obtain rfl:=sj H
     exact TXj [1,0] (hJ ())
    ·refine TLw (V_lag (.o 0) isAgg31 inf31) ?_
     refine TLw (V_buildArr (pv:=[]) rfl rfl underlying31 inf31 inf29 rfl zer31 (cs:=e32 ((replicate 8 0#32:Vx 32 8).toList)) (by kernel_rfl)) ?_
     refine TLw (V_bin rfl rfl (fun w=>eqlA32 w underlying31 underlying29 (by kernel_rfl) (by kernel_rfl) r_12 (replicate 8 0#32:Vx 32 8))) ?_
     refine TVf ?_
     refine TL_nil ?_
     obtain rfl:=sj H
     exact TXj [1,0] (hJ ())
 ·intro hJ
  replace H:=Hj
  refine TFb (d:=31) H (fun hc H=>?_) (fun hc H=>?_)
  ·refine TLs ?_
   refine TLs ?_
   refine TVt ?_
   refine TVm ?_
   refine TLs ?_
   refine TLs ?_
   refine TLs ?_
   refine TVt ?_
   refine TL_nil ?_
   obtain rfl:=sj H
   exact TXj [1,0] (hJ ())
  ·refine TLw (V_move rfl) ?_
   refine TLw (V_un rfl (fun w=>notB w r_2.2)) ?_
   refine TVf ?_
   refine TVm ?_
   refine TFb (d:=35) H (fun hc H=>?_) (fun hc H=>?_)
   ·refine TLs ?_
    refine TLs ?_
    refine TLs ?_
    refine TVt ?_
    refine TL_nil ?_
    obtain rfl:=sj H
    exact TXj [1,0] (hJ ())
   ·refine TLw (V_move rfl) ?_
    refine TLw (V_len_str rfl underlying9) ?_
    refine TLw (V_bin rfl rfl (fun w=>neqI w ((digest).length:Int) 32)) ?_
    refine TVf ?_
    refine TL_nil ?_
    obtain rfl:=sj H
    exact TXj [1,0] (hJ ())
end Go.Proofs
end

section
namespace Go.Kx
open Go Go.Proofs
open Vector (replicate)
open Go.Nt hiding n4
theorem mod_ne' {k:Str} (h:isSc k):bnum k % N256 ≠ 0:=by rw [Nat.mod_eq_of_lt h.2.1]; exact h.2.2
def xN:Pt → Nat
 | none=>0
 | some q=>toN q.1
noncomputable def sigR (k:Nat):Nat:=xN (sG k) % N256
noncomputable def sigS (d k z:Nat):Nat:=(z % N256+sigR k * d % N256) % N256 * (k ^ (N256 - 2) % N256) % N256
noncomputable def verP (a z r s:Nat):Pt:=sG (z % N256 * (s ^ (N256 - 2) % N256) % N256+r * (s ^ (N256 - 2) % N256) % N256 * a)
def verR (r:Nat):Pt → Int
 | none=>1201
 | some q=>if toN q.1 % N256=r then 0 else 1201
def sgn (r s:Nat):Str × Int:=if r=0 ∨ s=0 then ([],1201) else (SG r s,0)
theorem sgn_0 {r s:Nat} (h:r=0 ∨ s=0):sgn r s=([],1201):=if_pos h
theorem sgn_1 {r s:Nat} (h:r ≠ 0) (h':s ≠ 0):sgn r s=(SG r s,0):=if_neg (fun c=>c.elim h h')
noncomputable def signRes (d k z:Nat):Str × Int:=sgn (sigR k) (sigS d k z)
theorem N2:2 ^ 256<2 * N256:=by decide
theorem N_pos:0<N256:=by decide
theorem toN_lt2 (f:Fp):toN f<2 ^ 256:=Nat.lt_trans (toN_lt f) P_lt256
theorem Sign_no (key nonce digest:Str) (h : ¬ (isSc key∧isSc nonce∧digest.length=32)):ecdsa_Sign key nonce digest=some ([],1200):=by
 obtain ⟨x,h1, -⟩:=Scalar_ex key
 obtain ⟨y,h2, -⟩:=Scalar_ex nonce
 unfold ecdsa_Sign
 refine bind_i h1 (bind_i h2 (bind_i (v:=true) ?_ (if_i rfl rfl)))
 by_cases hk:isSc key
 ·rw [if_neg (by simp [hk])]
  by_cases hn:isSc nonce
  ·rw [if_neg (by simp [hn])]
   exact congrArg some (decide_eq_true (fun c=>h ⟨hk,hn,by omega⟩))
  ·rw [if_pos (by simp [hn])]
 ·rw [if_pos (by simp [hk])]
theorem Sign_is (key nonce digest:Str) (hk:isSc key) (hn:isSc nonce) (hd:digest.length=32):ecdsa_Sign key nonce digest=some (signRes (bnum key) (bnum nonce) (bnum digest)):=by
 obtain ⟨x,h1,e1⟩:=Scalar_ex key
 obtain ⟨y,h2,e2⟩:=Scalar_ex nonce
 have e1:=e1 hk.1
 have e2:=e2 hn.1
 obtain ⟨inv,one,two,h3,F⟩:=New_N
 have hpub:=Public_is nonce hn
 obtain ⟨q,hq⟩:=sG_ne (a:=bnum nonce) (mod_ne' hn)
 rw [hq] at hpub
 have hpub:pcurve_Public nonce=some (encQ q,0):=hpub
 obtain ⟨v7,h7,e7⟩:=num_Load_ex (sub (encQ q) 1 33) (by rw [encQ_x,nb32_len])
 rw [encQ_x,bnum_nb32 _ (toN_lt2 _)] at e7
 have hN2:=N2
 have hNp:=N_pos
 obtain ⟨v8,h8,e8⟩:=F.rest (x:=v7) (by rw [e7]; have:=toN_lt2 q.1; omega)
 obtain ⟨v9,h9,e9⟩:=num_Load_ex digest hd
 obtain ⟨v10,h10,e10⟩:=F.rest (x:=v9) (by rw [e9]; have:=bnum_lt32 digest hd; omega)
 rw [e7] at e8
 rw [e9] at e10
 have hr:sigR (bnum nonce)=n4 v8:=by rw [e8]; unfold sigR; rw [hq]; rfl
 obtain ⟨v11,h11,R11⟩:=F.into (x:=v10) (by rw [e10]; exact Nat.mod_lt _ hNp)
 obtain ⟨v12,h12,R12⟩:=F.into (x:=v8) (by rw [e8]; exact Nat.mod_lt _ hNp)
 obtain ⟨v13,h13,R13⟩:=F.into (x:=x) (by rw [e1]; exact hk.2.1)
 obtain ⟨v14,h14,R14⟩:=F.mul R12 R13
 obtain ⟨v15,h15,R15⟩:=F.add R11 R14
 obtain ⟨v16,h16,R16⟩:=F.into (x:=y) (by rw [e2]; exact hn.2.1)
 obtain ⟨v17,h17,R17⟩:=F.inverse R16
 obtain ⟨v18,h18,R18⟩:=F.mul R15 R17
 obtain ⟨v19,h19,e19⟩:=F.out R18
 have hs:sigS (bnum key) (bnum nonce) (bnum digest)=n4 v19:=by
  rw [e19,e10,e1,e2, ← hr]; rfl
 unfold ecdsa_Sign
 refine bind_i h1 (bind_i h2 (bind_i (v:=false) ?_ (if_n Bool.false_ne_true (bind_i h3 (bind_i hpub (if_i ?_ (bind_i h7 (bind_i h8 (bind_i h9 (bind_i h10 (bind_i h11 (bind_i h12 (bind_i h13 (bind_i h14 (bind_i h15 (bind_i h16 (bind_i h17 (bind_i h18 (bind_i h19 (bind_i (num_Zero_eq v8) ?_))))))))))))))))))))
 ·rw [if_neg (by simp [hk]),if_neg (by simp [hn])]
  exact congrArg some (decide_eq_false (by omega))
 ·show 33≤(encQ q).length
  rw [encQ_len]; omega
 ·unfold signRes
  rw [hr,hs]
  by_cases h0:n4 v8=0
  ·rw [sgn_0 (.inl h0)]
   exact bind_i (v:=true) (if_i (decide_eq_true h0) rfl) (if_i rfl rfl)
  ·by_cases h0':n4 v19=0
   ·rw [sgn_0 (.inr h0')]
    exact bind_i (v:=true) (if_n (by simp [h0]) (bind_i (num_Zero_eq v19) (by simp [h0']))) (if_i rfl rfl)
   ·rw [sgn_1 h0 h0']
    have hP:=Put2 48 (by decide) (by decide) (DI (n4 v8)) (DI (n4 v19)) (by
     have:=SG_len (n4 v8) (n4 v19)
     rw [List.length_append] at this; omega)
    exact bind_i (v:=false) (if_n (by simp [h0]) (bind_i (num_Zero_eq v19) (by simp [h0']))) (if_n Bool.false_ne_true (bind_i (Bytes_eq v8) (bind_i (Integer_nb _) (bind_i (Bytes_eq v19) (bind_i (Integer_nb _) (if_i rfl (bind_i hP rfl)))))))
theorem rSign_no (key nonce digest:Str) (h : ¬ (isSc key∧isSc nonce∧digest.length=32)):halberdref9_Sign key nonce digest=some ([],1200):=by
 obtain ⟨x,h1, -⟩:=scalar_ex key
 obtain ⟨y,h2, -⟩:=scalar_ex nonce
 unfold halberdref9_Sign
 refine bind_i h1 (bind_i h2 (bind_i (v:=true) ?_ (if_i rfl rfl)))
 by_cases hk:isSc key
 ·rw [if_neg (by simp [hk])]
  by_cases hn:isSc nonce
  ·rw [if_neg (by simp [hn])]
   exact congrArg some (decide_eq_true (fun c=>h ⟨hk,hn,by omega⟩))
  ·rw [if_pos (by simp [hn])]
 ·rw [if_pos (by simp [hk])]
theorem rSign_is (key nonce digest:Str) (hk:isSc key) (hn:isSc nonce) (hd:digest.length=32):halberdref9_Sign key nonce digest=some (signRes (bnum key) (bnum nonce) (bnum digest)):=by
 obtain ⟨x,h1,e1⟩:=scalar_ex key
 obtain ⟨y,h2,e2⟩:=scalar_ex nonce
 have e1:=e1 hk.1
 have e2:=e2 hn.1
 have F:=Rd_N
 have hNp:=N_pos
 obtain ⟨g,h3,f3⟩:=G_pt
 obtain ⟨p,h4,f4⟩:=product_pt (k:=y) f3
 rw [e2,Nat.mul_one] at f4
 obtain ⟨q,hq⟩:=sG_ne (a:=bnum nonce) (mod_ne' hn)
 rw [hq] at f4
 obtain ⟨X,Y,h5,eX, -⟩:=(plain_ex f4).2 q rfl
 obtain ⟨v6,h6,e6⟩:=small_eq X
 rw [eX] at e6
 have hr:sigR (bnum nonce)=n8 v6:=by rw [e6]; unfold sigR; rw [hq]; rfl
 obtain ⟨v7,h7,e7⟩:=F.invP (x:=y) (by rw [e2]; exact hn.2.1)
 obtain ⟨v8,h8,e8⟩:=ref_get_ex digest hd
 obtain ⟨v9,h9,e9⟩:=small_eq v8
 obtain ⟨v10,h10,e10⟩:=F.mulP (x:=v6) (y:=x) (by rw [e6]; exact Nat.mod_lt _ hNp) (by rw [e1]; exact hk.2.1)
 obtain ⟨v11,h11,e11⟩:=F.add0 (x:=v9) (y:=v10) (by rw [e9]; exact Nat.mod_lt _ hNp) (by rw [e10]; exact Nat.mod_lt _ hNp)
 obtain ⟨v12,h12,e12⟩:=F.mulP (x:=v7) (y:=v11) (by rw [e7]; exact Nat.mod_lt _ hNp) (by rw [e11]; exact Nat.mod_lt _ hNp)
 have hs:sigS (bnum key) (bnum nonce) (bnum digest)=n8 v12:=by
  rw [e12,e11,e10,e9,e8,e7,e1,e2, ← hr,Nat.mul_comm]; rfl
 have z6:v6=replicate 8 0#32 ↔ n8 v6=0:=⟨fun h=>by rw [h,n8_zero],fun h=>n8_ext (by rw [h,n8_zero])⟩
 have z12:v12=replicate 8 0#32 ↔ n8 v12=0:=⟨fun h=>by rw [h,n8_zero],fun h=>n8_ext (by rw [h,n8_zero])⟩
 unfold halberdref9_Sign
 refine bind_i h1 (bind_i h2 (bind_i (v:=false) ?_ (if_n Bool.false_ne_true (bind_i h3 (bind_i h4 (bind_i h5 (bind_i h6 (bind_i h7 (bind_i h8 (bind_i h9 (bind_i h10 (bind_i h11 (bind_i h12 ?_)))))))))))))
 ·rw [if_neg (by simp [hk]),if_neg (by simp [hn])]
  exact congrArg some (decide_eq_false (by omega))
 ·unfold signRes
  rw [hr,hs]
  by_cases h0:n8 v6=0
  ·rw [sgn_0 (.inl h0)]
   exact bind_i (v:=true) (if_i (z6.2 h0) rfl) (if_i rfl rfl)
  ·by_cases h0':n8 v12=0
   ·rw [sgn_0 (.inr h0')]
    exact bind_i (v:=true) (if_n (fun c=>h0 (z6.1 c)) (congrArg some (decide_eq_true (z12.2 h0')))) (if_i rfl rfl)
   ·rw [sgn_1 h0 h0']
    have hl:=SG_len (n8 v6) (n8 v12)
    have hSG:SG (n8 v6) (n8 v12)=([48#8]++[BitVec.ofInt 8 ((DI (n8 v6)++DI (n8 v12)).length:Int)])++(DI (n8 v6)++DI (n8 v12)):=by unfold SG; rw [BitVec.ofInt_natCast]; rfl
    rw [hSG]
    have i6:=rInteger_eq v6
    have i12:=rInteger_eq v12
    generalize DI (n8 v6)=A at *
    generalize DI (n8 v12)=B at *
    rw [List.length_append] at hl
    have b1:A.length+B.length≤4611686018427387904:=by omega
    have b2:([48#8]:Str).length+([BitVec.ofInt 8 ((A++B).length:Int)]:List (BitVec 8)).length≤4611686018427387904:=by rw [List.length_singleton,List.length_singleton]; omega
    have b3:(([48#8]:Str)++([BitVec.ofInt 8 ((A++B).length:Int)]:List (BitVec 8))).length+(A++B).length≤4611686018427387904:=by rw [List.length_append,List.length_singleton,List.length_singleton,List.length_append]; omega
    refine bind_i (v:=false) (if_n (fun c=>h0 (z6.1 c)) (congrArg some (decide_eq_false (fun c=>h0' (z12.1 c))))) (if_n Bool.false_ne_true (bind_i i6 (bind_i i12 (if_i b1 (if_i rfl (if_i b2 (if_i b3 (ltt_i fun w hw=>?_))))))))
    rw [hw]
end Go.Kx
end

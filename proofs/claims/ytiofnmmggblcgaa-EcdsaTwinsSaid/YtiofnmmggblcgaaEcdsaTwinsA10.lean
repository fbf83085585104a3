/-
  Part 10 of the proof of EcdsaTwins.
-/
import Derived.Test.YtiofnmmggblcgaaEcdsaTwinsA1
import Derived.Test.YtiofnmmggblcgaaEcdsaTwinsA2
import Derived.Test.YtiofnmmggblcgaaEcdsaTwinsA3
import Derived.Test.YtiofnmmggblcgaaEcdsaTwinsA4
import Derived.Test.YtiofnmmggblcgaaEcdsaTwinsA5
import Derived.Test.YtiofnmmggblcgaaEcdsaTwinsA6
import Derived.Test.YtiofnmmggblcgaaEcdsaTwinsA7
import Derived.Test.YtiofnmmggblcgaaEcdsaTwinsA8
import Derived.Test.YtiofnmmggblcgaaEcdsaTwinsA9
set_option linter.unusedVariables false
set_option linter.unusedSimpArgs false
section
namespace Go.Proofs
open Go Go.Kx
open Vector (replicate)
def ecdsa_Verify (public_:Str) (digest:Str) (sig:Str):Option (Int) :=
 (ecdsa_read sig).bind fun (r_1:Vx 64 4 × Vx 64 4 × Bool)=>((if (!r_1.2.2)=true then (some true) else (if ((digest).length:Int) ≠ 32 then (some true) else ((pcurve_On public_).bind fun (r_15:Bool)=>(some (!r_15))))).bind fun (j1:Bool)=>(if j1=true then (some 1200) else ((num_New 1).bind fun (r_2:(Unit) ⊕ (Vx 64 4 × BitVec 64 × Vx 64 4 × Vx 64 4))=>(match r_2 with | .inl r_2=>(none) | .inr r_2=>((num_Field_In r_2.1 r_2.2.1 r_2.2.2.1 r_2.2.2.2 r_1.2.1).bind fun (r_3:Vx 64 4)=>((num_Field_Inv r_2.1 r_2.2.1 r_2.2.2.1 r_2.2.2.2 r_3).bind fun (r_4:Vx 64 4)=>((num_Load digest).bind fun (r_5:Vx 64 4)=>((num_Field_Rest r_2.1 r_2.2.1 r_2.2.2.1 r_2.2.2.2 r_5).bind fun (r_6:Vx 64 4)=>((num_Field_In r_2.1 r_2.2.1 r_2.2.2.1 r_2.2.2.2 r_6).bind fun (r_7:Vx 64 4)=>((num_Field_Mul r_2.1 r_2.2.1 r_2.2.2.1 r_2.2.2.2 r_7 r_4).bind fun (r_8:Vx 64 4)=>((num_Field_Out r_2.1 r_2.2.1 r_2.2.2.1 r_2.2.2.2 r_8).bind fun (r_9:Vx 64 4)=>((num_Field_In r_2.1 r_2.2.1 r_2.2.2.1 r_2.2.2.2 r_1.1).bind fun (r_10:Vx 64 4)=>((num_Field_Mul r_2.1 r_2.2.1 r_2.2.2.1 r_2.2.2.2 r_10 r_4).bind fun (r_11:Vx 64 4)=>((num_Field_Out r_2.1 r_2.2.1 r_2.2.2.1 r_2.2.2.2 r_11).bind fun (r_12:Vx 64 4)=>((pcurve_Two r_9 r_12 public_).bind fun (r_13:Vx 64 4 × Bool)=>(if (!r_13.2)=true then (some 1201) else ((num_Field_Rest r_2.1 r_2.2.1 r_2.2.2.1 r_2.2.2.2 r_13.1).bind fun (r_14:Vx 64 4)=>(if r_14 ≠ r_1.1 then (some 1201) else (some 0)))))))))))))))))))
set_option maxHeartbeats 4000000 in
set_option maxRecDepth 20000 in
theorem F27_calls (public_:Str) (digest:Str) (sig:Str) (r:Int) (H:ecdsa_Verify public_ digest sig=some r) :
  Does Try.prog 27 [vs public_,vs digest,vs sig] [] [] (Γ:=Unit) (fun g=>vi r) (fun g=>[]):=by
 intro w hmem hro hd
 refine calls_of (N:=74) (m0:=[(0,vs public_),(1,vs digest),(2,vs sig)]) Try.func27 rfl Try.ntmps27 (argM_ok [vs public_,vs digest,vs sig]) rfl hmem hro hd ?_
 unfold ecdsa_Verify at H
 refine TC_seq (TC_region (TLv (V_assign rfl) ?_))
 refine TL_nil (TX_next (TC_seq (TC_region (TLv (V_move rfl) ?_))))
 obtain ⟨r_1,hr_1,H⟩:=bind_elim H
 refine TLe (E_c0 (F69_calls sig r_1 hr_1) Try.call69 .z) (fun g_1=>?_)
 refine TLv (V_move rfl) ?_
 refine TLv V_ex ?_
 refine TLv V_ex ?_
 refine TLv V_ex ?_
 refine TLe (E_al64 4 TryI.inf57 TryI.zer57) (fun b1=>?_)
 refine TLe (E_al64 4 TryI.inf57 TryI.zer57) (fun b2=>?_)
 refine TLn (E_sv (vs:=e64 r_1.1.toList) 1 TryI.inf57) (fun _=>?_)
 refine TLn (E_sv (vs:=e64 r_1.2.1.toList) 0 TryI.inf57) (fun _=>?_)
 refine TLv (V_assign rfl) ?_
 refine TL_nil (TX_next (TC_seq (TC_seq (TC_region (TLv (V_move rfl) ?_)))))
 refine TLv (V_un rfl (fun w=>notB w r_1.2.2)) ?_
 refine TLv (V_move rfl) ?_
 obtain ⟨j1,Hj,H⟩:=bind_elim H
 refine TL_join (Γ:=Unit) (fun gj1=>[(0,vs public_),(1,vs digest),(7,ptr (some (b1,0)) 0),(8,ptr (some (b2,0)) 0),(32,vb j1)]) (fun gj1=>[⟨some (b1,0),e64 r_1.1.toList⟩,⟨some (b2,0),e64 r_1.2.1.toList⟩]) ?_ ?_
 ·intro gj1
  refine TX_next (TC_cond (b:=j1) rfl (fun hc=>?_) (fun hc=>?_))
  ·replace H:=ite_t hc H
   refine TC_seq (TC_region (TLv (V_assign rfl) ?_))
   refine TL_nil (TX_next (TC_ret (TX_then_ret ?_)))
   have hrv:=Option.some.inj H
   subst hrv
   exact TX_ret (rs:=[.tmp 6]) (vs:=[vi 1200]) rfl ⟨rfl,trivial⟩ (fun w' hs'=>⟨(),rfl,Step.left (Step.pulled (is:=[]) (A:=[]) hs' rfl)⟩)
  ·replace H:=ite_f (Bool.eq_false_iff.1 hc) H
   refine TC_skip (TX_next (TC_seq (TC_region ?_)))
   obtain ⟨r_2,hr_2,H⟩:=bind_elim H
   rcases r_2 with r_2 | r_2
   ·dsimp only at H
    refine TL_e rfl rfl rfl (E_call (Γ:=Unit × Nat) (val:=fun g=>Value.pointer none) (mem:=fun g=>[]) (vs:=[vi 1]) (Lin:=[]) (Ro:=[]) (is:=[]) rfl Try.call53 (F53_calls 1 (.inl r_2) hr_2) rfl trivial) (fun g_2=>?_)
    refine TLv (V_assign rfl) ?_
    refine TL_nil (TX_next (TC_seq (TC_region (TLv (V_move rfl) ?_))))
    refine TLv (V_move rfl) ?_
    refine TLv (V_lag (.o 1) Try.isAgg57 TryI.inf57) ?_
    exact absurd (show (none:Option _)=some _ from H) (fun h=>by cases h)
   ·dsimp only at H
    refine TL_e rfl rfl rfl (E_call (Γ:=Unit × Nat) (val:=fun g=>ptr (some (g.2,0)) 0) (mem:=fun g=>[⟨some (g.2,0),e64 r_2.1.toList⟩,⟨some (g.2,4),[v64 r_2.2.1]⟩,⟨some (g.2,5),e64 r_2.2.2.1.toList⟩,⟨some (g.2,9),e64 r_2.2.2.2.toList⟩]) (vs:=[vi 1]) (Lin:=[]) (Ro:=[]) (is:=[]) rfl Try.call53 (F53_calls 1 (.inr r_2) hr_2) rfl trivial) (fun g_3=>?_)
    refine TLv (V_assign rfl) ?_
    refine TL_nil (TX_next (TC_seq (TC_region (TLv (V_move rfl) ?_))))
    refine TLv (V_move rfl) ?_
    refine TLv (V_lag (.o 5) Try.isAgg57 TryI.inf57) ?_
    obtain ⟨r_3,hr_3,H⟩:=bind_elim H
    refine TLe (E_c0 (F56_calls g_3.2 0 r_2.1 r_2.2.1 r_2.2.2.1 r_2.2.2.2 r_1.2.1 r_3 hr_3) Try.call56 ⟨.o 0, .o 1, .o 2, .o 3,trivial⟩) (fun g_4=>?_)
    obtain ⟨r_4,hr_4,H⟩:=bind_elim H
    refine TLe (E_c0 (F60_calls g_3.2 0 r_2.1 r_2.2.1 r_2.2.2.1 r_2.2.2.2 r_3 r_4 hr_4) Try.call60 ⟨.o 0, .o 1, .o 2, .o 3,trivial⟩) (fun g_5=>?_)
    refine TLe (E_al64 4 TryI.inf57 TryI.zer57) (fun b3=>?_)
    refine TLn (E_sv (vs:=e64 r_4.toList) 0 TryI.inf57) (fun _=>?_)
    refine TL_nil (TX_next (TC_seq ?_))
    obtain ⟨r_5,hr_5,H⟩:=bind_elim H
    obtain ⟨r_6,hr_6,H⟩:=bind_elim H
    obtain ⟨r_7,hr_7,H⟩:=bind_elim H
    obtain ⟨r_8,hr_8,H⟩:=bind_elim H
    obtain ⟨r_9,hr_9,H⟩:=bind_elim H
    refine TA_begin [] 13 (by kernel_rfl) (N:=13) rfl ?_
    refine TA_mix (is:=[]) (done':=dn 13 4095) [itV 0 39 (ptr (some (g_3.2,0)) 0) [],itV 1 40 (ptr (some (g_3.2,0)) 0) [],itV 2 41 (ptr (some (g_3.2,0)) 0) [],itV 3 42 (ptr (some (g_3.2,0)) 0) [],itV 4 43 (vs digest) [],itV 5 44 (aG [(4,e64 r_5.toList)]) [4],itV 6 45 (aG [(4,e64 r_6.toList)]) [3,5],itV 7 46 (aG [(4,e64 r_7.toList)]) [2,6],itV 8 47 (aG [(4,e64 r_4.toList)]) [],itV 9 48 (aG [(4,e64 r_8.toList)]) [1,7,8],itV 10 49 (aG [(4,e64 r_9.toList)]) [9,0],itA64 11 12 4] [] 1 (by kernel_rfl) (QP.then QP.body) (by kernel_rfl) rfl (.v rfl (V_move rfl) (.v rfl (V_move rfl) (.v rfl (V_move rfl) (.v rfl (V_move rfl) (.v rfl (V_move rfl) (.e rfl (E_cu (F55_calls digest r_5 hr_5) Try.call55 .z) (.e rfl (E_cu (F54_calls g_3.2 0 r_2.1 r_2.2.1 r_2.2.2.1 r_2.2.2.2 r_5 r_6 hr_6) Try.call54 ⟨.o 1, .o 2, .o 3, .o 4,trivial⟩) (.e rfl (E_cu (F56_calls g_3.2 0 r_2.1 r_2.2.1 r_2.2.2.1 r_2.2.2.2 r_6 r_7 hr_7) Try.call56 ⟨.o 1, .o 2, .o 3, .o 4,trivial⟩) (.v rfl (V_lag (.o 0) Try.isAgg57 TryI.inf57) (.e rfl (E_cu (F58_calls g_3.2 0 r_2.1 r_2.2.1 r_2.2.2.1 r_2.2.2.2 r_7 r_4 r_8 hr_8) Try.call58 ⟨.o 1, .o 2, .o 3, .o 4,trivial⟩) (.e rfl (E_cu (F57_calls g_3.2 0 r_2.1 r_2.2.1 r_2.2.2.1 r_2.2.2.2 r_8 r_9 hr_9) Try.call57 ⟨.o 1, .o 2, .o 3, .o 4,trivial⟩) (.c rfl (fun _ _=>(E_al64 4 TryI.inf57 TryI.zer57)) .nil)))))))))))) .nil (by kernel_rfl) rfl (fun γ=>?_)
    refine TA_cut [(12,ptr (some ((γ 11),0)) 0),(49,aG [(4,e64 r_9.toList)]),(11,ptr (some (b3,0)) 0),(10,ptr (some (g_3.2,0)) 0),(0,vs public_),(7,ptr (some (b1,0)) 0)] [⟨some ((γ 11),0),e64 ((replicate 4 0#64).toList)⟩,⟨some (b3,0),e64 r_4.toList⟩,⟨some (g_3.2,0),e64 r_2.1.toList⟩,⟨some (g_3.2,4),[v64 r_2.2.1]⟩,⟨some (g_3.2,5),e64 r_2.2.2.1.toList⟩,⟨some (g_3.2,9),e64 r_2.2.2.2.toList⟩,⟨some (b1,0),e64 r_1.1.toList⟩,⟨some (b2,0),e64 r_1.2.1.toList⟩] ⟨rfl,rfl,rfl,rfl,rfl,rfl,trivial⟩ rfl ?_
    generalize γ 11=b4
    refine TA_all (rs:=[12]) (by kernel_rfl) rfl ?_
    refine ⟨?_,trivial⟩
    refine TO_n (is:=[]) (done':=dn 13 8191) rfl rfl rfl (by kernel_rfl) (E_sv (vs:=e64 r_9.toList) 0 TryI.inf57) (fun _ _=>rfl) (fun _=>?_)
    refine TA_done (by kernel_rfl) ?_ 0
    refine TX_next (TC_seq ?_)
    obtain ⟨r_10,hr_10,H⟩:=bind_elim H
    obtain ⟨r_11,hr_11,H⟩:=bind_elim H
    obtain ⟨r_12,hr_12,H⟩:=bind_elim H
    refine TA_begin [] 10 (by kernel_rfl) (N:=10) rfl ?_
    refine TA_mix (is:=[]) (done':=dn 10 511) [itV 0 50 (ptr (some (g_3.2,0)) 0) [],itV 1 51 (ptr (some (g_3.2,0)) 0) [],itV 2 52 (ptr (some (g_3.2,0)) 0) [],itV 3 53 (aG [(4,e64 r_1.1.toList)]) [],itV 4 54 (aG [(4,e64 r_10.toList)]) [2,3],itV 5 55 (aG [(4,e64 r_4.toList)]) [],itV 6 56 (aG [(4,e64 r_11.toList)]) [1,4,5],itV 7 57 (aG [(4,e64 r_12.toList)]) [6,0],itA64 8 13 4] [] 1 (by kernel_rfl) (QP.then QP.body) (by kernel_rfl) rfl (.v rfl (V_move rfl) (.v rfl (V_move rfl) (.v rfl (V_move rfl) (.v rfl (V_lag (.o 6) Try.isAgg57 TryI.inf57) (.e rfl (E_cu (F56_calls g_3.2 0 r_2.1 r_2.2.1 r_2.2.2.1 r_2.2.2.2 r_1.1 r_10 hr_10) Try.call56 ⟨.o 2, .o 3, .o 4, .o 5,trivial⟩) (.v rfl (V_lag (.o 1) Try.isAgg57 TryI.inf57) (.e rfl (E_cu (F58_calls g_3.2 0 r_2.1 r_2.2.1 r_2.2.2.1 r_2.2.2.2 r_10 r_4 r_11 hr_11) Try.call58 ⟨.o 2, .o 3, .o 4, .o 5,trivial⟩) (.e rfl (E_cu (F57_calls g_3.2 0 r_2.1 r_2.2.1 r_2.2.2.1 r_2.2.2.2 r_11 r_12 hr_12) Try.call57 ⟨.o 2, .o 3, .o 4, .o 5,trivial⟩) (.c rfl (fun _ _=>(E_al64 4 TryI.inf57 TryI.zer57)) .nil))))))))) .nil (by kernel_rfl) rfl (fun γ=>?_)
    refine TA_cut [(13,ptr (some ((γ 8),0)) 0),(57,aG [(4,e64 r_12.toList)]),(12,ptr (some (b4,0)) 0),(10,ptr (some (g_3.2,0)) 0),(0,vs public_),(7,ptr (some (b1,0)) 0)] [⟨some ((γ 8),0),e64 ((replicate 4 0#64).toList)⟩,⟨some (b4,0),e64 r_9.toList⟩,⟨some (b3,0),e64 r_4.toList⟩,⟨some (g_3.2,0),e64 r_2.1.toList⟩,⟨some (g_3.2,4),[v64 r_2.2.1]⟩,⟨some (g_3.2,5),e64 r_2.2.2.1.toList⟩,⟨some (g_3.2,9),e64 r_2.2.2.2.toList⟩,⟨some (b1,0),e64 r_1.1.toList⟩,⟨some (b2,0),e64 r_1.2.1.toList⟩] ⟨rfl,rfl,rfl,rfl,rfl,rfl,trivial⟩ rfl ?_
    generalize γ 8=b5
    refine TA_all (rs:=[9]) (by kernel_rfl) rfl ?_
    refine ⟨?_,trivial⟩
    refine TO_n (is:=[]) (done':=dn 10 1023) rfl rfl rfl (by kernel_rfl) (E_sv (vs:=e64 r_12.toList) 0 TryI.inf57) (fun _ _=>rfl) (fun _=>?_)
    refine TA_done (by kernel_rfl) ?_ 0
    refine TX_next (TC_seq (TC_region (TLv (V_lag (.o 1) Try.isAgg57 TryI.inf57) ?_)))
    refine TLv (V_lag (.o 0) Try.isAgg57 TryI.inf57) ?_
    refine TLv (V_move rfl) ?_
    obtain ⟨r_13,hr_13,H⟩:=bind_elim H
    refine TLe (E_c0 (F70_calls r_9 r_12 public_ r_13 hr_13) Try.call70 .z) (fun g_14=>?_)
    refine TLv (V_move rfl) ?_
    refine TLv V_ex ?_
    refine TLv V_ex ?_
    refine TLe (E_al64 4 TryI.inf57 TryI.zer57) (fun b6=>?_)
    refine TLn (E_sv (vs:=e64 r_13.1.toList) 0 TryI.inf57) (fun _=>?_)
    refine TLv (V_assign rfl) ?_
    refine TL_nil (TX_next (TC_seq (TC_seq (TC_em (!r_13.2) (fun hg9_3=>?_) (fun hg9_3=>?_)))))
    ·replace H:=ite_t hg9_3 H
     refine TA_begin [⟨some (b6,0),e64 r_13.1.toList⟩,⟨some (b5,0),e64 r_12.toList⟩,⟨some (b4,0),e64 r_9.toList⟩,⟨some (b3,0),e64 r_4.toList⟩,⟨some (g_3.2,0),e64 r_2.1.toList⟩,⟨some (g_3.2,4),[v64 r_2.2.1]⟩,⟨some (g_3.2,5),e64 r_2.2.2.1.toList⟩,⟨some (g_3.2,9),e64 r_2.2.2.2.toList⟩,⟨some (b1,0),e64 r_1.1.toList⟩,⟨some (b2,0),e64 r_1.2.1.toList⟩] 9 (by kernel_rfl) (N:=9) rfl ?_
     refine TA_tk 0 [0,0,0,0,0,0,0,0,0,0] (dn 9 1) rfl rfl (V_move rfl) ?_
     refine TA_tk 1 [0,0,0,0,0,0,0,0,0,0] (dn 9 3) rfl rfl (V_un rfl (fun w=>notB w r_13.2)) ?_
     refine TA_tk 2 [0,0,0,0,0,0,0,0,0,0] (dn 9 7) rfl rfl (V_move rfl) ?_
     refine TA_re (d:=67) (v:=vb (!r_13.2)) (v':=vb true) rfl (congrArg vb hg9_3) ?_
     refine TA_ts 3 [0,0,0,0,0,0,0,0,0,0] (dn 9 15) rfl rfl ?_
     refine TA_ts 4 [0,0,0,0,0,0,0,0,0,0] (dn 9 31) rfl rfl ?_
     refine TA_ts 5 [0,0,0,0,0,0,0,0,0,0] (dn 9 63) rfl rfl ?_
     refine TA_ts 6 [0,0,0,0,0,0,0,0,0,0] (dn 9 127) rfl rfl ?_
     refine TA_ts 7 [0,0,0,0,0,0,0,0,0,0] (dn 9 255) rfl rfl ?_
     refine TA_tk 8 [0,0,0,0,0,0,0,0,0,0] (dn 9 511) rfl rfl (V_pick (b:=true) rfl rfl) ?_
     refine TA_done (by kernel_rfl) ?_ 0
     refine TX_next (TC_cond_t rfl ?_)
     refine TC_seq (TC_region (TLv (V_assign rfl) ?_))
     refine TL_nil (TX_next (TC_ret (TX_then_ret ?_)))
     have hrv:=Option.some.inj H
     subst hrv
     exact TX_ret (rs:=[.tmp 6]) (vs:=[vi 1201]) rfl ⟨rfl,trivial⟩ (fun w' hs'=>⟨(),rfl,Step.left (Step.pulled (is:=[]) (A:=[]) hs' rfl)⟩)
    ·replace H:=ite_f (Bool.eq_false_iff.1 hg9_3) H
     obtain ⟨r_14,hr_14,H⟩:=bind_elim H
     refine TA_begin [⟨some (b6,0),e64 r_13.1.toList⟩,⟨some (b5,0),e64 r_12.toList⟩,⟨some (b4,0),e64 r_9.toList⟩,⟨some (b3,0),e64 r_4.toList⟩,⟨some (g_3.2,0),e64 r_2.1.toList⟩,⟨some (g_3.2,4),[v64 r_2.2.1]⟩,⟨some (g_3.2,5),e64 r_2.2.2.1.toList⟩,⟨some (g_3.2,9),e64 r_2.2.2.2.toList⟩,⟨some (b1,0),e64 r_1.1.toList⟩,⟨some (b2,0),e64 r_1.2.1.toList⟩] 9 (by kernel_rfl) (N:=9) rfl ?_
     refine TA_tk 0 [0,0,0,0,0,0,0,0,0,0] (dn 9 1) rfl rfl (V_move rfl) ?_
     refine TA_tk 1 [0,0,0,0,0,0,0,0,0,0] (dn 9 3) rfl rfl (V_un rfl (fun w=>notB w r_13.2)) ?_
     refine TA_tk 2 [0,0,0,0,0,0,0,0,0,0] (dn 9 7) rfl rfl (V_move rfl) ?_
     refine TA_re (d:=67) (v:=vb (!r_13.2)) (v':=vb false) rfl (congrArg vb hg9_3) ?_
     refine TA_tw 3 [0,0,0,0,0,0,0,0,0,0] (dn 9 15) rfl rfl (V_move rfl) ?_
     refine TA_tw 4 [0,0,0,0,0,0,0,0,0,0] (dn 9 31) rfl rfl (V_lag (.o 0) Try.isAgg57 TryI.inf57) ?_
     refine TA_tw 6 [0,0,0,0,0,0,0,0,0,0] (dn 9 95) rfl rfl (V_lag (.o 8) Try.isAgg57 TryI.inf57) ?_
     refine TA_all (rs:=[5]) (by kernel_rfl) rfl ?_
     refine ⟨?_,trivial⟩
     refine TO_eW (is:=[0,0,0,0,0,0,0,0,0,0]) (done':=dn 9 127) rfl rfl rfl rfl rfl rfl rfl (by kernel_rfl) (E_c0 (F54_calls g_3.2 0 r_2.1 r_2.2.1 r_2.2.2.1 r_2.2.2.2 r_13.1 r_14 hr_14) Try.call54 ⟨.o 4, .o 5, .o 6, .o 7,trivial⟩) (fun _ _=>rfl) (fun g_15=>?_)
     refine TA_tw 7 [0,0,0,0,0,0,0,0,0,0] (dn 9 255) rfl rfl (V_bin rfl rfl (fun w=>neqA w Try.underlying57 Try.underlying55 (by kernel_rfl) (by kernel_rfl) r_14 r_1.1)) ?_
     refine TA_tk 8 [0,0,0,0,0,0,0,0,0,0] (dn 9 511) rfl rfl (V_pick (b:=false) rfl rfl) ?_
     refine TA_done (by kernel_rfl) ?_ 0
     refine TX_next (TC_cond (b:=(decide (r_14 ≠ r_1.1))) rfl (fun hc=>?_) (fun hc=>?_))
     ·replace H:=ite_t (of_decide_eq_true hc) H
      refine TC_seq (TC_region (TLv (V_assign rfl) ?_))
      refine TL_nil (TX_next (TC_ret (TX_then_ret ?_)))
      have hrv:=Option.some.inj H
      subst hrv
      exact TX_ret (rs:=[.tmp 6]) (vs:=[vi 1201]) rfl ⟨rfl,trivial⟩ (fun w' hs'=>⟨(),rfl,Step.left (Step.pulled (is:=[]) (A:=[]) hs' rfl)⟩)
     ·replace H:=ite_f (of_decide_eq_false hc) H
      refine TC_skip (TX_next (TC_seq (TC_region (TLv (V_assign rfl) ?_))))
      refine TL_nil (TX_next (TC_ret ?_))
      have hrv:=Option.some.inj H
      subst hrv
      exact TX_ret (rs:=[.tmp 6]) (vs:=[vi 0]) rfl ⟨rfl,trivial⟩ (fun w' hs'=>⟨(),rfl,Step.left (Step.pulled (is:=[]) (A:=[]) hs' rfl)⟩)
 ·intro hJ
  replace H:=Hj
  refine TL_fork (d:=23) (b:=(!r_1.2.2)) rfl (fun hc=>?_) (fun hc=>?_)
  ·replace H:=ite_t hc H
   refine TL_skip rfl rfl rfl rfl rfl rfl rfl ?_
   refine TL_skip rfl rfl rfl rfl rfl rfl rfl ?_
   refine TL_skip rfl rfl rfl rfl rfl rfl rfl ?_
   refine TLv (V_pick (b:=true) rfl rfl) ?_
   refine TLv (V_move rfl) ?_
   refine TL_skip rfl rfl rfl rfl rfl rfl rfl ?_
   refine TL_skip rfl rfl rfl rfl rfl rfl rfl ?_
   refine TL_skip rfl rfl rfl rfl rfl rfl rfl ?_
   refine TLv (V_pick (b:=true) rfl rfl) ?_
   refine TL_nil (TX.sub (m':=[(0,vs public_),(1,vs digest),(7,ptr (some (b1,0)) 0),(8,ptr (some (b2,0)) 0),(32,vb true)]) ⟨rfl,rfl,rfl,rfl,rfl,trivial⟩ ?_)
   refine TX.pull (is:=[1,0]) (L':=[⟨some (b1,0),e64 r_1.1.toList⟩,⟨some (b2,0),e64 r_1.2.1.toList⟩]) rfl ?_
   obtain rfl:=Option.some.inj H
   exact hJ ()
  ·replace H:=ite_f (Bool.eq_false_iff.1 hc) H
   refine TL_want rfl rfl rfl rfl rfl rfl (V_move rfl) ?_
   refine TL_want rfl rfl rfl rfl rfl rfl (V_len_str rfl Try.underlying9) ?_
   refine TL_want rfl rfl rfl rfl rfl rfl (V_bin rfl rfl (fun w=>neqI w ((digest).length:Int) 32)) ?_
   refine TLv (V_pick (b:=false) rfl rfl) ?_
   refine TLv (V_move rfl) ?_
   refine TL_fork (d:=28) (b:=(decide (((digest).length:Int) ≠ 32))) rfl (fun hc=>?_) (fun hc=>?_)
   ·replace H:=ite_t (of_decide_eq_true hc) H
    refine TL_skip rfl rfl rfl rfl rfl rfl rfl ?_
    refine TL_skip rfl rfl rfl rfl rfl rfl rfl ?_
    refine TL_skip rfl rfl rfl rfl rfl rfl rfl ?_
    refine TLv (V_pick (b:=true) rfl rfl) ?_
    refine TL_nil (TX.sub (m':=[(0,vs public_),(1,vs digest),(7,ptr (some (b1,0)) 0),(8,ptr (some (b2,0)) 0),(32,vb true)]) ⟨rfl,rfl,rfl,rfl,rfl,trivial⟩ ?_)
    refine TX.pull (is:=[1,0]) (L':=[⟨some (b1,0),e64 r_1.1.toList⟩,⟨some (b2,0),e64 r_1.2.1.toList⟩]) rfl ?_
    obtain rfl:=Option.some.inj H
    exact hJ ()
   ·replace H:=ite_f (of_decide_eq_false hc) H
    refine TL_want rfl rfl rfl rfl rfl rfl (V_move rfl) ?_
    obtain ⟨r_15,hr_15,H⟩:=bind_elim H
    refine TL_wantE rfl rfl rfl rfl rfl rfl (E_c0 (F21_calls public_ r_15 hr_15) Try.call21 .z) (fun g_16=>?_)
    refine TL_want rfl rfl rfl rfl rfl rfl (V_un rfl (fun w=>notB w r_15)) ?_
    refine TLv (V_pick (b:=false) rfl rfl) ?_
    refine TL_nil (TX.sub (m':=[(0,vs public_),(1,vs digest),(7,ptr (some (b1,0)) 0),(8,ptr (some (b2,0)) 0),(32,vb (!r_15))]) ⟨rfl,rfl,rfl,rfl,rfl,trivial⟩ ?_)
    refine TX.pull (is:=[1,0]) (L':=[⟨some (b1,0),e64 r_1.1.toList⟩,⟨some (b2,0),e64 r_1.2.1.toList⟩]) rfl ?_
    obtain rfl:=Option.some.inj H
    exact hJ ()
end Go.Proofs
end

section
namespace Go.Proofs
open Go Go.Kx
open Vector (replicate)
def ecdsa_Sign (key:Str) (nonce:Str) (digest:Str):Option (Str × Int) :=
 (pcurve_Scalar key).bind fun (r_1:Vx 64 4 × Bool)=>((pcurve_Scalar nonce).bind fun (r_2:Vx 64 4 × Bool)=>((if (!r_1.2)=true then (some true) else (if (!r_2.2)=true then (some true) else (some (decide (((digest).length:Int) ≠ 32))))).bind fun (j1:Bool)=>(if j1=true then (some (([]:Str),1200)) else ((num_New 1).bind fun (r_3:(Unit) ⊕ (Vx 64 4 × BitVec 64 × Vx 64 4 × Vx 64 4))=>(match r_3 with | .inl r_3=>((pcurve_Public nonce).bind fun (r_4:Str × Int)=>(if 33≤(r_4.1).length then ((num_Load (sub r_4.1 1 33)).bind fun (r_5:Vx 64 4)=>(none)) else none)) | .inr r_3=>((pcurve_Public nonce).bind fun (r_6:Str × Int)=>(if 33≤(r_6.1).length then ((num_Load (sub r_6.1 1 33)).bind fun (r_7:Vx 64 4)=>((num_Field_Rest r_3.1 r_3.2.1 r_3.2.2.1 r_3.2.2.2 r_7).bind fun (r_8:Vx 64 4)=>((num_Load digest).bind fun (r_9:Vx 64 4)=>((num_Field_Rest r_3.1 r_3.2.1 r_3.2.2.1 r_3.2.2.2 r_9).bind fun (r_10:Vx 64 4)=>((num_Field_In r_3.1 r_3.2.1 r_3.2.2.1 r_3.2.2.2 r_10).bind fun (r_11:Vx 64 4)=>((num_Field_In r_3.1 r_3.2.1 r_3.2.2.1 r_3.2.2.2 r_8).bind fun (r_12:Vx 64 4)=>((num_Field_In r_3.1 r_3.2.1 r_3.2.2.1 r_3.2.2.2 r_1.1).bind fun (r_13:Vx 64 4)=>((num_Field_Mul r_3.1 r_3.2.1 r_3.2.2.1 r_3.2.2.2 r_12 r_13).bind fun (r_14:Vx 64 4)=>((num_Field_Add r_3.1 r_3.2.1 r_3.2.2.1 r_3.2.2.2 r_11 r_14).bind fun (r_15:Vx 64 4)=>((num_Field_In r_3.1 r_3.2.1 r_3.2.2.1 r_3.2.2.2 r_2.1).bind fun (r_16:Vx 64 4)=>((num_Field_Inv r_3.1 r_3.2.1 r_3.2.2.1 r_3.2.2.2 r_16).bind fun (r_17:Vx 64 4)=>((num_Field_Mul r_3.1 r_3.2.1 r_3.2.2.1 r_3.2.2.2 r_15 r_17).bind fun (r_18:Vx 64 4)=>((num_Field_Out r_3.1 r_3.2.1 r_3.2.2.1 r_3.2.2.2 r_18).bind fun (r_19:Vx 64 4)=>((num_Nat_Zero r_8).bind fun (r_20:Bool)=>((if r_20=true then (some true) else ((num_Nat_Zero r_19).bind fun (r_26:Bool)=>(some r_26))).bind fun (j2:Bool)=>(if j2=true then (some (([]:Str),1201)) else ((num_Nat_Bytes r_8).bind fun (r_21:Str)=>((der_Integer r_21).bind fun (r_22:Str × Int)=>((num_Nat_Bytes r_19).bind fun (r_23:Str)=>((der_Integer r_23).bind fun (r_24:Str × Int)=>(if (([r_22.1,r_24.1]:List (Str))).length=2 then ((der_Put 48 ([r_22.1,r_24.1]:List (Str))).bind fun (r_25:Str × Int)=>(some (r_25.1,0))) else none))))))))))))))))))))) else none)))))))
set_option maxHeartbeats 4000000 in
set_option maxRecDepth 20000 in
theorem F25_calls (key:Str) (nonce:Str) (digest:Str) (r:Str × Int) (H:ecdsa_Sign key nonce digest=some r) :
  Does Try.prog 25 [vs key,vs nonce,vs digest] [] [] (Γ:=Unit) (fun g=>Value.tuple [vs r.1,vi r.2].toArray) (fun g=>[]):=by
 intro w hmem hro hd
 refine calls_of (N:=108) (m0:=[(0,vs key),(1,vs nonce),(2,vs digest)]) Try.func25 rfl Try.ntmps25 (argM_ok [vs key,vs nonce,vs digest]) rfl hmem hro hd ?_
 unfold ecdsa_Sign at H
 refine TC_seq (TC_region (TLv (V_assign rfl) ?_))
 refine TLv (V_assign rfl) ?_
 refine TL_nil (TX_next (TC_seq (TC_region (TLv (V_move rfl) ?_))))
 obtain ⟨r_1,hr_1,H⟩:=bind_elim H
 refine TLe (E_c0 (F32_calls key r_1 hr_1) Try.call32 .z) (fun g_1=>?_)
 refine TLv (V_move rfl) ?_
 refine TLv V_ex ?_
 refine TLv V_ex ?_
 refine TLe (E_al64 4 TryI.inf57 TryI.zer57) (fun b1=>?_)
 refine TLn (E_sv (vs:=e64 r_1.1.toList) 0 TryI.inf57) (fun _=>?_)
 refine TLv (V_assign rfl) ?_
 refine TL_nil (TX_next (TC_seq (TC_region (TLv (V_move rfl) ?_))))
 obtain ⟨r_2,hr_2,H⟩:=bind_elim H
 refine TLe (E_c0 (F32_calls nonce r_2 hr_2) Try.call32 .z) (fun g_2=>?_)
 refine TLv (V_move rfl) ?_
 refine TLv V_ex ?_
 refine TLv V_ex ?_
 refine TLe (E_al64 4 TryI.inf57 TryI.zer57) (fun b2=>?_)
 refine TLn (E_sv (vs:=e64 r_2.1.toList) 0 TryI.inf57) (fun _=>?_)
 refine TLv (V_assign rfl) ?_
 refine TL_nil (TX_next (TC_seq (TC_seq (TC_region (TLv (V_move rfl) ?_)))))
 refine TLv (V_un rfl (fun w=>notB w r_1.2)) ?_
 refine TLv (V_move rfl) ?_
 obtain ⟨j1,Hj,H⟩:=bind_elim H
 refine TL_join (Γ:=Unit) (fun gj1=>[(1,vs nonce),(2,vs digest),(8,ptr (some (b1,0)) 0),(10,ptr (some (b2,0)) 0),(44,vb j1)]) (fun gj1=>[⟨some (b1,0),e64 r_1.1.toList⟩,⟨some (b2,0),e64 r_2.1.toList⟩]) ?_ ?_
 ·intro gj1
  refine TX_next (TC_cond (b:=j1) rfl (fun hc=>?_) (fun hc=>?_))
  ·replace H:=ite_t hc H
   refine TC_seq (TC_region (TLv (V_assign rfl) ?_))
   refine TLv (V_assign rfl) ?_
   refine TL_nil (TX_next (TC_ret (TX_then_ret ?_)))
   have hrv:=Option.some.inj H
   subst hrv
   exact TX_ret (rs:=[.tmp 6, .tmp 7]) (vs:=[vs ([]:Str),vi 1200]) rfl ⟨rfl,rfl,trivial⟩ (fun w' hs'=>⟨(),rfl,Step.left (Step.pulled (is:=[]) (A:=[]) hs' rfl)⟩)
  ·replace H:=ite_f (Bool.eq_false_iff.1 hc) H
   refine TC_skip (TX_next (TC_seq (TC_region ?_)))
   obtain ⟨r_3,hr_3,H⟩:=bind_elim H
   rcases r_3 with r_3 | r_3
   ·dsimp only at H
    refine TL_e rfl rfl rfl (E_call (Γ:=Unit × Nat) (val:=fun g=>Value.pointer none) (mem:=fun g=>[]) (vs:=[vi 1]) (Lin:=[]) (Ro:=[]) (is:=[]) rfl Try.call53 (F53_calls 1 (.inl r_3) hr_3) rfl trivial) (fun g_3=>?_)
    refine TLv (V_assign rfl) ?_
    refine TL_nil (TX_next (TC_seq (TC_region (TLv (V_move rfl) ?_))))
    obtain ⟨r_4,hr_4,H⟩:=bind_elim H
    refine TLe (E_c0 (F13_calls nonce r_4 hr_4) Try.call13 .z) (fun g_4=>?_)
    refine TLv (V_move rfl) ?_
    refine TLv V_ex ?_
    refine TLv V_ex ?_
    refine TLv (V_assign rfl) ?_
    refine TLv (V_assign rfl) ?_
    refine TL_nil (TX_next (TC_seq (TC_region (TLv (V_move rfl) ?_))))
    refine TLv (V_move rfl) ?_
    obtain ⟨h1,H⟩:=if_elim H
    refine TLv (V_sliceStr (l:=1) (h:=33) rfl Try.underlying9 (Bnd.some' (i:=1) rfl (by decide)) (Bnd.some' (i:=33) rfl (by decide)) (by decide) h1) ?_
    obtain ⟨r_5,hr_5,H⟩:=bind_elim H
    refine TLe (E_c0 (F55_calls (sub r_4.1 1 33) r_5 hr_5) Try.call55 .z) (fun g_5=>?_)
    exact absurd (show (none:Option _)=some _ from H) (fun h=>by cases h)
   ·dsimp only at H
    refine TL_e rfl rfl rfl (E_call (Γ:=Unit × Nat) (val:=fun g=>ptr (some (g.2,0)) 0) (mem:=fun g=>[⟨some (g.2,0),e64 r_3.1.toList⟩,⟨some (g.2,4),[v64 r_3.2.1]⟩,⟨some (g.2,5),e64 r_3.2.2.1.toList⟩,⟨some (g.2,9),e64 r_3.2.2.2.toList⟩]) (vs:=[vi 1]) (Lin:=[]) (Ro:=[]) (is:=[]) rfl Try.call53 (F53_calls 1 (.inr r_3) hr_3) rfl trivial) (fun g_6=>?_)
    refine TLv (V_assign rfl) ?_
    refine TL_nil (TX_next (TC_seq (TC_region (TLv (V_move rfl) ?_))))
    obtain ⟨r_6,hr_6,H⟩:=bind_elim H
    refine TLe (E_c0 (F13_calls nonce r_6 hr_6) Try.call13 .z) (fun g_7=>?_)
    refine TLv (V_move rfl) ?_
    refine TLv V_ex ?_
    refine TLv V_ex ?_
    refine TLv (V_assign rfl) ?_
    refine TLv (V_assign rfl) ?_
    refine TL_nil (TX_next (TC_seq (TC_region (TLv (V_move rfl) ?_))))
    refine TLv (V_move rfl) ?_
    obtain ⟨h2,H⟩:=if_elim H
    refine TLv (V_sliceStr (l:=1) (h:=33) rfl Try.underlying9 (Bnd.some' (i:=1) rfl (by decide)) (Bnd.some' (i:=33) rfl (by decide)) (by decide) h2) ?_
    obtain ⟨r_7,hr_7,H⟩:=bind_elim H
    refine TLe (E_c0 (F55_calls (sub r_6.1 1 33) r_7 hr_7) Try.call55 .z) (fun g_8=>?_)
    obtain ⟨r_8,hr_8,H⟩:=bind_elim H
    refine TLe (E_c0 (F54_calls g_6.2 0 r_3.1 r_3.2.1 r_3.2.2.1 r_3.2.2.2 r_7 r_8 hr_8) Try.call54 ⟨.o 0, .o 1, .o 2, .o 3,trivial⟩) (fun g_9=>?_)
    refine TLe (E_al64 4 TryI.inf57 TryI.zer57) (fun b3=>?_)
    refine TLn (E_sv (vs:=e64 r_8.toList) 0 TryI.inf57) (fun _=>?_)
    refine TL_nil (TX_next (TC_seq (TC_region (TLv (V_move rfl) ?_))))
    refine TLv (V_move rfl) ?_
    refine TLv (V_move rfl) ?_
    obtain ⟨r_9,hr_9,H⟩:=bind_elim H
    refine TLe (E_c0 (F55_calls digest r_9 hr_9) Try.call55 .z) (fun g_10=>?_)
    obtain ⟨r_10,hr_10,H⟩:=bind_elim H
    refine TLe (E_c0 (F54_calls g_6.2 0 r_3.1 r_3.2.1 r_3.2.2.1 r_3.2.2.2 r_9 r_10 hr_10) Try.call54 ⟨.o 1, .o 2, .o 3, .o 4,trivial⟩) (fun g_11=>?_)
    obtain ⟨r_11,hr_11,H⟩:=bind_elim H
    refine TLe (E_c0 (F56_calls g_6.2 0 r_3.1 r_3.2.1 r_3.2.2.1 r_3.2.2.2 r_10 r_11 hr_11) Try.call56 ⟨.o 1, .o 2, .o 3, .o 4,trivial⟩) (fun g_12=>?_)
    refine TLe (E_al64 4 TryI.inf57 TryI.zer57) (fun b4=>?_)
    refine TLn (E_sv (vs:=e64 r_11.toList) 0 TryI.inf57) (fun _=>?_)
    refine TL_nil (TX_next (TC.sub (m':=[(8,ptr (some (b1,0)) 0),(10,ptr (some (b2,0)) 0),(12,ptr (some (g_6.2,0)) 0),(15,ptr (some (b3,0)) 0),(16,ptr (some (b4,0)) 0)]) ⟨rfl,rfl,rfl,rfl,rfl,trivial⟩ ?_))
    refine TC.pull (is:=[6,6,2,2,2,2,1,0]) (L':=[⟨some (b1,0),e64 r_1.1.toList⟩,⟨some (b2,0),e64 r_2.1.toList⟩,⟨some (g_6.2,0),e64 r_3.1.toList⟩,⟨some (g_6.2,4),[v64 r_3.2.1]⟩,⟨some (g_6.2,5),e64 r_3.2.2.1.toList⟩,⟨some (g_6.2,9),e64 r_3.2.2.2.toList⟩,⟨some (b3,0),e64 r_8.toList⟩,⟨some (b4,0),e64 r_11.toList⟩]) rfl ?_
    refine TC_seq ?_
    obtain ⟨r_12,hr_12,H⟩:=bind_elim H
    obtain ⟨r_13,hr_13,H⟩:=bind_elim H
    obtain ⟨r_14,hr_14,H⟩:=bind_elim H
    obtain ⟨r_15,hr_15,H⟩:=bind_elim H
    obtain ⟨r_16,hr_16,H⟩:=bind_elim H
    obtain ⟨r_17,hr_17,H⟩:=bind_elim H
    obtain ⟨r_18,hr_18,H⟩:=bind_elim H
    obtain ⟨r_19,hr_19,H⟩:=bind_elim H
    refine TA_begin [] 22 (by kernel_rfl) (N:=22) rfl ?_
    refine TA_mix (is:=[]) (done':=dn 22 2097151) [itV 0 62 (ptr (some (g_6.2,0)) 0) [],itV 1 63 (ptr (some (g_6.2,0)) 0) [],itV 2 64 (ptr (some (g_6.2,0)) 0) [],itV 3 65 (aG [(4,e64 r_11.toList)]) [],itV 4 66 (ptr (some (g_6.2,0)) 0) [],itV 5 67 (ptr (some (g_6.2,0)) 0) [],itV 6 68 (aG [(4,e64 r_8.toList)]) [],itV 7 69 (aG [(4,e64 r_12.toList)]) [5,6],itV 8 70 (ptr (some (g_6.2,0)) 0) [],itV 9 71 (aG [(4,e64 r_1.1.toList)]) [],itV 10 72 (aG [(4,e64 r_13.toList)]) [8,9],itV 11 73 (aG [(4,e64 r_14.toList)]) [10,4,7],itV 12 74 (aG [(4,e64 r_15.toList)]) [2,3,11],itV 13 75 (ptr (some (g_6.2,0)) 0) [],itV 14 76 (ptr (some (g_6.2,0)) 0) [],itV 15 77 (aG [(4,e64 r_2.1.toList)]) [],itV 16 78 (aG [(4,e64 r_16.toList)]) [14,15],itV 17 79 (aG [(4,e64 r_17.toList)]) [13,16],itV 18 80 (aG [(4,e64 r_18.toList)]) [12,17,1],itV 19 81 (aG [(4,e64 r_19.toList)]) [18,0],itA64 20 17 4] [] 1 (by kernel_rfl) (QP.then QP.body) (by kernel_rfl) rfl (.v rfl (V_move rfl) (.v rfl (V_move rfl) (.v rfl (V_move rfl) (.v rfl (V_lag (.o 7) Try.isAgg57 TryI.inf57) (.v rfl (V_move rfl) (.v rfl (V_move rfl) (.v rfl (V_lag (.o 6) Try.isAgg57 TryI.inf57) (.e rfl (E_cu (F56_calls g_6.2 0 r_3.1 r_3.2.1 r_3.2.2.1 r_3.2.2.2 r_8 r_12 hr_12) Try.call56 ⟨.o 2, .o 3, .o 4, .o 5,trivial⟩) (.v rfl (V_move rfl) (.v rfl (V_lag (.o 0) Try.isAgg57 TryI.inf57) (.e rfl (E_cu (F56_calls g_6.2 0 r_3.1 r_3.2.1 r_3.2.2.1 r_3.2.2.2 r_1.1 r_13 hr_13) Try.call56 ⟨.o 2, .o 3, .o 4, .o 5,trivial⟩) (.e rfl (E_cu (F58_calls g_6.2 0 r_3.1 r_3.2.1 r_3.2.2.1 r_3.2.2.2 r_12 r_13 r_14 hr_14) Try.call58 ⟨.o 2, .o 3, .o 4, .o 5,trivial⟩) (.e rfl (E_cu (F59_calls g_6.2 0 r_3.1 r_3.2.1 r_3.2.2.1 r_3.2.2.2 r_11 r_14 r_15 hr_15) Try.call59 ⟨.o 2, .o 3, .o 4, .o 5,trivial⟩) (.v rfl (V_move rfl) (.v rfl (V_move rfl) (.v rfl (V_lag (.o 1) Try.isAgg57 TryI.inf57) (.e rfl (E_cu (F56_calls g_6.2 0 r_3.1 r_3.2.1 r_3.2.2.1 r_3.2.2.2 r_2.1 r_16 hr_16) Try.call56 ⟨.o 2, .o 3, .o 4, .o 5,trivial⟩) (.e rfl (E_cu (F60_calls g_6.2 0 r_3.1 r_3.2.1 r_3.2.2.1 r_3.2.2.2 r_16 r_17 hr_17) Try.call60 ⟨.o 2, .o 3, .o 4, .o 5,trivial⟩) (.e rfl (E_cu (F58_calls g_6.2 0 r_3.1 r_3.2.1 r_3.2.2.1 r_3.2.2.2 r_15 r_17 r_18 hr_18) Try.call58 ⟨.o 2, .o 3, .o 4, .o 5,trivial⟩) (.e rfl (E_cu (F57_calls g_6.2 0 r_3.1 r_3.2.1 r_3.2.2.1 r_3.2.2.2 r_18 r_19 hr_19) Try.call57 ⟨.o 2, .o 3, .o 4, .o 5,trivial⟩) (.c rfl (fun _ _=>(E_al64 4 TryI.inf57 TryI.zer57)) .nil))))))))))))))))))))) .nil (by kernel_rfl) rfl (fun γ=>?_)
    refine TA_cut [(17,ptr (some ((γ 20),0)) 0),(81,aG [(4,e64 r_19.toList)]),(15,ptr (some (b3,0)) 0)] [⟨some ((γ 20),0),e64 ((replicate 4 0#64).toList)⟩,⟨some (b1,0),e64 r_1.1.toList⟩,⟨some (b2,0),e64 r_2.1.toList⟩,⟨some (g_6.2,0),e64 r_3.1.toList⟩,⟨some (g_6.2,4),[v64 r_3.2.1]⟩,⟨some (g_6.2,5),e64 r_3.2.2.1.toList⟩,⟨some (g_6.2,9),e64 r_3.2.2.2.toList⟩,⟨some (b3,0),e64 r_8.toList⟩,⟨some (b4,0),e64 r_11.toList⟩] ⟨rfl,rfl,rfl,trivial⟩ rfl ?_
    generalize γ 20=b5
    refine TA_all (rs:=[21]) (by kernel_rfl) rfl ?_
    refine ⟨?_,trivial⟩
    refine TO_n (is:=[]) (done':=dn 22 4194303) rfl rfl rfl (by kernel_rfl) (E_sv (vs:=e64 r_19.toList) 0 TryI.inf57) (fun _ _=>rfl) (fun _=>?_)
    refine TA_done (by kernel_rfl) ?_ 0
    refine TX_next (TC_seq (TC_seq (TC_region (TLv (V_lag (.o 7) Try.isAgg57 TryI.inf57) ?_))))
    obtain ⟨r_20,hr_20,H⟩:=bind_elim H
    refine TLe (E_c0 (F43_calls r_8 r_20 hr_20) Try.call43 .z) (fun g_21=>?_)
    refine TLv (V_move rfl) ?_
    obtain ⟨j2,Hj,H⟩:=bind_elim H
    refine TL_join (Γ:=Unit) (fun gj2=>[(15,ptr (some (b3,0)) 0),(17,ptr (some (b5,0)) 0),(87,vb j2)]) (fun gj2=>[⟨some (b3,0),e64 r_8.toList⟩,⟨some (b5,0),e64 r_19.toList⟩]) ?_ ?_
    ·intro gj2
     refine TX_next (TC_cond (b:=j2) rfl (fun hc=>?_) (fun hc=>?_))
     ·replace H:=ite_t hc H
      refine TC_seq (TC_region (TLv (V_assign rfl) ?_))
      refine TLv (V_assign rfl) ?_
      refine TL_nil (TX_next (TC_ret (TX_then_ret ?_)))
      have hrv:=Option.some.inj H
      subst hrv
      exact TX_ret (rs:=[.tmp 6, .tmp 7]) (vs:=[vs ([]:Str),vi 1201]) rfl ⟨rfl,rfl,trivial⟩ (fun w' hs'=>⟨(),rfl,Step.left (Step.pulled (is:=[]) (A:=[]) hs' rfl)⟩)
     ·replace H:=ite_f (Bool.eq_false_iff.1 hc) H
      refine TC_skip (TX_next (TC_seq (TC_region (TLv (V_lag (.o 0) Try.isAgg57 TryI.inf57) ?_))))
      obtain ⟨r_21,hr_21,H⟩:=bind_elim H
      refine TLe (E_c0 (F62_calls r_8 r_21 hr_21) Try.call62 .z) (fun g_22=>?_)
      obtain ⟨r_22,hr_22,H⟩:=bind_elim H
      refine TLe (E_c0 (F61_calls r_21 r_22 hr_22) Try.call61 .z) (fun g_23=>?_)
      refine TLv (V_move rfl) ?_
      refine TLv V_ex ?_
      refine TLv V_ex ?_
      refine TLv (V_assign rfl) ?_
      refine TLv (V_assign rfl) ?_
      refine TL_nil (TX_next (TC_seq (TC_region (TLv (V_lag (.o 1) Try.isAgg57 TryI.inf57) ?_))))
      obtain ⟨r_23,hr_23,H⟩:=bind_elim H
      refine TLe (E_c0 (F62_calls r_19 r_23 hr_23) Try.call62 .z) (fun g_24=>?_)
      obtain ⟨r_24,hr_24,H⟩:=bind_elim H
      refine TLe (E_c0 (F61_calls r_23 r_24 hr_24) Try.call61 .z) (fun g_25=>?_)
      refine TLv (V_move rfl) ?_
      refine TLv V_ex ?_
      refine TLv V_ex ?_
      refine TLv (V_assign rfl) ?_
      refine TLv (V_assign rfl) ?_
      refine TL_nil (TX_next (TC_seq (TC_region (TLv (V_move rfl) ?_))))
      refine TLv (V_move rfl) ?_
      refine TLe (E_buildSlice (pv:=[(0,vs r_22.1),(1,vs r_24.1)]) rfl rfl Try.underlying46 TryI.inf9 (s:=1) rfl TryI.zer9 rfl rfl rfl (cs:=eS ([r_22.1,r_24.1]:List (Str))) (by kernel_rfl)) (fun b6=>?_)
      obtain ⟨h3,H⟩:=if_elim H
      refine TL_re (d:=103) (v:=sl (some (b6,0)) 2 2) (v':=sl (some (b6,0)) ((([r_22.1,r_24.1]:List (Str))).length) ((([r_22.1,r_24.1]:List (Str))).length)) rfl (congrArg (fun n=>sl (some (b6,0)) n n) h3.symm) ?_
      obtain ⟨r_25,hr_25,H⟩:=bind_elim H
      refine TLe (E_c0 (F63_calls (some (b6,0)) ((([r_22.1,r_24.1]:List (Str))).length) 48 ([r_22.1,r_24.1]:List (Str)) (Nat.le_refl _) r_25 hr_25) Try.call63 ⟨.o 0,trivial⟩) (fun g_26=>?_)
      refine TLv (V_move rfl) ?_
      refine TLv V_ex ?_
      refine TLv V_ex ?_
      refine TLv (V_assign rfl) ?_
      refine TLv (V_assign rfl) ?_
      refine TL_nil (TX_next (TC_seq (TC_region (TLv (V_move rfl) ?_))))
      refine TLv (V_assign rfl) ?_
      refine TLv (V_assign rfl) ?_
      refine TL_nil (TX_next (TC.sub (m':=[(6,vs r_25.1),(7,vi 0)]) ⟨rfl,rfl,trivial⟩ ?_))
      refine TC.pull (is:=[]) (L':=[]) rfl ?_
      refine TC_ret ?_
      have hrv:=Option.some.inj H
      subst hrv
      exact TX_ret (rs:=[.tmp 6, .tmp 7]) (vs:=[vs r_25.1,vi 0]) rfl ⟨rfl,rfl,trivial⟩ (fun w' hs'=>⟨(),rfl,Step.left (Step.pulled (is:=[]) (A:=[]) hs' rfl)⟩)
    ·intro hJ
     replace H:=Hj
     refine TL_fork (d:=84) (b:=r_20) rfl (fun hc=>?_) (fun hc=>?_)
     ·replace H:=ite_t hc H
      refine TL_skip rfl rfl rfl rfl rfl rfl rfl ?_
      refine TL_skip rfl rfl rfl rfl rfl rfl rfl ?_
      refine TLv (V_pick (b:=true) rfl rfl) ?_
      refine TL_nil (TX.sub (m':=[(15,ptr (some (b3,0)) 0),(17,ptr (some (b5,0)) 0),(87,vb true)]) ⟨rfl,rfl,rfl,trivial⟩ ?_)
      refine TX.pull (is:=[7,0]) (L':=[⟨some (b3,0),e64 r_8.toList⟩,⟨some (b5,0),e64 r_19.toList⟩]) rfl ?_
      obtain rfl:=Option.some.inj H
      exact hJ ()
     ·replace H:=ite_f (Bool.eq_false_iff.1 hc) H
      refine TL_want rfl rfl rfl rfl rfl rfl (V_lag (.o 0) Try.isAgg57 TryI.inf57) ?_
      obtain ⟨r_26,hr_26,H⟩:=bind_elim H
      refine TL_wantE rfl rfl rfl rfl rfl rfl (E_c0 (F43_calls r_19 r_26 hr_26) Try.call43 .z) (fun g_27=>?_)
      refine TLv (V_pick (b:=false) rfl rfl) ?_
      refine TL_nil (TX.sub (m':=[(15,ptr (some (b3,0)) 0),(17,ptr (some (b5,0)) 0),(87,vb r_26)]) ⟨rfl,rfl,rfl,trivial⟩ ?_)
      refine TX.pull (is:=[7,0]) (L':=[⟨some (b3,0),e64 r_8.toList⟩,⟨some (b5,0),e64 r_19.toList⟩]) rfl ?_
      obtain rfl:=Option.some.inj H
      exact hJ ()
 ·intro hJ
  replace H:=Hj
  refine TL_fork (d:=36) (b:=(!r_1.2)) rfl (fun hc=>?_) (fun hc=>?_)
  ·replace H:=ite_t hc H
   refine TL_skip rfl rfl rfl rfl rfl rfl rfl ?_
   refine TL_skip rfl rfl rfl rfl rfl rfl rfl ?_
   refine TLv (V_pick (b:=true) rfl rfl) ?_
   refine TLv (V_move rfl) ?_
   refine TL_skip rfl rfl rfl rfl rfl rfl rfl ?_
   refine TL_skip rfl rfl rfl rfl rfl rfl rfl ?_
   refine TL_skip rfl rfl rfl rfl rfl rfl rfl ?_
   refine TLv (V_pick (b:=true) rfl rfl) ?_
   refine TL_nil (TX.sub (m':=[(1,vs nonce),(2,vs digest),(8,ptr (some (b1,0)) 0),(10,ptr (some (b2,0)) 0),(44,vb true)]) ⟨rfl,rfl,rfl,rfl,rfl,trivial⟩ ?_)
   refine TX.pull (is:=[1,0]) (L':=[⟨some (b1,0),e64 r_1.1.toList⟩,⟨some (b2,0),e64 r_2.1.toList⟩]) rfl ?_
   obtain rfl:=Option.some.inj H
   exact hJ ()
  ·replace H:=ite_f (Bool.eq_false_iff.1 hc) H
   refine TL_want rfl rfl rfl rfl rfl rfl (V_move rfl) ?_
   refine TL_want rfl rfl rfl rfl rfl rfl (V_un rfl (fun w=>notB w r_2.2)) ?_
   refine TLv (V_pick (b:=false) rfl rfl) ?_
   refine TLv (V_move rfl) ?_
   refine TL_fork (d:=40) (b:=(!r_2.2)) rfl (fun hc=>?_) (fun hc=>?_)
   ·replace H:=ite_t hc H
    refine TL_skip rfl rfl rfl rfl rfl rfl rfl ?_
    refine TL_skip rfl rfl rfl rfl rfl rfl rfl ?_
    refine TL_skip rfl rfl rfl rfl rfl rfl rfl ?_
    refine TLv (V_pick (b:=true) rfl rfl) ?_
    refine TL_nil (TX.sub (m':=[(1,vs nonce),(2,vs digest),(8,ptr (some (b1,0)) 0),(10,ptr (some (b2,0)) 0),(44,vb true)]) ⟨rfl,rfl,rfl,rfl,rfl,trivial⟩ ?_)
    refine TX.pull (is:=[1,0]) (L':=[⟨some (b1,0),e64 r_1.1.toList⟩,⟨some (b2,0),e64 r_2.1.toList⟩]) rfl ?_
    obtain rfl:=Option.some.inj H
    exact hJ ()
   ·replace H:=ite_f (Bool.eq_false_iff.1 hc) H
    refine TL_want rfl rfl rfl rfl rfl rfl (V_move rfl) ?_
    refine TL_want rfl rfl rfl rfl rfl rfl (V_len_str rfl Try.underlying9) ?_
    refine TL_want rfl rfl rfl rfl rfl rfl (V_bin rfl rfl (fun w=>neqI w ((digest).length:Int) 32)) ?_
    refine TLv (V_pick (b:=false) rfl rfl) ?_
    refine TL_nil (TX.sub (m':=[(1,vs nonce),(2,vs digest),(8,ptr (some (b1,0)) 0),(10,ptr (some (b2,0)) 0),(44,vb (decide (((digest).length:Int) ≠ 32)))]) ⟨rfl,rfl,rfl,rfl,rfl,trivial⟩ ?_)
    refine TX.pull (is:=[1,0]) (L':=[⟨some (b1,0),e64 r_1.1.toList⟩,⟨some (b2,0),e64 r_2.1.toList⟩]) rfl ?_
    obtain rfl:=Option.some.inj H
    exact hJ ()
end Go.Proofs
end

section
namespace Go.Kx
open Go Go.Proofs
open Go.Nt hiding n4
theorem mod_ne' {k:Str} (h:isSc k):bnum k % N256 ≠ 0:=by rw [Nat.mod_eq_of_lt h.2.1]; exact h.2.2
def xN:Pt → Nat
 | none=>0
 | some q=>toN q.1
noncomputable def sigR (k:Nat):Nat:=xN (sG k) % N256
noncomputable def sigS (d k z:Nat):Nat:=(z % N256+sigR k * d % N256) % N256 * (k ^ (N256 - 2) % N256) % N256
noncomputable def verP (a z r s:Nat):Pt:=sG (z % N256 * (s ^ (N256 - 2) % N256) % N256+r * (s ^ (N256 - 2) % N256) % N256 * a)
def verR (r:Nat):Pt → Int
 | none=>1201
 | some q=>if toN q.1 % N256=r then 0 else 1201
def sgn (r s:Nat):Str × Int:=if r=0 ∨ s=0 then ([],1201) else (SG r s,0)
theorem sgn_0 {r s:Nat} (h:r=0 ∨ s=0):sgn r s=([],1201):=if_pos h
theorem sgn_1 {r s:Nat} (h:r ≠ 0) (h':s ≠ 0):sgn r s=(SG r s,0):=if_neg (fun c=>c.elim h h')
noncomputable def signRes (d k z:Nat):Str × Int:=sgn (sigR k) (sigS d k z)
theorem N2:2 ^ 256<2 * N256:=by decide
theorem N_pos:0<N256:=by decide
theorem toN_lt2 (f:Fp):toN f<2 ^ 256:=Nat.lt_trans (toN_lt f) P_lt256
theorem Sign_no (key nonce digest:Str) (h : ¬ (isSc key∧isSc nonce∧digest.length=32)):ecdsa_Sign key nonce digest=some ([],1200):=by
 obtain ⟨x,h1, -⟩:=Scalar_ex key
 obtain ⟨y,h2, -⟩:=Scalar_ex nonce
 unfold ecdsa_Sign
 refine bind_i h1 (bind_i h2 (bind_i (v:=true) ?_ (if_i rfl rfl)))
 by_cases hk:isSc key
 ·rw [if_neg (by simp [hk])]
  by_cases hn:isSc nonce
  ·rw [if_neg (by simp [hn])]
   exact congrArg some (decide_eq_true (fun c=>h ⟨hk,hn,by omega⟩))
  ·rw [if_pos (by simp [hn])]
 ·rw [if_pos (by simp [hk])]
theorem Sign_is (key nonce digest:Str) (hk:isSc key) (hn:isSc nonce) (hd:digest.length=32):ecdsa_Sign key nonce digest=some (signRes (bnum key) (bnum nonce) (bnum digest)):=by
 obtain ⟨x,h1,e1⟩:=Scalar_ex key
 obtain ⟨y,h2,e2⟩:=Scalar_ex nonce
 have e1:=e1 hk.1
 have e2:=e2 hn.1
 obtain ⟨inv,one,two,h3,F⟩:=New_N
 have hpub:=Public_is nonce hn
 obtain ⟨q,hq⟩:=sG_ne (a:=bnum nonce) (mod_ne' hn)
 rw [hq] at hpub
 have hpub:pcurve_Public nonce=some (encQ q,0):=hpub
 obtain ⟨v7,h7,e7⟩:=num_Load_ex (sub (encQ q) 1 33) (by rw [encQ_x,nb32_len])
 rw [encQ_x,bnum_nb32 _ (toN_lt2 _)] at e7
 have hN2:=N2
 have hNp:=N_pos
 obtain ⟨v8,h8,e8⟩:=F.rest (x:=v7) (by rw [e7]; have:=toN_lt2 q.1; omega)
 obtain ⟨v9,h9,e9⟩:=num_Load_ex digest hd
 obtain ⟨v10,h10,e10⟩:=F.rest (x:=v9) (by rw [e9]; have:=bnum_lt32 digest hd; omega)
 rw [e7] at e8
 rw [e9] at e10
 have hr:sigR (bnum nonce)=n4 v8:=by rw [e8]; unfold sigR; rw [hq]; rfl
 obtain ⟨v11,h11,R11⟩:=F.into (x:=v10) (by rw [e10]; exact Nat.mod_lt _ hNp)
 obtain ⟨v12,h12,R12⟩:=F.into (x:=v8) (by rw [e8]; exact Nat.mod_lt _ hNp)
 obtain ⟨v13,h13,R13⟩:=F.into (x:=x) (by rw [e1]; exact hk.2.1)
 obtain ⟨v14,h14,R14⟩:=F.mul R12 R13
 obtain ⟨v15,h15,R15⟩:=F.add R11 R14
 obtain ⟨v16,h16,R16⟩:=F.into (x:=y) (by rw [e2]; exact hn.2.1)
 obtain ⟨v17,h17,R17⟩:=F.inverse R16
 obtain ⟨v18,h18,R18⟩:=F.mul R15 R17
 obtain ⟨v19,h19,e19⟩:=F.out R18
 have hs:sigS (bnum key) (bnum nonce) (bnum digest)=n4 v19:=by
  rw [e19,e10,e1,e2, ← hr]; rfl
 unfold ecdsa_Sign
 refine bind_i h1 (bind_i h2 (bind_i (v:=false) ?_ (if_n Bool.false_ne_true (bind_i h3 (bind_i hpub (if_i ?_ (bind_i h7 (bind_i h8 (bind_i h9 (bind_i h10 (bind_i h11 (bind_i h12 (bind_i h13 (bind_i h14 (bind_i h15 (bind_i h16 (bind_i h17 (bind_i h18 (bind_i h19 (bind_i (num_Zero_eq v8) ?_))))))))))))))))))))
 ·rw [if_neg (by simp [hk]),if_neg (by simp [hn])]
  exact congrArg some (decide_eq_false (by omega))
 ·show 33≤(encQ q).length
  rw [encQ_len]; omega
 ·unfold signRes
  rw [hr,hs]
  by_cases h0:n4 v8=0
  ·rw [sgn_0 (.inl h0)]
   exact bind_i (v:=true) (if_i (decide_eq_true h0) rfl) (if_i rfl rfl)
  ·by_cases h0':n4 v19=0
   ·rw [sgn_0 (.inr h0')]
    exact bind_i (v:=true) (if_n (by simp [h0]) (bind_i (num_Zero_eq v19) (by simp [h0']))) (if_i rfl rfl)
   ·rw [sgn_1 h0 h0']
    have hP:=Put2 48 (by decide) (by decide) (DI (n4 v8)) (DI (n4 v19)) (by
     have:=SG_len (n4 v8) (n4 v19)
     rw [List.length_append] at this; omega)
    exact bind_i (v:=false) (if_n (by simp [h0]) (bind_i (num_Zero_eq v19) (by simp [h0']))) (if_n Bool.false_ne_true (bind_i (Bytes_eq v8) (bind_i (Integer_nb _) (bind_i (Bytes_eq v19) (bind_i (Integer_nb _) (if_i rfl (bind_i hP rfl)))))))
end Go.Kx
end

section
namespace Go.Kx
open Go Go.Proofs
open Vector (replicate)
open Go.Nt hiding n4
theorem Two_ex (u v:Vx 64 4) {a:Nat} {q:Fp × Fp} (hq:sG a=some q) :
  ∃ w b,pcurve_Two u v (encQ q)=some (w,b)∧(match sG (n4 u+n4 v * a) with | none=>b=false | some p=>b=true∧n4 w=toN p.1):=by
 have okq:okP (some q):=hq ▸ sG_ok a
 obtain ⟨inv,one,two,b',h2,F,hb⟩:=newCurve_ex
 obtain ⟨X,Y,Z,h3, -,f3⟩:=read_ex F hb (encQ q)
 have f3:=f3 q okq rfl
 rw [← hq] at f3
 obtain ⟨g,h4,f4⟩:=base_pt (b:=b') F
 obtain ⟨r4,h5,f5⟩:=times_pt (b:=b') (k:=u) F f4
 obtain ⟨r5,h6,f6⟩:=times_pt (b:=b') (k:=v) F f3
 rw [Nat.mul_one] at f5
 obtain ⟨r6,h7,f7⟩:=add_pt (b:=b') F f5 f6
 rw [sG_add] at f7
 unfold pcurve_Two
 generalize sG (n4 u+n4 v * a)=p at f7
 cases p with
 | none =>
  obtain ⟨-,t,ht,hj⟩:=f7
  have hz:t.2.2=0:=hj
  exact ⟨replicate 4 0#64,false,bind_i h2 (bind_i h3 (bind_i h4 (bind_i h5 (bind_i h6 (bind_i h7 (bind_i ht.2.2.zero (if_i (by simp [hz]) rfl))))))),rfl⟩
 | some p =>
  have hw:=write_ex (b:=b') F f7
  obtain ⟨ok,t,ht,hj⟩:=f7
  have hz:t.2.2 ≠ 0:=hj.1
  obtain ⟨w,hl,el⟩:=num_Load_ex (sub (encQ p) 1 33) (by rw [encQ_x,nb32_len])
  rw [encQ_x,bnum_nb32 _ (toN_lt2 _)] at el
  exact ⟨w,true,bind_i h2 (bind_i h3 (bind_i h4 (bind_i h5 (bind_i h6 (bind_i h7 (bind_i ht.2.2.zero (if_n (by simp [hz]) (bind_i hw (if_i (by rw [encQ_len]; omega) (bind_i hl rfl)))))))))),rfl,el⟩
theorem Verify_no (public_ digest sig:Str) (hl:sig.length<4611686018427387904) (h : ¬ ((∃ r s,isSg sig r s)∧digest.length=32∧isPt public_)):ecdsa_Verify public_ digest sig=some 1200:=by
 obtain ⟨v,w,b,h1,h2, -⟩:=read_sig sig hl
 unfold ecdsa_Verify
 refine bind_i h1 (bind_i (v:=true) ?_ (if_i rfl rfl))
 cases b with
 | false=>exact if_i rfl rfl
 | true =>
  rw [if_neg (by simp)]
  by_cases hd:digest.length=32
  ·rw [if_neg (by omega)]
   have : ¬ isPt public_:=fun c=>h ⟨h2.1 rfl,hd,c⟩
   exact bind_i (On_eq public_) (by simp [this])
  ·rw [if_pos (by omega)]
theorem Verify_is (digest sig:Str) {r s a:Nat} {q:Fp × Fp} (hl:sig.length<4611686018427387904) (hs:isSg sig r s) (hd:digest.length=32) (hq:sG a=some q):ecdsa_Verify (encQ q) digest sig=some (verR r (verP a (bnum digest) r s)):=by
 obtain ⟨v,w,b,h1,h2,h3⟩:=read_sig sig hl
 have hb:b=true:=h2.2 ⟨r,s,hs⟩
 subst hb
 obtain ⟨ev,ew⟩:=h3 r s hs
 have okq:okP (some q):=hq ▸ sG_ok a
 have hpt:isPt (encQ q):=⟨q,okq,rfl⟩
 obtain ⟨inv,one,two,h4,F⟩:=New_N
 have hN2:=N2
 have hNp:=N_pos
 obtain ⟨v3,h5,R5⟩:=F.into (x:=w) (by rw [ew]; exact hs.2.2.2.1)
 obtain ⟨v4,h6,R6⟩:=F.inverse R5
 obtain ⟨v5,h7,e7⟩:=num_Load_ex digest hd
 obtain ⟨v6,h8,e8⟩:=F.rest (x:=v5) (by rw [e7]; have:=bnum_lt32 digest hd; omega)
 obtain ⟨v7,h9,R9⟩:=F.into (x:=v6) (by rw [e8]; exact Nat.mod_lt _ hNp)
 obtain ⟨v8,h10,R10⟩:=F.mul R9 R6
 obtain ⟨v9,h11,e11⟩:=F.out R10
 obtain ⟨v10,h12,R12⟩:=F.into (x:=v) (by rw [ev]; exact hs.2.1)
 obtain ⟨v11,h13,R13⟩:=F.mul R12 R6
 obtain ⟨v12,h14,e14⟩:=F.out R13
 obtain ⟨z,tb,h15,h16⟩:=Two_ex v9 v12 hq
 have hP:sG (n4 v9+n4 v12 * a)=verP a (bnum digest) r s:=by
  rw [e11,e14,e8,e7,ew,ev]; rfl
 rw [hP] at h16
 unfold ecdsa_Verify
 refine bind_i h1 (bind_i (v:=false) ?_ (if_n Bool.false_ne_true (bind_i h4 (bind_i h5 (bind_i h6 (bind_i h7 (bind_i h8 (bind_i h9 (bind_i h10 (bind_i h11 (bind_i h12 (bind_i h13 (bind_i h14 (bind_i h15 ?_))))))))))))))
 ·exact if_n (by simp) (if_n (by omega) (bind_i (On_eq (encQ q)) (by simp [hpt])))
 ·generalize verP a (bnum digest) r s=p at h16
  cases p with
  | none =>
   have h16:tb=false:=h16
   subst h16
   exact if_i rfl rfl
  | some p =>
   obtain ⟨e1,e2⟩:tb=true∧n4 z=toN p.1:=h16
   subst e1
   obtain ⟨y,h17,e17⟩:=F.rest (x:=z) (by rw [e2]; have:=toN_lt2 p.1; omega)
   rw [e2] at e17
   refine if_n (by simp) (bind_i h17 ?_)
   show _=some (if toN p.1 % N256=r then 0 else 1201)
   by_cases he:toN p.1 % N256=r
   ·rw [if_pos he]
    exact if_n (fun c=>c (n4_ext (by show n4 y=n4 v; rw [e17,he,ev]))) rfl
   ·rw [if_neg he]
    exact if_i (fun c=>he (by rw [← e17, ← ev]; exact congrArg n4 c)) rfl
theorem SG_parts (r s:Nat):2≤(SG r s).length∧sg (SG r s) 0=48#8∧((sg (SG r s) 1).toNat:Int)=((SG r s).length:Int) - 2∧(SG r s).length=2+(DI r).length+(DI s).length:=by
 have h:=SG_len r s
 have e1:(SG r s).length=2+(DI r++DI s).length:=by unfold SG; rw [List.length_append]; rfl
 have e2:(DI r++DI s).length=(DI r).length+(DI s).length:=List.length_append
 refine ⟨by omega,rfl,?_,by omega⟩
 have:sg (SG r s) 1=BitVec.ofNat 8 (DI r++DI s).length:=rfl
 rw [this,ofNat8 _ (by omega)]; omega
theorem SG_stands (r s:Nat) (hr:0<r∧r<N256) (hs:0<s∧s<N256):standsAt (SG r s) 2 r∧standsAt (SG r s) (2+(DI r).length) s:=by
 have hp:=SG_parts r s
 refine ⟨⟨hr.1,hr.2,by omega,?_⟩,⟨hs.1,hs.2,by omega,?_⟩⟩
 ·have:=sub_mid [48#8,BitVec.ofNat 8 (DI r++DI s).length] (DI r) (DI s)
  rw [List.append_assoc] at this
  exact this
 ·have h:=sub_mid ([48#8,BitVec.ofNat 8 (DI r++DI s).length]++DI r) (DI s) []
  have e1:([48#8,BitVec.ofNat 8 (DI r++DI s).length]++DI r).length=2+(DI r).length:=List.length_append
  have e2:([48#8,BitVec.ofNat 8 (DI r++DI s).length]++DI r)++DI s++[]=SG r s:=by
   rw [List.append_nil]; unfold SG; rw [List.append_assoc]
  rw [e2,e1] at h
  exact h
end Go.Kx
end

section
namespace Go.Proofs
open Go Go.Kx
def halberdref1_Be.b0 (size:Int) (s0:Int × Int × List (BitVec 8)):Option ((Int × Int × List (BitVec 8)) ⊕ (List (BitVec 8))) :=
 if 0≤s0.2.1 then (if 0≤s0.2.1∧s0.2.1<((size).toNat:Int) then (if (s0.2.1).toNat<(s0.2.2).length then (ltt (s0.2.2.set ((s0.2.1).toNat) (BitVec.ofInt 8 (iop (· &&& ·) s0.1 255))) fun (m_1:List (BitVec 8))=>(ltt (w64 (s0.2.1 - 1)) fun (i2:Int)=>(some (.inl (shrI' s0.1 8,i2,m_1))))) else none) else none) else (some (.inr s0.2.2))
def halberdref1_Be (x:Int) (size:Int):Option (Str) :=
 if 0≤size∧size≤17592186044416 then (ltt (w64 (size - 1)) fun (i1:Int)=>((loop (halberdref1_Be.b0 size) BIG (x,i1,List.replicate ((size).toNat) 0#8)).bind fun (t_1:List (BitVec 8))=>(if (t_1).length=(size).toNat then (some t_1) else none))) else none
set_option maxHeartbeats 4000000 in
set_option maxRecDepth 20000 in
theorem F98_calls (x:Int) (size:Int) (r:Str) (H:halberdref1_Be x size=some r) :
  Does Try.prog 98 [vi x,vi size] [] [] (Γ:=Unit) (fun g=>vs r) (fun g=>[]):=by
 intro w hmem hro hd
 refine calls_of (N:=25) (m0:=[(0,vi x),(1,vi size)]) Try.func98 rfl Try.ntmps98 (argM_ok [vi x,vi size]) rfl hmem hro hd ?_
 unfold halberdref1_Be at H
 refine TC_seq (TC_region (TLv (V_assign rfl) ?_))
 refine TL_nil (TX_next (TC_seq (TC_region (TLv (V_move rfl) ?_))))
 obtain ⟨h1,H⟩:=if_elim H
 refine TLe (E_mk1 rfl rfl Try.underlying42 TryI.inf5 (z:=v8 0#8) rfl rfl rfl (B:=1) rfl h1.1 (Int.le_refl _) (by have:=h1; omega) (by have:=h1; omega) (n':=(size).toNat) (c':=(size).toNat) rfl rfl (cs:=e8 (List.replicate ((size).toNat) 0#8)) (rep_map (f:=v8))) (fun b1=>?_)
 refine TLv (V_assign rfl) ?_
 refine TL_nil (TX_next (TC_seq (TC_seq (TC_region (TLv (V_move rfl) ?_)))))
 refine TLv (V_bin rfl rfl (fun w=>subI w size 1)) ?_
 refine TLv (V_assign rfl) ?_
 obtain ⟨i1,hi1,H⟩:=ltt_elim H
 refine TL_re (d:=6) (v:=vi (w64 (size - 1))) (v':=vi i1) rfl (congrArg vi hi1) ?_
 refine TL_nil (TX_next (TC_block ?_))
 obtain ⟨t_1,Hl,H⟩:=bind_elim H
 refine TC.sub (m':=[(0,vi x),(5,sl (some (b1,0)) ((size).toNat) ((size).toNat)),(6,vi i1)]) ⟨rfl,rfl,rfl,trivial⟩ ?_
 refine TC.pull (is:=[0]) (L':=[⟨some (b1,0),e8 (List.replicate ((size).toNat) 0#8)⟩]) rfl ?_
 refine TC_loopL (id:=0) (body:=(halberdref1_Be.b0 size)) (σ:=Int × Int × List (BitVec 8)) (Γ:=Unit) (Γx:=Unit) (fun s0 g0_=>[(0,vi s0.1),(5,sl (some (b1,0)) ((size).toNat) ((size).toNat)),(6,vi s0.2.1)]) (fun s0 g0_=>[⟨some (b1,0),e8 s0.2.2⟩]) (fun t g=>[(5,sl (some (b1,0)) ((size).toNat) ((size).toNat))]) (fun t g=>[⟨some (b1,0),e8 t⟩]) ?_ BIG (x,i1,List.replicate ((size).toNat) 0#8) () t_1 Hl ?_
 ·intro s0 g0_ r1 H K hK hE
  unfold halberdref1_Be.b0 at H
  refine TC_seq (TC_seq (TC_region (TLv (V_move rfl) ?_)))
  refine TLv (V_bin rfl rfl (fun w=>geqI w s0.2.1 0)) ?_
  refine TL_nil (TX_next (TC_cond (b:=(decide (0≤s0.2.1))) rfl (fun hc=>?_) (fun hc=>?_)))
  ·replace H:=ite_t (of_decide_eq_true hc) H
   refine TC_skip (TX_next (TC_seq (TC_block (TC_seq (TC_region (TLv (V_move rfl) ?_))))))
   refine TLv (V_move rfl) ?_
   refine TLv (V_move rfl) ?_
   refine TLv (V_bin rfl rfl (fun w=>andI w s0.1 255)) ?_
   refine TLv (V_conv rfl (fun w=>cvI8 w _ _ Try.underlying5 (TryI.und3) .i64 (iop (· &&& ·) s0.1 255))) ?_
   obtain ⟨h2,H⟩:=if_elim H
   obtain ⟨h3,H⟩:=if_elim H
   refine TLv (V_idxSl (i:=s0.2.1) rfl rfl Try.underlying42 TryI.inf5 rfl (fun _ h=>by cases h) h2.1 h2.2 (k:=(s0.2.1).toNat) (km1 _)) ?_
   refine TLn (E_store (j:=0) rfl rfl TryI.inf5 rfl rfl rfl (by simpa using h3) (cs':=e8 (s0.2.2.set ((s0.2.1).toNat) (BitVec.ofInt 8 (iop (· &&& ·) s0.1 255)))) (set_map (f:=v8) (l:=s0.2.2) (k:=((s0.2.1).toNat)) (x:=(BitVec.ofInt 8 (iop (· &&& ·) s0.1 255))))) (fun _=>?_)
   obtain ⟨m_1,hm_1,H⟩:=ltt_elim H
   refine TL_reE (j:=0) (A:=some (b1,0)) (cs:=e8 (s0.2.2.set ((s0.2.1).toNat) (BitVec.ofInt 8 (iop (· &&& ·) s0.1 255)))) (cs':=e8 m_1) rfl (congrArg (e8) hm_1) ?_
   refine TL_nil (TX_next (TC_region (TLv (V_move rfl) ?_)))
   refine TLv (V_bin rfl rfl (fun w=>shrI w s0.1 .u64 8 (by decide))) ?_
   refine TLv (V_assign rfl) ?_
   refine TL_nil (TX_block_normal (TX_next (TC_region (TLv (V_move rfl) ?_))))
   refine TLv (V_bin rfl rfl (fun w=>subI w s0.2.1 1)) ?_
   refine TLv (V_assign rfl) ?_
   obtain ⟨i2,hi2,H⟩:=ltt_elim H
   refine TL_re (d:=6) (v:=vi (w64 (s0.2.1 - 1))) (v':=vi i2) rfl (congrArg vi hi2) ?_
   refine TL_nil (TX.sub (m':=[(0,vi (shrI' s0.1 8)),(5,sl (some (b1,0)) ((size).toNat) ((size).toNat)),(6,vi i2)]) ⟨rfl,rfl,rfl,trivial⟩ ?_)
   refine TX.pull (is:=[0]) (L':=[⟨some (b1,0),e8 m_1⟩]) rfl ?_
   obtain rfl:=Option.some.inj H
   exact fun a w hs=>hK (shrI' s0.1 8,i2,m_1) rfl () a w hs
  ·replace H:=ite_f (of_decide_eq_false hc) H
   refine TC_exit (TX_then_exit (TX_then_exit (TX.sub (m':=[(5,sl (some (b1,0)) ((size).toNat) ((size).toNat))]) ⟨rfl,trivial⟩ ?_)))
   refine TX.pull (is:=[0]) (L':=[⟨some (b1,0),e8 s0.2.2⟩]) rfl ?_
   obtain rfl:=Option.some.inj H
   exact hE s0.2.2 rfl ()
 ·intro g
  refine TX_block_exit (TX_next (TC_seq (TC_region (TLv (V_move rfl) ?_))))
  obtain ⟨h4,H⟩:=if_elim H
  refine TLv (V_b2s rfl Try.underlying42 Try.underlying5 Try.underlying9 (.o 0) h4) ?_
  refine TLv (V_assign rfl) ?_
  refine TL_nil (TX_next (TC_ret ?_))
  have hrv:=Option.some.inj H
  subst hrv
  exact TX_ret (rs:=[.tmp 4]) (vs:=[vs t_1]) rfl ⟨rfl,trivial⟩ (fun w' hs'=>⟨(),rfl,Step.left (Step.pulled (is:=[]) (A:=[]) hs' rfl)⟩)
end Go.Proofs
end

section
namespace Go.Proofs
open Go Go.Kx
def halberdref1_padded (s_:Str) (block:Int) (size:Int):Option (Str) :=
 if block ≠ 0 then (ltt (w64 (block - ((w64 ((w64 (((s_).length:Int)+1))+size)).tmod block))) fun (zeros1:Int)=>((if zeros1=block then (some 0) else (some zeros1)).bind fun (j1:Int)=>(if (s_).length+(([128#8]:Str)).length≤4611686018427387904 then (if 0≤w64 ((w64 (j1+size)) - 8)∧w64 ((w64 (j1+size)) - 8)≤17592186044416 then (if (List.replicate ((w64 ((w64 (j1+size)) - 8)).toNat) 0#8).length=(w64 ((w64 (j1+size)) - 8)).toNat then (if (s_++([128#8]:Str)).length+(List.replicate ((w64 ((w64 (j1+size)) - 8)).toNat) 0#8).length≤4611686018427387904 then ((halberdref1_Be (w64 (8 * ((s_).length:Int))) 8).bind fun (r_1:Str)=>(if ((s_++([128#8]:Str))++(List.replicate ((w64 ((w64 (j1+size)) - 8)).toNat) 0#8)).length+(r_1).length≤4611686018427387904 then (ltt (((s_++([128#8]:Str))++(List.replicate ((w64 ((w64 (j1+size)) - 8)).toNat) 0#8))++r_1) fun (x1:Str)=>(some x1)) else none)) else none) else none) else none) else none))) else none
set_option maxHeartbeats 4000000 in
set_option maxRecDepth 20000 in
theorem F96_calls (s_:Str) (block:Int) (size:Int) (r:Str) (H:halberdref1_padded s_ block size=some r) :
  Does Try.prog 96 [vs s_,vi block,vi size] [] [] (Γ:=Unit) (fun g=>vs r) (fun g=>[]):=by
 intro w hmem hro hd
 refine calls_of (N:=34) (m0:=[(0,vs s_),(1,vi block),(2,vi size)]) Try.func96 rfl Try.ntmps96 (argM_ok [vs s_,vi block,vi size]) rfl hmem hro hd ?_
 unfold halberdref1_padded at H
 refine TC_seq (TC_region (TLv (V_assign rfl) ?_))
 refine TL_nil (TX_next (TC_seq (TC_region (TLv (V_move rfl) ?_))))
 refine TLv (V_move rfl) ?_
 refine TLv (V_len_str rfl Try.underlying9) ?_
 refine TLv (V_bin rfl rfl (fun w=>addI w ((s_).length:Int) 1)) ?_
 refine TLv (V_move rfl) ?_
 refine TLv (V_bin rfl rfl (fun w=>addI w (w64 (((s_).length:Int)+1)) size)) ?_
 refine TLv (V_move rfl) ?_
 obtain ⟨h1,H⟩:=if_elim H
 refine TLv (V_bin rfl rfl (fun w=>remI w (w64 ((w64 (((s_).length:Int)+1))+size)) block h1)) ?_
 refine TLv (V_bin rfl rfl (fun w=>subI w block ((w64 ((w64 (((s_).length:Int)+1))+size)).tmod block))) ?_
 refine TLv (V_assign rfl) ?_
 obtain ⟨zeros1,hzeros1,H⟩:=ltt_elim H
 refine TL_re (d:=7) (v:=vi (w64 (block - ((w64 ((w64 (((s_).length:Int)+1))+size)).tmod block)))) (v':=vi zeros1) rfl (congrArg vi hzeros1) ?_
 refine TL_nil (TX_next (TC_seq (TC_seq (TC_region (TLv (V_move rfl) ?_)))))
 refine TLv (V_move rfl) ?_
 refine TLv (V_bin rfl rfl (fun w=>eqlI w zeros1 block)) ?_
 refine TL_nil (TX_next ?_)
 obtain ⟨j1,Hj,H⟩:=bind_elim H
 refine TC_join (Γ:=Unit) (fun gj1=>[(0,vs s_),(2,vi size),(7,vi j1)]) (fun gj1=>[]) ?_ ?_
 ·intro gj1
  refine TX_next (TC_seq ?_)
  obtain ⟨h2,H⟩:=if_elim H
  obtain ⟨h3,H⟩:=if_elim H
  obtain ⟨h4,H⟩:=if_elim H
  obtain ⟨h5,H⟩:=if_elim H
  obtain ⟨r_1,hr_1,H⟩:=bind_elim H
  obtain ⟨h6,H⟩:=if_elim H
  obtain ⟨x1,hx1,H⟩:=ltt_elim H
  refine TA_begin [] 15 (by kernel_rfl) (N:=15) rfl ?_
  refine TA_mix (is:=[]) (done':=dn 15 16383) [itV 0 20 (vs s_) [],itV 1 21 (vs (s_++([128#8]:Str))) [0],itV 2 22 (vi j1) [],itV 3 23 (vi size) [],itV 4 24 (vi (w64 (j1+size))) [2,3],itV 5 25 (vi (w64 ((w64 (j1+size)) - 8))) [4],⟨6,26,fun b1=>sl (some (b1,0)) ((w64 ((w64 (j1+size)) - 8)).toNat) ((w64 ((w64 (j1+size)) - 8)).toNat),fun b1=>[⟨some (b1,0),e8 (List.replicate ((w64 ((w64 (j1+size)) - 8)).toNat) 0#8)⟩],[5],none⟩,⟨7,27,fun _=>vs (List.replicate ((w64 ((w64 (j1+size)) - 8)).toNat) 0#8),fun _=>[],[6],some 6⟩,itV 8 28 (vs ((s_++([128#8]:Str))++(List.replicate ((w64 ((w64 (j1+size)) - 8)).toNat) 0#8))) [7,1],itV 9 29 (vs s_) [],itV 10 30 (vi ((s_).length:Int)) [9],itV 11 31 (vi (w64 (8 * ((s_).length:Int)))) [10],itV 12 32 (vs r_1) [11],itV 13 33 (vs (((s_++([128#8]:Str))++(List.replicate ((w64 ((w64 (j1+size)) - 8)).toNat) 0#8))++r_1)) [12,8]] [] 1 (by kernel_rfl) (QP.then QP.body) (by kernel_rfl) rfl (.v rfl (V_move rfl) (.v rfl (V_bin rfl rfl (fun w=>addS w s_ ([128#8]:Str) h2)) (.v rfl (V_move rfl) (.v rfl (V_move rfl) (.v rfl (V_bin rfl rfl (fun w=>addI w j1 size)) (.v rfl (V_bin rfl rfl (fun w=>subI w (w64 (j1+size)) 8)) (.c rfl (fun _ _=>(E_mk1 rfl rfl Try.underlying42 TryI.inf5 (z:=v8 0#8) rfl rfl rfl (B:=1) rfl h3.1 (Int.le_refl _) (by have:=h3; omega) (by have:=h3; omega) (n':=(w64 ((w64 (j1+size)) - 8)).toNat) (c':=(w64 ((w64 (j1+size)) - 8)).toNat) rfl rfl (cs:=e8 (List.replicate ((w64 ((w64 (j1+size)) - 8)).toNat) 0#8)) (rep_map (f:=v8)))) (.c rfl (fun _ _=>OpE_v (V_b2s rfl Try.underlying42 Try.underlying5 Try.underlying9 (.o 0) h4)) (.v rfl (V_bin rfl rfl (fun w=>addS w (s_++([128#8]:Str)) (List.replicate ((w64 ((w64 (j1+size)) - 8)).toNat) 0#8) h5)) (.v rfl (V_move rfl) (.v rfl (V_len_str rfl Try.underlying9) (.v rfl (V_bin rfl rfl (fun w=>mulI w 8 ((s_).length:Int))) (.e rfl (E_cu (F98_calls (w64 (8 * ((s_).length:Int))) 8 r_1 hr_1) Try.call98 .z) (.v rfl (V_bin rfl rfl (fun w=>addS w ((s_++([128#8]:Str))++(List.replicate ((w64 ((w64 (j1+size)) - 8)).toNat) 0#8)) r_1 h6)) .nil)))))))))))))) .nil (by kernel_rfl) rfl (fun γ=>?_)
  refine TA_cut [(33,vs (((s_++([128#8]:Str))++(List.replicate ((w64 ((w64 (j1+size)) - 8)).toNat) 0#8))++r_1))] [⟨some ((γ 6),0),e8 (List.replicate ((w64 ((w64 (j1+size)) - 8)).toNat) 0#8)⟩] ⟨rfl,trivial⟩ rfl ?_
  generalize γ 6=b1
  refine TA_all (rs:=[14]) (by kernel_rfl) rfl ?_
  refine ⟨?_,trivial⟩
  refine TO_v (is:=[]) (done':=dn 15 32767) rfl rfl rfl rfl (by kernel_rfl) (V_assign rfl) (fun _=>rfl) ?_
  refine TA_re (d:=6) (v:=vs (((s_++([128#8]:Str))++(List.replicate ((w64 ((w64 (j1+size)) - 8)).toNat) 0#8))++r_1)) (v':=vs x1) rfl (congrArg vs hx1) ?_
  refine TA_done (by kernel_rfl) ?_ 0
  refine TX_next (TC_ret ?_)
  have hrv:=Option.some.inj H
  subst hrv
  exact TX_ret (rs:=[.tmp 6]) (vs:=[vs x1]) rfl ⟨rfl,trivial⟩ (fun w' hs'=>⟨(),rfl,Step.left (Step.pulled (is:=[]) (A:=[]) hs' rfl)⟩)
 ·intro hJ
  replace H:=Hj
  refine TC_cond (b:=(decide (zeros1=block))) rfl (fun hc=>?_) (fun hc=>?_)
  ·replace H:=ite_t (of_decide_eq_true hc) H
   refine TC_region (TLv (V_assign rfl) ?_)
   refine TL_nil (TX.sub (m':=[(0,vs s_),(2,vi size),(7,vi 0)]) ⟨rfl,rfl,rfl,trivial⟩ ?_)
   refine TX.pull (is:=[]) (L':=[]) rfl ?_
   obtain rfl:=Option.some.inj H
   exact hJ ()
  ·replace H:=ite_f (of_decide_eq_false hc) H
   refine TC_skip (TX.sub (m':=[(0,vs s_),(2,vi size),(7,vi zeros1)]) ⟨rfl,rfl,rfl,trivial⟩ ?_)
   refine TX.pull (is:=[]) (L':=[]) rfl ?_
   obtain rfl:=Option.some.inj H
   exact hJ ()
end Go.Proofs
end

section
namespace Go.Proofs
open Go Go.Kx
def halberdref1_rot (x:BitVec 32) (k:Int):Option (BitVec 32) :=
 if 0≤k then (if 0≤w64 (32 - k) then (ltt ((x >>> (k).toNat) ||| (x <<< (w64 (32 - k)).toNat)) fun (x1:BitVec 32)=>(some x1)) else none) else none
set_option maxHeartbeats 4000000 in
set_option maxRecDepth 20000 in
theorem F103_calls (x:BitVec 32) (k:Int) (r:BitVec 32) (H:halberdref1_rot x k=some r) :
  Does Try.prog 103 [v32 x,vi k] [] [] (Γ:=Unit) (fun g=>v32 r) (fun g=>[]):=by
 intro w hmem hro hd
 refine calls_of (N:=13) (m0:=[(0,v32 x),(1,vi k)]) Try.func103 rfl Try.ntmps103 (argM_ok [v32 x,vi k]) rfl hmem hro hd ?_
 unfold halberdref1_rot at H
 refine TC_seq (TC_region (TLv (V_assign rfl) ?_))
 refine TL_nil (TX_next (TC_seq ?_))
 obtain ⟨h1,H⟩:=if_elim H
 obtain ⟨h2,H⟩:=if_elim H
 obtain ⟨x1,hx1,H⟩:=ltt_elim H
 refine TA_begin [] 9 (by kernel_rfl) (N:=9) rfl ?_
 refine TA_mix (is:=[]) (done':=dn 9 255) [itV 0 5 (v32 x) [],itV 1 6 (vi k) [],itV 2 7 (v32 (x >>> (k).toNat)) [0,1],itV 3 8 (v32 x) [],itV 4 9 (vi k) [],itV 5 10 (vi (w64 (32 - k))) [4],itV 6 11 (v32 (x <<< (w64 (32 - k)).toNat)) [3,5],itV 7 12 (v32 ((x >>> (k).toNat) ||| (x <<< (w64 (32 - k)).toNat))) [6,2]] [] 1 (by kernel_rfl) (QP.then QP.body) (by kernel_rfl) rfl (.v rfl (V_move rfl) (.v rfl (V_move rfl) (.v rfl (V_bin rfl rfl (fun w=>shr32 w x .i64 k h1)) (.v rfl (V_move rfl) (.v rfl (V_move rfl) (.v rfl (V_bin rfl rfl (fun w=>subI w 32 k)) (.v rfl (V_bin rfl rfl (fun w=>shl32 w x .i64 (w64 (32 - k)) h2)) (.v rfl (V_bin rfl rfl (fun w=>or32 w (x >>> (k).toNat) (x <<< (w64 (32 - k)).toNat))) .nil)))))))) .nil (by kernel_rfl) rfl (fun γ=>?_)
 refine TA_cut [(12,v32 ((x >>> (k).toNat) ||| (x <<< (w64 (32 - k)).toNat))),(4,v32 0#32)] [] ⟨rfl,rfl,trivial⟩ rfl ?_
 refine TA_all (rs:=[8]) (by kernel_rfl) rfl ?_
 refine ⟨?_,trivial⟩
 refine TO_v (is:=[]) (done':=dn 9 511) rfl rfl rfl rfl (by kernel_rfl) (V_assign rfl) (fun _=>rfl) ?_
 refine TA_re (d:=4) (v:=v32 ((x >>> (k).toNat) ||| (x <<< (w64 (32 - k)).toNat))) (v':=v32 x1) rfl (congrArg v32 hx1) ?_
 refine TA_done (by kernel_rfl) ?_ 0
 refine TX_next (TC_ret ?_)
 have hrv:=Option.some.inj H
 subst hrv
 exact TX_ret (rs:=[.tmp 4]) (vs:=[v32 x1]) rfl ⟨rfl,trivial⟩ (fun w' hs'=>⟨(),rfl,Step.left (Step.pulled (is:=[]) (A:=[]) hs' rfl)⟩)
end Go.Proofs
end

section
namespace Go.Proofs
open Go Go.Kx
open Vector (replicate)
def halberdref1_block256.b0 (s_:Str) (s0:Int × Vx 32 64):Option ((Int × Vx 32 64) ⊕ (Vx 32 64)) :=
 if s0.1<16 then (if 0≤w64 (4 * s0.1)∧w64 (4 * s0.1)<((s_).length:Int) then (if 0≤w64 ((w64 (4 * s0.1))+1)∧w64 ((w64 (4 * s0.1))+1)<((s_).length:Int) then (if 0≤w64 ((w64 (4 * s0.1))+2)∧w64 ((w64 (4 * s0.1))+2)<((s_).length:Int) then (if 0≤w64 ((w64 (4 * s0.1))+3)∧w64 ((w64 (4 * s0.1))+3)<((s_).length:Int) then (if 0≤s0.1∧s0.1<(64:Int) then (ltt (vp s0.2 ((s0.1).toNat) ((((((sg s_ (w64 (4 * s0.1))).setWidth 32) <<< 24) ||| (((sg s_ (w64 ((w64 (4 * s0.1))+1))).setWidth 32) <<< 16)) ||| (((sg s_ (w64 ((w64 (4 * s0.1))+2))).setWidth 32) <<< 8)) ||| ((sg s_ (w64 ((w64 (4 * s0.1))+3))).setWidth 32))) fun (m_2:Vx 32 64)=>(ltt (w64 (s0.1+1)) fun (i1:Int)=>(some (.inl (i1,m_2))))) else none) else none) else none) else none) else none) else (some (.inr s0.2))
def halberdref1_block256.b1  (s1:Int × Vx 32 64):Option ((Int × Vx 32 64) ⊕ (Vx 32 64)) :=
 if s1.1<64 then (if 0≤w64 (s1.1 - 15)∧w64 (s1.1 - 15)<(64:Int) then ((halberdref1_rot (vg s1.2 ((w64 (s1.1 - 15)).toNat)) 7).bind fun (r_1:BitVec 32)=>(if 0≤w64 (s1.1 - 15)∧w64 (s1.1 - 15)<(64:Int) then ((halberdref1_rot (vg s1.2 ((w64 (s1.1 - 15)).toNat)) 18).bind fun (r_2:BitVec 32)=>(if 0≤w64 (s1.1 - 15)∧w64 (s1.1 - 15)<(64:Int) then (ltt ((r_1 ^^^ r_2) ^^^ ((vg s1.2 ((w64 (s1.1 - 15)).toNat)) >>> 3)) fun (a_1:BitVec 32)=>(if 0≤w64 (s1.1 - 2)∧w64 (s1.1 - 2)<(64:Int) then ((halberdref1_rot (vg s1.2 ((w64 (s1.1 - 2)).toNat)) 17).bind fun (r_3:BitVec 32)=>(if 0≤w64 (s1.1 - 2)∧w64 (s1.1 - 2)<(64:Int) then ((halberdref1_rot (vg s1.2 ((w64 (s1.1 - 2)).toNat)) 19).bind fun (r_4:BitVec 32)=>(if 0≤w64 (s1.1 - 2)∧w64 (s1.1 - 2)<(64:Int) then (ltt ((r_3 ^^^ r_4) ^^^ ((vg s1.2 ((w64 (s1.1 - 2)).toNat)) >>> 10)) fun (b5:BitVec 32)=>(if 0≤w64 (s1.1 - 16)∧w64 (s1.1 - 16)<(64:Int) then (if 0≤w64 (s1.1 - 7)∧w64 (s1.1 - 7)<(64:Int) then (if 0≤s1.1∧s1.1<(64:Int) then (ltt (vp s1.2 ((s1.1).toNat) ((((vg s1.2 ((w64 (s1.1 - 16)).toNat))+a_1)+(vg s1.2 ((w64 (s1.1 - 7)).toNat)))+b5)) fun (m_3:Vx 32 64)=>(ltt (w64 (s1.1+1)) fun (i2:Int)=>(some (.inl (i2,m_3))))) else none) else none) else none)) else none)) else none)) else none)) else none)) else none)) else none) else (some (.inr s1.2))
def halberdref1_block256.b2 (m_1:Vx 32 64) (t_2:Vx 32 64) (s2:Int × Vx 32 8):Option ((Int × Vx 32 8) ⊕ (Vx 32 8)) :=
 if s2.1<64 then ((halberdref1_rot (vg s2.2 4) 6).bind fun (r_5:BitVec 32)=>((halberdref1_rot (vg s2.2 4) 11).bind fun (r_6:BitVec 32)=>((halberdref1_rot (vg s2.2 4) 25).bind fun (r_7:BitVec 32)=>(ltt ((r_5 ^^^ r_6) ^^^ r_7) fun (a_2:BitVec 32)=>(if 0≤s2.1∧s2.1<(64:Int) then (if 0≤s2.1∧s2.1<(64:Int) then (ltt (((((vg s2.2 7)+a_2)+(((vg s2.2 4) &&& (vg s2.2 5)) ^^^ ((~~~(vg s2.2 4)) &&& (vg s2.2 6))))+(vg m_1 ((s2.1).toNat)))+(vg t_2 ((s2.1).toNat))) fun (t_4:BitVec 32)=>((halberdref1_rot (vg s2.2 0) 2).bind fun (r_8:BitVec 32)=>((halberdref1_rot (vg s2.2 0) 13).bind fun (r_9:BitVec 32)=>((halberdref1_rot (vg s2.2 0) 22).bind fun (r_10:BitVec 32)=>(ltt ((r_8 ^^^ r_9) ^^^ r_10) fun (b7:BitVec 32)=>(ltt (b7+((((vg s2.2 0) &&& (vg s2.2 1)) ^^^ ((vg s2.2 0) &&& (vg s2.2 2))) ^^^ ((vg s2.2 1) &&& (vg s2.2 2)))) fun (u1:BitVec 32)=>(ltt ((#v[t_4+u1,vg s2.2 0,vg s2.2 1,vg s2.2 2,(vg s2.2 3)+t_4,vg s2.2 4,vg s2.2 5,vg s2.2 6]:Vx 32 8)) fun (m_4:Vx 32 8)=>(ltt (w64 (s2.1+1)) fun (i3:Int)=>(some (.inl (i3,m_4))))))))))) else none) else none))))) else (some (.inr s2.2))
def halberdref1_block256.b3 (t_3:Vx 32 8) (s3:Int × Vx 32 8):Option ((Int × Vx 32 8) ⊕ (Vx 32 8)) :=
 if s3.1<8 then (if 0≤s3.1∧s3.1<(8:Int) then (if 0≤s3.1∧s3.1<(8:Int) then (if 0≤s3.1∧s3.1<(8:Int) then (ltt (vp s3.2 ((s3.1).toNat) ((vg s3.2 ((s3.1).toNat))+(vg t_3 ((s3.1).toNat)))) fun (m_5:Vx 32 8)=>(ltt (w64 (s3.1+1)) fun (i4:Int)=>(some (.inl (i4,m_5))))) else none) else none) else none) else (some (.inr s3.2))
def halberdref1_block256 (h:Vx 32 8) (s_:Str):Option (Vx 32 8) :=
 ltt ((#v[1116352408#32,1899447441#32,3049323471#32,3921009573#32,961987163#32,1508970993#32,2453635748#32,2870763221#32,3624381080#32,310598401#32,607225278#32,1426881987#32,1925078388#32,2162078206#32,2614888103#32,3248222580#32,3835390401#32,4022224774#32,264347078#32,604807628#32,770255983#32,1249150122#32,1555081692#32,1996064986#32,2554220882#32,2821834349#32,2952996808#32,3210313671#32,3336571891#32,3584528711#32,113926993#32,338241895#32,666307205#32,773529912#32,1294757372#32,1396182291#32,1695183700#32,1986661051#32,2177026350#32,2456956037#32,2730485921#32,2820302411#32,3259730800#32,3345764771#32,3516065817#32,3600352804#32,4094571909#32,275423344#32,430227734#32,506948616#32,659060556#32,883997877#32,958139571#32,1322822218#32,1537002063#32,1747873779#32,1955562222#32,2024104815#32,2227730452#32,2361852424#32,2428436474#32,2756734187#32,3204031479#32,3329325298#32]:Vx 32 64)) fun (m_1:Vx 32 64)=>((loop (halberdref1_block256.b0 s_) BIG (0,replicate 64 0#32)).bind fun (t_1:Vx 32 64)=>((loop (halberdref1_block256.b1) BIG (16,t_1)).bind fun (t_2:Vx 32 64)=>((loop (halberdref1_block256.b2 m_1 t_2) BIG (0,h)).bind fun (t_3:Vx 32 8)=>((loop (halberdref1_block256.b3 t_3) BIG (0,h)).bind fun (t_5:Vx 32 8)=>(some t_5)))))
set_option maxHeartbeats 4000000 in
set_option maxRecDepth 20000 in
theorem F97_calls (h:Vx 32 8) (s_:Str) (r:Vx 32 8) (H:halberdref1_block256 h s_=some r) :
  Does Try.prog 97 [aG [(8,e32 h.toList)],vs s_] [] [] (Γ:=Unit) (fun g=>aG [(8,e32 r.toList)]) (fun g=>[]):=by
 intro w hmem hro hd
 refine calls_of (N:=212) (m0:=[(0,aG [(8,e32 h.toList)]),(1,vs s_)]) Try.func97 rfl Try.ntmps97 (argM_ok [aG [(8,e32 h.toList)],vs s_]) rfl hmem hro hd ?_
 unfold halberdref1_block256 at H
 refine TC_seq (TC_region (TLe (E_boxP [(8,e32 h.toList)] rfl rfl ⟨(lenV (f:=v32) h),trivial⟩) (fun b1=>?_)))
 refine TLe (E_al32 8 TryI.inf30 TryI.zer30) (fun b2=>?_)
 refine TL_nil (TX_next (TC_seq (TC_region (TLv (V_buildArr (pv:=[(0,v32 1116352408#32),(1,v32 1899447441#32),(2,v32 3049323471#32),(3,v32 3921009573#32),(4,v32 961987163#32),(5,v32 1508970993#32),(6,v32 2453635748#32),(7,v32 2870763221#32),(8,v32 3624381080#32),(9,v32 310598401#32),(10,v32 607225278#32),(11,v32 1426881987#32),(12,v32 1925078388#32),(13,v32 2162078206#32),(14,v32 2614888103#32),(15,v32 3248222580#32),(16,v32 3835390401#32),(17,v32 4022224774#32),(18,v32 264347078#32),(19,v32 604807628#32),(20,v32 770255983#32),(21,v32 1249150122#32),(22,v32 1555081692#32),(23,v32 1996064986#32),(24,v32 2554220882#32),(25,v32 2821834349#32),(26,v32 2952996808#32),(27,v32 3210313671#32),(28,v32 3336571891#32),(29,v32 3584528711#32),(30,v32 113926993#32),(31,v32 338241895#32),(32,v32 666307205#32),(33,v32 773529912#32),(34,v32 1294757372#32),(35,v32 1396182291#32),(36,v32 1695183700#32),(37,v32 1986661051#32),(38,v32 2177026350#32),(39,v32 2456956037#32),(40,v32 2730485921#32),(41,v32 2820302411#32),(42,v32 3259730800#32),(43,v32 3345764771#32),(44,v32 3516065817#32),(45,v32 3600352804#32),(46,v32 4094571909#32),(47,v32 275423344#32),(48,v32 430227734#32),(49,v32 506948616#32),(50,v32 659060556#32),(51,v32 883997877#32),(52,v32 958139571#32),(53,v32 1322822218#32),(54,v32 1537002063#32),(55,v32 1747873779#32),(56,v32 1955562222#32),(57,v32 2024104815#32),(58,v32 2227730452#32),(59,v32 2361852424#32),(60,v32 2428436474#32),(61,v32 2756734187#32),(62,v32 3204031479#32),(63,v32 3329325298#32)]) rfl rfl Try.underlying137 TryI.inf137 TryI.inf29 rfl TryI.zer137 (cs:=e32 ((#v[1116352408#32,1899447441#32,3049323471#32,3921009573#32,961987163#32,1508970993#32,2453635748#32,2870763221#32,3624381080#32,310598401#32,607225278#32,1426881987#32,1925078388#32,2162078206#32,2614888103#32,3248222580#32,3835390401#32,4022224774#32,264347078#32,604807628#32,770255983#32,1249150122#32,1555081692#32,1996064986#32,2554220882#32,2821834349#32,2952996808#32,3210313671#32,3336571891#32,3584528711#32,113926993#32,338241895#32,666307205#32,773529912#32,1294757372#32,1396182291#32,1695183700#32,1986661051#32,2177026350#32,2456956037#32,2730485921#32,2820302411#32,3259730800#32,3345764771#32,3516065817#32,3600352804#32,4094571909#32,275423344#32,430227734#32,506948616#32,659060556#32,883997877#32,958139571#32,1322822218#32,1537002063#32,1747873779#32,1955562222#32,2024104815#32,2227730452#32,2361852424#32,2428436474#32,2756734187#32,3204031479#32,3329325298#32]:Vx 32 64).toList)) (by kernel_rfl)) ?_))))
 refine TLe (E_al32 64 TryI.inf137 TryI.zer137) (fun b3=>?_)
 refine TLn (E_sv 0 TryI.inf137) (fun _=>?_)
 obtain ⟨m_1,hm_1,H⟩:=ltt_elim H
 refine TL_reE (j:=0) (A:=some (b3,0)) (cs:=e32 ((#v[1116352408#32,1899447441#32,3049323471#32,3921009573#32,961987163#32,1508970993#32,2453635748#32,2870763221#32,3624381080#32,310598401#32,607225278#32,1426881987#32,1925078388#32,2162078206#32,2614888103#32,3248222580#32,3835390401#32,4022224774#32,264347078#32,604807628#32,770255983#32,1249150122#32,1555081692#32,1996064986#32,2554220882#32,2821834349#32,2952996808#32,3210313671#32,3336571891#32,3584528711#32,113926993#32,338241895#32,666307205#32,773529912#32,1294757372#32,1396182291#32,1695183700#32,1986661051#32,2177026350#32,2456956037#32,2730485921#32,2820302411#32,3259730800#32,3345764771#32,3516065817#32,3600352804#32,4094571909#32,275423344#32,430227734#32,506948616#32,659060556#32,883997877#32,958139571#32,1322822218#32,1537002063#32,1747873779#32,1955562222#32,2024104815#32,2227730452#32,2361852424#32,2428436474#32,2756734187#32,3204031479#32,3329325298#32]:Vx 32 64).toList)) (cs':=e32 m_1.toList) rfl (congrArg (fun z:Vx 32 64=>e32 (Vector.toList z)) hm_1) ?_
 refine TL_nil (TX_next (TC_seq (TC_region (TLe (E_al32 64 TryI.inf137 TryI.zer137) (fun b4=>?_)))))
 refine TL_nil (TX_next (TC_seq (TC_seq (TC_region (TLv (V_assign rfl) ?_)))))
 refine TL_nil (TX_next (TC_block ?_))
 obtain ⟨t_1,Hl,H⟩:=bind_elim H
 refine TC.sub (m':=[(1,vs s_),(2,ptr (some (b1,0)) 0),(4,ptr (some (b2,0)) 0),(5,ptr (some (b3,0)) 0),(6,ptr (some (b4,0)) 0),(7,vi 0)]) ⟨rfl,rfl,rfl,rfl,rfl,rfl,trivial⟩ ?_
 refine TC.pull (is:=[3,2,1,0]) (L':=[⟨some (b1,0),e32 h.toList⟩,⟨some (b2,0),e32 ((replicate 8 0#32).toList)⟩,⟨some (b3,0),e32 m_1.toList⟩,⟨some (b4,0),e32 ((replicate 64 0#32).toList)⟩]) rfl ?_
 refine TC_loopL (id:=0) (body:=(halberdref1_block256.b0 s_)) (σ:=Int × Vx 32 64) (Γ:=Unit) (Γx:=Unit) (fun s0 g0_=>[(1,vs s_),(2,ptr (some (b1,0)) 0),(4,ptr (some (b2,0)) 0),(5,ptr (some (b3,0)) 0),(6,ptr (some (b4,0)) 0),(7,vi s0.1)]) (fun s0 g0_=>[⟨some (b1,0),e32 h.toList⟩,⟨some (b2,0),e32 ((replicate 8 0#32).toList)⟩,⟨some (b3,0),e32 m_1.toList⟩,⟨some (b4,0),e32 s0.2.toList⟩]) (fun t g=>[(2,ptr (some (b1,0)) 0),(4,ptr (some (b2,0)) 0),(5,ptr (some (b3,0)) 0),(6,ptr (some (b4,0)) 0)]) (fun t g=>[⟨some (b1,0),e32 h.toList⟩,⟨some (b2,0),e32 ((replicate 8 0#32).toList)⟩,⟨some (b3,0),e32 m_1.toList⟩,⟨some (b4,0),e32 t.toList⟩]) ?_ BIG (0,replicate 64 0#32) () t_1 Hl ?_
 ·intro s0 g0_ r1 H K hK hE
  unfold halberdref1_block256.b0 at H
  refine TC_seq (TC_seq (TC_region (TLv (V_move rfl) ?_)))
  refine TLv (V_bin rfl rfl (fun w=>lssI w s0.1 16)) ?_
  refine TL_nil (TX_next (TC_cond (b:=(decide (s0.1<16))) rfl (fun hc=>?_) (fun hc=>?_)))
  ·replace H:=ite_t (of_decide_eq_true hc) H
   refine TC_skip (TX_next (TC_seq (TC_block ?_)))
   obtain ⟨h1,H⟩:=if_elim H
   obtain ⟨h2,H⟩:=if_elim H
   obtain ⟨h3,H⟩:=if_elim H
   obtain ⟨h4,H⟩:=if_elim H
   obtain ⟨h5,H⟩:=if_elim H
   obtain ⟨m_2,hm_2,H⟩:=ltt_elim H
   refine TA_begin [] 32 (by kernel_rfl) (N:=32) rfl ?_
   refine TA_mix (is:=[]) (done':=dn 32 2147483647) [itV 0 23 (vi s0.1) [],itV 1 24 (vs s_) [],itV 2 25 (vi s0.1) [],itV 3 26 (vi (w64 (4 * s0.1))) [2],itV 4 27 (v8 (sg s_ (w64 (4 * s0.1)))) [1,3],itV 5 28 (v32 ((sg s_ (w64 (4 * s0.1))).setWidth 32)) [4],itV 6 29 (v32 (((sg s_ (w64 (4 * s0.1))).setWidth 32) <<< 24)) [5],itV 7 30 (vs s_) [],itV 8 31 (vi s0.1) [],itV 9 32 (vi (w64 (4 * s0.1))) [8],itV 10 33 (vi (w64 ((w64 (4 * s0.1))+1))) [9],itV 11 34 (v8 (sg s_ (w64 ((w64 (4 * s0.1))+1)))) [10,7],itV 12 35 (v32 ((sg s_ (w64 ((w64 (4 * s0.1))+1))).setWidth 32)) [11],itV 13 36 (v32 (((sg s_ (w64 ((w64 (4 * s0.1))+1))).setWidth 32) <<< 16)) [12],itV 14 37 (v32 ((((sg s_ (w64 (4 * s0.1))).setWidth 32) <<< 24) ||| (((sg s_ (w64 ((w64 (4 * s0.1))+1))).setWidth 32) <<< 16))) [13,6],itV 15 38 (vs s_) [],itV 16 39 (vi s0.1) [],itV 17 40 (vi (w64 (4 * s0.1))) [16],itV 18 41 (vi (w64 ((w64 (4 * s0.1))+2))) [17],itV 19 42 (v8 (sg s_ (w64 ((w64 (4 * s0.1))+2)))) [18,15],itV 20 43 (v32 ((sg s_ (w64 ((w64 (4 * s0.1))+2))).setWidth 32)) [19],itV 21 44 (v32 (((sg s_ (w64 ((w64 (4 * s0.1))+2))).setWidth 32) <<< 8)) [20],itV 22 45 (v32 (((((sg s_ (w64 (4 * s0.1))).setWidth 32) <<< 24) ||| (((sg s_ (w64 ((w64 (4 * s0.1))+1))).setWidth 32) <<< 16)) ||| (((sg s_ (w64 ((w64 (4 * s0.1))+2))).setWidth 32) <<< 8))) [21,14],itV 23 46 (vs s_) [],itV 24 47 (vi s0.1) [],itV 25 48 (vi (w64 (4 * s0.1))) [24],itV 26 49 (vi (w64 ((w64 (4 * s0.1))+3))) [25],itV 27 50 (v8 (sg s_ (w64 ((w64 (4 * s0.1))+3)))) [26,23],itV 28 51 (v32 ((sg s_ (w64 ((w64 (4 * s0.1))+3))).setWidth 32)) [27],itV 29 52 (v32 ((((((sg s_ (w64 (4 * s0.1))).setWidth 32) <<< 24) ||| (((sg s_ (w64 ((w64 (4 * s0.1))+1))).setWidth 32) <<< 16)) ||| (((sg s_ (w64 ((w64 (4 * s0.1))+2))).setWidth 32) <<< 8)) ||| ((sg s_ (w64 ((w64 (4 * s0.1))+3))).setWidth 32))) [28,22],itV 30 53 (ptr (some (b4,0)) ((s0.1).toNat)) [0]] [] 1 (by kernel_rfl) (QP.block (QP.then (QP.then (QP.block (QP.then QP.body))))) (by kernel_rfl) rfl (.v rfl (V_move rfl) (.v rfl (V_move rfl) (.v rfl (V_move rfl) (.v rfl (V_bin rfl rfl (fun w=>mulI w 4 s0.1)) (.v rfl (V_idxStr rfl rfl (i:=w64 (4 * s0.1)) Try.underlying9 h1.1 h1.2) (.v rfl (V_conv rfl (fun w=>cv8to32 w _ _ Try.underlying29 (TryI.und5) (sg s_ (w64 (4 * s0.1))))) (.v rfl (V_bin rfl rfl (fun w=>shl32 w ((sg s_ (w64 (4 * s0.1))).setWidth 32) .u64 24 (by decide))) (.v rfl (V_move rfl) (.v rfl (V_move rfl) (.v rfl (V_bin rfl rfl (fun w=>mulI w 4 s0.1)) (.v rfl (V_bin rfl rfl (fun w=>addI w (w64 (4 * s0.1)) 1)) (.v rfl (V_idxStr rfl rfl (i:=w64 ((w64 (4 * s0.1))+1)) Try.underlying9 h2.1 h2.2) (.v rfl (V_conv rfl (fun w=>cv8to32 w _ _ Try.underlying29 (TryI.und5) (sg s_ (w64 ((w64 (4 * s0.1))+1))))) (.v rfl (V_bin rfl rfl (fun w=>shl32 w ((sg s_ (w64 ((w64 (4 * s0.1))+1))).setWidth 32) .u64 16 (by decide))) (.v rfl (V_bin rfl rfl (fun w=>or32 w (((sg s_ (w64 (4 * s0.1))).setWidth 32) <<< 24) (((sg s_ (w64 ((w64 (4 * s0.1))+1))).setWidth 32) <<< 16))) (.v rfl (V_move rfl) (.v rfl (V_move rfl) (.v rfl (V_bin rfl rfl (fun w=>mulI w 4 s0.1)) (.v rfl (V_bin rfl rfl (fun w=>addI w (w64 (4 * s0.1)) 2)) (.v rfl (V_idxStr rfl rfl (i:=w64 ((w64 (4 * s0.1))+2)) Try.underlying9 h3.1 h3.2) (.v rfl (V_conv rfl (fun w=>cv8to32 w _ _ Try.underlying29 (TryI.und5) (sg s_ (w64 ((w64 (4 * s0.1))+2))))) (.v rfl (V_bin rfl rfl (fun w=>shl32 w ((sg s_ (w64 ((w64 (4 * s0.1))+2))).setWidth 32) .u64 8 (by decide))) (.v rfl (V_bin rfl rfl (fun w=>or32 w ((((sg s_ (w64 (4 * s0.1))).setWidth 32) <<< 24) ||| (((sg s_ (w64 ((w64 (4 * s0.1))+1))).setWidth 32) <<< 16)) (((sg s_ (w64 ((w64 (4 * s0.1))+2))).setWidth 32) <<< 8))) (.v rfl (V_move rfl) (.v rfl (V_move rfl) (.v rfl (V_bin rfl rfl (fun w=>mulI w 4 s0.1)) (.v rfl (V_bin rfl rfl (fun w=>addI w (w64 (4 * s0.1)) 3)) (.v rfl (V_idxStr rfl rfl (i:=w64 ((w64 (4 * s0.1))+3)) Try.underlying9 h4.1 h4.2) (.v rfl (V_conv rfl (fun w=>cv8to32 w _ _ Try.underlying29 (TryI.und5) (sg s_ (w64 ((w64 (4 * s0.1))+3))))) (.v rfl (V_bin rfl rfl (fun w=>or32 w (((((sg s_ (w64 (4 * s0.1))).setWidth 32) <<< 24) ||| (((sg s_ (w64 ((w64 (4 * s0.1))+1))).setWidth 32) <<< 16)) ||| (((sg s_ (w64 ((w64 (4 * s0.1))+2))).setWidth 32) <<< 8)) ((sg s_ (w64 ((w64 (4 * s0.1))+3))).setWidth 32))) (.v rfl (V_idxArr (i:=s0.1) rfl rfl Try.underlying137 TryI.inf29 rfl h5.1 h5.2 (k:=(s0.1).toNat) (k01 _)) .nil))))))))))))))))))))))))))))))) .nil (by kernel_rfl) rfl (fun γ=>?_)
   refine TA_cut [(53,ptr (some (b4,0)) ((s0.1).toNat)),(52,v32 ((((((sg s_ (w64 (4 * s0.1))).setWidth 32) <<< 24) ||| (((sg s_ (w64 ((w64 (4 * s0.1))+1))).setWidth 32) <<< 16)) ||| (((sg s_ (w64 ((w64 (4 * s0.1))+2))).setWidth 32) <<< 8)) ||| ((sg s_ (w64 ((w64 (4 * s0.1))+3))).setWidth 32))),(1,vs s_),(2,ptr (some (b1,0)) 0),(4,ptr (some (b2,0)) 0),(5,ptr (some (b3,0)) 0),(6,ptr (some (b4,0)) 0),(7,vi s0.1)] [⟨some (b1,0),e32 h.toList⟩,⟨some (b2,0),e32 ((replicate 8 0#32).toList)⟩,⟨some (b3,0),e32 m_1.toList⟩,⟨some (b4,0),e32 s0.2.toList⟩] ⟨rfl,rfl,rfl,rfl,rfl,rfl,rfl,rfl,trivial⟩ rfl ?_
   refine TA_all (rs:=[31]) (by kernel_rfl) rfl ?_
   refine ⟨?_,trivial⟩
   refine TO_n (is:=[]) (done':=dn 32 4294967295) rfl rfl rfl (by kernel_rfl) (E_store (j:=3) rfl rfl TryI.inf29 rfl rfl rfl (by simpa using (toNat_lt h5.1 h5.2)) (cs':=e32 ((vp s0.2 ((s0.1).toNat) ((((((sg s_ (w64 (4 * s0.1))).setWidth 32) <<< 24) ||| (((sg s_ (w64 ((w64 (4 * s0.1))+1))).setWidth 32) <<< 16)) ||| (((sg s_ (w64 ((w64 (4 * s0.1))+2))).setWidth 32) <<< 8)) ||| ((sg s_ (w64 ((w64 (4 * s0.1))+3))).setWidth 32))).toList)) set_vec) (fun _ _=>rfl) (fun _=>?_)
   refine TA_reE (j:=3) (A:=some (b4,0)) (cs:=e32 ((vp s0.2 ((s0.1).toNat) ((((((sg s_ (w64 (4 * s0.1))).setWidth 32) <<< 24) ||| (((sg s_ (w64 ((w64 (4 * s0.1))+1))).setWidth 32) <<< 16)) ||| (((sg s_ (w64 ((w64 (4 * s0.1))+2))).setWidth 32) <<< 8)) ||| ((sg s_ (w64 ((w64 (4 * s0.1))+3))).setWidth 32))).toList)) (cs':=e32 m_2.toList) rfl (congrArg (fun z:Vx 32 64=>e32 (Vector.toList z)) hm_2) ?_
   refine TA_done (by kernel_rfl) ?_ 0
   refine TX_block_normal (TX_next (TC_region (TLv (V_move rfl) ?_)))
   refine TLv (V_bin rfl rfl (fun w=>addI w s0.1 1)) ?_
   refine TLv (V_assign rfl) ?_
   obtain ⟨i1,hi1,H⟩:=ltt_elim H
   refine TL_re (d:=7) (v:=vi (w64 (s0.1+1))) (v':=vi i1) rfl (congrArg vi hi1) ?_
   refine TL_nil (TX.sub (m':=[(1,vs s_),(2,ptr (some (b1,0)) 0),(4,ptr (some (b2,0)) 0),(5,ptr (some (b3,0)) 0),(6,ptr (some (b4,0)) 0),(7,vi i1)]) ⟨rfl,rfl,rfl,rfl,rfl,rfl,trivial⟩ ?_)
   refine TX.pull (is:=[0,0,0,0]) (L':=[⟨some (b1,0),e32 h.toList⟩,⟨some (b2,0),e32 ((replicate 8 0#32).toList)⟩,⟨some (b3,0),e32 m_1.toList⟩,⟨some (b4,0),e32 m_2.toList⟩]) rfl ?_
   obtain rfl:=Option.some.inj H
   exact fun a w hs=>hK (i1,m_2) rfl () a w hs
  ·replace H:=ite_f (of_decide_eq_false hc) H
   refine TC_exit (TX_then_exit (TX_then_exit (TX.sub (m':=[(2,ptr (some (b1,0)) 0),(4,ptr (some (b2,0)) 0),(5,ptr (some (b3,0)) 0),(6,ptr (some (b4,0)) 0)]) ⟨rfl,rfl,rfl,rfl,trivial⟩ ?_)))
   refine TX.pull (is:=[0,0,0,0]) (L':=[⟨some (b1,0),e32 h.toList⟩,⟨some (b2,0),e32 ((replicate 8 0#32).toList)⟩,⟨some (b3,0),e32 m_1.toList⟩,⟨some (b4,0),e32 s0.2.toList⟩]) rfl ?_
   obtain rfl:=Option.some.inj H
   exact hE s0.2 rfl ()
 ·intro g
  refine TX_block_exit (TX_next (TC_seq (TC_seq (TC_region (TLv (V_assign rfl) ?_)))))
  refine TL_nil (TX_next (TC_block ?_))
  obtain ⟨t_2,Hl,H⟩:=bind_elim H
  refine TC.sub (m':=[(2,ptr (some (b1,0)) 0),(4,ptr (some (b2,0)) 0),(5,ptr (some (b3,0)) 0),(6,ptr (some (b4,0)) 0),(8,vi 16)]) ⟨rfl,rfl,rfl,rfl,rfl,trivial⟩ ?_
  refine TC.pull (is:=[0,0,0,0]) (L':=[⟨some (b1,0),e32 h.toList⟩,⟨some (b2,0),e32 ((replicate 8 0#32).toList)⟩,⟨some (b3,0),e32 m_1.toList⟩,⟨some (b4,0),e32 t_1.toList⟩]) rfl ?_
  refine TC_loopL (id:=2) (body:=(halberdref1_block256.b1)) (σ:=Int × Vx 32 64) (Γ:=Unit) (Γx:=Unit) (fun s1 g1_=>[(2,ptr (some (b1,0)) 0),(4,ptr (some (b2,0)) 0),(5,ptr (some (b3,0)) 0),(6,ptr (some (b4,0)) 0),(8,vi s1.1)]) (fun s1 g1_=>[⟨some (b1,0),e32 h.toList⟩,⟨some (b2,0),e32 ((replicate 8 0#32).toList)⟩,⟨some (b3,0),e32 m_1.toList⟩,⟨some (b4,0),e32 s1.2.toList⟩]) (fun t g=>[(2,ptr (some (b1,0)) 0),(4,ptr (some (b2,0)) 0),(5,ptr (some (b3,0)) 0),(6,ptr (some (b4,0)) 0)]) (fun t g=>[⟨some (b1,0),e32 h.toList⟩,⟨some (b2,0),e32 ((replicate 8 0#32).toList)⟩,⟨some (b3,0),e32 m_1.toList⟩,⟨some (b4,0),e32 t.toList⟩]) ?_ BIG (16,t_1) () t_2 Hl ?_
  ·intro s1 g1_ r1 H K hK hE
   unfold halberdref1_block256.b1 at H
   refine TC_seq (TC_seq (TC_region (TLv (V_move rfl) ?_)))
   refine TLv (V_bin rfl rfl (fun w=>lssI w s1.1 64)) ?_
   refine TL_nil (TX_next (TC_cond (b:=(decide (s1.1<64))) rfl (fun hc=>?_) (fun hc=>?_)))
   ·replace H:=ite_t (of_decide_eq_true hc) H
    refine TC_skip (TX_next (TC_seq (TC_block (TC_seq ?_))))
    obtain ⟨h6,H⟩:=if_elim H
    obtain ⟨r_1,hr_1,H⟩:=bind_elim H
    obtain ⟨h7,H⟩:=if_elim H
    obtain ⟨r_2,hr_2,H⟩:=bind_elim H
    obtain ⟨h8,H⟩:=if_elim H
    obtain ⟨a_1,ha_1,H⟩:=ltt_elim H
    refine TA_begin [] 18 (by kernel_rfl) (N:=18) rfl ?_
    refine TA_mix (is:=[]) (done':=dn 18 131071) [itV 0 58 (vi s1.1) [],itV 1 59 (vi (w64 (s1.1 - 15))) [0],itV 2 60 (ptr (some (b4,0)) ((w64 (s1.1 - 15)).toNat)) [1],itV 3 61 (v32 (vg s1.2 ((w64 (s1.1 - 15)).toNat))) [2],itV 4 62 (v32 r_1) [3],itV 5 63 (vi s1.1) [],itV 6 64 (vi (w64 (s1.1 - 15))) [5],itV 7 65 (ptr (some (b4,0)) ((w64 (s1.1 - 15)).toNat)) [6],itV 8 66 (v32 (vg s1.2 ((w64 (s1.1 - 15)).toNat))) [7],itV 9 67 (v32 r_2) [8],itV 10 68 (v32 (r_1 ^^^ r_2)) [9,4],itV 11 69 (vi s1.1) [],itV 12 70 (vi (w64 (s1.1 - 15))) [11],itV 13 71 (ptr (some (b4,0)) ((w64 (s1.1 - 15)).toNat)) [12],itV 14 72 (v32 (vg s1.2 ((w64 (s1.1 - 15)).toNat))) [13],itV 15 73 (v32 ((vg s1.2 ((w64 (s1.1 - 15)).toNat)) >>> 3)) [14],itV 16 74 (v32 ((r_1 ^^^ r_2) ^^^ ((vg s1.2 ((w64 (s1.1 - 15)).toNat)) >>> 3))) [15,10]] [] 1 (by kernel_rfl) (QP.then (QP.block (QP.then (QP.then (QP.block (QP.then QP.body)))))) (by kernel_rfl) rfl (.v rfl (V_move rfl) (.v rfl (V_bin rfl rfl (fun w=>subI w s1.1 15)) (.v rfl (V_idxArr (i:=w64 (s1.1 - 15)) rfl rfl Try.underlying137 TryI.inf29 rfl h6.1 h6.2 (k:=(w64 (s1.1 - 15)).toNat) (k01 _)) (.v rfl (V_load rfl (.o 3) (get_vec (f:=v32) (V:=s1.2) (toNat_lt h6.1 h6.2)) Try.isAgg29) (.e rfl (E_cu (F103_calls (vg s1.2 ((w64 (s1.1 - 15)).toNat)) 7 r_1 hr_1) Try.call103 .z) (.v rfl (V_move rfl) (.v rfl (V_bin rfl rfl (fun w=>subI w s1.1 15)) (.v rfl (V_idxArr (i:=w64 (s1.1 - 15)) rfl rfl Try.underlying137 TryI.inf29 rfl h7.1 h7.2 (k:=(w64 (s1.1 - 15)).toNat) (k01 _)) (.v rfl (V_load rfl (.o 3) (get_vec (f:=v32) (V:=s1.2) (toNat_lt h7.1 h7.2)) Try.isAgg29) (.e rfl (E_cu (F103_calls (vg s1.2 ((w64 (s1.1 - 15)).toNat)) 18 r_2 hr_2) Try.call103 .z) (.v rfl (V_bin rfl rfl (fun w=>xor32 w r_1 r_2)) (.v rfl (V_move rfl) (.v rfl (V_bin rfl rfl (fun w=>subI w s1.1 15)) (.v rfl (V_idxArr (i:=w64 (s1.1 - 15)) rfl rfl Try.underlying137 TryI.inf29 rfl h8.1 h8.2 (k:=(w64 (s1.1 - 15)).toNat) (k01 _)) (.v rfl (V_load rfl (.o 3) (get_vec (f:=v32) (V:=s1.2) (toNat_lt h8.1 h8.2)) Try.isAgg29) (.v rfl (V_bin rfl rfl (fun w=>shr32 w (vg s1.2 ((w64 (s1.1 - 15)).toNat)) .u64 3 (by decide))) (.v rfl (V_bin rfl rfl (fun w=>xor32 w (r_1 ^^^ r_2) ((vg s1.2 ((w64 (s1.1 - 15)).toNat)) >>> 3))) .nil))))))))))))))))) .nil (by kernel_rfl) rfl (fun γ=>?_)
    refine TA_cut [(74,v32 ((r_1 ^^^ r_2) ^^^ ((vg s1.2 ((w64 (s1.1 - 15)).toNat)) >>> 3))),(2,ptr (some (b1,0)) 0),(4,ptr (some (b2,0)) 0),(5,ptr (some (b3,0)) 0),(6,ptr (some (b4,0)) 0),(8,vi s1.1)] [⟨some (b1,0),e32 h.toList⟩,⟨some (b2,0),e32 ((replicate 8 0#32).toList)⟩,⟨some (b3,0),e32 m_1.toList⟩,⟨some (b4,0),e32 s1.2.toList⟩] ⟨rfl,rfl,rfl,rfl,rfl,rfl,trivial⟩ rfl ?_
    refine TA_all (rs:=[17]) (by kernel_rfl) rfl ?_
    refine ⟨?_,trivial⟩
    refine TO_v (is:=[]) (done':=dn 18 262143) rfl rfl rfl rfl (by kernel_rfl) (V_assign rfl) (fun _=>rfl) ?_
    refine TA_re (d:=9) (v:=v32 ((r_1 ^^^ r_2) ^^^ ((vg s1.2 ((w64 (s1.1 - 15)).toNat)) >>> 3))) (v':=v32 a_1) rfl (congrArg v32 ha_1) ?_
    refine TA_done (by kernel_rfl) ?_ 0
    refine TX_next (TC_seq ?_)
    obtain ⟨h9,H⟩:=if_elim H
    obtain ⟨r_3,hr_3,H⟩:=bind_elim H
    obtain ⟨h10,H⟩:=if_elim H
    obtain ⟨r_4,hr_4,H⟩:=bind_elim H
    obtain ⟨h11,H⟩:=if_elim H
    obtain ⟨b5,hb5,H⟩:=ltt_elim H
    refine TA_begin [] 18 (by kernel_rfl) (N:=18) rfl ?_
    refine TA_mix (is:=[]) (done':=dn 18 131071) [itV 0 75 (vi s1.1) [],itV 1 76 (vi (w64 (s1.1 - 2))) [0],itV 2 77 (ptr (some (b4,0)) ((w64 (s1.1 - 2)).toNat)) [1],itV 3 78 (v32 (vg s1.2 ((w64 (s1.1 - 2)).toNat))) [2],itV 4 79 (v32 r_3) [3],itV 5 80 (vi s1.1) [],itV 6 81 (vi (w64 (s1.1 - 2))) [5],itV 7 82 (ptr (some (b4,0)) ((w64 (s1.1 - 2)).toNat)) [6],itV 8 83 (v32 (vg s1.2 ((w64 (s1.1 - 2)).toNat))) [7],itV 9 84 (v32 r_4) [8],itV 10 85 (v32 (r_3 ^^^ r_4)) [9,4],itV 11 86 (vi s1.1) [],itV 12 87 (vi (w64 (s1.1 - 2))) [11],itV 13 88 (ptr (some (b4,0)) ((w64 (s1.1 - 2)).toNat)) [12],itV 14 89 (v32 (vg s1.2 ((w64 (s1.1 - 2)).toNat))) [13],itV 15 90 (v32 ((vg s1.2 ((w64 (s1.1 - 2)).toNat)) >>> 10)) [14],itV 16 91 (v32 ((r_3 ^^^ r_4) ^^^ ((vg s1.2 ((w64 (s1.1 - 2)).toNat)) >>> 10))) [15,10]] [] 1 (by kernel_rfl) (QP.then (QP.block (QP.then (QP.then (QP.block (QP.then QP.body)))))) (by kernel_rfl) rfl (.v rfl (V_move rfl) (.v rfl (V_bin rfl rfl (fun w=>subI w s1.1 2)) (.v rfl (V_idxArr (i:=w64 (s1.1 - 2)) rfl rfl Try.underlying137 TryI.inf29 rfl h9.1 h9.2 (k:=(w64 (s1.1 - 2)).toNat) (k01 _)) (.v rfl (V_load rfl (.o 3) (get_vec (f:=v32) (V:=s1.2) (toNat_lt h9.1 h9.2)) Try.isAgg29) (.e rfl (E_cu (F103_calls (vg s1.2 ((w64 (s1.1 - 2)).toNat)) 17 r_3 hr_3) Try.call103 .z) (.v rfl (V_move rfl) (.v rfl (V_bin rfl rfl (fun w=>subI w s1.1 2)) (.v rfl (V_idxArr (i:=w64 (s1.1 - 2)) rfl rfl Try.underlying137 TryI.inf29 rfl h10.1 h10.2 (k:=(w64 (s1.1 - 2)).toNat) (k01 _)) (.v rfl (V_load rfl (.o 3) (get_vec (f:=v32) (V:=s1.2) (toNat_lt h10.1 h10.2)) Try.isAgg29) (.e rfl (E_cu (F103_calls (vg s1.2 ((w64 (s1.1 - 2)).toNat)) 19 r_4 hr_4) Try.call103 .z) (.v rfl (V_bin rfl rfl (fun w=>xor32 w r_3 r_4)) (.v rfl (V_move rfl) (.v rfl (V_bin rfl rfl (fun w=>subI w s1.1 2)) (.v rfl (V_idxArr (i:=w64 (s1.1 - 2)) rfl rfl Try.underlying137 TryI.inf29 rfl h11.1 h11.2 (k:=(w64 (s1.1 - 2)).toNat) (k01 _)) (.v rfl (V_load rfl (.o 3) (get_vec (f:=v32) (V:=s1.2) (toNat_lt h11.1 h11.2)) Try.isAgg29) (.v rfl (V_bin rfl rfl (fun w=>shr32 w (vg s1.2 ((w64 (s1.1 - 2)).toNat)) .u64 10 (by decide))) (.v rfl (V_bin rfl rfl (fun w=>xor32 w (r_3 ^^^ r_4) ((vg s1.2 ((w64 (s1.1 - 2)).toNat)) >>> 10))) .nil))))))))))))))))) .nil (by kernel_rfl) rfl (fun γ=>?_)
    refine TA_cut [(91,v32 ((r_3 ^^^ r_4) ^^^ ((vg s1.2 ((w64 (s1.1 - 2)).toNat)) >>> 10))),(9,v32 a_1),(2,ptr (some (b1,0)) 0),(4,ptr (some (b2,0)) 0),(5,ptr (some (b3,0)) 0),(6,ptr (some (b4,0)) 0),(8,vi s1.1)] [⟨some (b1,0),e32 h.toList⟩,⟨some (b2,0),e32 ((replicate 8 0#32).toList)⟩,⟨some (b3,0),e32 m_1.toList⟩,⟨some (b4,0),e32 s1.2.toList⟩] ⟨rfl,rfl,rfl,rfl,rfl,rfl,rfl,trivial⟩ rfl ?_
    refine TA_all (rs:=[17]) (by kernel_rfl) rfl ?_
    refine ⟨?_,trivial⟩
    refine TO_v (is:=[]) (done':=dn 18 262143) rfl rfl rfl rfl (by kernel_rfl) (V_assign rfl) (fun _=>rfl) ?_
    refine TA_re (d:=10) (v:=v32 ((r_3 ^^^ r_4) ^^^ ((vg s1.2 ((w64 (s1.1 - 2)).toNat)) >>> 10))) (v':=v32 b5) rfl (congrArg v32 hb5) ?_
    refine TA_done (by kernel_rfl) ?_ 0
    refine TX_next ?_
    obtain ⟨h12,H⟩:=if_elim H
    obtain ⟨h13,H⟩:=if_elim H
    obtain ⟨h14,H⟩:=if_elim H
    obtain ⟨m_3,hm_3,H⟩:=ltt_elim H
    refine TA_begin [] 16 (by kernel_rfl) (N:=16) rfl ?_
    refine TA_mix (is:=[]) (done':=dn 16 32767) [itV 0 92 (vi s1.1) [],itV 1 93 (vi s1.1) [],itV 2 94 (vi (w64 (s1.1 - 16))) [1],itV 3 95 (ptr (some (b4,0)) ((w64 (s1.1 - 16)).toNat)) [2],itV 4 96 (v32 (vg s1.2 ((w64 (s1.1 - 16)).toNat))) [3],itV 5 97 (v32 a_1) [],itV 6 98 (v32 ((vg s1.2 ((w64 (s1.1 - 16)).toNat))+a_1)) [4,5],itV 7 99 (vi s1.1) [],itV 8 100 (vi (w64 (s1.1 - 7))) [7],itV 9 101 (ptr (some (b4,0)) ((w64 (s1.1 - 7)).toNat)) [8],itV 10 102 (v32 (vg s1.2 ((w64 (s1.1 - 7)).toNat))) [9],itV 11 103 (v32 (((vg s1.2 ((w64 (s1.1 - 16)).toNat))+a_1)+(vg s1.2 ((w64 (s1.1 - 7)).toNat)))) [6,10],itV 12 104 (v32 b5) [],itV 13 105 (v32 ((((vg s1.2 ((w64 (s1.1 - 16)).toNat))+a_1)+(vg s1.2 ((w64 (s1.1 - 7)).toNat)))+b5)) [12,11],itV 14 106 (ptr (some (b4,0)) ((s1.1).toNat)) [0]] [] 1 (by kernel_rfl) (QP.block (QP.then (QP.then (QP.block (QP.then QP.body))))) (by kernel_rfl) rfl (.v rfl (V_move rfl) (.v rfl (V_move rfl) (.v rfl (V_bin rfl rfl (fun w=>subI w s1.1 16)) (.v rfl (V_idxArr (i:=w64 (s1.1 - 16)) rfl rfl Try.underlying137 TryI.inf29 rfl h12.1 h12.2 (k:=(w64 (s1.1 - 16)).toNat) (k01 _)) (.v rfl (V_load rfl (.o 3) (get_vec (f:=v32) (V:=s1.2) (toNat_lt h12.1 h12.2)) Try.isAgg29) (.v rfl (V_move rfl) (.v rfl (V_bin rfl rfl (fun w=>add32 w (vg s1.2 ((w64 (s1.1 - 16)).toNat)) a_1)) (.v rfl (V_move rfl) (.v rfl (V_bin rfl rfl (fun w=>subI w s1.1 7)) (.v rfl (V_idxArr (i:=w64 (s1.1 - 7)) rfl rfl Try.underlying137 TryI.inf29 rfl h13.1 h13.2 (k:=(w64 (s1.1 - 7)).toNat) (k01 _)) (.v rfl (V_load rfl (.o 3) (get_vec (f:=v32) (V:=s1.2) (toNat_lt h13.1 h13.2)) Try.isAgg29) (.v rfl (V_bin rfl rfl (fun w=>add32 w ((vg s1.2 ((w64 (s1.1 - 16)).toNat))+a_1) (vg s1.2 ((w64 (s1.1 - 7)).toNat)))) (.v rfl (V_move rfl) (.v rfl (V_bin rfl rfl (fun w=>add32 w (((vg s1.2 ((w64 (s1.1 - 16)).toNat))+a_1)+(vg s1.2 ((w64 (s1.1 - 7)).toNat))) b5)) (.v rfl (V_idxArr (i:=s1.1) rfl rfl Try.underlying137 TryI.inf29 rfl h14.1 h14.2 (k:=(s1.1).toNat) (k01 _)) .nil))))))))))))))) .nil (by kernel_rfl) rfl (fun γ=>?_)
    refine TA_cut [(106,ptr (some (b4,0)) ((s1.1).toNat)),(105,v32 ((((vg s1.2 ((w64 (s1.1 - 16)).toNat))+a_1)+(vg s1.2 ((w64 (s1.1 - 7)).toNat)))+b5)),(2,ptr (some (b1,0)) 0),(4,ptr (some (b2,0)) 0),(5,ptr (some (b3,0)) 0),(6,ptr (some (b4,0)) 0),(8,vi s1.1)] [⟨some (b1,0),e32 h.toList⟩,⟨some (b2,0),e32 ((replicate 8 0#32).toList)⟩,⟨some (b3,0),e32 m_1.toList⟩,⟨some (b4,0),e32 s1.2.toList⟩] ⟨rfl,rfl,rfl,rfl,rfl,rfl,rfl,trivial⟩ rfl ?_
    refine TA_all (rs:=[15]) (by kernel_rfl) rfl ?_
    refine ⟨?_,trivial⟩
    refine TO_n (is:=[]) (done':=dn 16 65535) rfl rfl rfl (by kernel_rfl) (E_store (j:=3) rfl rfl TryI.inf29 rfl rfl rfl (by simpa using (toNat_lt h14.1 h14.2)) (cs':=e32 ((vp s1.2 ((s1.1).toNat) ((((vg s1.2 ((w64 (s1.1 - 16)).toNat))+a_1)+(vg s1.2 ((w64 (s1.1 - 7)).toNat)))+b5)).toList)) set_vec) (fun _ _=>rfl) (fun _=>?_)
    refine TA_reE (j:=3) (A:=some (b4,0)) (cs:=e32 ((vp s1.2 ((s1.1).toNat) ((((vg s1.2 ((w64 (s1.1 - 16)).toNat))+a_1)+(vg s1.2 ((w64 (s1.1 - 7)).toNat)))+b5)).toList)) (cs':=e32 m_3.toList) rfl (congrArg (fun z:Vx 32 64=>e32 (Vector.toList z)) hm_3) ?_
    refine TA_done (by kernel_rfl) ?_ 0
    refine TX_block_normal (TX_next (TC_region (TLv (V_move rfl) ?_)))
    refine TLv (V_bin rfl rfl (fun w=>addI w s1.1 1)) ?_
    refine TLv (V_assign rfl) ?_
    obtain ⟨i2,hi2,H⟩:=ltt_elim H
    refine TL_re (d:=8) (v:=vi (w64 (s1.1+1))) (v':=vi i2) rfl (congrArg vi hi2) ?_
    refine TL_nil (TX.sub (m':=[(2,ptr (some (b1,0)) 0),(4,ptr (some (b2,0)) 0),(5,ptr (some (b3,0)) 0),(6,ptr (some (b4,0)) 0),(8,vi i2)]) ⟨rfl,rfl,rfl,rfl,rfl,trivial⟩ ?_)
    refine TX.pull (is:=[0,0,0,0]) (L':=[⟨some (b1,0),e32 h.toList⟩,⟨some (b2,0),e32 ((replicate 8 0#32).toList)⟩,⟨some (b3,0),e32 m_1.toList⟩,⟨some (b4,0),e32 m_3.toList⟩]) rfl ?_
    obtain rfl:=Option.some.inj H
    exact fun a w hs=>hK (i2,m_3) rfl () a w hs
   ·replace H:=ite_f (of_decide_eq_false hc) H
    refine TC_exit (TX_then_exit (TX_then_exit (TX.sub (m':=[(2,ptr (some (b1,0)) 0),(4,ptr (some (b2,0)) 0),(5,ptr (some (b3,0)) 0),(6,ptr (some (b4,0)) 0)]) ⟨rfl,rfl,rfl,rfl,trivial⟩ ?_)))
    refine TX.pull (is:=[0,0,0,0]) (L':=[⟨some (b1,0),e32 h.toList⟩,⟨some (b2,0),e32 ((replicate 8 0#32).toList)⟩,⟨some (b3,0),e32 m_1.toList⟩,⟨some (b4,0),e32 s1.2.toList⟩]) rfl ?_
    obtain rfl:=Option.some.inj H
    exact hE s1.2 rfl ()
  ·intro g
   refine TX_block_exit (TX_next (TC_seq (TC_region (TLv (V_lag (.o 0) Try.isAgg30 TryI.inf30) ?_))))
   refine TLe (E_al32 8 TryI.inf30 TryI.zer30) (fun b6=>?_)
   refine TLn (E_sv (vs:=e32 h.toList) 0 TryI.inf30) (fun _=>?_)
   refine TL_nil (TX_next (TC_seq (TC_seq (TC_region (TLv (V_assign rfl) ?_)))))
   refine TL_nil (TX_next (TC_block ?_))
   obtain ⟨t_3,Hl,H⟩:=bind_elim H
   refine TC.sub (m':=[(2,ptr (some (b1,0)) 0),(4,ptr (some (b2,0)) 0),(5,ptr (some (b3,0)) 0),(6,ptr (some (b4,0)) 0),(11,ptr (some (b6,0)) 0),(12,vi 0)]) ⟨rfl,rfl,rfl,rfl,rfl,rfl,trivial⟩ ?_
   refine TC.pull (is:=[1,1,1,1,0]) (L':=[⟨some (b1,0),e32 h.toList⟩,⟨some (b2,0),e32 ((replicate 8 0#32).toList)⟩,⟨some (b3,0),e32 m_1.toList⟩,⟨some (b4,0),e32 t_2.toList⟩,⟨some (b6,0),e32 h.toList⟩]) rfl ?_
   refine TC_loopL (id:=4) (body:=(halberdref1_block256.b2 m_1 t_2)) (σ:=Int × Vx 32 8) (Γ:=Unit) (Γx:=Unit) (fun s2 g2_=>[(2,ptr (some (b1,0)) 0),(4,ptr (some (b2,0)) 0),(5,ptr (some (b3,0)) 0),(6,ptr (some (b4,0)) 0),(11,ptr (some (b6,0)) 0),(12,vi s2.1)]) (fun s2 g2_=>[⟨some (b1,0),e32 h.toList⟩,⟨some (b2,0),e32 ((replicate 8 0#32).toList)⟩,⟨some (b3,0),e32 m_1.toList⟩,⟨some (b4,0),e32 t_2.toList⟩,⟨some (b6,0),e32 s2.2.toList⟩]) (fun t g=>[(2,ptr (some (b1,0)) 0),(4,ptr (some (b2,0)) 0),(11,ptr (some (b6,0)) 0)]) (fun t g=>[⟨some (b1,0),e32 h.toList⟩,⟨some (b2,0),e32 ((replicate 8 0#32).toList)⟩,⟨some (b6,0),e32 t.toList⟩]) ?_ BIG (0,h) () t_3 Hl ?_
   ·intro s2 g2_ r1 H K hK hE
    unfold halberdref1_block256.b2 at H
    refine TC_seq (TC_seq (TC_region (TLv (V_move rfl) ?_)))
    refine TLv (V_bin rfl rfl (fun w=>lssI w s2.1 64)) ?_
    refine TL_nil (TX_next (TC_cond (b:=(decide (s2.1<64))) rfl (fun hc=>?_) (fun hc=>?_)))
    ·replace H:=ite_t (of_decide_eq_true hc) H
     refine TC_skip (TX_next (TC_seq (TC_block (TC_seq ?_))))
     obtain ⟨r_5,hr_5,H⟩:=bind_elim H
     obtain ⟨r_6,hr_6,H⟩:=bind_elim H
     obtain ⟨r_7,hr_7,H⟩:=bind_elim H
     obtain ⟨a_2,ha_2,H⟩:=ltt_elim H
     refine TA_begin [] 12 (by kernel_rfl) (N:=12) rfl ?_
     refine TA_mix (is:=[]) (done':=dn 12 2047) [itV 0 112 (ptr (some (b6,0)) 4) [],itV 1 113 (v32 (vg s2.2 4)) [0],itV 2 114 (v32 r_5) [1],itV 3 115 (ptr (some (b6,0)) 4) [],itV 4 116 (v32 (vg s2.2 4)) [3],itV 5 117 (v32 r_6) [4],itV 6 118 (v32 (r_5 ^^^ r_6)) [2,5],itV 7 119 (ptr (some (b6,0)) 4) [],itV 8 120 (v32 (vg s2.2 4)) [7],itV 9 121 (v32 r_7) [8],itV 10 122 (v32 ((r_5 ^^^ r_6) ^^^ r_7)) [9,6]] [] 1 (by kernel_rfl) (QP.then (QP.block (QP.then (QP.then (QP.block (QP.then QP.body)))))) (by kernel_rfl) rfl (.v rfl (V_idxArr (i:=4) rfl rfl Try.underlying30 TryI.inf29 rfl (by decide) (by decide) (k:=4) (k01 _)) (.v rfl (V_load rfl (.o 4) (get_vec (f:=v32) (V:=s2.2) (by decide:4<8)) Try.isAgg29) (.e rfl (E_cu (F103_calls (vg s2.2 4) 6 r_5 hr_5) Try.call103 .z) (.v rfl (V_idxArr (i:=4) rfl rfl Try.underlying30 TryI.inf29 rfl (by decide) (by decide) (k:=4) (k01 _)) (.v rfl (V_load rfl (.o 4) (get_vec (f:=v32) (V:=s2.2) (by decide:4<8)) Try.isAgg29) (.e rfl (E_cu (F103_calls (vg s2.2 4) 11 r_6 hr_6) Try.call103 .z) (.v rfl (V_bin rfl rfl (fun w=>xor32 w r_5 r_6)) (.v rfl (V_idxArr (i:=4) rfl rfl Try.underlying30 TryI.inf29 rfl (by decide) (by decide) (k:=4) (k01 _)) (.v rfl (V_load rfl (.o 4) (get_vec (f:=v32) (V:=s2.2) (by decide:4<8)) Try.isAgg29) (.e rfl (E_cu (F103_calls (vg s2.2 4) 25 r_7 hr_7) Try.call103 .z) (.v rfl (V_bin rfl rfl (fun w=>xor32 w (r_5 ^^^ r_6) r_7)) .nil))))))))))) .nil (by kernel_rfl) rfl (fun γ=>?_)
     refine TA_cut [(122,v32 ((r_5 ^^^ r_6) ^^^ r_7)),(2,ptr (some (b1,0)) 0),(4,ptr (some (b2,0)) 0),(5,ptr (some (b3,0)) 0),(6,ptr (some (b4,0)) 0),(11,ptr (some (b6,0)) 0),(12,vi s2.1)] [⟨some (b1,0),e32 h.toList⟩,⟨some (b2,0),e32 ((replicate 8 0#32).toList)⟩,⟨some (b3,0),e32 m_1.toList⟩,⟨some (b4,0),e32 t_2.toList⟩,⟨some (b6,0),e32 s2.2.toList⟩] ⟨rfl,rfl,rfl,rfl,rfl,rfl,rfl,trivial⟩ rfl ?_
     refine TA_all (rs:=[11]) (by kernel_rfl) rfl ?_
     refine ⟨?_,trivial⟩
     refine TO_v (is:=[]) (done':=dn 12 4095) rfl rfl rfl rfl (by kernel_rfl) (V_assign rfl) (fun _=>rfl) ?_
     refine TA_re (d:=13) (v:=v32 ((r_5 ^^^ r_6) ^^^ r_7)) (v':=v32 a_2) rfl (congrArg v32 ha_2) ?_
     refine TA_done (by kernel_rfl) ?_ 0
     refine TX_next (TC_seq ?_)
     obtain ⟨h15,H⟩:=if_elim H
     obtain ⟨h16,H⟩:=if_elim H
     obtain ⟨t_4,ht_4,H⟩:=ltt_elim H
     refine TA_begin [] 26 (by kernel_rfl) (N:=26) rfl ?_
     refine TA_mix (is:=[]) (done':=dn 26 33554431) [itV 0 123 (ptr (some (b6,0)) 7) [],itV 1 124 (v32 (vg s2.2 7)) [0],itV 2 125 (v32 a_2) [],itV 3 126 (v32 ((vg s2.2 7)+a_2)) [1,2],itV 4 127 (ptr (some (b6,0)) 4) [],itV 5 128 (v32 (vg s2.2 4)) [4],itV 6 129 (ptr (some (b6,0)) 5) [],itV 7 130 (v32 (vg s2.2 5)) [6],itV 8 131 (v32 ((vg s2.2 4) &&& (vg s2.2 5))) [5,7],itV 9 132 (ptr (some (b6,0)) 4) [],itV 10 133 (v32 (vg s2.2 4)) [9],itV 11 134 (v32 (~~~(vg s2.2 4))) [10],itV 12 135 (ptr (some (b6,0)) 6) [],itV 13 136 (v32 (vg s2.2 6)) [12],itV 14 137 (v32 ((~~~(vg s2.2 4)) &&& (vg s2.2 6))) [13,11],itV 15 138 (v32 (((vg s2.2 4) &&& (vg s2.2 5)) ^^^ ((~~~(vg s2.2 4)) &&& (vg s2.2 6)))) [14,8],itV 16 139 (v32 (((vg s2.2 7)+a_2)+(((vg s2.2 4) &&& (vg s2.2 5)) ^^^ ((~~~(vg s2.2 4)) &&& (vg s2.2 6))))) [15,3],itV 17 140 (vi s2.1) [],itV 18 141 (ptr (some (b3,0)) ((s2.1).toNat)) [17],itV 19 142 (v32 (vg m_1 ((s2.1).toNat))) [18],itV 20 143 (v32 ((((vg s2.2 7)+a_2)+(((vg s2.2 4) &&& (vg s2.2 5)) ^^^ ((~~~(vg s2.2 4)) &&& (vg s2.2 6))))+(vg m_1 ((s2.1).toNat)))) [16,19],itV 21 144 (vi s2.1) [],itV 22 145 (ptr (some (b4,0)) ((s2.1).toNat)) [21],itV 23 146 (v32 (vg t_2 ((s2.1).toNat))) [22],itV 24 147 (v32 (((((vg s2.2 7)+a_2)+(((vg s2.2 4) &&& (vg s2.2 5)) ^^^ ((~~~(vg s2.2 4)) &&& (vg s2.2 6))))+(vg m_1 ((s2.1).toNat)))+(vg t_2 ((s2.1).toNat)))) [23,20]] [] 1 (by kernel_rfl) (QP.then (QP.block (QP.then (QP.then (QP.block (QP.then QP.body)))))) (by kernel_rfl) rfl (.v rfl (V_idxArr (i:=7) rfl rfl Try.underlying30 TryI.inf29 rfl (by decide) (by decide) (k:=7) (k01 _)) (.v rfl (V_load rfl (.o 4) (get_vec (f:=v32) (V:=s2.2) (by decide:7<8)) Try.isAgg29) (.v rfl (V_move rfl) (.v rfl (V_bin rfl rfl (fun w=>add32 w (vg s2.2 7) a_2)) (.v rfl (V_idxArr (i:=4) rfl rfl Try.underlying30 TryI.inf29 rfl (by decide) (by decide) (k:=4) (k01 _)) (.v rfl (V_load rfl (.o 4) (get_vec (f:=v32) (V:=s2.2) (by decide:4<8)) Try.isAgg29) (.v rfl (V_idxArr (i:=5) rfl rfl Try.underlying30 TryI.inf29 rfl (by decide) (by decide) (k:=5) (k01 _)) (.v rfl (V_load rfl (.o 4) (get_vec (f:=v32) (V:=s2.2) (by decide:5<8)) Try.isAgg29) (.v rfl (V_bin rfl rfl (fun w=>and32 w (vg s2.2 4) (vg s2.2 5))) (.v rfl (V_idxArr (i:=4) rfl rfl Try.underlying30 TryI.inf29 rfl (by decide) (by decide) (k:=4) (k01 _)) (.v rfl (V_load rfl (.o 4) (get_vec (f:=v32) (V:=s2.2) (by decide:4<8)) Try.isAgg29) (.v rfl (V_un rfl (fun w=>not32 w (vg s2.2 4))) (.v rfl (V_idxArr (i:=6) rfl rfl Try.underlying30 TryI.inf29 rfl (by decide) (by decide) (k:=6) (k01 _)) (.v rfl (V_load rfl (.o 4) (get_vec (f:=v32) (V:=s2.2) (by decide:6<8)) Try.isAgg29) (.v rfl (V_bin rfl rfl (fun w=>and32 w (~~~(vg s2.2 4)) (vg s2.2 6))) (.v rfl (V_bin rfl rfl (fun w=>xor32 w ((vg s2.2 4) &&& (vg s2.2 5)) ((~~~(vg s2.2 4)) &&& (vg s2.2 6)))) (.v rfl (V_bin rfl rfl (fun w=>add32 w ((vg s2.2 7)+a_2) (((vg s2.2 4) &&& (vg s2.2 5)) ^^^ ((~~~(vg s2.2 4)) &&& (vg s2.2 6))))) (.v rfl (V_move rfl) (.v rfl (V_idxArr (i:=s2.1) rfl rfl Try.underlying137 TryI.inf29 rfl h15.1 h15.2 (k:=(s2.1).toNat) (k01 _)) (.v rfl (V_load rfl (.o 2) (get_vec (f:=v32) (V:=m_1) (toNat_lt h15.1 h15.2)) Try.isAgg29) (.v rfl (V_bin rfl rfl (fun w=>add32 w (((vg s2.2 7)+a_2)+(((vg s2.2 4) &&& (vg s2.2 5)) ^^^ ((~~~(vg s2.2 4)) &&& (vg s2.2 6)))) (vg m_1 ((s2.1).toNat)))) (.v rfl (V_move rfl) (.v rfl (V_idxArr (i:=s2.1) rfl rfl Try.underlying137 TryI.inf29 rfl h16.1 h16.2 (k:=(s2.1).toNat) (k01 _)) (.v rfl (V_load rfl (.o 3) (get_vec (f:=v32) (V:=t_2) (toNat_lt h16.1 h16.2)) Try.isAgg29) (.v rfl (V_bin rfl rfl (fun w=>add32 w ((((vg s2.2 7)+a_2)+(((vg s2.2 4) &&& (vg s2.2 5)) ^^^ ((~~~(vg s2.2 4)) &&& (vg s2.2 6))))+(vg m_1 ((s2.1).toNat))) (vg t_2 ((s2.1).toNat)))) .nil))))))))))))))))))))))))) .nil (by kernel_rfl) rfl (fun γ=>?_)
     refine TA_cut [(147,v32 (((((vg s2.2 7)+a_2)+(((vg s2.2 4) &&& (vg s2.2 5)) ^^^ ((~~~(vg s2.2 4)) &&& (vg s2.2 6))))+(vg m_1 ((s2.1).toNat)))+(vg t_2 ((s2.1).toNat)))),(2,ptr (some (b1,0)) 0),(4,ptr (some (b2,0)) 0),(5,ptr (some (b3,0)) 0),(6,ptr (some (b4,0)) 0),(11,ptr (some (b6,0)) 0),(12,vi s2.1)] [⟨some (b1,0),e32 h.toList⟩,⟨some (b2,0),e32 ((replicate 8 0#32).toList)⟩,⟨some (b3,0),e32 m_1.toList⟩,⟨some (b4,0),e32 t_2.toList⟩,⟨some (b6,0),e32 s2.2.toList⟩] ⟨rfl,rfl,rfl,rfl,rfl,rfl,rfl,trivial⟩ rfl ?_
     refine TA_all (rs:=[25]) (by kernel_rfl) rfl ?_
     refine ⟨?_,trivial⟩
     refine TO_v (is:=[]) (done':=dn 26 67108863) rfl rfl rfl rfl (by kernel_rfl) (V_assign rfl) (fun _=>rfl) ?_
     refine TA_re (d:=14) (v:=v32 (((((vg s2.2 7)+a_2)+(((vg s2.2 4) &&& (vg s2.2 5)) ^^^ ((~~~(vg s2.2 4)) &&& (vg s2.2 6))))+(vg m_1 ((s2.1).toNat)))+(vg t_2 ((s2.1).toNat)))) (v':=v32 t_4) rfl (congrArg v32 ht_4) ?_
     refine TA_done (by kernel_rfl) ?_ 0
     refine TX_next (TC_seq ?_)
     obtain ⟨r_8,hr_8,H⟩:=bind_elim H
     obtain ⟨r_9,hr_9,H⟩:=bind_elim H
     obtain ⟨r_10,hr_10,H⟩:=bind_elim H
     obtain ⟨b7,hb7,H⟩:=ltt_elim H
     refine TA_begin [] 12 (by kernel_rfl) (N:=12) rfl ?_
     refine TA_mix (is:=[]) (done':=dn 12 2047) [itV 0 148 (ptr (some (b6,0)) 0) [],itV 1 149 (v32 (vg s2.2 0)) [0],itV 2 150 (v32 r_8) [1],itV 3 151 (ptr (some (b6,0)) 0) [],itV 4 152 (v32 (vg s2.2 0)) [3],itV 5 153 (v32 r_9) [4],itV 6 154 (v32 (r_8 ^^^ r_9)) [5,2],itV 7 155 (ptr (some (b6,0)) 0) [],itV 8 156 (v32 (vg s2.2 0)) [7],itV 9 157 (v32 r_10) [8],itV 10 158 (v32 ((r_8 ^^^ r_9) ^^^ r_10)) [6,9]] [] 1 (by kernel_rfl) (QP.then (QP.block (QP.then (QP.then (QP.block (QP.then QP.body)))))) (by kernel_rfl) rfl (.v rfl (V_idxArr (i:=0) rfl rfl Try.underlying30 TryI.inf29 rfl (by decide) (by decide) (k:=0) (k01 _)) (.v rfl (V_load rfl (.o 4) (get_vec (f:=v32) (V:=s2.2) (by decide:0<8)) Try.isAgg29) (.e rfl (E_cu (F103_calls (vg s2.2 0) 2 r_8 hr_8) Try.call103 .z) (.v rfl (V_idxArr (i:=0) rfl rfl Try.underlying30 TryI.inf29 rfl (by decide) (by decide) (k:=0) (k01 _)) (.v rfl (V_load rfl (.o 4) (get_vec (f:=v32) (V:=s2.2) (by decide:0<8)) Try.isAgg29) (.e rfl (E_cu (F103_calls (vg s2.2 0) 13 r_9 hr_9) Try.call103 .z) (.v rfl (V_bin rfl rfl (fun w=>xor32 w r_8 r_9)) (.v rfl (V_idxArr (i:=0) rfl rfl Try.underlying30 TryI.inf29 rfl (by decide) (by decide) (k:=0) (k01 _)) (.v rfl (V_load rfl (.o 4) (get_vec (f:=v32) (V:=s2.2) (by decide:0<8)) Try.isAgg29) (.e rfl (E_cu (F103_calls (vg s2.2 0) 22 r_10 hr_10) Try.call103 .z) (.v rfl (V_bin rfl rfl (fun w=>xor32 w (r_8 ^^^ r_9) r_10)) .nil))))))))))) .nil (by kernel_rfl) rfl (fun γ=>?_)
     refine TA_cut [(158,v32 ((r_8 ^^^ r_9) ^^^ r_10)),(14,v32 t_4),(2,ptr (some (b1,0)) 0),(4,ptr (some (b2,0)) 0),(5,ptr (some (b3,0)) 0),(6,ptr (some (b4,0)) 0),(11,ptr (some (b6,0)) 0),(12,vi s2.1)] [⟨some (b1,0),e32 h.toList⟩,⟨some (b2,0),e32 ((replicate 8 0#32).toList)⟩,⟨some (b3,0),e32 m_1.toList⟩,⟨some (b4,0),e32 t_2.toList⟩,⟨some (b6,0),e32 s2.2.toList⟩] ⟨rfl,rfl,rfl,rfl,rfl,rfl,rfl,rfl,trivial⟩ rfl ?_
     refine TA_all (rs:=[11]) (by kernel_rfl) rfl ?_
     refine ⟨?_,trivial⟩
     refine TO_v (is:=[]) (done':=dn 12 4095) rfl rfl rfl rfl (by kernel_rfl) (V_assign rfl) (fun _=>rfl) ?_
     refine TA_re (d:=15) (v:=v32 ((r_8 ^^^ r_9) ^^^ r_10)) (v':=v32 b7) rfl (congrArg v32 hb7) ?_
     refine TA_done (by kernel_rfl) ?_ 0
     refine TX_next (TC_seq (TC_region (TLv (V_move rfl) ?_)))
     refine TLv (V_idxArr (i:=0) rfl rfl Try.underlying30 TryI.inf29 rfl (by decide) (by decide) (k:=0) (k01 _)) ?_
     refine TLv (V_load rfl (.o 4) (get_vec (f:=v32) (V:=s2.2) (by decide:0<8)) Try.isAgg29) ?_
     refine TLv (V_idxArr (i:=1) rfl rfl Try.underlying30 TryI.inf29 rfl (by decide) (by decide) (k:=1) (k01 _)) ?_
     refine TLv (V_load rfl (.o 4) (get_vec (f:=v32) (V:=s2.2) (by decide:1<8)) Try.isAgg29) ?_
     refine TLv (V_bin rfl rfl (fun w=>and32 w (vg s2.2 0) (vg s2.2 1))) ?_
     refine TLv (V_idxArr (i:=0) rfl rfl Try.underlying30 TryI.inf29 rfl (by decide) (by decide) (k:=0) (k01 _)) ?_
     refine TLv (V_load rfl (.o 4) (get_vec (f:=v32) (V:=s2.2) (by decide:0<8)) Try.isAgg29) ?_
     refine TLv (V_idxArr (i:=2) rfl rfl Try.underlying30 TryI.inf29 rfl (by decide) (by decide) (k:=2) (k01 _)) ?_
     refine TLv (V_load rfl (.o 4) (get_vec (f:=v32) (V:=s2.2) (by decide:2<8)) Try.isAgg29) ?_
     refine TLv (V_bin rfl rfl (fun w=>and32 w (vg s2.2 0) (vg s2.2 2))) ?_
     refine TLv (V_bin rfl rfl (fun w=>xor32 w ((vg s2.2 0) &&& (vg s2.2 1)) ((vg s2.2 0) &&& (vg s2.2 2)))) ?_
     refine TLv (V_idxArr (i:=1) rfl rfl Try.underlying30 TryI.inf29 rfl (by decide) (by decide) (k:=1) (k01 _)) ?_
     refine TLv (V_load rfl (.o 4) (get_vec (f:=v32) (V:=s2.2) (by decide:1<8)) Try.isAgg29) ?_
     refine TLv (V_idxArr (i:=2) rfl rfl Try.underlying30 TryI.inf29 rfl (by decide) (by decide) (k:=2) (k01 _)) ?_
     refine TLv (V_load rfl (.o 4) (get_vec (f:=v32) (V:=s2.2) (by decide:2<8)) Try.isAgg29) ?_
     refine TLv (V_bin rfl rfl (fun w=>and32 w (vg s2.2 1) (vg s2.2 2))) ?_
     refine TLv (V_bin rfl rfl (fun w=>xor32 w (((vg s2.2 0) &&& (vg s2.2 1)) ^^^ ((vg s2.2 0) &&& (vg s2.2 2))) ((vg s2.2 1) &&& (vg s2.2 2)))) ?_
     refine TLv (V_bin rfl rfl (fun w=>add32 w b7 ((((vg s2.2 0) &&& (vg s2.2 1)) ^^^ ((vg s2.2 0) &&& (vg s2.2 2))) ^^^ ((vg s2.2 1) &&& (vg s2.2 2))))) ?_
     refine TLv (V_assign rfl) ?_
     obtain ⟨u1,hu1,H⟩:=ltt_elim H
     refine TL_re (d:=16) (v:=v32 (b7+((((vg s2.2 0) &&& (vg s2.2 1)) ^^^ ((vg s2.2 0) &&& (vg s2.2 2))) ^^^ ((vg s2.2 1) &&& (vg s2.2 2))))) (v':=v32 u1) rfl (congrArg v32 hu1) ?_
     refine TL_nil (TX_next (TC.sub (m':=[(2,ptr (some (b1,0)) 0),(4,ptr (some (b2,0)) 0),(5,ptr (some (b3,0)) 0),(6,ptr (some (b4,0)) 0),(11,ptr (some (b6,0)) 0),(12,vi s2.1),(14,v32 t_4),(16,v32 u1)]) ⟨rfl,rfl,rfl,rfl,rfl,rfl,rfl,rfl,trivial⟩ ?_))
     refine TC_region (TLv (V_move rfl) ?_)
     refine TLv (V_move rfl) ?_
     refine TLv (V_bin rfl rfl (fun w=>add32 w t_4 u1)) ?_
     refine TLv (V_idxArr (i:=0) rfl rfl Try.underlying30 TryI.inf29 rfl (by decide) (by decide) (k:=0) (k01 _)) ?_
     refine TLv (V_load rfl (.o 4) (get_vec (f:=v32) (V:=s2.2) (by decide:0<8)) Try.isAgg29) ?_
     refine TLv (V_idxArr (i:=1) rfl rfl Try.underlying30 TryI.inf29 rfl (by decide) (by decide) (k:=1) (k01 _)) ?_
     refine TLv (V_load rfl (.o 4) (get_vec (f:=v32) (V:=s2.2) (by decide:1<8)) Try.isAgg29) ?_
     refine TLv (V_idxArr (i:=2) rfl rfl Try.underlying30 TryI.inf29 rfl (by decide) (by decide) (k:=2) (k01 _)) ?_
     refine TLv (V_load rfl (.o 4) (get_vec (f:=v32) (V:=s2.2) (by decide:2<8)) Try.isAgg29) ?_
     refine TLv (V_idxArr (i:=3) rfl rfl Try.underlying30 TryI.inf29 rfl (by decide) (by decide) (k:=3) (k01 _)) ?_
     refine TLv (V_load rfl (.o 4) (get_vec (f:=v32) (V:=s2.2) (by decide:3<8)) Try.isAgg29) ?_
     refine TLv (V_move rfl) ?_
     refine TLv (V_bin rfl rfl (fun w=>add32 w (vg s2.2 3) t_4)) ?_
     refine TLv (V_idxArr (i:=4) rfl rfl Try.underlying30 TryI.inf29 rfl (by decide) (by decide) (k:=4) (k01 _)) ?_
     refine TLv (V_load rfl (.o 4) (get_vec (f:=v32) (V:=s2.2) (by decide:4<8)) Try.isAgg29) ?_
     refine TLv (V_idxArr (i:=5) rfl rfl Try.underlying30 TryI.inf29 rfl (by decide) (by decide) (k:=5) (k01 _)) ?_
     refine TLv (V_load rfl (.o 4) (get_vec (f:=v32) (V:=s2.2) (by decide:5<8)) Try.isAgg29) ?_
     refine TLv (V_idxArr (i:=6) rfl rfl Try.underlying30 TryI.inf29 rfl (by decide) (by decide) (k:=6) (k01 _)) ?_
     refine TLv (V_load rfl (.o 4) (get_vec (f:=v32) (V:=s2.2) (by decide:6<8)) Try.isAgg29) ?_
     refine TLv (V_buildArr (pv:=[(0,v32 (t_4+u1)),(1,v32 (vg s2.2 0)),(2,v32 (vg s2.2 1)),(3,v32 (vg s2.2 2)),(4,v32 ((vg s2.2 3)+t_4)),(5,v32 (vg s2.2 4)),(6,v32 (vg s2.2 5)),(7,v32 (vg s2.2 6))]) rfl rfl Try.underlying30 TryI.inf30 TryI.inf29 rfl TryI.zer30 (cs:=e32 ((#v[t_4+u1,vg s2.2 0,vg s2.2 1,vg s2.2 2,(vg s2.2 3)+t_4,vg s2.2 4,vg s2.2 5,vg s2.2 6]:Vx 32 8).toList)) (by kernel_rfl)) ?_
     refine TLn (E_sv 4 TryI.inf30) (fun _=>?_)
     obtain ⟨m_4,hm_4,H⟩:=ltt_elim H
     refine TL_reE (j:=4) (A:=some (b6,0)) (cs:=e32 ((#v[t_4+u1,vg s2.2 0,vg s2.2 1,vg s2.2 2,(vg s2.2 3)+t_4,vg s2.2 4,vg s2.2 5,vg s2.2 6]:Vx 32 8).toList)) (cs':=e32 m_4.toList) rfl (congrArg (fun z:Vx 32 8=>e32 (Vector.toList z)) hm_4) ?_
     refine TL_nil (TX_block_normal (TX_next (TC_region (TLv (V_move rfl) ?_))))
     refine TLv (V_bin rfl rfl (fun w=>addI w s2.1 1)) ?_
     refine TLv (V_assign rfl) ?_
     obtain ⟨i3,hi3,H⟩:=ltt_elim H
     refine TL_re (d:=12) (v:=vi (w64 (s2.1+1))) (v':=vi i3) rfl (congrArg vi hi3) ?_
     refine TL_nil (TX.sub (m':=[(2,ptr (some (b1,0)) 0),(4,ptr (some (b2,0)) 0),(5,ptr (some (b3,0)) 0),(6,ptr (some (b4,0)) 0),(11,ptr (some (b6,0)) 0),(12,vi i3)]) ⟨rfl,rfl,rfl,rfl,rfl,rfl,trivial⟩ ?_)
     refine TX.pull (is:=[0,0,0,0,0]) (L':=[⟨some (b1,0),e32 h.toList⟩,⟨some (b2,0),e32 ((replicate 8 0#32).toList)⟩,⟨some (b3,0),e32 m_1.toList⟩,⟨some (b4,0),e32 t_2.toList⟩,⟨some (b6,0),e32 m_4.toList⟩]) rfl ?_
     obtain rfl:=Option.some.inj H
     exact fun a w hs=>hK (i3,m_4) rfl () a w hs
    ·replace H:=ite_f (of_decide_eq_false hc) H
     refine TC_exit (TX_then_exit (TX_then_exit (TX.sub (m':=[(2,ptr (some (b1,0)) 0),(4,ptr (some (b2,0)) 0),(11,ptr (some (b6,0)) 0)]) ⟨rfl,rfl,rfl,trivial⟩ ?_)))
     refine TX.pull (is:=[0,0,2]) (L':=[⟨some (b1,0),e32 h.toList⟩,⟨some (b2,0),e32 ((replicate 8 0#32).toList)⟩,⟨some (b6,0),e32 s2.2.toList⟩]) rfl ?_
     obtain rfl:=Option.some.inj H
     exact hE s2.2 rfl ()
   ·intro g
    refine TX_block_exit (TX_next (TC_seq (TC_seq (TC_region (TLv (V_assign rfl) ?_)))))
    refine TL_nil (TX_next (TC_block ?_))
    obtain ⟨t_5,Hl,H⟩:=bind_elim H
    refine TC.sub (m':=[(2,ptr (some (b1,0)) 0),(4,ptr (some (b2,0)) 0),(11,ptr (some (b6,0)) 0),(17,vi 0)]) ⟨rfl,rfl,rfl,rfl,trivial⟩ ?_
    refine TC.pull (is:=[0,0,0]) (L':=[⟨some (b1,0),e32 h.toList⟩,⟨some (b2,0),e32 ((replicate 8 0#32).toList)⟩,⟨some (b6,0),e32 t_3.toList⟩]) rfl ?_
    refine TC_loopL (id:=6) (body:=(halberdref1_block256.b3 t_3)) (σ:=Int × Vx 32 8) (Γ:=Unit) (Γx:=Unit) (fun s3 g3_=>[(2,ptr (some (b1,0)) 0),(4,ptr (some (b2,0)) 0),(11,ptr (some (b6,0)) 0),(17,vi s3.1)]) (fun s3 g3_=>[⟨some (b1,0),e32 s3.2.toList⟩,⟨some (b2,0),e32 ((replicate 8 0#32).toList)⟩,⟨some (b6,0),e32 t_3.toList⟩]) (fun t g=>[(2,ptr (some (b1,0)) 0),(4,ptr (some (b2,0)) 0)]) (fun t g=>[⟨some (b1,0),e32 t.toList⟩,⟨some (b2,0),e32 ((replicate 8 0#32).toList)⟩]) ?_ BIG (0,h) () t_5 Hl ?_
    ·intro s3 g3_ r1 H K hK hE
     unfold halberdref1_block256.b3 at H
     refine TC_seq (TC_seq (TC_region (TLv (V_move rfl) ?_)))
     refine TLv (V_bin rfl rfl (fun w=>lssI w s3.1 8)) ?_
     refine TL_nil (TX_next (TC_cond (b:=(decide (s3.1<8))) rfl (fun hc=>?_) (fun hc=>?_)))
     ·replace H:=ite_t (of_decide_eq_true hc) H
      refine TC_skip (TX_next (TC_seq (TC_block ?_)))
      obtain ⟨h17,H⟩:=if_elim H
      obtain ⟨h18,H⟩:=if_elim H
      obtain ⟨h19,H⟩:=if_elim H
      obtain ⟨m_5,hm_5,H⟩:=ltt_elim H
      refine TA_begin [] 10 (by kernel_rfl) (N:=10) rfl ?_
      refine TA_mix (is:=[]) (done':=dn 10 511) [itV 0 202 (vi s3.1) [],itV 1 203 (vi s3.1) [],itV 2 204 (ptr (some (b1,0)) ((s3.1).toNat)) [1],itV 3 205 (v32 (vg s3.2 ((s3.1).toNat))) [2],itV 4 206 (vi s3.1) [],itV 5 207 (ptr (some (b6,0)) ((s3.1).toNat)) [4],itV 6 208 (v32 (vg t_3 ((s3.1).toNat))) [5],itV 7 209 (v32 ((vg s3.2 ((s3.1).toNat))+(vg t_3 ((s3.1).toNat)))) [6,3],itV 8 210 (ptr (some (b1,0)) ((s3.1).toNat)) [0]] [] 1 (by kernel_rfl) (QP.block (QP.then (QP.then (QP.block (QP.then QP.body))))) (by kernel_rfl) rfl (.v rfl (V_move rfl) (.v rfl (V_move rfl) (.v rfl (V_idxArr (i:=s3.1) rfl rfl Try.underlying30 TryI.inf29 rfl h17.1 h17.2 (k:=(s3.1).toNat) (k01 _)) (.v rfl (V_load rfl (.o 0) (get_vec (f:=v32) (V:=s3.2) (toNat_lt h17.1 h17.2)) Try.isAgg29) (.v rfl (V_move rfl) (.v rfl (V_idxArr (i:=s3.1) rfl rfl Try.underlying30 TryI.inf29 rfl h18.1 h18.2 (k:=(s3.1).toNat) (k01 _)) (.v rfl (V_load rfl (.o 2) (get_vec (f:=v32) (V:=t_3) (toNat_lt h18.1 h18.2)) Try.isAgg29) (.v rfl (V_bin rfl rfl (fun w=>add32 w (vg s3.2 ((s3.1).toNat)) (vg t_3 ((s3.1).toNat)))) (.v rfl (V_idxArr (i:=s3.1) rfl rfl Try.underlying30 TryI.inf29 rfl h19.1 h19.2 (k:=(s3.1).toNat) (k01 _)) .nil))))))))) .nil (by kernel_rfl) rfl (fun γ=>?_)
      refine TA_cut [(210,ptr (some (b1,0)) ((s3.1).toNat)),(209,v32 ((vg s3.2 ((s3.1).toNat))+(vg t_3 ((s3.1).toNat)))),(2,ptr (some (b1,0)) 0),(4,ptr (some (b2,0)) 0),(11,ptr (some (b6,0)) 0),(17,vi s3.1)] [⟨some (b1,0),e32 s3.2.toList⟩,⟨some (b2,0),e32 ((replicate 8 0#32).toList)⟩,⟨some (b6,0),e32 t_3.toList⟩] ⟨rfl,rfl,rfl,rfl,rfl,rfl,trivial⟩ rfl ?_
      refine TA_all (rs:=[9]) (by kernel_rfl) rfl ?_
      refine ⟨?_,trivial⟩
      refine TO_n (is:=[]) (done':=dn 10 1023) rfl rfl rfl (by kernel_rfl) (E_store (j:=0) rfl rfl TryI.inf29 rfl rfl rfl (by simpa using (toNat_lt h19.1 h19.2)) (cs':=e32 ((vp s3.2 ((s3.1).toNat) ((vg s3.2 ((s3.1).toNat))+(vg t_3 ((s3.1).toNat)))).toList)) set_vec) (fun _ _=>rfl) (fun _=>?_)
      refine TA_reE (j:=0) (A:=some (b1,0)) (cs:=e32 ((vp s3.2 ((s3.1).toNat) ((vg s3.2 ((s3.1).toNat))+(vg t_3 ((s3.1).toNat)))).toList)) (cs':=e32 m_5.toList) rfl (congrArg (fun z:Vx 32 8=>e32 (Vector.toList z)) hm_5) ?_
      refine TA_done (by kernel_rfl) ?_ 0
      refine TX_block_normal (TX_next (TC_region (TLv (V_move rfl) ?_)))
      refine TLv (V_bin rfl rfl (fun w=>addI w s3.1 1)) ?_
      refine TLv (V_assign rfl) ?_
      obtain ⟨i4,hi4,H⟩:=ltt_elim H
      refine TL_re (d:=17) (v:=vi (w64 (s3.1+1))) (v':=vi i4) rfl (congrArg vi hi4) ?_
      refine TL_nil (TX.sub (m':=[(2,ptr (some (b1,0)) 0),(4,ptr (some (b2,0)) 0),(11,ptr (some (b6,0)) 0),(17,vi i4)]) ⟨rfl,rfl,rfl,rfl,trivial⟩ ?_)
      refine TX.pull (is:=[0,0,0]) (L':=[⟨some (b1,0),e32 m_5.toList⟩,⟨some (b2,0),e32 ((replicate 8 0#32).toList)⟩,⟨some (b6,0),e32 t_3.toList⟩]) rfl ?_
      obtain rfl:=Option.some.inj H
      exact fun a w hs=>hK (i4,m_5) rfl () a w hs
     ·replace H:=ite_f (of_decide_eq_false hc) H
      refine TC_exit (TX_then_exit (TX_then_exit (TX.sub (m':=[(2,ptr (some (b1,0)) 0),(4,ptr (some (b2,0)) 0)]) ⟨rfl,rfl,trivial⟩ ?_)))
      refine TX.pull (is:=[0,0]) (L':=[⟨some (b1,0),e32 s3.2.toList⟩,⟨some (b2,0),e32 ((replicate 8 0#32).toList)⟩]) rfl ?_
      obtain rfl:=Option.some.inj H
      exact hE s3.2 rfl ()
    ·intro g
     refine TX_block_exit (TX_next (TC_seq (TC_region (TLv (V_lag (.o 0) Try.isAgg30 TryI.inf30) ?_))))
     refine TLn (E_sv (vs:=e32 t_5.toList) 1 TryI.inf30) (fun _=>?_)
     refine TL_nil (TX_next (TC_ret ?_))
     have hrv:=Option.some.inj H
     subst hrv
     exact TX_ret (rs:=[.cell 4 30]) (vs:=[aG [(8,e32 t_5.toList)]]) rfl ⟨(Res_agg (n:=8) rfl (by simp) (.o 1) Try.isAgg30 TryI.inf30 rfl (lenV (f:=v32) t_5)),trivial⟩ (fun w' hs'=>⟨(),rfl,Step.left (Step.pulled (is:=[]) (A:=[]) hs' rfl)⟩)
end Go.Proofs
end

section
namespace Go.Proofs
open Go Go.Kx
def halberdref1_turn (x:BitVec 64) (k:Int):Option (BitVec 64) :=
 if 0≤k then (if 0≤w64 (64 - k) then (ltt ((x >>> (k).toNat) ||| (x <<< (w64 (64 - k)).toNat)) fun (x1:BitVec 64)=>(some x1)) else none) else none
end Go.Proofs
end

section
namespace Go.Proofs
open Go Go.Kx
open Vector (replicate)
def halberdref1_block512.b1 (s_:Str) (s0:Int × Vx 64 80) (s1:Int × Vx 64 80):Option ((Int × Vx 64 80) ⊕ (Vx 64 80)) :=
 if s1.1<8 then (if 0≤s0.1∧s0.1<(80:Int) then (if 0≤w64 ((w64 (8 * s0.1))+s1.1)∧w64 ((w64 (8 * s0.1))+s1.1)<((s_).length:Int) then (if 0≤s0.1∧s0.1<(80:Int) then (ltt (vp s1.2 ((s0.1).toNat) (((vg s1.2 ((s0.1).toNat)) <<< 8) ||| ((sg s_ (w64 ((w64 (8 * s0.1))+s1.1))).setWidth 64))) fun (m_2:Vx 64 80)=>(ltt (w64 (s1.1+1)) fun (j1:Int)=>(some (.inl (j1,m_2))))) else none) else none) else none) else (some (.inr s1.2))
def halberdref1_block512.b0 (s_:Str) (s0:Int × Vx 64 80):Option ((Int × Vx 64 80) ⊕ (Vx 64 80)) :=
 if s0.1<16 then ((loop (halberdref1_block512.b1 s_ s0) BIG (0,s0.2)).bind fun (t_2:Vx 64 80)=>(ltt (w64 (s0.1+1)) fun (i1:Int)=>(some (.inl (i1,t_2))))) else (some (.inr s0.2))
def halberdref1_block512.b2  (s2:Int × Vx 64 80):Option ((Int × Vx 64 80) ⊕ (Vx 64 80)) :=
 if s2.1<80 then (if 0≤w64 (s2.1 - 15)∧w64 (s2.1 - 15)<(80:Int) then ((halberdref1_turn (vg s2.2 ((w64 (s2.1 - 15)).toNat)) 1).bind fun (r_1:BitVec 64)=>(if 0≤w64 (s2.1 - 15)∧w64 (s2.1 - 15)<(80:Int) then ((halberdref1_turn (vg s2.2 ((w64 (s2.1 - 15)).toNat)) 8).bind fun (r_2:BitVec 64)=>(if 0≤w64 (s2.1 - 15)∧w64 (s2.1 - 15)<(80:Int) then (ltt ((r_1 ^^^ r_2) ^^^ ((vg s2.2 ((w64 (s2.1 - 15)).toNat)) >>> 7)) fun (a_1:BitVec 64)=>(if 0≤w64 (s2.1 - 2)∧w64 (s2.1 - 2)<(80:Int) then ((halberdref1_turn (vg s2.2 ((w64 (s2.1 - 2)).toNat)) 19).bind fun (r_3:BitVec 64)=>(if 0≤w64 (s2.1 - 2)∧w64 (s2.1 - 2)<(80:Int) then ((halberdref1_turn (vg s2.2 ((w64 (s2.1 - 2)).toNat)) 61).bind fun (r_4:BitVec 64)=>(if 0≤w64 (s2.1 - 2)∧w64 (s2.1 - 2)<(80:Int) then (ltt ((r_3 ^^^ r_4) ^^^ ((vg s2.2 ((w64 (s2.1 - 2)).toNat)) >>> 6)) fun (b5:BitVec 64)=>(if 0≤w64 (s2.1 - 16)∧w64 (s2.1 - 16)<(80:Int) then (if 0≤w64 (s2.1 - 7)∧w64 (s2.1 - 7)<(80:Int) then (if 0≤s2.1∧s2.1<(80:Int) then (ltt (vp s2.2 ((s2.1).toNat) ((((vg s2.2 ((w64 (s2.1 - 16)).toNat))+a_1)+(vg s2.2 ((w64 (s2.1 - 7)).toNat)))+b5)) fun (m_3:Vx 64 80)=>(ltt (w64 (s2.1+1)) fun (i2:Int)=>(some (.inl (i2,m_3))))) else none) else none) else none)) else none)) else none)) else none)) else none)) else none)) else none) else (some (.inr s2.2))
def halberdref1_block512.b3 (m_1:Vx 64 80) (t_3:Vx 64 80) (s3:Int × Vx 64 8):Option ((Int × Vx 64 8) ⊕ (Vx 64 8)) :=
 if s3.1<80 then ((halberdref1_turn (vg s3.2 4) 14).bind fun (r_5:BitVec 64)=>((halberdref1_turn (vg s3.2 4) 18).bind fun (r_6:BitVec 64)=>((halberdref1_turn (vg s3.2 4) 41).bind fun (r_7:BitVec 64)=>(ltt ((r_5 ^^^ r_6) ^^^ r_7) fun (a_2:BitVec 64)=>(if 0≤s3.1∧s3.1<(80:Int) then (if 0≤s3.1∧s3.1<(80:Int) then (ltt (((((vg s3.2 7)+a_2)+(((vg s3.2 4) &&& (vg s3.2 5)) ^^^ ((~~~(vg s3.2 4)) &&& (vg s3.2 6))))+(vg m_1 ((s3.1).toNat)))+(vg t_3 ((s3.1).toNat))) fun (t_5:BitVec 64)=>((halberdref1_turn (vg s3.2 0) 28).bind fun (r_8:BitVec 64)=>((halberdref1_turn (vg s3.2 0) 34).bind fun (r_9:BitVec 64)=>((halberdref1_turn (vg s3.2 0) 39).bind fun (r_10:BitVec 64)=>(ltt ((r_8 ^^^ r_9) ^^^ r_10) fun (b7:BitVec 64)=>(ltt (b7+((((vg s3.2 0) &&& (vg s3.2 1)) ^^^ ((vg s3.2 0) &&& (vg s3.2 2))) ^^^ ((vg s3.2 1) &&& (vg s3.2 2)))) fun (u1:BitVec 64)=>(ltt ((#v[t_5+u1,vg s3.2 0,vg s3.2 1,vg s3.2 2,(vg s3.2 3)+t_5,vg s3.2 4,vg s3.2 5,vg s3.2 6]:Vx 64 8)) fun (m_4:Vx 64 8)=>(ltt (w64 (s3.1+1)) fun (i3:Int)=>(some (.inl (i3,m_4))))))))))) else none) else none))))) else (some (.inr s3.2))
def halberdref1_block512.b4 (t_4:Vx 64 8) (s4:Int × Vx 64 8):Option ((Int × Vx 64 8) ⊕ (Vx 64 8)) :=
 if s4.1<8 then (if 0≤s4.1∧s4.1<(8:Int) then (if 0≤s4.1∧s4.1<(8:Int) then (if 0≤s4.1∧s4.1<(8:Int) then (ltt (vp s4.2 ((s4.1).toNat) ((vg s4.2 ((s4.1).toNat))+(vg t_4 ((s4.1).toNat)))) fun (m_5:Vx 64 8)=>(ltt (w64 (s4.1+1)) fun (i4:Int)=>(some (.inl (i4,m_5))))) else none) else none) else none) else (some (.inr s4.2))
def halberdref1_block512 (h:Vx 64 8) (s_:Str):Option (Vx 64 8) :=
 ltt ((#v[4794697086780616226#64,8158064640168781261#64,13096744586834688815#64,16840607885511220156#64,4131703408338449720#64,6480981068601479193#64,10538285296894168987#64,12329834152419229976#64,15566598209576043074#64,1334009975649890238#64,2608012711638119052#64,6128411473006802146#64,8268148722764581231#64,9286055187155687089#64,11230858885718282805#64,13951009754708518548#64,16472876342353939154#64,17275323862435702243#64,1135362057144423861#64,2597628984639134821#64,3308224258029322869#64,5365058923640841347#64,6679025012923562964#64,8573033837759648693#64,10970295158949994411#64,12119686244451234320#64,12683024718118986047#64,13788192230050041572#64,14330467153632333762#64,15395433587784984357#64,489312712824947311#64,1452737877330783856#64,2861767655752347644#64,3322285676063803686#64,5560940570517711597#64,5996557281743188959#64,7280758554555802590#64,8532644243296465576#64,9350256976987008742#64,10552545826968843579#64,11727347734174303076#64,12113106623233404929#64,14000437183269869457#64,14369950271660146224#64,15101387698204529176#64,15463397548674623760#64,17586052441742319658#64,1182934255886127544#64,1847814050463011016#64,2177327727835720531#64,2830643537854262169#64,3796741975233480872#64,4115178125766777443#64,5681478168544905931#64,6601373596472566643#64,7507060721942968483#64,8399075790359081724#64,8693463985226723168#64,9568029438360202098#64,10144078919501101548#64,10430055236837252648#64,11840083180663258601#64,13761210420658862357#64,14299343276471374635#64,14566680578165727644#64,15097957966210449927#64,16922976911328602910#64,17689382322260857208#64,500013540394364858#64,748580250866718886#64,1242879168328830382#64,1977374033974150939#64,2944078676154940804#64,3659926193048069267#64,4368137639120453308#64,4836135668995329356#64,5532061633213252278#64,6448918945643986474#64,6902733635092675308#64,7801388544844847127#64]:Vx 64 80)) fun (m_1:Vx 64 80)=>((loop (halberdref1_block512.b0 s_) BIG (0,replicate 80 0#64)).bind fun (t_1:Vx 64 80)=>((loop (halberdref1_block512.b2) BIG (16,t_1)).bind fun (t_3:Vx 64 80)=>((loop (halberdref1_block512.b3 m_1 t_3) BIG (0,h)).bind fun (t_4:Vx 64 8)=>((loop (halberdref1_block512.b4 t_4) BIG (0,h)).bind fun (t_6:Vx 64 8)=>(some t_6)))))
end Go.Proofs
end

section
namespace Go.Proofs
open Go Go.Kx
def halberdref1_Sum.b0 (r_1:Str) (s0:Int × Vx 32 8):Option ((Int × Vx 32 8) ⊕ (Vx 32 8)) :=
 if s0.1<((r_1).length:Int) then (if 0≤w64 (s0.1+64) then (if 0≤s0.1 then (if (w64 (s0.1+64)).toNat≤(r_1).length then (if (s0.1).toNat≤(w64 (s0.1+64)).toNat then ((halberdref1_block256 s0.2 (sub r_1 ((s0.1).toNat) ((w64 (s0.1+64)).toNat))).bind fun (r_2:Vx 32 8)=>(ltt (w64 (s0.1+64)) fun (i1:Int)=>(some (.inl (i1,r_2))))) else none) else none) else none) else none) else (some (.inr s0.2))
def halberdref1_Sum.b1 (t_1:Vx 32 8) (s1:Str × Int):Option ((Str × Int) ⊕ (Str)) :=
 if s1.2<8 then (if 0≤s1.2∧s1.2<(8:Int) then ((halberdref1_Be ((vg t_1 ((s1.2).toNat)).toNat:Int) 4).bind fun (r_3:Str)=>(if (s1.1).length+(r_3).length≤4611686018427387904 then (ltt (w64 (s1.2+1)) fun (i2:Int)=>(some (.inl (s1.1++r_3,i2)))) else none)) else none) else (some (.inr s1.1))
def halberdref1_Sum (bits:Int) (s_:Str):Option (Str × Int) :=
 ltt (decide (bits=256)) fun (x1:Bool)=>(if x1=true then (ltt ((#v[1779033703#32,3144134277#32,1013904242#32,2773480762#32,1359893119#32,2600822924#32,528734635#32,1541459225#32]:Vx 32 8)) fun (m_1:Vx 32 8)=>((halberdref1_padded s_ 64 8).bind fun (r_1:Str)=>((loop (halberdref1_Sum.b0 r_1) BIG (0,m_1)).bind fun (t_1:Vx 32 8)=>((loop (halberdref1_Sum.b1 t_1) BIG (([]:Str),0)).bind fun (t_2:Str)=>(some (t_2,0)))))) else (ltt (decide (bits=384)) fun (x2:Bool)=>(if x2=true then (none) else (some (([]:Str),200)))))
set_option maxHeartbeats 4000000 in
set_option maxRecDepth 20000 in
theorem F72_calls (bits:Int) (s_:Str) (r:Str × Int) (H:halberdref1_Sum bits s_=some r) :
  Does Try.prog 72 [vi bits,vs s_] [] [] (Γ:=Unit) (fun g=>Value.tuple [vs r.1,vi r.2].toArray) (fun g=>[]):=by
 intro w hmem hro hd
 refine calls_of (N:=85) (m0:=[(0,vi bits),(1,vs s_)]) Try.func72 rfl Try.ntmps72 (argM_ok [vi bits,vs s_]) rfl hmem hro hd ?_
 unfold halberdref1_Sum at H
 refine TC_seq (TC_region (TLv (V_assign rfl) ?_))
 refine TLv (V_assign rfl) ?_
 refine TL_nil (TX_next (TC_seq (TC_seq (TC_region (TLv (V_move rfl) ?_)))))
 refine TL_nil (TX_next (TC_block (TC_seq (TC_region (TLv (V_bin rfl rfl (fun w=>eqlI w bits 256)) ?_)))))
 refine TLv (V_assign rfl) ?_
 obtain ⟨x1,hx1,H⟩:=ltt_elim H
 refine TL_re (d:=17) (v:=vb (decide (bits=256))) (v':=vb x1) rfl (congrArg vb hx1) ?_
 refine TL_nil (TX_next (TC_cond (b:=x1) rfl (fun hc=>?_) (fun hc=>?_)))
 ·replace H:=ite_t hc H
  refine TC_seq (TC_region (TLv (V_buildArr (pv:=[(0,v32 1779033703#32),(1,v32 3144134277#32),(2,v32 1013904242#32),(3,v32 2773480762#32),(4,v32 1359893119#32),(5,v32 2600822924#32),(6,v32 528734635#32),(7,v32 1541459225#32)]) rfl rfl Try.underlying30 TryI.inf30 TryI.inf29 rfl TryI.zer30 (cs:=e32 ((#v[1779033703#32,3144134277#32,1013904242#32,2773480762#32,1359893119#32,2600822924#32,528734635#32,1541459225#32]:Vx 32 8).toList)) (by kernel_rfl)) ?_))
  refine TLe (E_al32 8 TryI.inf30 TryI.zer30) (fun b1=>?_)
  refine TLn (E_sv 0 TryI.inf30) (fun _=>?_)
  obtain ⟨m_1,hm_1,H⟩:=ltt_elim H
  refine TL_reE (j:=0) (A:=some (b1,0)) (cs:=e32 ((#v[1779033703#32,3144134277#32,1013904242#32,2773480762#32,1359893119#32,2600822924#32,528734635#32,1541459225#32]:Vx 32 8).toList)) (cs':=e32 m_1.toList) rfl (congrArg (fun z:Vx 32 8=>e32 (Vector.toList z)) hm_1) ?_
  refine TL_nil (TX_next (TC_seq (TC_region (TLv (V_move rfl) ?_))))
  obtain ⟨r_1,hr_1,H⟩:=bind_elim H
  refine TLe (E_c0 (F96_calls s_ 64 8 r_1 hr_1) Try.call96 .z) (fun g_1=>?_)
  refine TLv (V_assign rfl) ?_
  refine TL_nil (TX_next (TC_seq (TC_seq (TC_region (TLv (V_assign rfl) ?_)))))
  refine TL_nil (TX_next (TC_block ?_))
  obtain ⟨t_1,Hl,H⟩:=bind_elim H
  refine TC.sub (m':=[(6,ptr (some (b1,0)) 0),(7,vs r_1),(8,vi 0)]) ⟨rfl,rfl,rfl,trivial⟩ ?_
  refine TC.pull (is:=[0]) (L':=[⟨some (b1,0),e32 m_1.toList⟩]) rfl ?_
  refine TC_loopL (id:=1) (body:=(halberdref1_Sum.b0 r_1)) (σ:=Int × Vx 32 8) (Γ:=Unit) (Γx:=Unit) (fun s0 g0_=>[(6,ptr (some (b1,0)) 0),(7,vs r_1),(8,vi s0.1)]) (fun s0 g0_=>[⟨some (b1,0),e32 s0.2.toList⟩]) (fun t g=>[(6,ptr (some (b1,0)) 0)]) (fun t g=>[⟨some (b1,0),e32 t.toList⟩]) ?_ BIG (0,m_1) () t_1 Hl ?_
  ·intro s0 g0_ r1 H K hK hE
   unfold halberdref1_Sum.b0 at H
   refine TC_seq (TC_seq (TC_region (TLv (V_move rfl) ?_)))
   refine TLv (V_move rfl) ?_
   refine TLv (V_len_str rfl Try.underlying9) ?_
   refine TLv (V_bin rfl rfl (fun w=>lssI w s0.1 ((r_1).length:Int))) ?_
   refine TL_nil (TX_next (TC_cond (b:=(decide (s0.1<((r_1).length:Int)))) rfl (fun hc=>?_) (fun hc=>?_)))
   ·replace H:=ite_t (of_decide_eq_true hc) H
    refine TC_skip (TX_next (TC_seq (TC_block ?_)))
    obtain ⟨h1,H⟩:=if_elim H
    obtain ⟨h2,H⟩:=if_elim H
    obtain ⟨h3,H⟩:=if_elim H
    obtain ⟨h4,H⟩:=if_elim H
    obtain ⟨r_2,hr_2,H⟩:=bind_elim H
    refine TA_begin [] 8 (by kernel_rfl) (N:=8) rfl ?_
    refine TA_mix (is:=[]) (done':=dn 8 127) [itV 0 28 (aG [(8,e32 s0.2.toList)]) [],itV 1 29 (vs r_1) [],itV 2 30 (vi s0.1) [],itV 3 31 (vi s0.1) [],itV 4 32 (vi (w64 (s0.1+64))) [3],itV 5 33 (vs (sub r_1 ((s0.1).toNat) ((w64 (s0.1+64)).toNat))) [4,1,2],itV 6 34 (aG [(8,e32 r_2.toList)]) [5,0]] [] 1 (by kernel_rfl) (QP.block (QP.then (QP.then (QP.block (QP.then (QP.block (QP.then QP.body))))))) (by kernel_rfl) rfl (.v rfl (V_lag (.o 0) Try.isAgg30 TryI.inf30) (.v rfl (V_move rfl) (.v rfl (V_move rfl) (.v rfl (V_move rfl) (.v rfl (V_bin rfl rfl (fun w=>addI w s0.1 64)) (.v rfl (V_sliceStr (l:=(s0.1).toNat) (h:=(w64 (s0.1+64)).toNat) rfl Try.underlying9 (Bnd.some' (i:=s0.1) rfl h2) (Bnd.some' (i:=w64 (s0.1+64)) rfl h1) h4 h3) (.e rfl (E_cu (F97_calls s0.2 (sub r_1 ((s0.1).toNat) ((w64 (s0.1+64)).toNat)) r_2 hr_2) Try.call97 .z) .nil))))))) .nil (by kernel_rfl) rfl (fun γ=>?_)
    refine TA_cut [(34,aG [(8,e32 r_2.toList)]),(6,ptr (some (b1,0)) 0),(7,vs r_1),(8,vi s0.1)] [⟨some (b1,0),e32 s0.2.toList⟩] ⟨rfl,rfl,rfl,rfl,trivial⟩ rfl ?_
    refine TA_all (rs:=[7]) (by kernel_rfl) rfl ?_
    refine ⟨?_,trivial⟩
    refine TO_n (is:=[]) (done':=dn 8 255) rfl rfl rfl (by kernel_rfl) (E_sv (vs:=e32 r_2.toList) 0 TryI.inf30) (fun _ _=>rfl) (fun _=>?_)
    refine TA_done (by kernel_rfl) ?_ 0
    refine TX_block_normal (TX_next (TC_region (TLv (V_move rfl) ?_)))
    refine TLv (V_bin rfl rfl (fun w=>addI w s0.1 64)) ?_
    refine TLv (V_assign rfl) ?_
    obtain ⟨i1,hi1,H⟩:=ltt_elim H
    refine TL_re (d:=8) (v:=vi (w64 (s0.1+64))) (v':=vi i1) rfl (congrArg vi hi1) ?_
    refine TL_nil (TX.sub (m':=[(6,ptr (some (b1,0)) 0),(7,vs r_1),(8,vi i1)]) ⟨rfl,rfl,rfl,trivial⟩ ?_)
    refine TX.pull (is:=[0]) (L':=[⟨some (b1,0),e32 r_2.toList⟩]) rfl ?_
    obtain rfl:=Option.some.inj H
    exact fun a w hs=>hK (i1,r_2) rfl () a w hs
   ·replace H:=ite_f (of_decide_eq_false hc) H
    refine TC_exit (TX_then_exit (TX_then_exit (TX.sub (m':=[(6,ptr (some (b1,0)) 0)]) ⟨rfl,trivial⟩ ?_)))
    refine TX.pull (is:=[0]) (L':=[⟨some (b1,0),e32 s0.2.toList⟩]) rfl ?_
    obtain rfl:=Option.some.inj H
    exact hE s0.2 rfl ()
  ·intro g
   refine TX_block_exit (TX_next (TC_seq (TC_region (TLv (V_assign rfl) ?_))))
   refine TL_nil (TX_next (TC_seq (TC_seq (TC_region (TLv (V_assign rfl) ?_)))))
   refine TL_nil (TX_next (TC_block ?_))
   obtain ⟨t_2,Hl,H⟩:=bind_elim H
   refine TC.sub (m':=[(6,ptr (some (b1,0)) 0),(9,vs ([]:Str)),(10,vi 0)]) ⟨rfl,rfl,rfl,trivial⟩ ?_
   refine TC.pull (is:=[0]) (L':=[⟨some (b1,0),e32 t_1.toList⟩]) rfl ?_
   refine TC_loopL (id:=3) (body:=(halberdref1_Sum.b1 t_1)) (σ:=Str × Int) (Γ:=Unit) (Γx:=Unit) (fun s1 g1_=>[(6,ptr (some (b1,0)) 0),(9,vs s1.1),(10,vi s1.2)]) (fun s1 g1_=>[⟨some (b1,0),e32 t_1.toList⟩]) (fun t g=>[(9,vs t)]) (fun t g=>[]) ?_ BIG (([]:Str),0) () t_2 Hl ?_
   ·intro s1 g1_ r1 H K hK hE
    unfold halberdref1_Sum.b1 at H
    refine TC_seq (TC_seq (TC_region (TLv (V_move rfl) ?_)))
    refine TLv (V_bin rfl rfl (fun w=>lssI w s1.2 8)) ?_
    refine TL_nil (TX_next (TC_cond (b:=(decide (s1.2<8))) rfl (fun hc=>?_) (fun hc=>?_)))
    ·replace H:=ite_t (of_decide_eq_true hc) H
     refine TC_skip (TX_next (TC_seq (TC_block (TC_region (TLv (V_move rfl) ?_)))))
     refine TLv (V_move rfl) ?_
     obtain ⟨h5,H⟩:=if_elim H
     refine TLv (V_idxArr (i:=s1.2) rfl rfl Try.underlying30 TryI.inf29 rfl h5.1 h5.2 (k:=(s1.2).toNat) (k01 _)) ?_
     refine TLv (V_load rfl (.o 0) (get_vec (f:=v32) (V:=t_1) (toNat_lt h5.1 h5.2)) Try.isAgg29) ?_
     refine TLv (V_conv rfl (fun w=>cv32toI w _ _ Try.underlying3 (TryI.und29) (vg t_1 ((s1.2).toNat)))) ?_
     obtain ⟨r_3,hr_3,H⟩:=bind_elim H
     refine TLe (E_c0 (F98_calls ((vg t_1 ((s1.2).toNat)).toNat:Int) 4 r_3 hr_3) Try.call98 .z) (fun g_3=>?_)
     obtain ⟨h6,H⟩:=if_elim H
     refine TLv (V_bin rfl rfl (fun w=>addS w s1.1 r_3 h6)) ?_
     refine TLv (V_assign rfl) ?_
     refine TL_nil (TX_block_normal (TX_next (TC_region (TLv (V_move rfl) ?_))))
     refine TLv (V_bin rfl rfl (fun w=>addI w s1.2 1)) ?_
     refine TLv (V_assign rfl) ?_
     obtain ⟨i2,hi2,H⟩:=ltt_elim H
     refine TL_re (d:=10) (v:=vi (w64 (s1.2+1))) (v':=vi i2) rfl (congrArg vi hi2) ?_
     refine TL_nil (TX.sub (m':=[(6,ptr (some (b1,0)) 0),(9,vs (s1.1++r_3)),(10,vi i2)]) ⟨rfl,rfl,rfl,trivial⟩ ?_)
     refine TX.pull (is:=[0]) (L':=[⟨some (b1,0),e32 t_1.toList⟩]) rfl ?_
     obtain rfl:=Option.some.inj H
     exact fun a w hs=>hK (s1.1++r_3,i2) rfl () a w hs
    ·replace H:=ite_f (of_decide_eq_false hc) H
     refine TC_exit (TX_then_exit (TX_then_exit (TX.sub (m':=[(9,vs s1.1)]) ⟨rfl,trivial⟩ ?_)))
     refine TX.pull (is:=[]) (L':=[]) rfl ?_
     obtain rfl:=Option.some.inj H
     exact hE s1.1 rfl ()
   ·intro g
    refine TX_block_exit (TX_next (TC_seq (TC_region (TLv (V_move rfl) ?_))))
    refine TLv (V_assign rfl) ?_
    refine TLv (V_assign rfl) ?_
    refine TL_nil (TX_next (TC_ret (TX_block_ret (TX_then_ret ?_))))
    have hrv:=Option.some.inj H
    subst hrv
    exact TX_ret (rs:=[.tmp 4, .tmp 5]) (vs:=[vs t_2,vi 0]) rfl ⟨rfl,rfl,trivial⟩ (fun w' hs'=>⟨(),rfl,Step.left (Step.pulled (is:=[]) (A:=[]) hs' rfl)⟩)
 ·replace H:=ite_f (Bool.eq_false_iff.1 hc) H
  refine TC_seq (TC_region (TLv (V_bin rfl rfl (fun w=>eqlI w bits 384)) ?_))
  refine TLv (V_assign rfl) ?_
  obtain ⟨x2,hx2,H⟩:=ltt_elim H
  refine TL_re (d:=47) (v:=vb (decide (bits=384))) (v':=vb x2) rfl (congrArg vb hx2) ?_
  refine TL_nil (TX_next (TC_cond (b:=x2) rfl (fun hc=>?_) (fun hc=>?_)))
  ·exact nomatch ite_t hc H
  ·replace H:=ite_f (Bool.eq_false_iff.1 hc) H
   refine TC_skip (TX_block_normal (TX_next (TC_seq (TC_region (TLv (V_assign rfl) ?_)))))
   refine TLv (V_assign rfl) ?_
   refine TL_nil (TX_next (TC_ret ?_))
   have hrv:=Option.some.inj H
   subst hrv
   exact TX_ret (rs:=[.tmp 4, .tmp 5]) (vs:=[vs ([]:Str),vi 200]) rfl ⟨rfl,rfl,trivial⟩ (fun w' hs'=>⟨(),rfl,Step.left (Step.pulled (is:=[]) (A:=[]) hs' rfl)⟩)
end Go.Proofs
end

section
namespace Go.Proofs
open Go Go.Kx
def halberdref1_Hash (bits:Int) (s_:Str):Option (Str) :=
 (halberdref1_Sum bits s_).bind fun (r_1:Str × Int)=>(some r_1.1)
set_option maxHeartbeats 4000000 in
set_option maxRecDepth 20000 in
theorem F31_calls (bits:Int) (s_:Str) (r:Str) (H:halberdref1_Hash bits s_=some r) :
  Does Try.prog 31 [vi bits,vs s_] [] [] (Γ:=Unit) (fun g=>vs r) (fun g=>[]):=by
 intro w hmem hro hd
 refine calls_of (N:=14) (m0:=[(0,vi bits),(1,vs s_)]) Try.func31 rfl Try.ntmps31 (argM_ok [vi bits,vs s_]) rfl hmem hro hd ?_
 unfold halberdref1_Hash at H
 refine TC_seq (TC_region (TLv (V_assign rfl) ?_))
 refine TL_nil (TX_next (TC_seq (TC_region (TLv (V_move rfl) ?_))))
 refine TLv (V_move rfl) ?_
 obtain ⟨r_1,hr_1,H⟩:=bind_elim H
 refine TLe (E_c0 (F72_calls bits s_ r_1 hr_1) Try.call72 .z) (fun g_1=>?_)
 refine TLv (V_move rfl) ?_
 refine TLv V_ex ?_
 refine TLv V_ex ?_
 refine TLv (V_assign rfl) ?_
 refine TLv (V_assign rfl) ?_
 refine TL_nil (TX_next (TC_seq (TC_region (TLv (V_move rfl) ?_))))
 refine TLv (V_assign rfl) ?_
 refine TL_nil (TX_next (TC_ret ?_))
 have hrv:=Option.some.inj H
 subst hrv
 exact TX_ret (rs:=[.tmp 4]) (vs:=[vs r_1.1]) rfl ⟨rfl,trivial⟩ (fun w' hs'=>⟨(),rfl,Step.left (Step.pulled (is:=[]) (A:=[]) hs' rfl)⟩)
end Go.Proofs
end

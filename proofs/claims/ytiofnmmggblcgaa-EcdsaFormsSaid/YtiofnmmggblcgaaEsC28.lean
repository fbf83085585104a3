/-
  Part 28 of the proof of what several laws share.
-/
import Derived.Test.YtiofnmmggblcgaaEsC1
import Derived.Test.YtiofnmmggblcgaaEsC2
import Derived.Test.YtiofnmmggblcgaaEsC3
import Derived.Test.YtiofnmmggblcgaaEsC4
import Derived.Test.YtiofnmmggblcgaaEsC5
import Derived.Test.YtiofnmmggblcgaaEsC6
import Derived.Test.YtiofnmmggblcgaaEsC7
import Derived.Test.YtiofnmmggblcgaaEsC10
import Derived.Test.YtiofnmmggblcgaaEsC11
import Derived.Test.YtiofnmmggblcgaaEsC12
import Derived.Test.YtiofnmmggblcgaaEsC13
import Derived.Test.YtiofnmmggblcgaaEsC17
import Derived.Test.YtiofnmmggblcgaaEsC18
import Derived.Test.YtiofnmmggblcgaaEsC21
import Derived.Test.YtiofnmmggblcgaaEsC22
import Derived.Test.YtiofnmmggblcgaaEsC24
import Derived.Test.YtiofnmmggblcgaaEsC25
import Derived.Test.YtiofnmmggblcgaaEsC26
set_option linter.unusedVariables false
set_option linter.unusedSimpArgs false
section
namespace Go.Proofs
open Go Go.Kx
open Vector (replicate)
open TryI Try
def pcurve_Two (u:Vx 64 4) (v:Vx 64 4) (p:Str):Option (Vx 64 4 × Bool) :=
 (pcurve_newCurve).bind fun (r_1:Vx 64 4 × BitVec 64 × Vx 64 4 × Vx 64 4 × Vx 64 4)=>((pcurve_curve_read r_1.1 r_1.2.1 r_1.2.2.1 r_1.2.2.2.1 r_1.2.2.2.2 p).bind fun (r_2:Vx 64 4 × Vx 64 4 × Vx 64 4 × Bool)=>((pcurve_curve_base r_1.1 r_1.2.1 r_1.2.2.1 r_1.2.2.2.1 r_1.2.2.2.2).bind fun (r_3:Vx 64 4 × Vx 64 4 × Vx 64 4)=>((pcurve_curve_times r_1.1 r_1.2.1 r_1.2.2.1 r_1.2.2.2.1 r_1.2.2.2.2 u r_3.1 r_3.2.1 r_3.2.2).bind fun (r_4:Vx 64 4 × Vx 64 4 × Vx 64 4)=>((pcurve_curve_times r_1.1 r_1.2.1 r_1.2.2.1 r_1.2.2.2.1 r_1.2.2.2.2 v r_2.1 r_2.2.1 r_2.2.2.1).bind fun (r_5:Vx 64 4 × Vx 64 4 × Vx 64 4)=>((pcurve_curve_add r_1.1 r_1.2.1 r_1.2.2.1 r_1.2.2.2.1 r_1.2.2.2.2 r_4.1 r_4.2.1 r_4.2.2 r_5.1 r_5.2.1 r_5.2.2).bind fun (r_6:Vx 64 4 × Vx 64 4 × Vx 64 4)=>((num_Nat_Zero r_6.2.2).bind fun (r_7:Bool)=>(if r_7=true then (ltt ((replicate 4 0#64:Vx 64 4)) fun (m_1:Vx 64 4)=>(some (m_1,false))) else ((pcurve_curve_write r_1.1 r_1.2.1 r_1.2.2.1 r_1.2.2.2.1 r_1.2.2.2.2 r_6.1 r_6.2.1 r_6.2.2).bind fun (r_8:Str)=>(if 33≤(r_8).length then ((num_Load (sub r_8 1 33)).bind fun (r_9:Vx 64 4)=>(some (r_9,true))) else none)))))))))
set_option maxHeartbeats 4000000 in
set_option maxRecDepth 20000 in
theorem F70_calls (u:Vx 64 4) (v:Vx 64 4) (p:Str) (r:Vx 64 4 × Bool) (H:pcurve_Two u v p=some r) :
  Does Try.prog 70 [aG [(4,e64 u.toList)],aG [(4,e64 v.toList)],vs p] [] [] (Γ:=Unit) (fun g=>Value.tuple [aG [(4,e64 r.1.toList)],vb r.2].toArray) (fun g=>[]):=by
 intro w hmem hro hd
 refine calls_of (N:=39) (m0:=[(0,aG [(4,e64 u.toList)]),(1,aG [(4,e64 v.toList)]),(2,vs p)]) func70 rfl ntmps70 (argM_ok [aG [(4,e64 u.toList)],aG [(4,e64 v.toList)],vs p]) rfl hmem hro hd ?_
 unfold pcurve_Two at H
 refine TC_seq (TC_region (TLe (E_boxP [(4,e64 u.toList)] rfl rfl ⟨(lenV (f:=v64) u),trivial⟩) (fun b1=>?_)))
 refine TLe (E_boxP [(4,e64 v.toList)] rfl rfl ⟨(lenV (f:=v64) v),trivial⟩) (fun b2=>?_)
 refine TLe (E_al64 4 inf57 zer57) (fun b3=>?_)
 refine TVa ?_
 refine TL_nil (TX_next (TC_seq (TC_region ?_)))
 obtain ⟨r_1,hr_1,H⟩:=bind_elim H
 refine TLe (E_call (Γ:=Nat × Nat) (val:=fun g=>ptr (some (g.1,0)) 0) (mem:=fun g=>[⟨some (g.1,0),[ptr (some (g.2,0)) 0]⟩,⟨some (g.2,0),e64 r_1.1.toList⟩,⟨some (g.2,4),[v64 r_1.2.1]⟩,⟨some (g.2,5),e64 r_1.2.2.1.toList⟩,⟨some (g.2,9),e64 r_1.2.2.2.1.toList⟩,⟨some (g.1,1),e64 r_1.2.2.2.2.toList⟩]) (vs:=[]) (Lin:=[]) (Ro:=[]) (is:=[]) rfl call33 (F33_calls r_1 hr_1) rfl trivial) (fun g_1=>?_)
 refine TVa ?_
 refine TL_nil (TX_next (TC_seq (TC_region (TVm ?_))))
 refine TVm ?_
 obtain ⟨r_2,hr_2,H⟩:=bind_elim H
 refine TLe (E_c0 (F41_calls g_1.1 0 g_1.2 0 r_1.1 r_1.2.1 r_1.2.2.1 r_1.2.2.2.1 r_1.2.2.2.2 p r_2 hr_2) call41 ⟨.o 0, .o 5, .o 1, .o 2, .o 3, .o 4,trivial⟩) (fun g_2=>?_)
 refine TVm ?_
 refine TLv V_ex ?_
 refine TLv V_ex ?_
 refine TLe (E_allocP [(4,e64 ((replicate 4 0#64).toList)),(4,e64 ((replicate 4 0#64).toList)),(4,e64 ((replicate 4 0#64).toList))] inf64 zer64 ⟨(lenV (f:=v64) (replicate 4 0#64)),(lenV (f:=v64) (replicate 4 0#64)),(lenV (f:=v64) (replicate 4 0#64)),trivial⟩) (fun b4=>?_)
 refine TLn (E_sp (b:=b4) (o:=0) [0,0,0] [(4,e64 ((replicate 4 0#64).toList)),(4,e64 ((replicate 4 0#64).toList)),(4,e64 ((replicate 4 0#64).toList))] [(4,e64 r_2.1.toList),(4,e64 r_2.2.1.toList),(4,e64 r_2.2.2.1.toList)] rfl inf64 ⟨(lenV (f:=v64) (replicate 4 0#64)),(lenV (f:=v64) (replicate 4 0#64)),(lenV (f:=v64) (replicate 4 0#64)),trivial⟩ ⟨(lenV (f:=v64) r_2.1),(lenV (f:=v64) r_2.2.1),(lenV (f:=v64) r_2.2.2.1),trivial⟩ ⟨(OneC.map (fun _=>rfl) _),(OneC.map (fun _=>rfl) _),(OneC.map (fun _=>rfl) _),trivial⟩) (fun _=>?_)
 refine TVa ?_
 refine TL_nil (TX_next (TC.sub (m':=[(3,_),(4,_),(6,_),(8,_),(9,_)]) ⟨rfl,rfl,rfl,rfl,rfl,trivial⟩ ?_))
 refine TC.pull (is:=[11,10,9,3,3,3,3,3,3,0,0,0]) (L':=[_,_,_,_,_,_,_,_,_,_,_,_]) rfl ?_
 refine TC_seq ?_
 obtain ⟨r_3,hr_3,H⟩:=bind_elim H
 obtain ⟨r_4,hr_4,H⟩:=bind_elim H
 obtain ⟨r_5,hr_5,H⟩:=bind_elim H
 obtain ⟨r_6,hr_6,H⟩:=bind_elim H
 refine TA_begin [] 13 (by kernel_rfl) (N:=13) rfl ?_
 refine TA_mix (is:=[]) (done':=dn 13 4095) [itV 0 19 (ptr (some (g_1.1,0)) 0) [],itV 1 20 (ptr (some (g_1.1,0)) 0) [],itV 2 21 (aG [(4,e64 u.toList)]) [],itV 3 22 (ptr (some (g_1.1,0)) 0) [],itV 4 23 (aG [(4,e64 r_3.1.toList),(4,e64 r_3.2.1.toList),(4,e64 r_3.2.2.toList)]) [3],itV 5 24 (aG [(4,e64 r_4.1.toList),(4,e64 r_4.2.1.toList),(4,e64 r_4.2.2.toList)]) [1,2,4],itV 6 25 (ptr (some (g_1.1,0)) 0) [],itV 7 26 (aG [(4,e64 v.toList)]) [],itV 8 27 (aG [(4,e64 r_2.1.toList),(4,e64 r_2.2.1.toList),(4,e64 r_2.2.2.1.toList)]) [],itV 9 28 (aG [(4,e64 r_5.1.toList),(4,e64 r_5.2.1.toList),(4,e64 r_5.2.2.toList)]) [6,7,8],itV 10 29 (aG [(4,e64 r_6.1.toList),(4,e64 r_6.2.1.toList),(4,e64 r_6.2.2.toList)]) [5,0,9],⟨11,11,fun b5=>ptr (some (b5,0)) 0,fun b5=>[⟨some (b5,0),e64 ((replicate 4 0#64).toList)⟩,⟨some (b5,4),e64 ((replicate 4 0#64).toList)⟩,⟨some (b5,8),e64 ((replicate 4 0#64).toList)⟩],[],none⟩] [] 1 (by kernel_rfl) (QP.then QP.body) (by kernel_rfl) rfl (.v rfl (V_move rfl) (.v rfl (V_move rfl) (.v rfl (V_lag (.o 0) isAgg57 inf57) (.v rfl (V_move rfl) (.e rfl (E_cu (F36_calls g_1.1 0 g_1.2 0 r_1.1 r_1.2.1 r_1.2.2.1 r_1.2.2.2.1 r_1.2.2.2.2 r_3 hr_3) call36 ⟨.o 3, .o 8, .o 4, .o 5, .o 6, .o 7,trivial⟩) (.e rfl (E_cu (F35_calls g_1.1 0 g_1.2 0 r_1.1 r_1.2.1 r_1.2.2.1 r_1.2.2.2.1 r_1.2.2.2.2 u r_3.1 r_3.2.1 r_3.2.2 r_4 hr_4) call35 ⟨.o 3, .o 8, .o 4, .o 5, .o 6, .o 7,trivial⟩) (.v rfl (V_move rfl) (.v rfl (V_lag (.o 1) isAgg57 inf57) (.v rfl (V_loadAgg (n:=12) (cs:=flat [(4,e64 r_2.1.toList),(4,e64 r_2.2.1.toList),(4,e64 r_2.2.2.1.toList)]) rfl (by simp) (SrcEnts (b:=b4) [(4,e64 r_2.1.toList),(4,e64 r_2.2.1.toList),(4,e64 r_2.2.2.1.toList)] 0 ⟨(lenV (f:=v64) r_2.1),(lenV (f:=v64) r_2.2.1),(lenV (f:=v64) r_2.2.2.1),trivial⟩ (AllSrc.all (M:=ents b4 0 [(4,e64 r_2.1.toList),(4,e64 r_2.2.1.toList),(4,e64 r_2.2.2.1.toList)]) ⟨Src.own (j:=9) rfl,Src.own (j:=10) rfl,Src.own (j:=11) rfl,trivial⟩)) isAgg64 inf64 rfl (flat_len ⟨(lenV (f:=v64) r_2.1),(lenV (f:=v64) r_2.2.1),(lenV (f:=v64) r_2.2.2.1),trivial⟩ rfl)) (.e rfl (E_cu (F35_calls g_1.1 0 g_1.2 0 r_1.1 r_1.2.1 r_1.2.2.1 r_1.2.2.2.1 r_1.2.2.2.2 v r_2.1 r_2.2.1 r_2.2.2.1 r_5 hr_5) call35 ⟨.o 3, .o 8, .o 4, .o 5, .o 6, .o 7,trivial⟩) (.e rfl (E_cu (F42_calls g_1.1 0 g_1.2 0 r_1.1 r_1.2.1 r_1.2.2.1 r_1.2.2.2.1 r_1.2.2.2.2 r_4.1 r_4.2.1 r_4.2.2 r_5.1 r_5.2.1 r_5.2.2 r_6 hr_6) call42 ⟨.o 3, .o 8, .o 4, .o 5, .o 6, .o 7,trivial⟩) (.c rfl (fun _ _=>(E_allocP [(4,e64 ((replicate 4 0#64).toList)),(4,e64 ((replicate 4 0#64).toList)),(4,e64 ((replicate 4 0#64).toList))] inf64 zer64 ⟨(lenV (f:=v64) (replicate 4 0#64)),(lenV (f:=v64) (replicate 4 0#64)),(lenV (f:=v64) (replicate 4 0#64)),trivial⟩)) .nil)))))))))))) .nil (by kernel_rfl) rfl (fun γ=>?_)
 refine TA_cut [(11,ptr (some ((γ 11),0)) 0),(29,aG [(4,e64 r_6.1.toList),(4,e64 r_6.2.1.toList),(4,e64 r_6.2.2.toList)]),(6,ptr (some (b3,0)) 0),(8,ptr (some (g_1.1,0)) 0)] [⟨some ((γ 11),0),e64 ((replicate 4 0#64).toList)⟩,⟨some ((γ 11),4),e64 ((replicate 4 0#64).toList)⟩,⟨some ((γ 11),8),e64 ((replicate 4 0#64).toList)⟩,⟨some (b1,0),e64 u.toList⟩,⟨some (b2,0),e64 v.toList⟩,⟨some (b3,0),e64 ((replicate 4 0#64).toList)⟩,⟨some (g_1.1,0),[ptr (some (g_1.2,0)) 0]⟩,⟨some (g_1.2,0),e64 r_1.1.toList⟩,⟨some (g_1.2,4),[v64 r_1.2.1]⟩,⟨some (g_1.2,5),e64 r_1.2.2.1.toList⟩,⟨some (g_1.2,9),e64 r_1.2.2.2.1.toList⟩,⟨some (g_1.1,1),e64 r_1.2.2.2.2.toList⟩,⟨some (b4,0),e64 r_2.1.toList⟩,⟨some (b4,4),e64 r_2.2.1.toList⟩,⟨some (b4,8),e64 r_2.2.2.1.toList⟩] ⟨rfl,rfl,rfl,rfl,trivial⟩ rfl ?_
 generalize γ 11=b5
 refine TA_all (rs:=[12]) (by kernel_rfl) rfl ?_
 refine ⟨?_,trivial⟩
 refine TO_n (is:=[]) (done':=dn 13 8191) rfl rfl rfl (by kernel_rfl) (E_sp (b:=b5) (o:=0) [0,0,0] [(4,e64 ((replicate 4 0#64).toList)),(4,e64 ((replicate 4 0#64).toList)),(4,e64 ((replicate 4 0#64).toList))] [(4,e64 r_6.1.toList),(4,e64 r_6.2.1.toList),(4,e64 r_6.2.2.toList)] rfl inf64 ⟨(lenV (f:=v64) (replicate 4 0#64)),(lenV (f:=v64) (replicate 4 0#64)),(lenV (f:=v64) (replicate 4 0#64)),trivial⟩ ⟨(lenV (f:=v64) r_6.1),(lenV (f:=v64) r_6.2.1),(lenV (f:=v64) r_6.2.2),trivial⟩ ⟨(OneC.map (fun _=>rfl) _),(OneC.map (fun _=>rfl) _),(OneC.map (fun _=>rfl) _),trivial⟩) (fun _ _=>rfl) (fun _=>?_)
 refine TA_done (by kernel_rfl) ?_ 0
 refine TX_next (TC_seq (TC_seq (TC_region (TLv (V_fieldE rfl underlying64 rfl rfl inf57 rfl (v:=ptr (some (b5,8)) 0) rfl) ?_))))
 refine TLv (V_lag (.o 2) isAgg57 inf57) ?_
 obtain ⟨r_7,hr_7,H⟩:=bind_elim H
 refine TLe (E_c0 (F43_calls r_6.2.2 r_7 hr_7) call43 .z) (fun g_7=>?_)
 refine TL_nil (TX_next (TCb H (fun hc H=>?_) (fun hc H=>?_)))
 ·refine TC_seq (TC_region (TLv (V_buildArr (pv:=[]) rfl rfl underlying57 inf57 inf55 rfl zer57 (cs:=e64 ((replicate 4 0#64:Vx 64 4).toList)) (by kernel_rfl)) ?_))
  refine TLn (E_sv 5 inf57) (fun _=>?_)
  obtain ⟨m_1,hm_1,H⟩:=ltt_elim H
  refine TL_reE (j:=5) (A:=some (b3,0)) (cs:=e64 ((replicate 4 0#64:Vx 64 4).toList)) (cs':=e64 m_1.toList) rfl (congrArg (fun z:Vx 64 4=>e64 (Vector.toList z)) hm_1) ?_
  refine TVa ?_
  refine TL_nil (TX_next (TC_ret (TX_then_ret ?_)))
  obtain rfl:=sj H
  exact TXr (vs:=[_,_]) rfl ⟨(Res_agg (n:=4) rfl (by simp) (.o 5) isAgg57 inf57 rfl (lenV (f:=v64) m_1)),rfl,trivial⟩
 ·refine TC_skip (TX_next (TC_seq (TC_region (TVm ?_))))
  refine TLv (V_loadAgg (n:=12) (cs:=flat [(4,e64 r_6.1.toList),(4,e64 r_6.2.1.toList),(4,e64 r_6.2.2.toList)]) rfl (by simp) (SrcEnts (b:=b5) [(4,e64 r_6.1.toList),(4,e64 r_6.2.1.toList),(4,e64 r_6.2.2.toList)] 0 ⟨(lenV (f:=v64) r_6.1),(lenV (f:=v64) r_6.2.1),(lenV (f:=v64) r_6.2.2),trivial⟩ (AllSrc.all (M:=ents b5 0 [(4,e64 r_6.1.toList),(4,e64 r_6.2.1.toList),(4,e64 r_6.2.2.toList)]) ⟨Src.own (j:=0) rfl,Src.own (j:=1) rfl,Src.own (j:=2) rfl,trivial⟩)) isAgg64 inf64 rfl (flat_len ⟨(lenV (f:=v64) r_6.1),(lenV (f:=v64) r_6.2.1),(lenV (f:=v64) r_6.2.2),trivial⟩ rfl)) ?_
  obtain ⟨r_8,hr_8,H⟩:=bind_elim H
  refine TLe (E_c0 (F34_calls g_1.1 0 g_1.2 0 r_1.1 r_1.2.1 r_1.2.2.1 r_1.2.2.2.1 r_1.2.2.2.2 r_6.1 r_6.2.1 r_6.2.2 r_8 hr_8) call34 ⟨.o 6, .o 11, .o 7, .o 8, .o 9, .o 10,trivial⟩) (fun g_8=>?_)
  obtain ⟨h1,H⟩:=if_elim H
  refine TLv (V_sliceStr (l:=1) (h:=33) rfl underlying9 (Bnd.some' (i:=1) rfl (by decide)) (Bnd.some' (i:=33) rfl (by decide)) (by decide) h1) ?_
  obtain ⟨r_9,hr_9,H⟩:=bind_elim H
  refine TLe (E_c0 (F55_calls (sub r_8 1 33) r_9 hr_9) call55 .z) (fun g_9=>?_)
  refine TLn (E_sv (vs:=e64 r_9.toList) 5 inf57) (fun _=>?_)
  refine TVa ?_
  refine TL_nil (TX_next (TC_ret ?_))
  obtain rfl:=sj H
  exact TXr (vs:=[_,_]) rfl ⟨(Res_agg (n:=4) rfl (by simp) (.o 5) isAgg57 inf57 rfl (lenV (f:=v64) r_9)),rfl,trivial⟩
end Go.Proofs
end

section
namespace Go.Proofs
open Go Go.Kx
open Vector (replicate)
open TryI Try
def ecdsa_Verify (public_:Str) (digest:Str) (sig:Str):Option (Int) :=
 (ecdsa_read sig).bind fun (r_1:Vx 64 4 × Vx 64 4 × Bool)=>((if (!r_1.2.2)=true then (some true) else (if ((digest).length:Int) ≠ 32 then (some true) else ((pcurve_On public_).bind fun (r_15:Bool)=>(some (!r_15))))).bind fun (j1:Bool)=>(if j1=true then (some 1200) else ((num_New 1).bind fun (r_2:(Unit) ⊕ (Vx 64 4 × BitVec 64 × Vx 64 4 × Vx 64 4))=>(match r_2 with | .inl r_2=>(none) | .inr r_2=>((num_Field_In r_2.1 r_2.2.1 r_2.2.2.1 r_2.2.2.2 r_1.2.1).bind fun (r_3:Vx 64 4)=>((num_Field_Inv r_2.1 r_2.2.1 r_2.2.2.1 r_2.2.2.2 r_3).bind fun (r_4:Vx 64 4)=>((num_Load digest).bind fun (r_5:Vx 64 4)=>((num_Field_Rest r_2.1 r_2.2.1 r_2.2.2.1 r_2.2.2.2 r_5).bind fun (r_6:Vx 64 4)=>((num_Field_In r_2.1 r_2.2.1 r_2.2.2.1 r_2.2.2.2 r_6).bind fun (r_7:Vx 64 4)=>((num_Field_Mul r_2.1 r_2.2.1 r_2.2.2.1 r_2.2.2.2 r_7 r_4).bind fun (r_8:Vx 64 4)=>((num_Field_Out r_2.1 r_2.2.1 r_2.2.2.1 r_2.2.2.2 r_8).bind fun (r_9:Vx 64 4)=>((num_Field_In r_2.1 r_2.2.1 r_2.2.2.1 r_2.2.2.2 r_1.1).bind fun (r_10:Vx 64 4)=>((num_Field_Mul r_2.1 r_2.2.1 r_2.2.2.1 r_2.2.2.2 r_10 r_4).bind fun (r_11:Vx 64 4)=>((num_Field_Out r_2.1 r_2.2.1 r_2.2.2.1 r_2.2.2.2 r_11).bind fun (r_12:Vx 64 4)=>((pcurve_Two r_9 r_12 public_).bind fun (r_13:Vx 64 4 × Bool)=>(if (!r_13.2)=true then (some 1201) else ((num_Field_Rest r_2.1 r_2.2.1 r_2.2.2.1 r_2.2.2.2 r_13.1).bind fun (r_14:Vx 64 4)=>(if r_14 ≠ r_1.1 then (some 1201) else (some 0)))))))))))))))))))
set_option maxHeartbeats 4000000 in
set_option maxRecDepth 20000 in
theorem F27_calls (public_:Str) (digest:Str) (sig:Str) (r:Int) (H:ecdsa_Verify public_ digest sig=some r) :
  Does Try.prog 27 [vs public_,vs digest,vs sig] [] [] (Γ:=Unit) (fun g=>vi r) (fun g=>[]):=by
 intro w hmem hro hd
 refine calls_of (N:=74) (m0:=[(0,vs public_),(1,vs digest),(2,vs sig)]) func27 rfl ntmps27 (argM_ok [vs public_,vs digest,vs sig]) rfl hmem hro hd ?_
 unfold ecdsa_Verify at H
 refine TC_seq (TC_region (TVa ?_))
 refine TL_nil (TX_next (TC_seq (TC_region (TVm ?_))))
 obtain ⟨r_1,hr_1,H⟩:=bind_elim H
 refine TLe (E_c0 (F69_calls sig r_1 hr_1) call69 .z) (fun g_1=>?_)
 refine TVm ?_
 refine TLv V_ex ?_
 refine TLv V_ex ?_
 refine TLv V_ex ?_
 refine TLe (E_al64 4 inf57 zer57) (fun b1=>?_)
 refine TLe (E_al64 4 inf57 zer57) (fun b2=>?_)
 refine TLn (E_sv (vs:=e64 r_1.1.toList) 1 inf57) (fun _=>?_)
 refine TLn (E_sv (vs:=e64 r_1.2.1.toList) 0 inf57) (fun _=>?_)
 refine TVa ?_
 refine TL_nil (TX_next (TC_seq (TC_seq (TC_region (TVm ?_)))))
 refine TLv (V_un rfl (fun w=>notB w r_1.2.2)) ?_
 refine TVm ?_
 obtain ⟨j1,Hj,H⟩:=bind_elim H
 refine TL_join (Γ:=Unit) (fun gj1=>[(0,vs public_),(1,vs digest),(7,ptr (some (b1,0)) 0),(8,ptr (some (b2,0)) 0),(32,vb j1)]) (fun gj1=>[⟨some (b1,0),e64 r_1.1.toList⟩,⟨some (b2,0),e64 r_1.2.1.toList⟩]) ?_ ?_
 ·intro gj1
  refine TX_next (TCb H (fun hc H=>?_) (fun hc H=>?_))
  ·refine TC_seq (TC_region (TVa ?_))
   refine TL_nil (TX_next (TC_ret (TX_then_ret ?_)))
   obtain rfl:=sj H
   exact TX1
  ·refine TC_skip (TX_next (TC_seq (TC_region ?_)))
   obtain ⟨r_2,hr_2,H⟩:=bind_elim H
   rcases r_2 with r_2 | r_2
   ·dsimp only at H
    refine TL_e rfl rfl rfl (E_call (Γ:=Unit × Nat) (val:=fun g=>Value.pointer none) (mem:=fun g=>[]) (vs:=[vi 1]) (Lin:=[]) (Ro:=[]) (is:=[]) rfl call53 (F53_calls 1 (.inl r_2) hr_2) rfl trivial) (fun g_2=>?_)
    refine TVa ?_
    refine TL_nil (TX_next (TC_seq (TC_region (TVm ?_))))
    refine TVm ?_
    refine TLv (V_lag (.o 1) isAgg57 inf57) ?_
    exact absurd (show (none:Option _)=some _ from H) (fun h=>by cases h)
   ·dsimp only at H
    refine TL_e rfl rfl rfl (E_call (Γ:=Unit × Nat) (val:=fun g=>ptr (some (g.2,0)) 0) (mem:=fun g=>[⟨some (g.2,0),e64 r_2.1.toList⟩,⟨some (g.2,4),[v64 r_2.2.1]⟩,⟨some (g.2,5),e64 r_2.2.2.1.toList⟩,⟨some (g.2,9),e64 r_2.2.2.2.toList⟩]) (vs:=[vi 1]) (Lin:=[]) (Ro:=[]) (is:=[]) rfl call53 (F53_calls 1 (.inr r_2) hr_2) rfl trivial) (fun g_3=>?_)
    refine TVa ?_
    refine TL_nil (TX_next (TC_seq (TC_region (TVm ?_))))
    refine TVm ?_
    refine TLv (V_lag (.o 5) isAgg57 inf57) ?_
    obtain ⟨r_3,hr_3,H⟩:=bind_elim H
    refine TLe (E_c0 (F56_calls g_3.2 0 r_2.1 r_2.2.1 r_2.2.2.1 r_2.2.2.2 r_1.2.1 r_3 hr_3) call56 ⟨.o 0, .o 1, .o 2, .o 3,trivial⟩) (fun g_4=>?_)
    obtain ⟨r_4,hr_4,H⟩:=bind_elim H
    refine TLe (E_c0 (F60_calls g_3.2 0 r_2.1 r_2.2.1 r_2.2.2.1 r_2.2.2.2 r_3 r_4 hr_4) call60 ⟨.o 0, .o 1, .o 2, .o 3,trivial⟩) (fun g_5=>?_)
    refine TLe (E_al64 4 inf57 zer57) (fun b3=>?_)
    refine TLn (E_sv (vs:=e64 r_4.toList) 0 inf57) (fun _=>?_)
    refine TL_nil (TX_next (TC_seq ?_))
    obtain ⟨r_5,hr_5,H⟩:=bind_elim H
    obtain ⟨r_6,hr_6,H⟩:=bind_elim H
    obtain ⟨r_7,hr_7,H⟩:=bind_elim H
    obtain ⟨r_8,hr_8,H⟩:=bind_elim H
    obtain ⟨r_9,hr_9,H⟩:=bind_elim H
    refine TA_begin [] 13 (by kernel_rfl) (N:=13) rfl ?_
    refine TA_mix (is:=[]) (done':=dn 13 4095) [itV 0 39 (ptr (some (g_3.2,0)) 0) [],itV 1 40 (ptr (some (g_3.2,0)) 0) [],itV 2 41 (ptr (some (g_3.2,0)) 0) [],itV 3 42 (ptr (some (g_3.2,0)) 0) [],itV 4 43 (vs digest) [],itV 5 44 (aG [(4,e64 r_5.toList)]) [4],itV 6 45 (aG [(4,e64 r_6.toList)]) [3,5],itV 7 46 (aG [(4,e64 r_7.toList)]) [2,6],itV 8 47 (aG [(4,e64 r_4.toList)]) [],itV 9 48 (aG [(4,e64 r_8.toList)]) [1,7,8],itV 10 49 (aG [(4,e64 r_9.toList)]) [9,0],itA64 11 12 4] [] 1 (by kernel_rfl) (QP.then QP.body) (by kernel_rfl) rfl (.v rfl (V_move rfl) (.v rfl (V_move rfl) (.v rfl (V_move rfl) (.v rfl (V_move rfl) (.v rfl (V_move rfl) (.e rfl (E_cu (F55_calls digest r_5 hr_5) call55 .z) (.e rfl (E_cu (F54_calls g_3.2 0 r_2.1 r_2.2.1 r_2.2.2.1 r_2.2.2.2 r_5 r_6 hr_6) call54 ⟨.o 1, .o 2, .o 3, .o 4,trivial⟩) (.e rfl (E_cu (F56_calls g_3.2 0 r_2.1 r_2.2.1 r_2.2.2.1 r_2.2.2.2 r_6 r_7 hr_7) call56 ⟨.o 1, .o 2, .o 3, .o 4,trivial⟩) (.v rfl (V_lag (.o 0) isAgg57 inf57) (.e rfl (E_cu (F58_calls g_3.2 0 r_2.1 r_2.2.1 r_2.2.2.1 r_2.2.2.2 r_7 r_4 r_8 hr_8) call58 ⟨.o 1, .o 2, .o 3, .o 4,trivial⟩) (.e rfl (E_cu (F57_calls g_3.2 0 r_2.1 r_2.2.1 r_2.2.2.1 r_2.2.2.2 r_8 r_9 hr_9) call57 ⟨.o 1, .o 2, .o 3, .o 4,trivial⟩) (.c rfl (fun _ _=>(E_al64 4 inf57 zer57)) .nil)))))))))))) .nil (by kernel_rfl) rfl (fun γ=>?_)
    refine TA_cut [(12,ptr (some ((γ 11),0)) 0),(49,aG [(4,e64 r_9.toList)]),(11,ptr (some (b3,0)) 0),(10,ptr (some (g_3.2,0)) 0),(0,vs public_),(7,ptr (some (b1,0)) 0)] [⟨some ((γ 11),0),e64 ((replicate 4 0#64).toList)⟩,⟨some (b3,0),e64 r_4.toList⟩,⟨some (g_3.2,0),e64 r_2.1.toList⟩,⟨some (g_3.2,4),[v64 r_2.2.1]⟩,⟨some (g_3.2,5),e64 r_2.2.2.1.toList⟩,⟨some (g_3.2,9),e64 r_2.2.2.2.toList⟩,⟨some (b1,0),e64 r_1.1.toList⟩,⟨some (b2,0),e64 r_1.2.1.toList⟩] ⟨rfl,rfl,rfl,rfl,rfl,rfl,trivial⟩ rfl ?_
    generalize γ 11=b4
    refine TA_all (rs:=[12]) (by kernel_rfl) rfl ?_
    refine ⟨?_,trivial⟩
    refine TO_n (is:=[]) (done':=dn 13 8191) rfl rfl rfl (by kernel_rfl) (E_sv (vs:=e64 r_9.toList) 0 inf57) (fun _ _=>rfl) (fun _=>?_)
    refine TA_done (by kernel_rfl) ?_ 0
    refine TX_next (TC_seq ?_)
    obtain ⟨r_10,hr_10,H⟩:=bind_elim H
    obtain ⟨r_11,hr_11,H⟩:=bind_elim H
    obtain ⟨r_12,hr_12,H⟩:=bind_elim H
    refine TA_begin [] 10 (by kernel_rfl) (N:=10) rfl ?_
    refine TA_mix (is:=[]) (done':=dn 10 511) [itV 0 50 (ptr (some (g_3.2,0)) 0) [],itV 1 51 (ptr (some (g_3.2,0)) 0) [],itV 2 52 (ptr (some (g_3.2,0)) 0) [],itV 3 53 (aG [(4,e64 r_1.1.toList)]) [],itV 4 54 (aG [(4,e64 r_10.toList)]) [2,3],itV 5 55 (aG [(4,e64 r_4.toList)]) [],itV 6 56 (aG [(4,e64 r_11.toList)]) [1,4,5],itV 7 57 (aG [(4,e64 r_12.toList)]) [6,0],itA64 8 13 4] [] 1 (by kernel_rfl) (QP.then QP.body) (by kernel_rfl) rfl (.v rfl (V_move rfl) (.v rfl (V_move rfl) (.v rfl (V_move rfl) (.v rfl (V_lag (.o 6) isAgg57 inf57) (.e rfl (E_cu (F56_calls g_3.2 0 r_2.1 r_2.2.1 r_2.2.2.1 r_2.2.2.2 r_1.1 r_10 hr_10) call56 ⟨.o 2, .o 3, .o 4, .o 5,trivial⟩) (.v rfl (V_lag (.o 1) isAgg57 inf57) (.e rfl (E_cu (F58_calls g_3.2 0 r_2.1 r_2.2.1 r_2.2.2.1 r_2.2.2.2 r_10 r_4 r_11 hr_11) call58 ⟨.o 2, .o 3, .o 4, .o 5,trivial⟩) (.e rfl (E_cu (F57_calls g_3.2 0 r_2.1 r_2.2.1 r_2.2.2.1 r_2.2.2.2 r_11 r_12 hr_12) call57 ⟨.o 2, .o 3, .o 4, .o 5,trivial⟩) (.c rfl (fun _ _=>(E_al64 4 inf57 zer57)) .nil))))))))) .nil (by kernel_rfl) rfl (fun γ=>?_)
    refine TA_cut [(13,ptr (some ((γ 8),0)) 0),(57,aG [(4,e64 r_12.toList)]),(12,ptr (some (b4,0)) 0),(10,ptr (some (g_3.2,0)) 0),(0,vs public_),(7,ptr (some (b1,0)) 0)] [⟨some ((γ 8),0),e64 ((replicate 4 0#64).toList)⟩,⟨some (b4,0),e64 r_9.toList⟩,⟨some (b3,0),e64 r_4.toList⟩,⟨some (g_3.2,0),e64 r_2.1.toList⟩,⟨some (g_3.2,4),[v64 r_2.2.1]⟩,⟨some (g_3.2,5),e64 r_2.2.2.1.toList⟩,⟨some (g_3.2,9),e64 r_2.2.2.2.toList⟩,⟨some (b1,0),e64 r_1.1.toList⟩,⟨some (b2,0),e64 r_1.2.1.toList⟩] ⟨rfl,rfl,rfl,rfl,rfl,rfl,trivial⟩ rfl ?_
    generalize γ 8=b5
    refine TA_all (rs:=[9]) (by kernel_rfl) rfl ?_
    refine ⟨?_,trivial⟩
    refine TO_n (is:=[]) (done':=dn 10 1023) rfl rfl rfl (by kernel_rfl) (E_sv (vs:=e64 r_12.toList) 0 inf57) (fun _ _=>rfl) (fun _=>?_)
    refine TA_done (by kernel_rfl) ?_ 0
    refine TX_next (TC_seq (TC_region (TLv (V_lag (.o 1) isAgg57 inf57) ?_)))
    refine TLv (V_lag (.o 0) isAgg57 inf57) ?_
    refine TVm ?_
    obtain ⟨r_13,hr_13,H⟩:=bind_elim H
    refine TLe (E_c0 (F70_calls r_9 r_12 public_ r_13 hr_13) call70 .z) (fun g_14=>?_)
    refine TVm ?_
    refine TLv V_ex ?_
    refine TLv V_ex ?_
    refine TLe (E_al64 4 inf57 zer57) (fun b6=>?_)
    refine TLn (E_sv (vs:=e64 r_13.1.toList) 0 inf57) (fun _=>?_)
    refine TVa ?_
    refine TL_nil (TX_next (TC_seq (TC_seq (TC_em (!r_13.2) (fun hg9_3=>?_) (fun hg9_3=>?_)))))
    ·replace H:=ite_t hg9_3 H
     refine TA_begin [⟨some (b6,0),e64 r_13.1.toList⟩,⟨some (b5,0),e64 r_12.toList⟩,⟨some (b4,0),e64 r_9.toList⟩,⟨some (b3,0),e64 r_4.toList⟩,⟨some (g_3.2,0),e64 r_2.1.toList⟩,⟨some (g_3.2,4),[v64 r_2.2.1]⟩,⟨some (g_3.2,5),e64 r_2.2.2.1.toList⟩,⟨some (g_3.2,9),e64 r_2.2.2.2.toList⟩,⟨some (b1,0),e64 r_1.1.toList⟩,⟨some (b2,0),e64 r_1.2.1.toList⟩] 9 (by kernel_rfl) (N:=9) rfl ?_
     refine TA_tk 0 [0,0,0,0,0,0,0,0,0,0] (dn 9 1) rfl rfl (V_move rfl) ?_
     refine TA_tk 1 [0,0,0,0,0,0,0,0,0,0] (dn 9 3) rfl rfl (V_un rfl (fun w=>notB w r_13.2)) ?_
     refine TA_tk 2 [0,0,0,0,0,0,0,0,0,0] (dn 9 7) rfl rfl (V_move rfl) ?_
     refine TA_re (d:=67) (v:=vb (!r_13.2)) (v':=vb true) rfl (congrArg vb hg9_3) ?_
     refine TA_ts 3 [0,0,0,0,0,0,0,0,0,0] (dn 9 15) rfl rfl ?_
     refine TA_ts 4 [0,0,0,0,0,0,0,0,0,0] (dn 9 31) rfl rfl ?_
     refine TA_ts 5 [0,0,0,0,0,0,0,0,0,0] (dn 9 63) rfl rfl ?_
     refine TA_ts 6 [0,0,0,0,0,0,0,0,0,0] (dn 9 127) rfl rfl ?_
     refine TA_ts 7 [0,0,0,0,0,0,0,0,0,0] (dn 9 255) rfl rfl ?_
     refine TA_tk 8 [0,0,0,0,0,0,0,0,0,0] (dn 9 511) rfl rfl (V_pick (b:=true) rfl rfl) ?_
     refine TA_done (by kernel_rfl) ?_ 0
     refine TX_next (TC_cond_t rfl ?_)
     refine TC_seq (TC_region (TVa ?_))
     refine TL_nil (TX_next (TC_ret (TX_then_ret ?_)))
     obtain rfl:=sj H
     exact TX1
    ·replace H:=ite_f (Bool.eq_false_iff.1 hg9_3) H
     obtain ⟨r_14,hr_14,H⟩:=bind_elim H
     refine TA_begin [⟨some (b6,0),e64 r_13.1.toList⟩,⟨some (b5,0),e64 r_12.toList⟩,⟨some (b4,0),e64 r_9.toList⟩,⟨some (b3,0),e64 r_4.toList⟩,⟨some (g_3.2,0),e64 r_2.1.toList⟩,⟨some (g_3.2,4),[v64 r_2.2.1]⟩,⟨some (g_3.2,5),e64 r_2.2.2.1.toList⟩,⟨some (g_3.2,9),e64 r_2.2.2.2.toList⟩,⟨some (b1,0),e64 r_1.1.toList⟩,⟨some (b2,0),e64 r_1.2.1.toList⟩] 9 (by kernel_rfl) (N:=9) rfl ?_
     refine TA_tk 0 [0,0,0,0,0,0,0,0,0,0] (dn 9 1) rfl rfl (V_move rfl) ?_
     refine TA_tk 1 [0,0,0,0,0,0,0,0,0,0] (dn 9 3) rfl rfl (V_un rfl (fun w=>notB w r_13.2)) ?_
     refine TA_tk 2 [0,0,0,0,0,0,0,0,0,0] (dn 9 7) rfl rfl (V_move rfl) ?_
     refine TA_re (d:=67) (v:=vb (!r_13.2)) (v':=vb false) rfl (congrArg vb hg9_3) ?_
     refine TA_tw 3 [0,0,0,0,0,0,0,0,0,0] (dn 9 15) rfl rfl (V_move rfl) ?_
     refine TA_tw 4 [0,0,0,0,0,0,0,0,0,0] (dn 9 31) rfl rfl (V_lag (.o 0) isAgg57 inf57) ?_
     refine TA_tw 6 [0,0,0,0,0,0,0,0,0,0] (dn 9 95) rfl rfl (V_lag (.o 8) isAgg57 inf57) ?_
     refine TA_all (rs:=[5]) (by kernel_rfl) rfl ?_
     refine ⟨?_,trivial⟩
     refine TO_eW (is:=[0,0,0,0,0,0,0,0,0,0]) (done':=dn 9 127) rfl rfl rfl rfl rfl rfl rfl (by kernel_rfl) (E_c0 (F54_calls g_3.2 0 r_2.1 r_2.2.1 r_2.2.2.1 r_2.2.2.2 r_13.1 r_14 hr_14) call54 ⟨.o 4, .o 5, .o 6, .o 7,trivial⟩) (fun _ _=>rfl) (fun g_15=>?_)
     refine TA_tw 7 [0,0,0,0,0,0,0,0,0,0] (dn 9 255) rfl rfl (V_bin rfl rfl (fun w=>neqA w underlying57 underlying55 (by kernel_rfl) (by kernel_rfl) r_14 r_1.1)) ?_
     refine TA_tk 8 [0,0,0,0,0,0,0,0,0,0] (dn 9 511) rfl rfl (V_pick (b:=false) rfl rfl) ?_
     refine TA_done (by kernel_rfl) ?_ 0
     refine TX_next (TCd H (fun hc H=>?_) (fun hc H=>?_))
     ·refine TC_seq (TC_region (TVa ?_))
      refine TL_nil (TX_next (TC_ret (TX_then_ret ?_)))
      obtain rfl:=sj H
      exact TX1
     ·refine TC_skip (TX_next (TC_seq (TC_region (TVa ?_))))
      refine TL_nil (TX_next (TC_ret ?_))
      obtain rfl:=sj H
      exact TX1
 ·intro hJ
  replace H:=Hj
  refine TFb (d:=23) H (fun hc H=>?_) (fun hc H=>?_)
  ·refine TLs ?_
   refine TLs ?_
   refine TLs ?_
   refine TVt ?_
   refine TVm ?_
   refine TLs ?_
   refine TLs ?_
   refine TLs ?_
   refine TVt ?_
   refine TL_nil ?_
   obtain rfl:=sj H
   exact TXj [1,0] (hJ ())
  ·refine TLw (V_move rfl) ?_
   refine TLw (V_len_str rfl underlying9) ?_
   refine TLw (V_bin rfl rfl (fun w=>neqI w ((digest).length:Int) 32)) ?_
   refine TVf ?_
   refine TVm ?_
   refine TFd (d:=28) H (fun hc H=>?_) (fun hc H=>?_)
   ·refine TLs ?_
    refine TLs ?_
    refine TLs ?_
    refine TVt ?_
    refine TL_nil ?_
    obtain rfl:=sj H
    exact TXj [1,0] (hJ ())
   ·refine TLw (V_move rfl) ?_
    obtain ⟨r_15,hr_15,H⟩:=bind_elim H
    refine TLu (E_c0 (F21_calls public_ r_15 hr_15) call21 .z) (fun g_16=>?_)
    refine TLw (V_un rfl (fun w=>notB w r_15)) ?_
    refine TVf ?_
    refine TL_nil ?_
    obtain rfl:=sj H
    exact TXj [1,0] (hJ ())
end Go.Proofs
end

section
namespace Go.Proofs
open Go Go.Kx
open Vector (replicate)
open TryI Try
def ecdsa_Sign (key:Str) (nonce:Str) (digest:Str):Option (Str × Int) :=
 (pcurve_Scalar key).bind fun (r_1:Vx 64 4 × Bool)=>((pcurve_Scalar nonce).bind fun (r_2:Vx 64 4 × Bool)=>((if (!r_1.2)=true then (some true) else (if (!r_2.2)=true then (some true) else (some (decide (((digest).length:Int) ≠ 32))))).bind fun (j1:Bool)=>(if j1=true then (some (([]:Str),1200)) else ((num_New 1).bind fun (r_3:(Unit) ⊕ (Vx 64 4 × BitVec 64 × Vx 64 4 × Vx 64 4))=>(match r_3 with | .inl r_3=>((pcurve_Public nonce).bind fun (r_4:Str × Int)=>(if 33≤(r_4.1).length then ((num_Load (sub r_4.1 1 33)).bind fun (r_5:Vx 64 4)=>(none)) else none)) | .inr r_3=>((pcurve_Public nonce).bind fun (r_6:Str × Int)=>(if 33≤(r_6.1).length then ((num_Load (sub r_6.1 1 33)).bind fun (r_7:Vx 64 4)=>((num_Field_Rest r_3.1 r_3.2.1 r_3.2.2.1 r_3.2.2.2 r_7).bind fun (r_8:Vx 64 4)=>((num_Load digest).bind fun (r_9:Vx 64 4)=>((num_Field_Rest r_3.1 r_3.2.1 r_3.2.2.1 r_3.2.2.2 r_9).bind fun (r_10:Vx 64 4)=>((num_Field_In r_3.1 r_3.2.1 r_3.2.2.1 r_3.2.2.2 r_10).bind fun (r_11:Vx 64 4)=>((num_Field_In r_3.1 r_3.2.1 r_3.2.2.1 r_3.2.2.2 r_8).bind fun (r_12:Vx 64 4)=>((num_Field_In r_3.1 r_3.2.1 r_3.2.2.1 r_3.2.2.2 r_1.1).bind fun (r_13:Vx 64 4)=>((num_Field_Mul r_3.1 r_3.2.1 r_3.2.2.1 r_3.2.2.2 r_12 r_13).bind fun (r_14:Vx 64 4)=>((num_Field_Add r_3.1 r_3.2.1 r_3.2.2.1 r_3.2.2.2 r_11 r_14).bind fun (r_15:Vx 64 4)=>((num_Field_In r_3.1 r_3.2.1 r_3.2.2.1 r_3.2.2.2 r_2.1).bind fun (r_16:Vx 64 4)=>((num_Field_Inv r_3.1 r_3.2.1 r_3.2.2.1 r_3.2.2.2 r_16).bind fun (r_17:Vx 64 4)=>((num_Field_Mul r_3.1 r_3.2.1 r_3.2.2.1 r_3.2.2.2 r_15 r_17).bind fun (r_18:Vx 64 4)=>((num_Field_Out r_3.1 r_3.2.1 r_3.2.2.1 r_3.2.2.2 r_18).bind fun (r_19:Vx 64 4)=>((num_Nat_Zero r_8).bind fun (r_20:Bool)=>((if r_20=true then (some true) else ((num_Nat_Zero r_19).bind fun (r_26:Bool)=>(some r_26))).bind fun (j2:Bool)=>(if j2=true then (some (([]:Str),1201)) else ((num_Nat_Bytes r_8).bind fun (r_21:Str)=>((der_Integer r_21).bind fun (r_22:Str × Int)=>((num_Nat_Bytes r_19).bind fun (r_23:Str)=>((der_Integer r_23).bind fun (r_24:Str × Int)=>(if (([r_22.1,r_24.1]:List (Str))).length=2 then ((der_Put 48 ([r_22.1,r_24.1]:List (Str))).bind fun (r_25:Str × Int)=>(some (r_25.1,0))) else none))))))))))))))))))))) else none)))))))
set_option maxHeartbeats 4000000 in
set_option maxRecDepth 20000 in
theorem F25_calls (key:Str) (nonce:Str) (digest:Str) (r:Str × Int) (H:ecdsa_Sign key nonce digest=some r) :
  Does Try.prog 25 [vs key,vs nonce,vs digest] [] [] (Γ:=Unit) (fun g=>Value.tuple [vs r.1,vi r.2].toArray) (fun g=>[]):=by
 intro w hmem hro hd
 refine calls_of (N:=108) (m0:=[(0,vs key),(1,vs nonce),(2,vs digest)]) func25 rfl ntmps25 (argM_ok [vs key,vs nonce,vs digest]) rfl hmem hro hd ?_
 unfold ecdsa_Sign at H
 refine TC_seq (TC_region (TVa ?_))
 refine TVa ?_
 refine TL_nil (TX_next (TC_seq (TC_region (TVm ?_))))
 obtain ⟨r_1,hr_1,H⟩:=bind_elim H
 refine TLe (E_c0 (F32_calls key r_1 hr_1) call32 .z) (fun g_1=>?_)
 refine TVm ?_
 refine TLv V_ex ?_
 refine TLv V_ex ?_
 refine TLe (E_al64 4 inf57 zer57) (fun b1=>?_)
 refine TLn (E_sv (vs:=e64 r_1.1.toList) 0 inf57) (fun _=>?_)
 refine TVa ?_
 refine TL_nil (TX_next (TC_seq (TC_region (TVm ?_))))
 obtain ⟨r_2,hr_2,H⟩:=bind_elim H
 refine TLe (E_c0 (F32_calls nonce r_2 hr_2) call32 .z) (fun g_2=>?_)
 refine TVm ?_
 refine TLv V_ex ?_
 refine TLv V_ex ?_
 refine TLe (E_al64 4 inf57 zer57) (fun b2=>?_)
 refine TLn (E_sv (vs:=e64 r_2.1.toList) 0 inf57) (fun _=>?_)
 refine TVa ?_
 refine TL_nil (TX_next (TC_seq (TC_seq (TC_region (TVm ?_)))))
 refine TLv (V_un rfl (fun w=>notB w r_1.2)) ?_
 refine TVm ?_
 obtain ⟨j1,Hj,H⟩:=bind_elim H
 refine TL_join (Γ:=Unit) (fun gj1=>[(1,vs nonce),(2,vs digest),(8,ptr (some (b1,0)) 0),(10,ptr (some (b2,0)) 0),(44,vb j1)]) (fun gj1=>[⟨some (b1,0),e64 r_1.1.toList⟩,⟨some (b2,0),e64 r_2.1.toList⟩]) ?_ ?_
 ·intro gj1
  refine TX_next (TCb H (fun hc H=>?_) (fun hc H=>?_))
  ·refine TC_seq (TC_region (TVa ?_))
   refine TVa ?_
   refine TL_nil (TX_next (TC_ret (TX_then_ret ?_)))
   obtain rfl:=sj H
   exact TX2
  ·refine TC_skip (TX_next (TC_seq (TC_region ?_)))
   obtain ⟨r_3,hr_3,H⟩:=bind_elim H
   rcases r_3 with r_3 | r_3
   ·dsimp only at H
    refine TL_e rfl rfl rfl (E_call (Γ:=Unit × Nat) (val:=fun g=>Value.pointer none) (mem:=fun g=>[]) (vs:=[vi 1]) (Lin:=[]) (Ro:=[]) (is:=[]) rfl call53 (F53_calls 1 (.inl r_3) hr_3) rfl trivial) (fun g_3=>?_)
    refine TVa ?_
    refine TL_nil (TX_next (TC_seq (TC_region (TVm ?_))))
    obtain ⟨r_4,hr_4,H⟩:=bind_elim H
    refine TLe (E_c0 (F13_calls nonce r_4 hr_4) call13 .z) (fun g_4=>?_)
    refine TVm ?_
    refine TLv V_ex ?_
    refine TLv V_ex ?_
    refine TVa ?_
    refine TVa ?_
    refine TL_nil (TX_next (TC_seq (TC_region (TVm ?_))))
    refine TVm ?_
    obtain ⟨h1,H⟩:=if_elim H
    refine TLv (V_sliceStr (l:=1) (h:=33) rfl underlying9 (Bnd.some' (i:=1) rfl (by decide)) (Bnd.some' (i:=33) rfl (by decide)) (by decide) h1) ?_
    obtain ⟨r_5,hr_5,H⟩:=bind_elim H
    refine TLe (E_c0 (F55_calls (sub r_4.1 1 33) r_5 hr_5) call55 .z) (fun g_5=>?_)
    exact absurd (show (none:Option _)=some _ from H) (fun h=>by cases h)
   ·dsimp only at H
    refine TL_e rfl rfl rfl (E_call (Γ:=Unit × Nat) (val:=fun g=>ptr (some (g.2,0)) 0) (mem:=fun g=>[⟨some (g.2,0),e64 r_3.1.toList⟩,⟨some (g.2,4),[v64 r_3.2.1]⟩,⟨some (g.2,5),e64 r_3.2.2.1.toList⟩,⟨some (g.2,9),e64 r_3.2.2.2.toList⟩]) (vs:=[vi 1]) (Lin:=[]) (Ro:=[]) (is:=[]) rfl call53 (F53_calls 1 (.inr r_3) hr_3) rfl trivial) (fun g_6=>?_)
    refine TVa ?_
    refine TL_nil (TX_next (TC_seq (TC_region (TVm ?_))))
    obtain ⟨r_6,hr_6,H⟩:=bind_elim H
    refine TLe (E_c0 (F13_calls nonce r_6 hr_6) call13 .z) (fun g_7=>?_)
    refine TVm ?_
    refine TLv V_ex ?_
    refine TLv V_ex ?_
    refine TVa ?_
    refine TVa ?_
    refine TL_nil (TX_next (TC_seq (TC_region (TVm ?_))))
    refine TVm ?_
    obtain ⟨h2,H⟩:=if_elim H
    refine TLv (V_sliceStr (l:=1) (h:=33) rfl underlying9 (Bnd.some' (i:=1) rfl (by decide)) (Bnd.some' (i:=33) rfl (by decide)) (by decide) h2) ?_
    obtain ⟨r_7,hr_7,H⟩:=bind_elim H
    refine TLe (E_c0 (F55_calls (sub r_6.1 1 33) r_7 hr_7) call55 .z) (fun g_8=>?_)
    obtain ⟨r_8,hr_8,H⟩:=bind_elim H
    refine TLe (E_c0 (F54_calls g_6.2 0 r_3.1 r_3.2.1 r_3.2.2.1 r_3.2.2.2 r_7 r_8 hr_8) call54 ⟨.o 0, .o 1, .o 2, .o 3,trivial⟩) (fun g_9=>?_)
    refine TLe (E_al64 4 inf57 zer57) (fun b3=>?_)
    refine TLn (E_sv (vs:=e64 r_8.toList) 0 inf57) (fun _=>?_)
    refine TL_nil (TX_next (TC_seq (TC_region (TVm ?_))))
    refine TVm ?_
    refine TVm ?_
    obtain ⟨r_9,hr_9,H⟩:=bind_elim H
    refine TLe (E_c0 (F55_calls digest r_9 hr_9) call55 .z) (fun g_10=>?_)
    obtain ⟨r_10,hr_10,H⟩:=bind_elim H
    refine TLe (E_c0 (F54_calls g_6.2 0 r_3.1 r_3.2.1 r_3.2.2.1 r_3.2.2.2 r_9 r_10 hr_10) call54 ⟨.o 1, .o 2, .o 3, .o 4,trivial⟩) (fun g_11=>?_)
    obtain ⟨r_11,hr_11,H⟩:=bind_elim H
    refine TLe (E_c0 (F56_calls g_6.2 0 r_3.1 r_3.2.1 r_3.2.2.1 r_3.2.2.2 r_10 r_11 hr_11) call56 ⟨.o 1, .o 2, .o 3, .o 4,trivial⟩) (fun g_12=>?_)
    refine TLe (E_al64 4 inf57 zer57) (fun b4=>?_)
    refine TLn (E_sv (vs:=e64 r_11.toList) 0 inf57) (fun _=>?_)
    refine TL_nil (TX_next (TC.sub (m':=[(8,_),(10,_),(12,_),(15,_),(16,_)]) ⟨rfl,rfl,rfl,rfl,rfl,trivial⟩ ?_))
    refine TC.pull (is:=[6,6,2,2,2,2,1,0]) (L':=[_,_,_,_,_,_,_,_]) rfl ?_
    refine TC_seq ?_
    obtain ⟨r_12,hr_12,H⟩:=bind_elim H
    obtain ⟨r_13,hr_13,H⟩:=bind_elim H
    obtain ⟨r_14,hr_14,H⟩:=bind_elim H
    obtain ⟨r_15,hr_15,H⟩:=bind_elim H
    obtain ⟨r_16,hr_16,H⟩:=bind_elim H
    obtain ⟨r_17,hr_17,H⟩:=bind_elim H
    obtain ⟨r_18,hr_18,H⟩:=bind_elim H
    obtain ⟨r_19,hr_19,H⟩:=bind_elim H
    refine TA_begin [] 22 (by kernel_rfl) (N:=22) rfl ?_
    refine TA_mix (is:=[]) (done':=dn 22 2097151) [itV 0 62 (ptr (some (g_6.2,0)) 0) [],itV 1 63 (ptr (some (g_6.2,0)) 0) [],itV 2 64 (ptr (some (g_6.2,0)) 0) [],itV 3 65 (aG [(4,e64 r_11.toList)]) [],itV 4 66 (ptr (some (g_6.2,0)) 0) [],itV 5 67 (ptr (some (g_6.2,0)) 0) [],itV 6 68 (aG [(4,e64 r_8.toList)]) [],itV 7 69 (aG [(4,e64 r_12.toList)]) [5,6],itV 8 70 (ptr (some (g_6.2,0)) 0) [],itV 9 71 (aG [(4,e64 r_1.1.toList)]) [],itV 10 72 (aG [(4,e64 r_13.toList)]) [8,9],itV 11 73 (aG [(4,e64 r_14.toList)]) [10,4,7],itV 12 74 (aG [(4,e64 r_15.toList)]) [2,3,11],itV 13 75 (ptr (some (g_6.2,0)) 0) [],itV 14 76 (ptr (some (g_6.2,0)) 0) [],itV 15 77 (aG [(4,e64 r_2.1.toList)]) [],itV 16 78 (aG [(4,e64 r_16.toList)]) [14,15],itV 17 79 (aG [(4,e64 r_17.toList)]) [13,16],itV 18 80 (aG [(4,e64 r_18.toList)]) [12,17,1],itV 19 81 (aG [(4,e64 r_19.toList)]) [18,0],itA64 20 17 4] [] 1 (by kernel_rfl) (QP.then QP.body) (by kernel_rfl) rfl (.v rfl (V_move rfl) (.v rfl (V_move rfl) (.v rfl (V_move rfl) (.v rfl (V_lag (.o 7) isAgg57 inf57) (.v rfl (V_move rfl) (.v rfl (V_move rfl) (.v rfl (V_lag (.o 6) isAgg57 inf57) (.e rfl (E_cu (F56_calls g_6.2 0 r_3.1 r_3.2.1 r_3.2.2.1 r_3.2.2.2 r_8 r_12 hr_12) call56 ⟨.o 2, .o 3, .o 4, .o 5,trivial⟩) (.v rfl (V_move rfl) (.v rfl (V_lag (.o 0) isAgg57 inf57) (.e rfl (E_cu (F56_calls g_6.2 0 r_3.1 r_3.2.1 r_3.2.2.1 r_3.2.2.2 r_1.1 r_13 hr_13) call56 ⟨.o 2, .o 3, .o 4, .o 5,trivial⟩) (.e rfl (E_cu (F58_calls g_6.2 0 r_3.1 r_3.2.1 r_3.2.2.1 r_3.2.2.2 r_12 r_13 r_14 hr_14) call58 ⟨.o 2, .o 3, .o 4, .o 5,trivial⟩) (.e rfl (E_cu (F59_calls g_6.2 0 r_3.1 r_3.2.1 r_3.2.2.1 r_3.2.2.2 r_11 r_14 r_15 hr_15) call59 ⟨.o 2, .o 3, .o 4, .o 5,trivial⟩) (.v rfl (V_move rfl) (.v rfl (V_move rfl) (.v rfl (V_lag (.o 1) isAgg57 inf57) (.e rfl (E_cu (F56_calls g_6.2 0 r_3.1 r_3.2.1 r_3.2.2.1 r_3.2.2.2 r_2.1 r_16 hr_16) call56 ⟨.o 2, .o 3, .o 4, .o 5,trivial⟩) (.e rfl (E_cu (F60_calls g_6.2 0 r_3.1 r_3.2.1 r_3.2.2.1 r_3.2.2.2 r_16 r_17 hr_17) call60 ⟨.o 2, .o 3, .o 4, .o 5,trivial⟩) (.e rfl (E_cu (F58_calls g_6.2 0 r_3.1 r_3.2.1 r_3.2.2.1 r_3.2.2.2 r_15 r_17 r_18 hr_18) call58 ⟨.o 2, .o 3, .o 4, .o 5,trivial⟩) (.e rfl (E_cu (F57_calls g_6.2 0 r_3.1 r_3.2.1 r_3.2.2.1 r_3.2.2.2 r_18 r_19 hr_19) call57 ⟨.o 2, .o 3, .o 4, .o 5,trivial⟩) (.c rfl (fun _ _=>(E_al64 4 inf57 zer57)) .nil))))))))))))))))))))) .nil (by kernel_rfl) rfl (fun γ=>?_)
    refine TA_cut [(17,ptr (some ((γ 20),0)) 0),(81,aG [(4,e64 r_19.toList)]),(15,ptr (some (b3,0)) 0)] [⟨some ((γ 20),0),e64 ((replicate 4 0#64).toList)⟩,⟨some (b1,0),e64 r_1.1.toList⟩,⟨some (b2,0),e64 r_2.1.toList⟩,⟨some (g_6.2,0),e64 r_3.1.toList⟩,⟨some (g_6.2,4),[v64 r_3.2.1]⟩,⟨some (g_6.2,5),e64 r_3.2.2.1.toList⟩,⟨some (g_6.2,9),e64 r_3.2.2.2.toList⟩,⟨some (b3,0),e64 r_8.toList⟩,⟨some (b4,0),e64 r_11.toList⟩] ⟨rfl,rfl,rfl,trivial⟩ rfl ?_
    generalize γ 20=b5
    refine TA_all (rs:=[21]) (by kernel_rfl) rfl ?_
    refine ⟨?_,trivial⟩
    refine TO_n (is:=[]) (done':=dn 22 4194303) rfl rfl rfl (by kernel_rfl) (E_sv (vs:=e64 r_19.toList) 0 inf57) (fun _ _=>rfl) (fun _=>?_)
    refine TA_done (by kernel_rfl) ?_ 0
    refine TX_next (TC_seq (TC_seq (TC_region (TLv (V_lag (.o 7) isAgg57 inf57) ?_))))
    obtain ⟨r_20,hr_20,H⟩:=bind_elim H
    refine TLe (E_c0 (F43_calls r_8 r_20 hr_20) call43 .z) (fun g_21=>?_)
    refine TVm ?_
    obtain ⟨j2,Hj,H⟩:=bind_elim H
    refine TL_join (Γ:=Unit) (fun gj2=>[(15,ptr (some (b3,0)) 0),(17,ptr (some (b5,0)) 0),(87,vb j2)]) (fun gj2=>[⟨some (b3,0),e64 r_8.toList⟩,⟨some (b5,0),e64 r_19.toList⟩]) ?_ ?_
    ·intro gj2
     refine TX_next (TCb H (fun hc H=>?_) (fun hc H=>?_))
     ·refine TC_seq (TC_region (TVa ?_))
      refine TVa ?_
      refine TL_nil (TX_next (TC_ret (TX_then_ret ?_)))
      obtain rfl:=sj H
      exact TX2
     ·refine TC_skip (TX_next (TC_seq (TC_region (TLv (V_lag (.o 0) isAgg57 inf57) ?_))))
      obtain ⟨r_21,hr_21,H⟩:=bind_elim H
      refine TLe (E_c0 (F62_calls r_8 r_21 hr_21) call62 .z) (fun g_22=>?_)
      obtain ⟨r_22,hr_22,H⟩:=bind_elim H
      refine TLe (E_c0 (F61_calls r_21 r_22 hr_22) call61 .z) (fun g_23=>?_)
      refine TVm ?_
      refine TLv V_ex ?_
      refine TLv V_ex ?_
      refine TVa ?_
      refine TVa ?_
      refine TL_nil (TX_next (TC_seq (TC_region (TLv (V_lag (.o 1) isAgg57 inf57) ?_))))
      obtain ⟨r_23,hr_23,H⟩:=bind_elim H
      refine TLe (E_c0 (F62_calls r_19 r_23 hr_23) call62 .z) (fun g_24=>?_)
      obtain ⟨r_24,hr_24,H⟩:=bind_elim H
      refine TLe (E_c0 (F61_calls r_23 r_24 hr_24) call61 .z) (fun g_25=>?_)
      refine TVm ?_
      refine TLv V_ex ?_
      refine TLv V_ex ?_
      refine TVa ?_
      refine TVa ?_
      refine TL_nil (TX_next (TC_seq (TC_region (TVm ?_))))
      refine TVm ?_
      refine TLe (E_buildSlice (pv:=[(0,vs r_22.1),(1,vs r_24.1)]) rfl rfl underlying46 inf9 (s:=1) rfl zer9 rfl rfl rfl (cs:=eS ([r_22.1,r_24.1]:List (Str))) (by kernel_rfl)) (fun b6=>?_)
      obtain ⟨h3,H⟩:=if_elim H
      refine TL_re (d:=103) (v:=sl (some (b6,0)) 2 2) (v':=sl (some (b6,0)) ((([r_22.1,r_24.1]:List (Str))).length) ((([r_22.1,r_24.1]:List (Str))).length)) rfl (congrArg (fun n=>sl (some (b6,0)) n n) h3.symm) ?_
      obtain ⟨r_25,hr_25,H⟩:=bind_elim H
      refine TLe (E_c0 (F63_calls (some (b6,0)) ((([r_22.1,r_24.1]:List (Str))).length) 48 ([r_22.1,r_24.1]:List (Str)) (Nat.le_refl _) r_25 hr_25) call63 ⟨.o 0,trivial⟩) (fun g_26=>?_)
      refine TVm ?_
      refine TLv V_ex ?_
      refine TLv V_ex ?_
      refine TVa ?_
      refine TVa ?_
      refine TL_nil (TX_next (TC_seq (TC_region (TVm ?_))))
      refine TVa ?_
      refine TVa ?_
      refine TL_nil (TX_next (TC.sub (m':=[(6,_),(7,_)]) ⟨rfl,rfl,trivial⟩ ?_))
      refine TC.pull (is:=[]) (L':=[]) rfl ?_
      refine TC_ret ?_
      obtain rfl:=sj H
      exact TX2
    ·intro hJ
     replace H:=Hj
     refine TFb (d:=84) H (fun hc H=>?_) (fun hc H=>?_)
     ·refine TLs ?_
      refine TLs ?_
      refine TVt ?_
      refine TL_nil ?_
      obtain rfl:=sj H
      exact TXj [7,0] (hJ ())
     ·refine TLw (V_lag (.o 0) isAgg57 inf57) ?_
      obtain ⟨r_26,hr_26,H⟩:=bind_elim H
      refine TLu (E_c0 (F43_calls r_19 r_26 hr_26) call43 .z) (fun g_27=>?_)
      refine TVf ?_
      refine TL_nil ?_
      obtain rfl:=sj H
      exact TXj [7,0] (hJ ())
 ·intro hJ
  replace H:=Hj
  refine TFb (d:=36) H (fun hc H=>?_) (fun hc H=>?_)
  ·refine TLs ?_
   refine TLs ?_
   refine TVt ?_
   refine TVm ?_
   refine TLs ?_
   refine TLs ?_
   refine TLs ?_
   refine TVt ?_
   refine TL_nil ?_
   obtain rfl:=sj H
   exact TXj [1,0] (hJ ())
  ·refine TLw (V_move rfl) ?_
   refine TLw (V_un rfl (fun w=>notB w r_2.2)) ?_
   refine TVf ?_
   refine TVm ?_
   refine TFb (d:=40) H (fun hc H=>?_) (fun hc H=>?_)
   ·refine TLs ?_
    refine TLs ?_
    refine TLs ?_
    refine TVt ?_
    refine TL_nil ?_
    obtain rfl:=sj H
    exact TXj [1,0] (hJ ())
   ·refine TLw (V_move rfl) ?_
    refine TLw (V_len_str rfl underlying9) ?_
    refine TLw (V_bin rfl rfl (fun w=>neqI w ((digest).length:Int) 32)) ?_
    refine TVf ?_
    refine TL_nil ?_
    obtain rfl:=sj H
    exact TXj [1,0] (hJ ())
end Go.Proofs
end

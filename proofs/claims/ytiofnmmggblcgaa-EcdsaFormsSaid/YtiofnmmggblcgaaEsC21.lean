/-
  Part 21 of the proof of what several laws share.
-/
import Derived.Test.YtiofnmmggblcgaaEsC1
import Derived.Test.YtiofnmmggblcgaaEsC2
import Derived.Test.YtiofnmmggblcgaaEsC3
import Derived.Test.YtiofnmmggblcgaaEsC4
import Derived.Test.YtiofnmmggblcgaaEsC5
import Derived.Test.YtiofnmmggblcgaaEsC6
import Derived.Test.YtiofnmmggblcgaaEsC7
import Derived.Test.YtiofnmmggblcgaaEsC10
import Derived.Test.YtiofnmmggblcgaaEsC11
import Derived.Test.YtiofnmmggblcgaaEsC12
import Derived.Test.YtiofnmmggblcgaaEsC13
set_option linter.unusedVariables false
set_option linter.unusedSimpArgs false
section
namespace Go.Proofs
open Go Go.Kx
open Vector (replicate)
open TryI Try
def pcurve_newCurve:Option (Vx 64 4 × BitVec 64 × Vx 64 4 × Vx 64 4 × Vx 64 4) :=
 (num_New 0).bind fun (r_1:(Unit) ⊕ (Vx 64 4 × BitVec 64 × Vx 64 4 × Vx 64 4))=>(match r_1 with | .inl r_1=>(none) | .inr r_1=>((num_Field_In r_1.1 r_1.2.1 r_1.2.2.1 r_1.2.2.2 (#v[4309448131093880907#64,7285987128567378166#64,12964664127075681980#64,6540974713487397863#64]:Vx 64 4)).bind fun (r_2:Vx 64 4)=>(some (r_1.1,r_1.2.1,r_1.2.2.1,r_1.2.2.2,r_2))))
set_option maxHeartbeats 4000000 in
set_option maxRecDepth 20000 in
theorem F33_calls (r:Vx 64 4 × BitVec 64 × Vx 64 4 × Vx 64 4 × Vx 64 4) (H:pcurve_newCurve=some r) :
  Does Try.prog 33 [] [] [] (Γ:=Nat × Nat) (fun g=>ptr (some (g.1,0)) 0) (fun g=>[⟨some (g.1,0),[ptr (some (g.2,0)) 0]⟩,⟨some (g.2,0),e64 r.1.toList⟩,⟨some (g.2,4),[v64 r.2.1]⟩,⟨some (g.2,5),e64 r.2.2.1.toList⟩,⟨some (g.2,9),e64 r.2.2.2.1.toList⟩,⟨some (g.1,1),e64 r.2.2.2.2.toList⟩]):=by
 intro w hmem hro hd
 refine calls_of (N:=9) (m0:=[]) func33 rfl ntmps33 (argM_ok []) rfl hmem hro hd ?_
 unfold pcurve_newCurve at H
 refine TC_seq (TC_region (TVa ?_))
 refine TL_nil (TX_next (TC_seq (TC_region ?_)))
 obtain ⟨r_1,hr_1,H⟩:=bind_elim H
 rcases r_1 with r_1 | r_1
 ·dsimp only at H
  refine TL_e rfl rfl rfl (E_call (Γ:=Unit × Nat) (val:=fun g=>Value.pointer none) (mem:=fun g=>[]) (vs:=[vi 0]) (Lin:=[]) (Ro:=[]) (is:=[]) rfl call53 (F53_calls 0 (.inl r_1) hr_1) rfl trivial) (fun g_1=>?_)
  refine TVa ?_
  refine TL_nil (TX_next (TC_seq (TC_region (TVm ?_))))
  refine TVm ?_
  refine TLv (V_buildArr (pv:=[(0,v64 4309448131093880907#64),(1,v64 7285987128567378166#64),(2,v64 12964664127075681980#64),(3,v64 6540974713487397863#64)]) rfl rfl underlying57 inf57 inf55 rfl zer57 (cs:=e64 ((#v[4309448131093880907#64,7285987128567378166#64,12964664127075681980#64,6540974713487397863#64]:Vx 64 4).toList)) (by kernel_rfl)) ?_
  exact absurd (show (none:Option _)=some _ from H) (fun h=>by cases h)
 ·dsimp only at H
  refine TL_e rfl rfl rfl (E_call (Γ:=Unit × Nat) (val:=fun g=>ptr (some (g.2,0)) 0) (mem:=fun g=>[⟨some (g.2,0),e64 r_1.1.toList⟩,⟨some (g.2,4),[v64 r_1.2.1]⟩,⟨some (g.2,5),e64 r_1.2.2.1.toList⟩,⟨some (g.2,9),e64 r_1.2.2.2.toList⟩]) (vs:=[vi 0]) (Lin:=[]) (Ro:=[]) (is:=[]) rfl call53 (F53_calls 0 (.inr r_1) hr_1) rfl trivial) (fun g_2=>?_)
  refine TVa ?_
  refine TL_nil (TX_next (TC_seq (TC_region (TVm ?_))))
  refine TVm ?_
  refine TLv (V_buildArr (pv:=[(0,v64 4309448131093880907#64),(1,v64 7285987128567378166#64),(2,v64 12964664127075681980#64),(3,v64 6540974713487397863#64)]) rfl rfl underlying57 inf57 inf55 rfl zer57 (cs:=e64 ((#v[4309448131093880907#64,7285987128567378166#64,12964664127075681980#64,6540974713487397863#64]:Vx 64 4).toList)) (by kernel_rfl)) ?_
  obtain ⟨r_2,hr_2,H⟩:=bind_elim H
  refine TLe (E_c0 (F56_calls g_2.2 0 r_1.1 r_1.2.1 r_1.2.2.1 r_1.2.2.2 (#v[4309448131093880907#64,7285987128567378166#64,12964664127075681980#64,6540974713487397863#64]:Vx 64 4) r_2 hr_2) call56 ⟨.o 0, .o 1, .o 2, .o 3,trivial⟩) (fun g_3=>?_)
  refine TLv (V_buildStruct (pv:=[(0,ptr (some (g_2.2,0)) 0),(1,aG [(4,e64 r_2.toList)])]) (pl:=[(0,1),(1,4)]) rfl rfl underlying100 inf100 places100 zer100 (cs:=flat [(1,[ptr (some (g_2.2,0)) 0]),(4,e64 r_2.toList)]) (fill_part [] [(4,e64 ((replicate 4 0#64).toList))] rfl rfl trivial rfl rfl rfl (fill_part [(1,[ptr (some (g_2.2,0)) 0])] [] rfl rfl ⟨rfl,trivial⟩ rfl (lenV (f:=v64) (replicate 4 0#64)) (lenV (f:=v64) r_2) fill_end))) ?_
  refine TLe (E_boxP [(1,[ptr (some (g_2.2,0)) 0]),(4,e64 r_2.toList)] rfl rfl ⟨rfl,(lenV (f:=v64) r_2),trivial⟩) (fun b1=>?_)
  refine TVa ?_
  refine TL_nil (TX_next (TC_ret ?_))
  obtain rfl:=sj H
  exact TX_ret (rs:=[.tmp 0]) (vs:=[ptr (some (b1,0)) 0]) rfl ⟨rfl,trivial⟩ (fun w' hs'=>⟨(b1,g_2.2),rfl,Step.left (Step.pulled (is:=[0,1,1,1,1,0]) (A:=[⟨some (b1,0),[ptr (some (g_2.2,0)) 0]⟩,⟨some (g_2.2,0),e64 r_1.1.toList⟩,⟨some (g_2.2,4),[v64 r_1.2.1]⟩,⟨some (g_2.2,5),e64 r_1.2.2.1.toList⟩,⟨some (g_2.2,9),e64 r_1.2.2.2.toList⟩,⟨some (b1,1),e64 r_2.toList⟩]) hs' rfl)⟩)
end Go.Proofs
end

section
namespace Go.Proofs
open Go Go.Kx
open TryI Try
def num_Field_One (f_M:Vx 64 4) (f_inv:BitVec 64) (f_one:Vx 64 4) (f_two:Vx 64 4):Option (Vx 64 4) :=
 some f_one
set_option maxHeartbeats 4000000 in
set_option maxRecDepth 20000 in
theorem F75_calls (bf:Nat) (obf:Nat) (f_M:Vx 64 4) (f_inv:BitVec 64) (f_one:Vx 64 4) (f_two:Vx 64 4) (r:Vx 64 4) (H:num_Field_One f_M f_inv f_one f_two=some r) :
  Does Try.prog 75 [ptr (some (bf,obf)) 0] [] [⟨some (bf,obf),e64 f_M.toList⟩,⟨some (bf,obf+4),[v64 f_inv]⟩,⟨some (bf,obf+5),e64 f_one.toList⟩,⟨some (bf,obf+9),e64 f_two.toList⟩] (Γ:=Unit) (fun g=>aG [(4,e64 r.toList)]) (fun g=>[]):=by
 intro w hmem hro hd
 refine calls_of (N:=7) (m0:=[(0,ptr (some (bf,obf)) 0)]) func75 rfl ntmps75 (argM_ok [ptr (some (bf,obf)) 0]) rfl hmem hro hd ?_
 unfold num_Field_One at H
 refine TC_seq (TC_region (TLe (E_al64 4 inf57 zer57) (fun b1=>?_)))
 refine TL_nil (TX_next (TC_seq (TC_region (TVm ?_))))
 refine TLv (V_nilCheck rfl) ?_
 refine TLv (V_fieldE rfl underlying113 rfl rfl inf57 rfl (v:=ptr (some (bf,obf+5)) 0) rfl) ?_
 refine TLv (V_lag (.r 2) isAgg57 inf57) ?_
 refine TLn (E_sv (vs:=e64 f_one.toList) 0 inf57) (fun _=>?_)
 refine TL_nil (TX_next (TC_ret ?_))
 obtain rfl:=sj H
 exact TXr (vs:=[_]) rfl ⟨(Res_agg (n:=4) rfl (by simp) (.o 0) isAgg57 inf57 rfl (lenV (f:=v64) f_one)),trivial⟩
end Go.Proofs
end

section
namespace Go.Proofs
open Go Go.Kx
open Vector (replicate)
open TryI Try
def pcurve_curve_read (cM:Vx 64 4) (cI:BitVec 64) (cO:Vx 64 4) (cT:Vx 64 4) (c_b:Vx 64 4) (p:Str):Option (Vx 64 4 × Vx 64 4 × Vx 64 4 × Bool) :=
 (if ((p).length:Int) ≠ 65 then (some true) else (if 0≤(0:Int)∧(0:Int)<((p).length:Int) then (some (decide ((sg p 0) ≠ 4#8))) else none)).bind fun (j1:Bool)=>(if j1=true then (some (replicate 4 0#64,replicate 4 0#64,replicate 4 0#64,false)) else (if 33≤(p).length then ((num_Field_Read cM cI cO cT (sub p 1 33)).bind fun (r_1:Vx 64 4 × Bool)=>(if 33≤(p).length then ((num_Field_Read cM cI cO cT (sub p 33 ((p).length))).bind fun (r_2:Vx 64 4 × Bool)=>((if (!r_1.2)=true then (some true) else (some (!r_2.2))).bind fun (j2:Bool)=>(if j2=true then (some (replicate 4 0#64,replicate 4 0#64,replicate 4 0#64,false)) else ((num_Field_In cM cI cO cT r_1.1).bind fun (r_3:Vx 64 4)=>((num_Field_In cM cI cO cT r_2.1).bind fun (r_4:Vx 64 4)=>((num_Field_Add cM cI cO cT r_3 r_3).bind fun (r_5:Vx 64 4)=>((num_Field_Add cM cI cO cT r_3 r_5).bind fun (r_6:Vx 64 4)=>((num_Field_Mul cM cI cO cT r_3 r_3).bind fun (r_7:Vx 64 4)=>((num_Field_Mul cM cI cO cT r_3 r_7).bind fun (r_8:Vx 64 4)=>((num_Field_Sub cM cI cO cT r_8 r_6).bind fun (r_9:Vx 64 4)=>((num_Field_Add cM cI cO cT r_9 c_b).bind fun (r_10:Vx 64 4)=>((num_Field_One cM cI cO cT).bind fun (r_11:Vx 64 4)=>((num_Field_Mul cM cI cO cT r_4 r_4).bind fun (r_12:Vx 64 4)=>(ltt (decide (r_12=r_10)) fun (x1:Bool)=>(some (r_3,r_4,r_11,x1)))))))))))))))) else none)) else none))
set_option maxHeartbeats 4000000 in
set_option maxRecDepth 20000 in
theorem F41_calls (bc:Nat) (obc:Nat) (bF:Nat) (oF:Nat) (cM:Vx 64 4) (cI:BitVec 64) (cO:Vx 64 4) (cT:Vx 64 4) (c_b:Vx 64 4) (p:Str) (r:Vx 64 4 × Vx 64 4 × Vx 64 4 × Bool) (H:pcurve_curve_read cM cI cO cT c_b p=some r) :
  Does Try.prog 41 [ptr (some (bc,obc)) 0,vs p] [] [⟨some (bc,obc),[ptr (some (bF,oF)) 0]⟩,⟨some (bc,obc+1),e64 c_b.toList⟩,⟨some (bF,oF),e64 cM.toList⟩,⟨some (bF,oF+4),[v64 cI]⟩,⟨some (bF,oF+5),e64 cO.toList⟩,⟨some (bF,oF+9),e64 cT.toList⟩] (Γ:=Unit) (fun g=>Value.tuple [aG [(4,e64 r.1.toList),(4,e64 r.2.1.toList),(4,e64 r.2.2.1.toList)],vb r.2.2.2].toArray) (fun g=>[]):=by
 intro w hmem hro hd
 refine calls_of (N:=118) (m0:=[(0,ptr (some (bc,obc)) 0),(1,vs p)]) func41 rfl ntmps41 (argM_ok [ptr (some (bc,obc)) 0,vs p]) rfl hmem hro hd ?_
 unfold pcurve_curve_read at H
 refine TC_seq (TC_region (TLe (E_allocP [(4,e64 ((replicate 4 0#64).toList)),(4,e64 ((replicate 4 0#64).toList)),(4,e64 ((replicate 4 0#64).toList))] inf64 zer64 ⟨(lenV (f:=v64) (replicate 4 0#64)),(lenV (f:=v64) (replicate 4 0#64)),(lenV (f:=v64) (replicate 4 0#64)),trivial⟩) (fun b1=>?_)))
 refine TVa ?_
 refine TL_nil (TX_next (TC_seq (TC_seq (TC_region (TVm ?_)))))
 refine TLv (V_len_str rfl underlying9) ?_
 refine TLv (V_bin rfl rfl (fun w=>neqI w ((p).length:Int) 65)) ?_
 refine TVm ?_
 obtain ⟨j1,Hj,H⟩:=bind_elim H
 refine TL_join (Γ:=Unit) (fun gj1=>[(0,ptr (some (bc,obc)) 0),(1,vs p),(4,ptr (some (b1,0)) 0),(19,vb j1)]) (fun gj1=>[⟨some (b1,0),e64 ((replicate 4 0#64).toList)⟩,⟨some (b1,4),e64 ((replicate 4 0#64).toList)⟩,⟨some (b1,8),e64 ((replicate 4 0#64).toList)⟩]) ?_ ?_
 ·intro gj1
  refine TX_next (TCb H (fun hc H=>?_) (fun hc H=>?_))
  ·refine TC_seq (TC_region (TLv (V_buildStruct (pv:=[]) (pl:=[(0,4),(4,4),(8,4)]) rfl rfl underlying64 inf64 places64 zer64 (cs:=flat [(4,e64 ((replicate 4 0#64).toList)),(4,e64 ((replicate 4 0#64).toList)),(4,e64 ((replicate 4 0#64).toList))]) fill_end) ?_))
   refine TLn (E_sp (b:=b1) (o:=0) [0,0,0] [(4,e64 ((replicate 4 0#64).toList)),(4,e64 ((replicate 4 0#64).toList)),(4,e64 ((replicate 4 0#64).toList))] [(4,e64 ((replicate 4 0#64).toList)),(4,e64 ((replicate 4 0#64).toList)),(4,e64 ((replicate 4 0#64).toList))] rfl inf64 ⟨(lenV (f:=v64) (replicate 4 0#64)),(lenV (f:=v64) (replicate 4 0#64)),(lenV (f:=v64) (replicate 4 0#64)),trivial⟩ ⟨(lenV (f:=v64) (replicate 4 0#64)),(lenV (f:=v64) (replicate 4 0#64)),(lenV (f:=v64) (replicate 4 0#64)),trivial⟩ ⟨(OneC.map (fun _=>rfl) _),(OneC.map (fun _=>rfl) _),(OneC.map (fun _=>rfl) _),trivial⟩) (fun _=>?_)
   refine TVa ?_
   refine TL_nil (TX_next (TC_ret (TX_then_ret ?_)))
   obtain rfl:=sj H
   exact TXr (vs:=[_,_]) rfl ⟨(Res_agg (n:=12) (cs:=flat [(4,e64 ((replicate 4 0#64).toList)),(4,e64 ((replicate 4 0#64).toList)),(4,e64 ((replicate 4 0#64).toList))]) rfl (by simp) (SrcEnts (b:=b1) [(4,e64 ((replicate 4 0#64).toList)),(4,e64 ((replicate 4 0#64).toList)),(4,e64 ((replicate 4 0#64).toList))] 0 ⟨(lenV (f:=v64) (replicate 4 0#64)),(lenV (f:=v64) (replicate 4 0#64)),(lenV (f:=v64) (replicate 4 0#64)),trivial⟩ (AllSrc.all (M:=ents b1 0 [(4,e64 ((replicate 4 0#64).toList)),(4,e64 ((replicate 4 0#64).toList)),(4,e64 ((replicate 4 0#64).toList))]) ⟨Src.own (j:=0) rfl,Src.own (j:=1) rfl,Src.own (j:=2) rfl,trivial⟩)) isAgg64 inf64 rfl (by simp [flat])),rfl,trivial⟩
  ·refine TC_skip (TX_next (TC_seq ?_))
   obtain ⟨h1,H⟩:=if_elim H
   obtain ⟨r_1,hr_1,H⟩:=bind_elim H
   refine TA_begin [⟨some (b1,0),e64 ((replicate 4 0#64).toList)⟩,⟨some (b1,4),e64 ((replicate 4 0#64).toList)⟩,⟨some (b1,8),e64 ((replicate 4 0#64).toList)⟩] 12 (by kernel_rfl) (N:=13) rfl ?_
   refine TA_tk 0 [0,0,0] (dn 13 1) rfl rfl (V_move rfl) ?_
   refine TA_tk 1 [0,0,0] (dn 13 3) rfl rfl (V_nilCheck rfl) ?_
   refine TA_tk 2 [0,0,0] (dn 13 7) rfl rfl (V_fieldE rfl underlying100 rfl rfl inf82 rfl (v:=ptr (some (bc,obc)) 0) rfl) ?_
   refine TA_tk 3 [0,0,0] (dn 13 15) rfl rfl (V_load rfl (.r 0) rfl isAgg82) ?_
   refine TA_tk 4 [0,0,0] (dn 13 31) rfl rfl (V_move rfl) ?_
   refine TA_tk 5 [0,0,0] (dn 13 63) rfl rfl (V_sliceStr (l:=1) (h:=33) rfl underlying9 (Bnd.some' (i:=1) rfl (by decide)) (Bnd.some' (i:=33) rfl (by decide)) (by decide) h1) ?_
   refine TA_mix (is:=[0,0,0]) (done':=dn 13 2047) [itV 6 28 (Value.tuple [aG [(4,e64 r_1.1.toList)],vb r_1.2].toArray) [],itV 7 21 (Value.tuple [aG [(4,e64 r_1.1.toList)],vb r_1.2].toArray) [6],itV 8 29 (aG [(4,e64 r_1.1.toList)]) [7],itA64 10 6 4] [itV 9 30 (vb r_1.2) [7]] 2 (by kernel_rfl) (QP.then QP.body) (by kernel_rfl) rfl (.e rfl (E_cu (F73_calls bF oF cM cI cO cT (sub p 1 33) r_1 hr_1) call73 ⟨.r 2, .r 3, .r 4, .r 5,trivial⟩) (.v rfl (V_move rfl) (.v rfl V_ex (.c rfl (fun _ _=>(E_al64 4 inf57 zer57)) .nil)))) (.c rfl (fun _=>V_ex) .nil) (by kernel_rfl) rfl (fun γ=>?_)
   refine TA_cut [(30,vb r_1.2),(6,ptr (some ((γ 10),0)) 0),(29,aG [(4,e64 r_1.1.toList)]),(0,ptr (some (bc,obc)) 0),(1,vs p),(4,ptr (some (b1,0)) 0)] [⟨some ((γ 10),0),e64 ((replicate 4 0#64).toList)⟩,⟨some (b1,0),e64 ((replicate 4 0#64).toList)⟩,⟨some (b1,4),e64 ((replicate 4 0#64).toList)⟩,⟨some (b1,8),e64 ((replicate 4 0#64).toList)⟩] ⟨rfl,rfl,rfl,rfl,rfl,rfl,trivial⟩ rfl ?_
   generalize γ 10=b2
   refine TA_all (rs:=[11]) (by kernel_rfl) rfl ?_
   refine ⟨?_,trivial⟩
   refine TO_n (is:=[1,1,1]) (done':=dn 13 4095) rfl rfl rfl (by kernel_rfl) (E_sv (vs:=e64 r_1.1.toList) 0 inf57) (fun _ _=>rfl) (fun _=>?_)
   refine TA_all (rs:=[12]) (by kernel_rfl) rfl ?_
   refine ⟨?_,trivial⟩
   refine TO_v (is:=[]) (R:=[]) (done':=dn 13 8191) rfl rfl rfl rfl (by kernel_rfl) (V_assign rfl) (fun h=>by cases h) ?_
   refine TA_done (by kernel_rfl) ?_ 0
   refine TX_next (TC_seq ?_)
   obtain ⟨h2,H⟩:=if_elim H
   obtain ⟨r_2,hr_2,H⟩:=bind_elim H
   refine TA_begin [⟨some (b2,0),e64 r_1.1.toList⟩,⟨some (b1,0),e64 ((replicate 4 0#64).toList)⟩,⟨some (b1,4),e64 ((replicate 4 0#64).toList)⟩,⟨some (b1,8),e64 ((replicate 4 0#64).toList)⟩] 12 (by kernel_rfl) (N:=13) rfl ?_
   refine TA_tk 0 [0,0,0,0] (dn 13 1) rfl rfl (V_move rfl) ?_
   refine TA_tk 1 [0,0,0,0] (dn 13 3) rfl rfl (V_nilCheck rfl) ?_
   refine TA_tk 2 [0,0,0,0] (dn 13 7) rfl rfl (V_fieldE rfl underlying100 rfl rfl inf82 rfl (v:=ptr (some (bc,obc)) 0) rfl) ?_
   refine TA_tk 3 [0,0,0,0] (dn 13 15) rfl rfl (V_load rfl (.r 0) rfl isAgg82) ?_
   refine TA_tk 4 [0,0,0,0] (dn 13 31) rfl rfl (V_move rfl) ?_
   refine TA_tk 5 [0,0,0,0] (dn 13 63) rfl rfl (V_sliceStr (l:=33) (h:=(p).length) rfl underlying9 (Bnd.some' (i:=33) rfl (by decide)) Bnd.none' h2 (Nat.le_refl _)) ?_
   refine TA_mix (is:=[0,0,0,0]) (done':=dn 13 2047) [itV 6 38 (Value.tuple [aG [(4,e64 r_2.1.toList)],vb r_2.2].toArray) [],itV 7 31 (Value.tuple [aG [(4,e64 r_2.1.toList)],vb r_2.2].toArray) [6],itV 8 39 (aG [(4,e64 r_2.1.toList)]) [7],itA64 10 8 4] [itV 9 40 (vb r_2.2) [7]] 2 (by kernel_rfl) (QP.then QP.body) (by kernel_rfl) rfl (.e rfl (E_cu (F73_calls bF oF cM cI cO cT (sub p 33 ((p).length)) r_2 hr_2) call73 ⟨.r 2, .r 3, .r 4, .r 5,trivial⟩) (.v rfl (V_move rfl) (.v rfl V_ex (.c rfl (fun _ _=>(E_al64 4 inf57 zer57)) .nil)))) (.c rfl (fun _=>V_ex) .nil) (by kernel_rfl) rfl (fun γ=>?_)
   refine TA_cut [(40,vb r_2.2),(8,ptr (some ((γ 10),0)) 0),(39,aG [(4,e64 r_2.1.toList)]),(7,vb r_1.2),(6,ptr (some (b2,0)) 0),(0,ptr (some (bc,obc)) 0),(4,ptr (some (b1,0)) 0)] [⟨some ((γ 10),0),e64 ((replicate 4 0#64).toList)⟩,⟨some (b2,0),e64 r_1.1.toList⟩,⟨some (b1,0),e64 ((replicate 4 0#64).toList)⟩,⟨some (b1,4),e64 ((replicate 4 0#64).toList)⟩,⟨some (b1,8),e64 ((replicate 4 0#64).toList)⟩] ⟨rfl,rfl,rfl,rfl,rfl,rfl,rfl,trivial⟩ rfl ?_
   generalize γ 10=b3
   refine TA_all (rs:=[11]) (by kernel_rfl) rfl ?_
   refine ⟨?_,trivial⟩
   refine TO_n (is:=[1,1,1,1]) (done':=dn 13 4095) rfl rfl rfl (by kernel_rfl) (E_sv (vs:=e64 r_2.1.toList) 0 inf57) (fun _ _=>rfl) (fun _=>?_)
   refine TA_all (rs:=[12]) (by kernel_rfl) rfl ?_
   refine ⟨?_,trivial⟩
   refine TO_v (is:=[]) (R:=[]) (done':=dn 13 8191) rfl rfl rfl rfl (by kernel_rfl) (V_assign rfl) (fun h=>by cases h) ?_
   refine TA_done (by kernel_rfl) ?_ 0
   refine TX_next (TC_seq (TC_seq (TC_region (TVm ?_))))
   refine TLv (V_un rfl (fun w=>notB w r_1.2)) ?_
   refine TVm ?_
   obtain ⟨j2,Hj,H⟩:=bind_elim H
   refine TL_join (Γ:=Unit) (fun gj2=>[(0,ptr (some (bc,obc)) 0),(4,ptr (some (b1,0)) 0),(6,ptr (some (b2,0)) 0),(8,ptr (some (b3,0)) 0),(46,vb j2)]) (fun gj2=>[⟨some (b1,0),e64 ((replicate 4 0#64).toList)⟩,⟨some (b1,4),e64 ((replicate 4 0#64).toList)⟩,⟨some (b1,8),e64 ((replicate 4 0#64).toList)⟩,⟨some (b2,0),e64 r_1.1.toList⟩,⟨some (b3,0),e64 r_2.1.toList⟩]) ?_ ?_
   ·intro gj2
    refine TX_next (TCb H (fun hc H=>?_) (fun hc H=>?_))
    ·refine TC_seq (TC_region (TLv (V_buildStruct (pv:=[]) (pl:=[(0,4),(4,4),(8,4)]) rfl rfl underlying64 inf64 places64 zer64 (cs:=flat [(4,e64 ((replicate 4 0#64).toList)),(4,e64 ((replicate 4 0#64).toList)),(4,e64 ((replicate 4 0#64).toList))]) fill_end) ?_))
     refine TLn (E_sp (b:=b1) (o:=0) [0,0,0] [(4,e64 ((replicate 4 0#64).toList)),(4,e64 ((replicate 4 0#64).toList)),(4,e64 ((replicate 4 0#64).toList))] [(4,e64 ((replicate 4 0#64).toList)),(4,e64 ((replicate 4 0#64).toList)),(4,e64 ((replicate 4 0#64).toList))] rfl inf64 ⟨(lenV (f:=v64) (replicate 4 0#64)),(lenV (f:=v64) (replicate 4 0#64)),(lenV (f:=v64) (replicate 4 0#64)),trivial⟩ ⟨(lenV (f:=v64) (replicate 4 0#64)),(lenV (f:=v64) (replicate 4 0#64)),(lenV (f:=v64) (replicate 4 0#64)),trivial⟩ ⟨(OneC.map (fun _=>rfl) _),(OneC.map (fun _=>rfl) _),(OneC.map (fun _=>rfl) _),trivial⟩) (fun _=>?_)
     refine TVa ?_
     refine TL_nil (TX_next (TC_ret (TX_then_ret ?_)))
     obtain rfl:=sj H
     exact TXr (vs:=[_,_]) rfl ⟨(Res_agg (n:=12) (cs:=flat [(4,e64 ((replicate 4 0#64).toList)),(4,e64 ((replicate 4 0#64).toList)),(4,e64 ((replicate 4 0#64).toList))]) rfl (by simp) (SrcEnts (b:=b1) [(4,e64 ((replicate 4 0#64).toList)),(4,e64 ((replicate 4 0#64).toList)),(4,e64 ((replicate 4 0#64).toList))] 0 ⟨(lenV (f:=v64) (replicate 4 0#64)),(lenV (f:=v64) (replicate 4 0#64)),(lenV (f:=v64) (replicate 4 0#64)),trivial⟩ (AllSrc.all (M:=ents b1 0 [(4,e64 ((replicate 4 0#64).toList)),(4,e64 ((replicate 4 0#64).toList)),(4,e64 ((replicate 4 0#64).toList))]) ⟨Src.own (j:=0) rfl,Src.own (j:=1) rfl,Src.own (j:=2) rfl,trivial⟩)) isAgg64 inf64 rfl (by simp [flat])),rfl,trivial⟩
    ·refine TC_skip (TX_next (TC_seq ?_))
     obtain ⟨r_3,hr_3,H⟩:=bind_elim H
     obtain ⟨r_4,hr_4,H⟩:=bind_elim H
     refine TA_begin [] 14 (by kernel_rfl) (N:=14) rfl ?_
     refine TA_mix (is:=[]) (done':=dn 14 4095) [itV 0 48 (ptr (some (bc,obc)) 0) [],itV 1 49 (ptr (some (bc,obc)) 0) [0],itV 2 50 (ptr (some (bc,obc)) 0) [1],itV 3 51 (ptr (some (bF,oF)) 0) [2],itV 4 52 (aG [(4,e64 r_1.1.toList)]) [],itV 5 53 (aG [(4,e64 r_3.toList)]) [3,4],itV 6 54 (ptr (some (bc,obc)) 0) [],itV 7 55 (ptr (some (bc,obc)) 0) [6],itV 8 56 (ptr (some (bc,obc)) 0) [7],itV 9 57 (ptr (some (bF,oF)) 0) [8],itV 10 58 (aG [(4,e64 r_2.1.toList)]) [],itV 11 59 (aG [(4,e64 r_4.toList)]) [9,10]] [] 2 (by kernel_rfl) (QP.then QP.body) (by kernel_rfl) rfl (.v rfl (V_move rfl) (.v rfl (V_nilCheck rfl) (.v rfl (V_fe underlying100 inf82) (.v rfl (V_load rfl (.r 0) rfl isAgg82) (.v rfl (V_lag (.o 3) isAgg57 inf57) (.e rfl (E_cu (F56_calls bF oF cM cI cO cT r_1.1 r_3 hr_3) call56 ⟨.r 2, .r 3, .r 4, .r 5,trivial⟩) (.v rfl (V_move rfl) (.v rfl (V_nilCheck rfl) (.v rfl (V_fe underlying100 inf82) (.v rfl (V_load rfl (.r 0) rfl isAgg82) (.v rfl (V_lag (.o 4) isAgg57 inf57) (.e rfl (E_cu (F56_calls bF oF cM cI cO cT r_2.1 r_4 hr_4) call56 ⟨.r 2, .r 3, .r 4, .r 5,trivial⟩) .nil)))))))))))) .nil (by kernel_rfl) rfl (fun γ=>?_)
     refine TA_cut [(59,aG [(4,e64 r_4.toList)]),(53,aG [(4,e64 r_3.toList)]),(0,ptr (some (bc,obc)) 0),(4,ptr (some (b1,0)) 0),(6,ptr (some (b2,0)) 0),(8,ptr (some (b3,0)) 0)] [⟨some (b1,0),e64 ((replicate 4 0#64).toList)⟩,⟨some (b1,4),e64 ((replicate 4 0#64).toList)⟩,⟨some (b1,8),e64 ((replicate 4 0#64).toList)⟩,⟨some (b2,0),e64 r_1.1.toList⟩,⟨some (b3,0),e64 r_2.1.toList⟩] ⟨rfl,rfl,rfl,rfl,rfl,rfl,trivial⟩ rfl ?_
     refine TA_all (rs:=[12]) (by kernel_rfl) rfl ?_
     refine ⟨?_,trivial⟩
     refine TO_n (is:=[]) (done':=dn 14 8191) rfl rfl rfl (by kernel_rfl) (E_sv (vs:=e64 r_3.toList) 3 inf57) (fun _ _=>rfl) (fun _=>?_)
     refine TA_all (rs:=[13]) (by kernel_rfl) rfl ?_
     refine ⟨?_,trivial⟩
     refine TO_n (is:=[]) (done':=dn 14 16383) rfl rfl rfl (by kernel_rfl) (E_sv (vs:=e64 r_4.toList) 4 inf57) (fun _ _=>rfl) (fun _=>?_)
     refine TA_done (by kernel_rfl) ?_ 0
     refine TX_next (TC_seq ?_)
     obtain ⟨r_5,hr_5,H⟩:=bind_elim H
     obtain ⟨r_6,hr_6,H⟩:=bind_elim H
     refine TA_begin [] 15 (by kernel_rfl) (N:=15) rfl ?_
     refine TA_mix (is:=[]) (done':=dn 15 16383) [itV 0 60 (ptr (some (bc,obc)) 0) [],itV 1 61 (ptr (some (bc,obc)) 0) [0],itV 2 62 (ptr (some (bc,obc)) 0) [1],itV 3 63 (ptr (some (bF,oF)) 0) [2],itV 4 64 (aG [(4,e64 r_3.toList)]) [],itV 5 65 (ptr (some (bc,obc)) 0) [],itV 6 66 (ptr (some (bc,obc)) 0) [5],itV 7 67 (ptr (some (bc,obc)) 0) [6],itV 8 68 (ptr (some (bF,oF)) 0) [7],itV 9 69 (aG [(4,e64 r_3.toList)]) [],itV 10 70 (aG [(4,e64 r_3.toList)]) [],itV 11 71 (aG [(4,e64 r_5.toList)]) [8,9,10],itV 12 72 (aG [(4,e64 r_6.toList)]) [4,11,3],itA64 13 10 4] [] 1 (by kernel_rfl) (QP.then QP.body) (by kernel_rfl) rfl (.v rfl (V_move rfl) (.v rfl (V_nilCheck rfl) (.v rfl (V_fe underlying100 inf82) (.v rfl (V_load rfl (.r 0) rfl isAgg82) (.v rfl (V_lag (.o 3) isAgg57 inf57) (.v rfl (V_move rfl) (.v rfl (V_nilCheck rfl) (.v rfl (V_fe underlying100 inf82) (.v rfl (V_load rfl (.r 0) rfl isAgg82) (.v rfl (V_lag (.o 3) isAgg57 inf57) (.v rfl (V_lag (.o 3) isAgg57 inf57) (.e rfl (E_cu (F59_calls bF oF cM cI cO cT r_3 r_3 r_5 hr_5) call59 ⟨.r 2, .r 3, .r 4, .r 5,trivial⟩) (.e rfl (E_cu (F59_calls bF oF cM cI cO cT r_3 r_5 r_6 hr_6) call59 ⟨.r 2, .r 3, .r 4, .r 5,trivial⟩) (.c rfl (fun _ _=>(E_al64 4 inf57 zer57)) .nil)))))))))))))) .nil (by kernel_rfl) rfl (fun γ=>?_)
     refine TA_cut [(10,ptr (some ((γ 13),0)) 0),(72,aG [(4,e64 r_6.toList)]),(0,ptr (some (bc,obc)) 0),(4,ptr (some (b1,0)) 0),(6,ptr (some (b2,0)) 0),(8,ptr (some (b3,0)) 0)] [⟨some ((γ 13),0),e64 ((replicate 4 0#64).toList)⟩,⟨some (b1,0),e64 ((replicate 4 0#64).toList)⟩,⟨some (b1,4),e64 ((replicate 4 0#64).toList)⟩,⟨some (b1,8),e64 ((replicate 4 0#64).toList)⟩,⟨some (b2,0),e64 r_3.toList⟩,⟨some (b3,0),e64 r_4.toList⟩] ⟨rfl,rfl,rfl,rfl,rfl,rfl,trivial⟩ rfl ?_
     generalize γ 13=b4
     refine TA_all (rs:=[14]) (by kernel_rfl) rfl ?_
     refine ⟨?_,trivial⟩
     refine TO_n (is:=[]) (done':=dn 15 32767) rfl rfl rfl (by kernel_rfl) (E_sv (vs:=e64 r_6.toList) 0 inf57) (fun _ _=>rfl) (fun _=>?_)
     refine TA_done (by kernel_rfl) ?_ 0
     refine TX_next (TC_seq ?_)
     obtain ⟨r_7,hr_7,H⟩:=bind_elim H
     obtain ⟨r_8,hr_8,H⟩:=bind_elim H
     obtain ⟨r_9,hr_9,H⟩:=bind_elim H
     obtain ⟨r_10,hr_10,H⟩:=bind_elim H
     refine TA_begin [] 30 (by kernel_rfl) (N:=30) rfl ?_
     refine TA_mix (is:=[]) (done':=dn 30 536870911) [itV 0 73 (ptr (some (bc,obc)) 0) [],itV 1 74 (ptr (some (bc,obc)) 0) [0],itV 2 75 (ptr (some (bc,obc)) 0) [1],itV 3 76 (ptr (some (bF,oF)) 0) [2],itV 4 77 (ptr (some (bc,obc)) 0) [],itV 5 78 (ptr (some (bc,obc)) 0) [4],itV 6 79 (ptr (some (bc,obc)) 0) [5],itV 7 80 (ptr (some (bF,oF)) 0) [6],itV 8 81 (ptr (some (bc,obc)) 0) [],itV 9 82 (ptr (some (bc,obc)) 0) [8],itV 10 83 (ptr (some (bc,obc)) 0) [9],itV 11 84 (ptr (some (bF,oF)) 0) [10],itV 12 85 (aG [(4,e64 r_3.toList)]) [],itV 13 86 (ptr (some (bc,obc)) 0) [],itV 14 87 (ptr (some (bc,obc)) 0) [13],itV 15 88 (ptr (some (bc,obc)) 0) [14],itV 16 89 (ptr (some (bF,oF)) 0) [15],itV 17 90 (aG [(4,e64 r_3.toList)]) [],itV 18 91 (aG [(4,e64 r_3.toList)]) [],itV 19 92 (aG [(4,e64 r_7.toList)]) [16,17,18],itV 20 93 (aG [(4,e64 r_8.toList)]) [11,12,19],itV 21 94 (aG [(4,e64 r_6.toList)]) [],itV 22 95 (aG [(4,e64 r_9.toList)]) [7,20,21],itV 23 96 (ptr (some (bc,obc)) 0) [],itV 24 97 (ptr (some (bc,obc)) 0) [23],itV 25 98 (ptr (some (bc,obc+1)) 0) [24],itV 26 99 (aG [(4,e64 c_b.toList)]) [25],itV 27 100 (aG [(4,e64 r_10.toList)]) [26,3,22],itA64 28 11 4] [] 1 (by kernel_rfl) (QP.then QP.body) (by kernel_rfl) rfl (.v rfl (V_move rfl) (.v rfl (V_nilCheck rfl) (.v rfl (V_fe underlying100 inf82) (.v rfl (V_load rfl (.r 0) rfl isAgg82) (.v rfl (V_move rfl) (.v rfl (V_nilCheck rfl) (.v rfl (V_fe underlying100 inf82) (.v rfl (V_load rfl (.r 0) rfl isAgg82) (.v rfl (V_move rfl) (.v rfl (V_nilCheck rfl) (.v rfl (V_fe underlying100 inf82) (.v rfl (V_load rfl (.r 0) rfl isAgg82) (.v rfl (V_lag (.o 4) isAgg57 inf57) (.v rfl (V_move rfl) (.v rfl (V_nilCheck rfl) (.v rfl (V_fe underlying100 inf82) (.v rfl (V_load rfl (.r 0) rfl isAgg82) (.v rfl (V_lag (.o 4) isAgg57 inf57) (.v rfl (V_lag (.o 4) isAgg57 inf57) (.e rfl (E_cu (F58_calls bF oF cM cI cO cT r_3 r_3 r_7 hr_7) call58 ⟨.r 2, .r 3, .r 4, .r 5,trivial⟩) (.e rfl (E_cu (F58_calls bF oF cM cI cO cT r_3 r_7 r_8 hr_8) call58 ⟨.r 2, .r 3, .r 4, .r 5,trivial⟩) (.v rfl (V_lag (.o 0) isAgg57 inf57) (.e rfl (E_cu (F77_calls bF oF cM cI cO cT r_8 r_6 r_9 hr_9) call77 ⟨.r 2, .r 3, .r 4, .r 5,trivial⟩) (.v rfl (V_move rfl) (.v rfl (V_nilCheck rfl) (.v rfl (V_fe underlying100 inf57) (.v rfl (V_lag (.r 1) isAgg57 inf57) (.e rfl (E_cu (F59_calls bF oF cM cI cO cT r_9 c_b r_10 hr_10) call59 ⟨.r 2, .r 3, .r 4, .r 5,trivial⟩) (.c rfl (fun _ _=>(E_al64 4 inf57 zer57)) .nil))))))))))))))))))))))))))))) .nil (by kernel_rfl) rfl (fun γ=>?_)
     refine TA_cut [(11,ptr (some ((γ 28),0)) 0),(100,aG [(4,e64 r_10.toList)]),(0,ptr (some (bc,obc)) 0),(4,ptr (some (b1,0)) 0),(6,ptr (some (b2,0)) 0),(8,ptr (some (b3,0)) 0)] [⟨some ((γ 28),0),e64 ((replicate 4 0#64).toList)⟩,⟨some (b4,0),e64 r_6.toList⟩,⟨some (b1,0),e64 ((replicate 4 0#64).toList)⟩,⟨some (b1,4),e64 ((replicate 4 0#64).toList)⟩,⟨some (b1,8),e64 ((replicate 4 0#64).toList)⟩,⟨some (b2,0),e64 r_3.toList⟩,⟨some (b3,0),e64 r_4.toList⟩] ⟨rfl,rfl,rfl,rfl,rfl,rfl,trivial⟩ rfl ?_
     generalize γ 28=b5
     refine TA_all (rs:=[29]) (by kernel_rfl) rfl ?_
     refine ⟨?_,trivial⟩
     refine TO_n (is:=[]) (done':=dn 30 1073741823) rfl rfl rfl (by kernel_rfl) (E_sv (vs:=e64 r_10.toList) 0 inf57) (fun _ _=>rfl) (fun _=>?_)
     refine TA_done (by kernel_rfl) ?_ 0
     refine TX_next (TC_seq ?_)
     obtain ⟨r_11,hr_11,H⟩:=bind_elim H
     obtain ⟨r_12,hr_12,H⟩:=bind_elim H
     obtain ⟨x1,hx1,H⟩:=ltt_elim H
     refine TA_begin [⟨some (b5,0),e64 r_10.toList⟩,⟨some (b4,0),e64 r_6.toList⟩,⟨some (b2,0),e64 r_3.toList⟩,⟨some (b3,0),e64 r_4.toList⟩] 18 (by kernel_rfl) (N:=19) rfl ?_
     refine TA_tk 0 [0,0,3,3] (dn 19 1) rfl rfl (V_lag (.o 2) isAgg57 inf57) ?_
     refine TA_tk 1 [0,0,3,3] (dn 19 3) rfl rfl (V_lag (.o 3) isAgg57 inf57) ?_
     refine TA_tk 2 [0,0,3,3] (dn 19 7) rfl rfl (V_move rfl) ?_
     refine TA_tk 3 [0,0,3,3] (dn 19 15) rfl rfl (V_nilCheck rfl) ?_
     refine TA_tk 4 [0,0,3,3] (dn 19 31) rfl rfl (V_fieldE rfl underlying100 rfl rfl inf82 rfl (v:=ptr (some (bc,obc)) 0) rfl) ?_
     refine TA_tk 5 [0,0,3,3] (dn 19 63) rfl rfl (V_load rfl (.r 0) rfl isAgg82) ?_
     refine TA_tk 8 [0,0,3,3] (dn 19 319) rfl rfl (V_move rfl) ?_
     refine TA_tk 9 [0,0,3,3] (dn 19 831) rfl rfl (V_nilCheck rfl) ?_
     refine TA_tk 10 [0,0,3,3] (dn 19 1855) rfl rfl (V_fieldE rfl underlying100 rfl rfl inf82 rfl (v:=ptr (some (bc,obc)) 0) rfl) ?_
     refine TA_tk 11 [0,0,3,3] (dn 19 3903) rfl rfl (V_load rfl (.r 0) rfl isAgg82) ?_
     refine TA_tk 12 [0,0,3,3] (dn 19 7999) rfl rfl (V_lag (.o 3) isAgg57 inf57) ?_
     refine TA_tk 13 [0,0,3,3] (dn 19 16191) rfl rfl (V_lag (.o 3) isAgg57 inf57) ?_
     refine TA_tk 15 [0,0,3,3] (dn 19 48959) rfl rfl (V_lag (.o 0) isAgg57 inf57) ?_
     refine TA_all (rs:=[6]) (by kernel_rfl) rfl ?_
     refine ⟨?_,trivial⟩
     refine TO_e (is:=[0,0,3,3]) (done':=dn 19 49023) rfl rfl rfl rfl (by kernel_rfl) (E_c0 (F75_calls bF oF cM cI cO cT r_11 hr_11) call75 ⟨.r 2, .r 3, .r 4, .r 5,trivial⟩) (fun _ _=>rfl) (fun g_11=>?_)
     refine TA_tk 7 [0,0,3,3] (dn 19 49151) rfl rfl (V_buildStruct (pv:=[(0,aG [(4,e64 r_3.toList)]),(1,aG [(4,e64 r_4.toList)]),(2,aG [(4,e64 r_11.toList)])]) (pl:=[(0,4),(4,4),(8,4)]) rfl rfl underlying64 inf64 places64 zer64 (cs:=flat [(4,e64 r_3.toList),(4,e64 r_4.toList),(4,e64 r_11.toList)]) (fill_part [] [(4,e64 ((replicate 4 0#64).toList)),(4,e64 ((replicate 4 0#64).toList))] rfl rfl trivial rfl (lenV (f:=v64) (replicate 4 0#64)) (lenV (f:=v64) r_3) (fill_part [(4,e64 r_3.toList)] [(4,e64 ((replicate 4 0#64).toList))] rfl rfl ⟨(lenV (f:=v64) r_3),trivial⟩ rfl (lenV (f:=v64) (replicate 4 0#64)) (lenV (f:=v64) r_4) (fill_part [(4,e64 r_3.toList),(4,e64 r_4.toList)] [] rfl rfl ⟨(lenV (f:=v64) r_3),(lenV (f:=v64) r_4),trivial⟩ rfl (lenV (f:=v64) (replicate 4 0#64)) (lenV (f:=v64) r_11) fill_end)))) ?_
     refine TA_all (rs:=[14]) (by kernel_rfl) rfl ?_
     refine ⟨?_,trivial⟩
     refine TO_e (is:=[0,0,3,3]) (done':=dn 19 65535) rfl rfl rfl rfl (by kernel_rfl) (E_c0 (F58_calls bF oF cM cI cO cT r_4 r_4 r_12 hr_12) call58 ⟨.r 2, .r 3, .r 4, .r 5,trivial⟩) (fun _ _=>rfl) (fun g_12=>?_)
     refine TA_tk 16 [0,0,3,3] (dn 19 131071) rfl rfl (V_bin rfl rfl (fun w=>eqlA w underlying57 underlying55 (by kernel_rfl) (by kernel_rfl) r_12 r_10)) ?_
     refine TA_all (rs:=[17]) (by kernel_rfl) rfl ?_
     refine ⟨?_,trivial⟩
     refine TO_n (is:=[3,3,3,3]) (done':=dn 19 262143) rfl rfl rfl (by kernel_rfl) (E_sp (b:=b1) (o:=0) [2,2,2] [(4,e64 ((replicate 4 0#64).toList)),(4,e64 ((replicate 4 0#64).toList)),(4,e64 ((replicate 4 0#64).toList))] [(4,e64 r_3.toList),(4,e64 r_4.toList),(4,e64 r_11.toList)] rfl inf64 ⟨(lenV (f:=v64) (replicate 4 0#64)),(lenV (f:=v64) (replicate 4 0#64)),(lenV (f:=v64) (replicate 4 0#64)),trivial⟩ ⟨(lenV (f:=v64) r_3),(lenV (f:=v64) r_4),(lenV (f:=v64) r_11),trivial⟩ ⟨(OneC.map (fun _=>rfl) _),(OneC.map (fun _=>rfl) _),(OneC.map (fun _=>rfl) _),trivial⟩) (fun _ _=>rfl) (fun _=>?_)
     refine TA_all (rs:=[18]) (by kernel_rfl) rfl ?_
     refine ⟨?_,trivial⟩
     refine TO_v (is:=[]) (R:=[]) (done':=dn 19 524287) rfl rfl rfl rfl (by kernel_rfl) (V_assign rfl) (fun h=>by cases h) ?_
     refine TA_re (d:=5) (v:=vb (decide (r_12=r_10))) (v':=vb x1) rfl (congrArg vb hx1) ?_
     refine TA_done (by kernel_rfl) ?_ 0
     refine TX_next (TC_ret ?_)
     obtain rfl:=sj H
     exact TXr (vs:=[_,_]) rfl ⟨(Res_agg (n:=12) (cs:=flat [(4,e64 r_3.toList),(4,e64 r_4.toList),(4,e64 r_11.toList)]) rfl (by simp) (SrcEnts (b:=b1) [(4,e64 r_3.toList),(4,e64 r_4.toList),(4,e64 r_11.toList)] 0 ⟨(lenV (f:=v64) r_3),(lenV (f:=v64) r_4),(lenV (f:=v64) r_11),trivial⟩ (AllSrc.all (M:=ents b1 0 [(4,e64 r_3.toList),(4,e64 r_4.toList),(4,e64 r_11.toList)]) ⟨Src.own (j:=0) rfl,Src.own (j:=1) rfl,Src.own (j:=2) rfl,trivial⟩)) isAgg64 inf64 rfl (by simp [flat])),rfl,trivial⟩
   ·intro hJ
    replace H:=Hj
    refine TFb (d:=43) H (fun hc H=>?_) (fun hc H=>?_)
    ·refine TLs ?_
     refine TLs ?_
     refine TVt ?_
     refine TL_nil ?_
     obtain rfl:=sj H
     exact TXj [2,2,2,1,0] (hJ ())
    ·refine TLw (V_move rfl) ?_
     refine TLw (V_un rfl (fun w=>notB w r_2.2)) ?_
     refine TVf ?_
     refine TL_nil ?_
     obtain rfl:=sj H
     exact TXj [2,2,2,1,0] (hJ ())
 ·intro hJ
  replace H:=Hj
  refine TFd (d:=15) H (fun hc H=>?_) (fun hc H=>?_)
  ·refine TLs ?_
   refine TLs ?_
   refine TLs ?_
   refine TVt ?_
   refine TL_nil ?_
   obtain rfl:=sj H
   exact TXj [0,0,0] (hJ ())
  ·refine TLw (V_move rfl) ?_
   obtain ⟨h3,H⟩:=if_elim H
   refine TLw (V_idxStr rfl rfl (i:=0) underlying9 h3.1 h3.2) ?_
   refine TLw (V_bin rfl rfl (fun w=>neq8 w (sg p 0) 4#8)) ?_
   refine TVf ?_
   refine TL_nil ?_
   obtain rfl:=sj H
   exact TXj [0,0,0] (hJ ())
end Go.Proofs
end

section
namespace Go.Proofs
open Go Go.Kx
open Vector (replicate)
open TryI Try
def pcurve_curve_write (cM:Vx 64 4) (cI:BitVec 64) (cO:Vx 64 4) (cT:Vx 64 4) (c_b:Vx 64 4) (p_x:Vx 64 4) (p_y:Vx 64 4) (p_z:Vx 64 4):Option (Str) :=
 (num_Field_Inv cM cI cO cT p_z).bind fun (r_1:Vx 64 4)=>((num_Field_Mul cM cI cO cT r_1 r_1).bind fun (r_2:Vx 64 4)=>((num_Field_Mul cM cI cO cT p_x r_2).bind fun (r_3:Vx 64 4)=>((num_Field_Out cM cI cO cT r_3).bind fun (r_4:Vx 64 4)=>((num_Field_Mul cM cI cO cT r_1 r_2).bind fun (r_5:Vx 64 4)=>((num_Field_Mul cM cI cO cT p_y r_5).bind fun (r_6:Vx 64 4)=>((num_Field_Out cM cI cO cT r_6).bind fun (r_7:Vx 64 4)=>(if (([4#8]:List (BitVec 8))).length=1 then ((num_Nat_Bytes r_4).bind fun (r_8:Str)=>(if (([4#8]:List (BitVec 8))).length+(r_8).length≤4611686018427387904 then ((num_Nat_Bytes r_7).bind fun (r_9:Str)=>(if (([4#8]:List (BitVec 8))++r_8).length+(r_9).length≤4611686018427387904 then (ltt ((([4#8]:List (BitVec 8))++r_8)++r_9) fun (x1:Str)=>(some x1)) else none)) else none)) else none)))))))
set_option maxHeartbeats 4000000 in
set_option maxRecDepth 20000 in
theorem F34_calls (bc:Nat) (obc:Nat) (bF:Nat) (oF:Nat) (cM:Vx 64 4) (cI:BitVec 64) (cO:Vx 64 4) (cT:Vx 64 4) (c_b:Vx 64 4) (p_x:Vx 64 4) (p_y:Vx 64 4) (p_z:Vx 64 4) (r:Str) (H:pcurve_curve_write cM cI cO cT c_b p_x p_y p_z=some r) :
  Does Try.prog 34 [ptr (some (bc,obc)) 0,aG [(4,e64 p_x.toList),(4,e64 p_y.toList),(4,e64 p_z.toList)]] [] [⟨some (bc,obc),[ptr (some (bF,oF)) 0]⟩,⟨some (bc,obc+1),e64 c_b.toList⟩,⟨some (bF,oF),e64 cM.toList⟩,⟨some (bF,oF+4),[v64 cI]⟩,⟨some (bF,oF+5),e64 cO.toList⟩,⟨some (bF,oF+9),e64 cT.toList⟩] (Γ:=Unit) (fun g=>vs r) (fun g=>[]):=by
 intro w hmem hro hd
 refine calls_of (N:=63) (m0:=[(0,ptr (some (bc,obc)) 0),(1,aG [(4,e64 p_x.toList),(4,e64 p_y.toList),(4,e64 p_z.toList)])]) func34 rfl ntmps34 (argM_ok [ptr (some (bc,obc)) 0,aG [(4,e64 p_x.toList),(4,e64 p_y.toList),(4,e64 p_z.toList)]]) rfl hmem hro hd ?_
 unfold pcurve_curve_write at H
 refine TC_seq (TC_region (TLe (E_boxP [(4,e64 p_x.toList),(4,e64 p_y.toList),(4,e64 p_z.toList)] rfl rfl ⟨(lenV (f:=v64) p_x),(lenV (f:=v64) p_y),(lenV (f:=v64) p_z),trivial⟩) (fun b1=>?_)))
 refine TVa ?_
 refine TL_nil (TX_next (TC_seq ?_))
 obtain ⟨r_1,hr_1,H⟩:=bind_elim H
 refine TA_begin [] 9 (by kernel_rfl) (N:=9) rfl ?_
 refine TA_mix (is:=[]) (done':=dn 9 255) [itV 0 9 (ptr (some (bc,obc)) 0) [],itV 1 10 (ptr (some (bc,obc)) 0) [0],itV 2 11 (ptr (some (bc,obc)) 0) [1],itV 3 12 (ptr (some (bF,oF)) 0) [2],itV 4 13 (ptr (some (b1,8)) 0) [],itV 5 14 (aG [(4,e64 p_z.toList)]) [4],itV 6 15 (aG [(4,e64 r_1.toList)]) [3,5],itA64 7 5 4] [] 1 (by kernel_rfl) (QP.then QP.body) (by kernel_rfl) rfl (.v rfl (V_move rfl) (.v rfl (V_nilCheck rfl) (.v rfl (V_fe underlying100 inf82) (.v rfl (V_load rfl (.r 0) rfl isAgg82) (.v rfl (V_fe underlying64 inf57) (.v rfl (V_lag (.o 2) isAgg57 inf57) (.e rfl (E_cu (F60_calls bF oF cM cI cO cT p_z r_1 hr_1) call60 ⟨.r 2, .r 3, .r 4, .r 5,trivial⟩) (.c rfl (fun _ _=>(E_al64 4 inf57 zer57)) .nil)))))))) .nil (by kernel_rfl) rfl (fun γ=>?_)
 refine TA_cut [(5,ptr (some ((γ 7),0)) 0),(15,aG [(4,e64 r_1.toList)]),(3,ptr (some (b1,0)) 0),(0,ptr (some (bc,obc)) 0)] [⟨some ((γ 7),0),e64 ((replicate 4 0#64).toList)⟩,⟨some (b1,0),e64 p_x.toList⟩,⟨some (b1,4),e64 p_y.toList⟩,⟨some (b1,8),e64 p_z.toList⟩] ⟨rfl,rfl,rfl,rfl,trivial⟩ rfl ?_
 generalize γ 7=b2
 refine TA_all (rs:=[8]) (by kernel_rfl) rfl ?_
 refine ⟨?_,trivial⟩
 refine TO_n (is:=[]) (done':=dn 9 511) rfl rfl rfl (by kernel_rfl) (E_sv (vs:=e64 r_1.toList) 0 inf57) (fun _ _=>rfl) (fun _=>?_)
 refine TA_done (by kernel_rfl) ?_ 0
 refine TX_next (TC_seq ?_)
 obtain ⟨r_2,hr_2,H⟩:=bind_elim H
 refine TA_begin [] 9 (by kernel_rfl) (N:=9) rfl ?_
 refine TA_mix (is:=[]) (done':=dn 9 255) [itV 0 16 (ptr (some (bc,obc)) 0) [],itV 1 17 (ptr (some (bc,obc)) 0) [0],itV 2 18 (ptr (some (bc,obc)) 0) [1],itV 3 19 (ptr (some (bF,oF)) 0) [2],itV 4 20 (aG [(4,e64 r_1.toList)]) [],itV 5 21 (aG [(4,e64 r_1.toList)]) [],itV 6 22 (aG [(4,e64 r_2.toList)]) [3,4,5],itA64 7 6 4] [] 1 (by kernel_rfl) (QP.then QP.body) (by kernel_rfl) rfl (.v rfl (V_move rfl) (.v rfl (V_nilCheck rfl) (.v rfl (V_fe underlying100 inf82) (.v rfl (V_load rfl (.r 0) rfl isAgg82) (.v rfl (V_lag (.o 0) isAgg57 inf57) (.v rfl (V_lag (.o 0) isAgg57 inf57) (.e rfl (E_cu (F58_calls bF oF cM cI cO cT r_1 r_1 r_2 hr_2) call58 ⟨.r 2, .r 3, .r 4, .r 5,trivial⟩) (.c rfl (fun _ _=>(E_al64 4 inf57 zer57)) .nil)))))))) .nil (by kernel_rfl) rfl (fun γ=>?_)
 refine TA_cut [(6,ptr (some ((γ 7),0)) 0),(22,aG [(4,e64 r_2.toList)]),(5,ptr (some (b2,0)) 0),(3,ptr (some (b1,0)) 0),(0,ptr (some (bc,obc)) 0)] [⟨some ((γ 7),0),e64 ((replicate 4 0#64).toList)⟩,⟨some (b2,0),e64 r_1.toList⟩,⟨some (b1,0),e64 p_x.toList⟩,⟨some (b1,4),e64 p_y.toList⟩,⟨some (b1,8),e64 p_z.toList⟩] ⟨rfl,rfl,rfl,rfl,rfl,trivial⟩ rfl ?_
 generalize γ 7=b3
 refine TA_all (rs:=[8]) (by kernel_rfl) rfl ?_
 refine ⟨?_,trivial⟩
 refine TO_n (is:=[]) (done':=dn 9 511) rfl rfl rfl (by kernel_rfl) (E_sv (vs:=e64 r_2.toList) 0 inf57) (fun _ _=>rfl) (fun _=>?_)
 refine TA_done (by kernel_rfl) ?_ 0
 refine TX_next (TC_seq ?_)
 obtain ⟨r_3,hr_3,H⟩:=bind_elim H
 obtain ⟨r_4,hr_4,H⟩:=bind_elim H
 obtain ⟨r_5,hr_5,H⟩:=bind_elim H
 obtain ⟨r_6,hr_6,H⟩:=bind_elim H
 obtain ⟨r_7,hr_7,H⟩:=bind_elim H
 refine TA_begin [] 36 (by kernel_rfl) (N:=36) rfl ?_
 refine TA_mix (is:=[]) (done':=dn 36 17179869183) [itV 0 23 (ptr (some (bc,obc)) 0) [],itV 1 24 (ptr (some (bc,obc)) 0) [0],itV 2 25 (ptr (some (bc,obc)) 0) [1],itV 3 26 (ptr (some (bF,oF)) 0) [2],itV 4 27 (ptr (some (bc,obc)) 0) [],itV 5 28 (ptr (some (bc,obc)) 0) [4],itV 6 29 (ptr (some (bc,obc)) 0) [5],itV 7 30 (ptr (some (bF,oF)) 0) [6],itV 8 31 (ptr (some (b1,0)) 0) [],itV 9 32 (aG [(4,e64 p_x.toList)]) [8],itV 10 33 (aG [(4,e64 r_2.toList)]) [],itV 11 34 (aG [(4,e64 r_3.toList)]) [9,10,7],itV 12 35 (aG [(4,e64 r_4.toList)]) [3,11],itV 13 36 (ptr (some (bc,obc)) 0) [],itV 14 37 (ptr (some (bc,obc)) 0) [13],itV 15 38 (ptr (some (bc,obc)) 0) [14],itV 16 39 (ptr (some (bF,oF)) 0) [15],itV 17 40 (ptr (some (bc,obc)) 0) [],itV 18 41 (ptr (some (bc,obc)) 0) [17],itV 19 42 (ptr (some (bc,obc)) 0) [18],itV 20 43 (ptr (some (bF,oF)) 0) [19],itV 21 44 (ptr (some (b1,4)) 0) [],itV 22 45 (aG [(4,e64 p_y.toList)]) [21],itV 23 46 (ptr (some (bc,obc)) 0) [],itV 24 47 (ptr (some (bc,obc)) 0) [23],itV 25 48 (ptr (some (bc,obc)) 0) [24],itV 26 49 (ptr (some (bF,oF)) 0) [25],itV 27 50 (aG [(4,e64 r_1.toList)]) [],itV 28 51 (aG [(4,e64 r_2.toList)]) [],itV 29 52 (aG [(4,e64 r_5.toList)]) [26,27,28],itV 30 53 (aG [(4,e64 r_6.toList)]) [20,29,22],itV 31 54 (aG [(4,e64 r_7.toList)]) [30,16],itA64 32 7 4,itA64 33 8 4] [] 2 (by kernel_rfl) (QP.then QP.body) (by kernel_rfl) rfl (.v rfl (V_move rfl) (.v rfl (V_nilCheck rfl) (.v rfl (V_fe underlying100 inf82) (.v rfl (V_load rfl (.r 0) rfl isAgg82) (.v rfl (V_move rfl) (.v rfl (V_nilCheck rfl) (.v rfl (V_fe underlying100 inf82) (.v rfl (V_load rfl (.r 0) rfl isAgg82) (.v rfl (V_fe underlying64 inf57) (.v rfl (V_lag (.o 2) isAgg57 inf57) (.v rfl (V_lag (.o 0) isAgg57 inf57) (.e rfl (E_cu (F58_calls bF oF cM cI cO cT p_x r_2 r_3 hr_3) call58 ⟨.r 2, .r 3, .r 4, .r 5,trivial⟩) (.e rfl (E_cu (F57_calls bF oF cM cI cO cT r_3 r_4 hr_4) call57 ⟨.r 2, .r 3, .r 4, .r 5,trivial⟩) (.v rfl (V_move rfl) (.v rfl (V_nilCheck rfl) (.v rfl (V_fe underlying100 inf82) (.v rfl (V_load rfl (.r 0) rfl isAgg82) (.v rfl (V_move rfl) (.v rfl (V_nilCheck rfl) (.v rfl (V_fe underlying100 inf82) (.v rfl (V_load rfl (.r 0) rfl isAgg82) (.v rfl (V_fe underlying64 inf57) (.v rfl (V_lag (.o 3) isAgg57 inf57) (.v rfl (V_move rfl) (.v rfl (V_nilCheck rfl) (.v rfl (V_fe underlying100 inf82) (.v rfl (V_load rfl (.r 0) rfl isAgg82) (.v rfl (V_lag (.o 1) isAgg57 inf57) (.v rfl (V_lag (.o 0) isAgg57 inf57) (.e rfl (E_cu (F58_calls bF oF cM cI cO cT r_1 r_2 r_5 hr_5) call58 ⟨.r 2, .r 3, .r 4, .r 5,trivial⟩) (.e rfl (E_cu (F58_calls bF oF cM cI cO cT p_y r_5 r_6 hr_6) call58 ⟨.r 2, .r 3, .r 4, .r 5,trivial⟩) (.e rfl (E_cu (F57_calls bF oF cM cI cO cT r_6 r_7 hr_7) call57 ⟨.r 2, .r 3, .r 4, .r 5,trivial⟩) (.c rfl (fun _ _=>(E_al64 4 inf57 zer57)) (.c rfl (fun _ _=>(E_al64 4 inf57 zer57)) .nil)))))))))))))))))))))))))))))))))) .nil (by kernel_rfl) rfl (fun γ=>?_)
 refine TA_cut [(8,ptr (some ((γ 33),0)) 0),(7,ptr (some ((γ 32),0)) 0),(54,aG [(4,e64 r_7.toList)]),(35,aG [(4,e64 r_4.toList)])] [⟨some ((γ 33),0),e64 ((replicate 4 0#64).toList)⟩,⟨some ((γ 32),0),e64 ((replicate 4 0#64).toList)⟩,⟨some (b3,0),e64 r_2.toList⟩,⟨some (b2,0),e64 r_1.toList⟩,⟨some (b1,0),e64 p_x.toList⟩,⟨some (b1,4),e64 p_y.toList⟩,⟨some (b1,8),e64 p_z.toList⟩] ⟨rfl,rfl,rfl,rfl,trivial⟩ rfl ?_
 generalize γ 32=b4
 generalize γ 33=b5
 refine TA_all (rs:=[34]) (by kernel_rfl) rfl ?_
 refine ⟨?_,trivial⟩
 refine TO_n (is:=[]) (done':=dn 36 34359738367) rfl rfl rfl (by kernel_rfl) (E_sv (vs:=e64 r_4.toList) 1 inf57) (fun _ _=>rfl) (fun _=>?_)
 refine TA_all (rs:=[35]) (by kernel_rfl) rfl ?_
 refine ⟨?_,trivial⟩
 refine TO_n (is:=[]) (done':=dn 36 68719476735) rfl rfl rfl (by kernel_rfl) (E_sv (vs:=e64 r_7.toList) 0 inf57) (fun _ _=>rfl) (fun _=>?_)
 refine TA_done (by kernel_rfl) ?_ 0
 refine TX_next (TC_seq ?_)
 obtain ⟨h1,H⟩:=if_elim H
 obtain ⟨r_8,hr_8,H⟩:=bind_elim H
 obtain ⟨h2,H⟩:=if_elim H
 obtain ⟨r_9,hr_9,H⟩:=bind_elim H
 obtain ⟨h3,H⟩:=if_elim H
 obtain ⟨x1,hx1,H⟩:=ltt_elim H
 refine TA_begin [] 9 (by kernel_rfl) (N:=9) rfl ?_
 refine TA_mix (is:=[]) (done':=dn 9 255) [⟨0,55,fun b6=>sl (some (b6,0)) 1 1,fun b6=>[⟨some (b6,0),e8 ([4#8]:List (BitVec 8))⟩],[],none⟩,⟨1,56,fun _=>vs ([4#8]:List (BitVec 8)),fun _=>[],[0],some 0⟩,itV 2 57 (aG [(4,e64 r_4.toList)]) [],itV 3 58 (vs r_8) [2],itV 4 59 (vs (([4#8]:List (BitVec 8))++r_8)) [1,3],itV 5 60 (aG [(4,e64 r_7.toList)]) [],itV 6 61 (vs r_9) [5],itV 7 62 (vs ((([4#8]:List (BitVec 8))++r_8)++r_9)) [4,6]] [] 1 (by kernel_rfl) (QP.then QP.body) (by kernel_rfl) rfl (.c rfl (fun _ _=>(E_buildSlice (pv:=[(0,v8 4#8)]) rfl rfl underlying42 inf5 (s:=1) rfl zer5 rfl rfl rfl (cs:=e8 ([4#8]:List (BitVec 8))) (by kernel_rfl))) (.c rfl (fun _ _=>OpE_v (V_b2s rfl underlying42 underlying5 underlying9 (.o 0) h1)) (.v rfl (V_lag (.o 1) isAgg57 inf57) (.e rfl (E_cu (F62_calls r_4 r_8 hr_8) call62 .z) (.v rfl (V_bin rfl rfl (fun w=>addS w ([4#8]:List (BitVec 8)) r_8 h2)) (.v rfl (V_lag (.o 0) isAgg57 inf57) (.e rfl (E_cu (F62_calls r_7 r_9 hr_9) call62 .z) (.v rfl (V_bin rfl rfl (fun w=>addS w (([4#8]:List (BitVec 8))++r_8) r_9 h3)) .nil)))))))) .nil (by kernel_rfl) rfl (fun γ=>?_)
 refine TA_cut [(62,vs ((([4#8]:List (BitVec 8))++r_8)++r_9))] [⟨some ((γ 0),0),e8 ([4#8]:List (BitVec 8))⟩,⟨some (b5,0),e64 r_7.toList⟩,⟨some (b4,0),e64 r_4.toList⟩,⟨some (b3,0),e64 r_2.toList⟩,⟨some (b2,0),e64 r_1.toList⟩,⟨some (b1,0),e64 p_x.toList⟩,⟨some (b1,4),e64 p_y.toList⟩,⟨some (b1,8),e64 p_z.toList⟩] ⟨rfl,trivial⟩ rfl ?_
 generalize γ 0=b6
 refine TA_all (rs:=[8]) (by kernel_rfl) rfl ?_
 refine ⟨?_,trivial⟩
 refine TO_v (is:=[]) (done':=dn 9 511) rfl rfl rfl rfl (by kernel_rfl) (V_assign rfl) (fun _=>rfl) ?_
 refine TA_re (d:=4) (v:=vs ((([4#8]:List (BitVec 8))++r_8)++r_9)) (v':=vs x1) rfl (congrArg vs hx1) ?_
 refine TA_done (by kernel_rfl) ?_ 0
 refine TX_next (TC_ret ?_)
 obtain rfl:=sj H
 exact TX1
end Go.Proofs
end

section
namespace Go.Proofs
open Go Go.Kx
open TryI Try
def pcurve_Scalar (k:Str):Option (Vx 64 4 × Bool) :=
 (num_New 1).bind fun (r_1:(Unit) ⊕ (Vx 64 4 × BitVec 64 × Vx 64 4 × Vx 64 4))=>(match r_1 with | .inl r_1=>((num_Field_Read_nil0 k).bind fun (r_2:Vx 64 4)=>(some (r_2,false))) | .inr r_1=>((num_Field_Read r_1.1 r_1.2.1 r_1.2.2.1 r_1.2.2.2 k).bind fun (r_3:Vx 64 4 × Bool)=>(if r_3.2=true then ((num_Nat_Zero r_3.1).bind fun (r_4:Bool)=>(some (r_3.1, !r_4))) else (some (r_3.1,false)))))
set_option maxHeartbeats 4000000 in
set_option maxRecDepth 20000 in
theorem F32_calls (k:Str) (r:Vx 64 4 × Bool) (H:pcurve_Scalar k=some r) :
  Does Try.prog 32 [vs k] [] [] (Γ:=Unit) (fun g=>Value.tuple [aG [(4,e64 r.1.toList)],vb r.2].toArray) (fun g=>[]):=by
 intro w hmem hro hd
 refine calls_of (N:=19) (m0:=[(0,vs k)]) func32 rfl ntmps32 (argM_ok [vs k]) rfl hmem hro hd ?_
 unfold pcurve_Scalar at H
 refine TC_seq (TC_region (TLe (E_al64 4 inf57 zer57) (fun b1=>?_)))
 refine TVa ?_
 refine TL_nil (TX_next (TC_seq (TC_region ?_)))
 obtain ⟨r_1,hr_1,H⟩:=bind_elim H
 rcases r_1 with r_1 | r_1
 ·dsimp only at H
  refine TL_e rfl rfl rfl (E_call (Γ:=Unit × Nat) (val:=fun g=>Value.pointer none) (mem:=fun g=>[]) (vs:=[vi 1]) (Lin:=[]) (Ro:=[]) (is:=[]) rfl call53 (F53_calls 1 (.inl r_1) hr_1) rfl trivial) (fun g_1=>?_)
  refine TVm ?_
  obtain ⟨r_2,hr_2,H⟩:=bind_elim H
  refine TLe (E_c0 (F73_nil0_calls k r_2 hr_2) call73 .z) (fun g_2=>?_)
  refine TVm ?_
  refine TLv V_ex ?_
  refine TLv V_ex ?_
  refine TLe (E_al64 4 inf57 zer57) (fun b2=>?_)
  refine TLn (E_sv (vs:=e64 r_2.toList) 0 inf57) (fun _=>?_)
  refine TVa ?_
  refine TL_nil (TX_next (TC_seq (TA_begin [⟨some (b2,0),e64 r_2.toList⟩] 8 (by kernel_rfl) (N:=9) rfl ?_)))
  refine TA_tk 0 [0] (dn 9 1) rfl rfl (V_lag (.o 0) isAgg57 inf57) ?_
  refine TA_tk 1 [0] (dn 9 3) rfl rfl (V_move rfl) ?_
  refine TA_tk 2 [0] (dn 9 7) rfl rfl (V_move rfl) ?_
  refine TA_ts 3 [0] (dn 9 15) rfl rfl ?_
  refine TA_ts 4 [0] (dn 9 31) rfl rfl ?_
  refine TA_ts 5 [0] (dn 9 63) rfl rfl ?_
  refine TA_tk 6 [0] (dn 9 127) rfl rfl (V_pick (b:=false) rfl rfl) ?_
  refine TA_all (rs:=[7]) (by kernel_rfl) rfl ?_
  refine ⟨?_,trivial⟩
  refine TO_n (is:=[0]) (done':=dn 9 255) rfl rfl rfl (by kernel_rfl) (E_sv (vs:=e64 r_2.toList) 1 inf57) (fun _ _=>rfl) (fun _=>?_)
  refine TA_all (rs:=[8]) (by kernel_rfl) rfl ?_
  refine ⟨?_,trivial⟩
  refine TO_v (is:=[]) (R:=[]) (done':=dn 9 511) rfl rfl rfl rfl (by kernel_rfl) (V_assign rfl) (fun h=>by cases h) ?_
  refine TA_done (by kernel_rfl) ?_ 0
  refine TX_next (TC_ret ?_)
  obtain rfl:=sj H
  exact TXr (vs:=[_,_]) rfl ⟨(Res_agg (n:=4) rfl (by simp) (.o 1) isAgg57 inf57 rfl (lenV (f:=v64) r_2)),rfl,trivial⟩
 ·dsimp only at H
  refine TL_e rfl rfl rfl (E_call (Γ:=Unit × Nat) (val:=fun g=>ptr (some (g.2,0)) 0) (mem:=fun g=>[⟨some (g.2,0),e64 r_1.1.toList⟩,⟨some (g.2,4),[v64 r_1.2.1]⟩,⟨some (g.2,5),e64 r_1.2.2.1.toList⟩,⟨some (g.2,9),e64 r_1.2.2.2.toList⟩]) (vs:=[vi 1]) (Lin:=[]) (Ro:=[]) (is:=[]) rfl call53 (F53_calls 1 (.inr r_1) hr_1) rfl trivial) (fun g_3=>?_)
  refine TVm ?_
  obtain ⟨r_3,hr_3,H⟩:=bind_elim H
  refine TLe (E_c0 (F73_calls g_3.2 0 r_1.1 r_1.2.1 r_1.2.2.1 r_1.2.2.2 k r_3 hr_3) call73 ⟨.o 0, .o 1, .o 2, .o 3,trivial⟩) (fun g_4=>?_)
  refine TVm ?_
  refine TLv V_ex ?_
  refine TLv V_ex ?_
  refine TLe (E_al64 4 inf57 zer57) (fun b3=>?_)
  refine TLn (E_sv (vs:=e64 r_3.1.toList) 0 inf57) (fun _=>?_)
  refine TVa ?_
  refine TL_nil (TX_next (TC_seq (TC_em r_3.2 (fun hg2_3=>?_) (fun hg2_3=>?_))))
  ·replace H:=ite_t hg2_3 H
   obtain ⟨r_4,hr_4,H⟩:=bind_elim H
   refine TA_begin [⟨some (b3,0),e64 r_3.1.toList⟩,⟨some (g_3.2,0),e64 r_1.1.toList⟩,⟨some (g_3.2,4),[v64 r_1.2.1]⟩,⟨some (g_3.2,5),e64 r_1.2.2.1.toList⟩,⟨some (g_3.2,9),e64 r_1.2.2.2.toList⟩] 8 (by kernel_rfl) (N:=9) rfl ?_
   refine TA_tk 0 [0,0,0,0,0] (dn 9 1) rfl rfl (V_lag (.o 0) isAgg57 inf57) ?_
   refine TA_tk 1 [0,0,0,0,0] (dn 9 3) rfl rfl (V_move rfl) ?_
   refine TA_tk 2 [0,0,0,0,0] (dn 9 7) rfl rfl (V_move rfl) ?_
   refine TA_re (d:=14) (v:=vb r_3.2) (v':=vb true) rfl (congrArg vb hg2_3) ?_
   refine TA_tw 3 [0,0,0,0,0] (dn 9 15) rfl rfl (V_lag (.o 0) isAgg57 inf57) ?_
   refine TA_all (rs:=[4]) (by kernel_rfl) rfl ?_
   refine ⟨?_,trivial⟩
   refine TO_eW (is:=[0,0,0,0,0]) (done':=dn 9 31) rfl rfl rfl rfl rfl rfl rfl (by kernel_rfl) (E_c0 (F43_calls r_3.1 r_4 hr_4) call43 .z) (fun _ _=>rfl) (fun g_5=>?_)
   refine TA_tw 5 [0,0,0,0,0] (dn 9 63) rfl rfl (V_un rfl (fun w=>notB w r_4)) ?_
   refine TA_tk 6 [0,0,0,0,0] (dn 9 127) rfl rfl (V_pick (b:=true) rfl rfl) ?_
   refine TA_all (rs:=[7]) (by kernel_rfl) rfl ?_
   refine ⟨?_,trivial⟩
   refine TO_n (is:=[0,0,0,0,0]) (done':=dn 9 255) rfl rfl rfl (by kernel_rfl) (E_sv (vs:=e64 r_3.1.toList) 5 inf57) (fun _ _=>rfl) (fun _=>?_)
   refine TA_all (rs:=[8]) (by kernel_rfl) rfl ?_
   refine ⟨?_,trivial⟩
   refine TO_v (is:=[]) (R:=[]) (done':=dn 9 511) rfl rfl rfl rfl (by kernel_rfl) (V_assign rfl) (fun h=>by cases h) ?_
   refine TA_done (by kernel_rfl) ?_ 0
   refine TX_next (TC_ret ?_)
   obtain rfl:=sj H
   exact TXr (vs:=[_,_]) rfl ⟨(Res_agg (n:=4) rfl (by simp) (.o 5) isAgg57 inf57 rfl (lenV (f:=v64) r_3.1)),rfl,trivial⟩
  ·replace H:=ite_f (Bool.eq_false_iff.1 hg2_3) H
   refine TA_begin [⟨some (b3,0),e64 r_3.1.toList⟩,⟨some (g_3.2,0),e64 r_1.1.toList⟩,⟨some (g_3.2,4),[v64 r_1.2.1]⟩,⟨some (g_3.2,5),e64 r_1.2.2.1.toList⟩,⟨some (g_3.2,9),e64 r_1.2.2.2.toList⟩] 8 (by kernel_rfl) (N:=9) rfl ?_
   refine TA_tk 0 [0,0,0,0,0] (dn 9 1) rfl rfl (V_lag (.o 0) isAgg57 inf57) ?_
   refine TA_tk 1 [0,0,0,0,0] (dn 9 3) rfl rfl (V_move rfl) ?_
   refine TA_tk 2 [0,0,0,0,0] (dn 9 7) rfl rfl (V_move rfl) ?_
   refine TA_re (d:=14) (v:=vb r_3.2) (v':=vb false) rfl (congrArg vb hg2_3) ?_
   refine TA_ts 3 [0,0,0,0,0] (dn 9 15) rfl rfl ?_
   refine TA_ts 4 [0,0,0,0,0] (dn 9 31) rfl rfl ?_
   refine TA_ts 5 [0,0,0,0,0] (dn 9 63) rfl rfl ?_
   refine TA_tk 6 [0,0,0,0,0] (dn 9 127) rfl rfl (V_pick (b:=false) rfl rfl) ?_
   refine TA_all (rs:=[7]) (by kernel_rfl) rfl ?_
   refine ⟨?_,trivial⟩
   refine TO_n (is:=[0,0,0,0,0]) (done':=dn 9 255) rfl rfl rfl (by kernel_rfl) (E_sv (vs:=e64 r_3.1.toList) 5 inf57) (fun _ _=>rfl) (fun _=>?_)
   refine TA_all (rs:=[8]) (by kernel_rfl) rfl ?_
   refine ⟨?_,trivial⟩
   refine TO_v (is:=[]) (R:=[]) (done':=dn 9 511) rfl rfl rfl rfl (by kernel_rfl) (V_assign rfl) (fun h=>by cases h) ?_
   refine TA_done (by kernel_rfl) ?_ 0
   refine TX_next (TC_ret ?_)
   obtain rfl:=sj H
   exact TXr (vs:=[_,_]) rfl ⟨(Res_agg (n:=4) rfl (by simp) (.o 5) isAgg57 inf57 rfl (lenV (f:=v64) r_3.1)),rfl,trivial⟩
end Go.Proofs
end

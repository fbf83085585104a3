/-
  Part 22 of the proof of what several laws share.
-/
import Derived.Test.YtiofnmmggblcgaaEsC1
import Derived.Test.YtiofnmmggblcgaaEsC2
import Derived.Test.YtiofnmmggblcgaaEsC3
import Derived.Test.YtiofnmmggblcgaaEsC4
import Derived.Test.YtiofnmmggblcgaaEsC5
import Derived.Test.YtiofnmmggblcgaaEsC6
import Derived.Test.YtiofnmmggblcgaaEsC7
import Derived.Test.YtiofnmmggblcgaaEsC8
import Derived.Test.YtiofnmmggblcgaaEsC9
import Derived.Test.YtiofnmmggblcgaaEsC10
import Derived.Test.YtiofnmmggblcgaaEsC11
import Derived.Test.YtiofnmmggblcgaaEsC12
import Derived.Test.YtiofnmmggblcgaaEsC13
import Derived.Test.YtiofnmmggblcgaaEsC14
import Derived.Test.YtiofnmmggblcgaaEsC15
import Derived.Test.YtiofnmmggblcgaaEsC16
import Derived.Test.YtiofnmmggblcgaaEsC17
import Derived.Test.YtiofnmmggblcgaaEsC18
import Derived.Test.YtiofnmmggblcgaaEsC19
import Derived.Test.YtiofnmmggblcgaaEsC20
import Derived.Test.YtiofnmmggblcgaaEsC21
set_option linter.unusedVariables false
set_option linter.unusedSimpArgs false
section
namespace Go.Proofs
open Go Go.Kx
open Vector (replicate)
open TryI Try
def pcurve_curve_times.b0 (cM:Vx 64 4) (cI:BitVec 64) (cO:Vx 64 4) (cT:Vx 64 4) (c_b:Vx 64 4) (k:Vx 64 4) (p_x:Vx 64 4) (p_y:Vx 64 4) (p_z:Vx 64 4) (s0:Int × Vx 64 4 × Vx 64 4 × Vx 64 4):Option ((Int × Vx 64 4 × Vx 64 4 × Vx 64 4) ⊕ (Vx 64 4 × Vx 64 4 × Vx 64 4)) :=
 if 0≤s0.1 then ((pcurve_curve_double cM cI cO cT c_b s0.2.1 s0.2.2.1 s0.2.2.2).bind fun (r_1:Vx 64 4 × Vx 64 4 × Vx 64 4)=>(if 0≤w64 (s0.1.tdiv 64)∧w64 (s0.1.tdiv 64)<(4:Int) then (if 0≤s0.1.tmod 64 then (if (((vg k ((w64 (s0.1.tdiv 64)).toNat)) >>> (s0.1.tmod 64).toNat) &&& 1#64)=1#64 then ((pcurve_curve_add cM cI cO cT c_b r_1.1 r_1.2.1 r_1.2.2 p_x p_y p_z).bind fun (r_2:Vx 64 4 × Vx 64 4 × Vx 64 4)=>(ltt (w64 (s0.1 - 1)) fun (i1:Int)=>(some (.inl (i1,r_2.1,r_2.2.1,r_2.2.2))))) else (ltt (w64 (s0.1 - 1)) fun (i2:Int)=>(some (.inl (i2,r_1.1,r_1.2.1,r_1.2.2))))) else none) else none)) else (some (.inr (s0.2.1,s0.2.2.1,s0.2.2.2)))
def pcurve_curve_times (cM:Vx 64 4) (cI:BitVec 64) (cO:Vx 64 4) (cT:Vx 64 4) (c_b:Vx 64 4) (k:Vx 64 4) (p_x:Vx 64 4) (p_y:Vx 64 4) (p_z:Vx 64 4):Option (Vx 64 4 × Vx 64 4 × Vx 64 4) :=
 (loop (pcurve_curve_times.b0 cM cI cO cT c_b k p_x p_y p_z) BIG (255,replicate 4 0#64,replicate 4 0#64,replicate 4 0#64)).bind fun (t_1:Vx 64 4 × Vx 64 4 × Vx 64 4)=>(some (t_1.1,t_1.2.1,t_1.2.2))
set_option maxHeartbeats 4000000 in
set_option maxRecDepth 20000 in
theorem F35_calls (bc:Nat) (obc:Nat) (bF:Nat) (oF:Nat) (cM:Vx 64 4) (cI:BitVec 64) (cO:Vx 64 4) (cT:Vx 64 4) (c_b:Vx 64 4) (k:Vx 64 4) (p_x:Vx 64 4) (p_y:Vx 64 4) (p_z:Vx 64 4) (r:Vx 64 4 × Vx 64 4 × Vx 64 4) (H:pcurve_curve_times cM cI cO cT c_b k p_x p_y p_z=some r) :
  Does Try.prog 35 [ptr (some (bc,obc)) 0,aG [(4,e64 k.toList)],aG [(4,e64 p_x.toList),(4,e64 p_y.toList),(4,e64 p_z.toList)]] [] [⟨some (bc,obc),[ptr (some (bF,oF)) 0]⟩,⟨some (bc,obc+1),e64 c_b.toList⟩,⟨some (bF,oF),e64 cM.toList⟩,⟨some (bF,oF+4),[v64 cI]⟩,⟨some (bF,oF+5),e64 cO.toList⟩,⟨some (bF,oF+9),e64 cT.toList⟩] (Γ:=Unit) (fun g=>aG [(4,e64 r.1.toList),(4,e64 r.2.1.toList),(4,e64 r.2.2.toList)]) (fun g=>[]):=by
 intro w hmem hro hd
 refine calls_of (N:=30) (m0:=[(0,ptr (some (bc,obc)) 0),(1,aG [(4,e64 k.toList)]),(2,aG [(4,e64 p_x.toList),(4,e64 p_y.toList),(4,e64 p_z.toList)])]) func35 rfl ntmps35 (argM_ok [ptr (some (bc,obc)) 0,aG [(4,e64 k.toList)],aG [(4,e64 p_x.toList),(4,e64 p_y.toList),(4,e64 p_z.toList)]]) rfl hmem hro hd ?_
 unfold pcurve_curve_times at H
 refine TC_seq (TC_region (TLe (E_boxP [(4,e64 k.toList)] rfl rfl ⟨(lenV (f:=v64) k),trivial⟩) (fun b1=>?_)))
 refine TLe (E_boxP [(4,e64 p_x.toList),(4,e64 p_y.toList),(4,e64 p_z.toList)] rfl rfl ⟨(lenV (f:=v64) p_x),(lenV (f:=v64) p_y),(lenV (f:=v64) p_z),trivial⟩) (fun b2=>?_)
 refine TLe (E_allocP [(4,e64 ((replicate 4 0#64).toList)),(4,e64 ((replicate 4 0#64).toList)),(4,e64 ((replicate 4 0#64).toList))] inf64 zer64 ⟨(lenV (f:=v64) (replicate 4 0#64)),(lenV (f:=v64) (replicate 4 0#64)),(lenV (f:=v64) (replicate 4 0#64)),trivial⟩) (fun b3=>?_)
 refine TL_nil (TX_next (TC_seq (TC_region (TLe (E_allocP [(4,e64 ((replicate 4 0#64).toList)),(4,e64 ((replicate 4 0#64).toList)),(4,e64 ((replicate 4 0#64).toList))] inf64 zer64 ⟨(lenV (f:=v64) (replicate 4 0#64)),(lenV (f:=v64) (replicate 4 0#64)),(lenV (f:=v64) (replicate 4 0#64)),trivial⟩) (fun b4=>?_)))))
 refine TL_nil (TX_next (TC_seq (TC_seq (TC_region (TVa ?_)))))
 refine TL_nil (TX_next (TC_block ?_))
 obtain ⟨t_1,Hl,H⟩:=bind_elim H
 refine TC.sub (m':=[(0,_),(4,_),(5,_),(6,_),(7,_),(8,_)]) ⟨rfl,rfl,rfl,rfl,rfl,rfl,trivial⟩ ?_
 refine TC.pull (is:=[9,6,6,6,3,3,3,0,0,0]) (L':=[_,_,_,_,_,_,_,_,_,_]) rfl ?_
 refine TC_loopL (id:=0) (body:=(pcurve_curve_times.b0 cM cI cO cT c_b k p_x p_y p_z)) (σ:=Int × Vx 64 4 × Vx 64 4 × Vx 64 4) (Γ:=Unit) (Γx:=Unit) (fun s0 g0_=>[(0,ptr (some (bc,obc)) 0),(4,ptr (some (b1,0)) 0),(5,ptr (some (b2,0)) 0),(6,ptr (some (b3,0)) 0),(7,ptr (some (b4,0)) 0),(8,vi s0.1)]) (fun s0 g0_=>[⟨some (b1,0),e64 k.toList⟩,⟨some (b2,0),e64 p_x.toList⟩,⟨some (b2,4),e64 p_y.toList⟩,⟨some (b2,8),e64 p_z.toList⟩,⟨some (b3,0),e64 ((replicate 4 0#64).toList)⟩,⟨some (b3,4),e64 ((replicate 4 0#64).toList)⟩,⟨some (b3,8),e64 ((replicate 4 0#64).toList)⟩,⟨some (b4,0),e64 s0.2.1.toList⟩,⟨some (b4,4),e64 s0.2.2.1.toList⟩,⟨some (b4,8),e64 s0.2.2.2.toList⟩]) (fun t g=>[(6,ptr (some (b3,0)) 0),(7,ptr (some (b4,0)) 0)]) (fun t g=>[⟨some (b3,0),e64 ((replicate 4 0#64).toList)⟩,⟨some (b3,4),e64 ((replicate 4 0#64).toList)⟩,⟨some (b3,8),e64 ((replicate 4 0#64).toList)⟩,⟨some (b4,0),e64 t.1.toList⟩,⟨some (b4,4),e64 t.2.1.toList⟩,⟨some (b4,8),e64 t.2.2.toList⟩]) ?_ BIG (255,replicate 4 0#64,replicate 4 0#64,replicate 4 0#64) () t_1 Hl ?_
 ·intro s0 g0_ r1 H K hK hE
  unfold pcurve_curve_times.b0 at H
  refine TC_seq (TC_seq (TC_region (TVm ?_)))
  refine TLv (V_bin rfl rfl (fun w=>geqI w s0.1 0)) ?_
  refine TL_nil (TX_next (TCd H (fun hc H=>?_) (fun hc H=>?_)))
  ·refine TC_skip (TX_next (TC_seq (TC_block (TC_seq (TC_region (TVm ?_))))))
   refine TLv (V_loadAgg (n:=12) (cs:=flat [(4,e64 s0.2.1.toList),(4,e64 s0.2.2.1.toList),(4,e64 s0.2.2.2.toList)]) rfl (by simp) (SrcEnts (b:=b4) [(4,e64 s0.2.1.toList),(4,e64 s0.2.2.1.toList),(4,e64 s0.2.2.2.toList)] 0 ⟨(lenV (f:=v64) s0.2.1),(lenV (f:=v64) s0.2.2.1),(lenV (f:=v64) s0.2.2.2),trivial⟩ (AllSrc.all (M:=ents b4 0 [(4,e64 s0.2.1.toList),(4,e64 s0.2.2.1.toList),(4,e64 s0.2.2.2.toList)]) ⟨Src.own (j:=7) rfl,Src.own (j:=8) rfl,Src.own (j:=9) rfl,trivial⟩)) isAgg64 inf64 rfl (flat_len ⟨(lenV (f:=v64) s0.2.1),(lenV (f:=v64) s0.2.2.1),(lenV (f:=v64) s0.2.2.2),trivial⟩ rfl)) ?_
   obtain ⟨r_1,hr_1,H⟩:=bind_elim H
   refine TLe (E_c0 (F74_calls bc obc bF oF cM cI cO cT c_b s0.2.1 s0.2.2.1 s0.2.2.2 r_1 hr_1) call74 ⟨.r 0, .r 1, .r 2, .r 3, .r 4, .r 5,trivial⟩) (fun g_1=>?_)
   refine TLn (E_sp (b:=b4) (o:=0) [7,7,7] [(4,e64 s0.2.1.toList),(4,e64 s0.2.2.1.toList),(4,e64 s0.2.2.2.toList)] [(4,e64 r_1.1.toList),(4,e64 r_1.2.1.toList),(4,e64 r_1.2.2.toList)] rfl inf64 ⟨(lenV (f:=v64) s0.2.1),(lenV (f:=v64) s0.2.2.1),(lenV (f:=v64) s0.2.2.2),trivial⟩ ⟨(lenV (f:=v64) r_1.1),(lenV (f:=v64) r_1.2.1),(lenV (f:=v64) r_1.2.2),trivial⟩ ⟨(OneC.map (fun _=>rfl) _),(OneC.map (fun _=>rfl) _),(OneC.map (fun _=>rfl) _),trivial⟩) (fun _=>?_)
   refine TL_nil (TX_next (TC_seq (TC_region (TVm ?_))))
   refine TLv (V_bin rfl rfl (fun w=>quoI w s0.1 64 (by decide))) ?_
   obtain ⟨h1,H⟩:=if_elim H
   refine TLv (V_idxArr (i:=w64 (s0.1.tdiv 64)) rfl rfl underlying57 inf55 rfl h1.1 h1.2 (k:=(w64 (s0.1.tdiv 64)).toNat) (k01 _)) ?_
   refine TLv (V_load rfl (.o 3) (get_vec (f:=v64) (V:=k) (toNat_lt h1.1 h1.2)) isAgg55) ?_
   refine TVm ?_
   refine TLv (V_bin rfl rfl (fun w=>remI w s0.1 64 (by decide))) ?_
   obtain ⟨h2,H⟩:=if_elim H
   refine TLv (V_bin rfl rfl (fun w=>shr64 w (vg k ((w64 (s0.1.tdiv 64)).toNat)) .i64 (s0.1.tmod 64) h2)) ?_
   refine TLv (V_bin rfl rfl (fun w=>and64 w ((vg k ((w64 (s0.1.tdiv 64)).toNat)) >>> (s0.1.tmod 64).toNat) 1#64)) ?_
   refine TLv (V_bin rfl rfl (fun w=>eql64 w (((vg k ((w64 (s0.1.tdiv 64)).toNat)) >>> (s0.1.tmod 64).toNat) &&& 1#64) 1#64)) ?_
   refine TL_nil (TX_next (TCd H (fun hc H=>?_) (fun hc H=>?_)))
   ·refine TC_region (TVm ?_)
    refine TLv (V_loadAgg (n:=12) (cs:=flat [(4,e64 r_1.1.toList),(4,e64 r_1.2.1.toList),(4,e64 r_1.2.2.toList)]) rfl (by simp) (SrcEnts (b:=b4) [(4,e64 r_1.1.toList),(4,e64 r_1.2.1.toList),(4,e64 r_1.2.2.toList)] 0 ⟨(lenV (f:=v64) r_1.1),(lenV (f:=v64) r_1.2.1),(lenV (f:=v64) r_1.2.2),trivial⟩ (AllSrc.all (M:=ents b4 0 [(4,e64 r_1.1.toList),(4,e64 r_1.2.1.toList),(4,e64 r_1.2.2.toList)]) ⟨Src.own (j:=0) rfl,Src.own (j:=1) rfl,Src.own (j:=2) rfl,trivial⟩)) isAgg64 inf64 rfl (flat_len ⟨(lenV (f:=v64) r_1.1),(lenV (f:=v64) r_1.2.1),(lenV (f:=v64) r_1.2.2),trivial⟩ rfl)) ?_
    refine TLv (V_loadAgg (n:=12) (cs:=flat [(4,e64 p_x.toList),(4,e64 p_y.toList),(4,e64 p_z.toList)]) rfl (by simp) (SrcEnts (b:=b2) [(4,e64 p_x.toList),(4,e64 p_y.toList),(4,e64 p_z.toList)] 0 ⟨(lenV (f:=v64) p_x),(lenV (f:=v64) p_y),(lenV (f:=v64) p_z),trivial⟩ (AllSrc.all (M:=ents b2 0 [(4,e64 p_x.toList),(4,e64 p_y.toList),(4,e64 p_z.toList)]) ⟨Src.own (j:=4) rfl,Src.own (j:=5) rfl,Src.own (j:=6) rfl,trivial⟩)) isAgg64 inf64 rfl (flat_len ⟨(lenV (f:=v64) p_x),(lenV (f:=v64) p_y),(lenV (f:=v64) p_z),trivial⟩ rfl)) ?_
    obtain ⟨r_2,hr_2,H⟩:=bind_elim H
    refine TLe (E_c0 (F42_calls bc obc bF oF cM cI cO cT c_b r_1.1 r_1.2.1 r_1.2.2 p_x p_y p_z r_2 hr_2) call42 ⟨.r 0, .r 1, .r 2, .r 3, .r 4, .r 5,trivial⟩) (fun g_2=>?_)
    refine TLn (E_sp (b:=b4) (o:=0) [0,0,0] [(4,e64 r_1.1.toList),(4,e64 r_1.2.1.toList),(4,e64 r_1.2.2.toList)] [(4,e64 r_2.1.toList),(4,e64 r_2.2.1.toList),(4,e64 r_2.2.2.toList)] rfl inf64 ⟨(lenV (f:=v64) r_1.1),(lenV (f:=v64) r_1.2.1),(lenV (f:=v64) r_1.2.2),trivial⟩ ⟨(lenV (f:=v64) r_2.1),(lenV (f:=v64) r_2.2.1),(lenV (f:=v64) r_2.2.2),trivial⟩ ⟨(OneC.map (fun _=>rfl) _),(OneC.map (fun _=>rfl) _),(OneC.map (fun _=>rfl) _),trivial⟩) (fun _=>?_)
    refine TL_nil (TX_block_normal (TX_next (TC_region (TVm ?_))))
    refine TLv (V_bin rfl rfl (fun w=>subI w s0.1 1)) ?_
    refine TVa ?_
    obtain ⟨i1,hi1,H⟩:=ltt_elim H
    refine TLr 8 (congrArg vi hi1) ?_
    refine TL_nil ?_
    obtain rfl:=sj H
    exact TXk [3,3,3,3,3,3,3,0,0,0] (hK (i1,r_2.1,r_2.2.1,r_2.2.2) rfl ())
   ·refine TC_skip (TX_block_normal (TX_next (TC_region (TVm ?_))))
    refine TLv (V_bin rfl rfl (fun w=>subI w s0.1 1)) ?_
    refine TVa ?_
    obtain ⟨i2,hi2,H⟩:=ltt_elim H
    refine TLr 8 (congrArg vi hi2) ?_
    refine TL_nil ?_
    obtain rfl:=sj H
    exact TXk [3,3,3,3,3,3,3,0,0,0] (hK (i2,r_1.1,r_1.2.1,r_1.2.2) rfl ())
  ·refine TC_exit (TX_then_exit (TX_then_exit ?_))
   obtain rfl:=sj H
   exact TXj [4,4,4,4,4,4] (hE (s0.2.1,s0.2.2.1,s0.2.2.2) rfl ())
 ·intro g
  refine TX_block_exit (TX_next (TC_seq (TC_region (TLv (V_loadAgg (n:=12) (cs:=flat [(4,e64 t_1.1.toList),(4,e64 t_1.2.1.toList),(4,e64 t_1.2.2.toList)]) rfl (by simp) (SrcEnts (b:=b4) [(4,e64 t_1.1.toList),(4,e64 t_1.2.1.toList),(4,e64 t_1.2.2.toList)] 0 ⟨(lenV (f:=v64) t_1.1),(lenV (f:=v64) t_1.2.1),(lenV (f:=v64) t_1.2.2),trivial⟩ (AllSrc.all (M:=ents b4 0 [(4,e64 t_1.1.toList),(4,e64 t_1.2.1.toList),(4,e64 t_1.2.2.toList)]) ⟨Src.own (j:=3) rfl,Src.own (j:=4) rfl,Src.own (j:=5) rfl,trivial⟩)) isAgg64 inf64 rfl (flat_len ⟨(lenV (f:=v64) t_1.1),(lenV (f:=v64) t_1.2.1),(lenV (f:=v64) t_1.2.2),trivial⟩ rfl)) ?_))))
  refine TLn (E_sp (b:=b3) (o:=0) [0,0,0] [(4,e64 ((replicate 4 0#64).toList)),(4,e64 ((replicate 4 0#64).toList)),(4,e64 ((replicate 4 0#64).toList))] [(4,e64 t_1.1.toList),(4,e64 t_1.2.1.toList),(4,e64 t_1.2.2.toList)] rfl inf64 ⟨(lenV (f:=v64) (replicate 4 0#64)),(lenV (f:=v64) (replicate 4 0#64)),(lenV (f:=v64) (replicate 4 0#64)),trivial⟩ ⟨(lenV (f:=v64) t_1.1),(lenV (f:=v64) t_1.2.1),(lenV (f:=v64) t_1.2.2),trivial⟩ ⟨(OneC.map (fun _=>rfl) _),(OneC.map (fun _=>rfl) _),(OneC.map (fun _=>rfl) _),trivial⟩) (fun _=>?_)
  refine TL_nil (TX_next (TC_ret ?_))
  obtain rfl:=sj H
  exact TXr (vs:=[_]) rfl ⟨(Res_agg (n:=12) (cs:=flat [(4,e64 t_1.1.toList),(4,e64 t_1.2.1.toList),(4,e64 t_1.2.2.toList)]) rfl (by simp) (SrcEnts (b:=b3) [(4,e64 t_1.1.toList),(4,e64 t_1.2.1.toList),(4,e64 t_1.2.2.toList)] 0 ⟨(lenV (f:=v64) t_1.1),(lenV (f:=v64) t_1.2.1),(lenV (f:=v64) t_1.2.2),trivial⟩ (AllSrc.all (M:=ents b3 0 [(4,e64 t_1.1.toList),(4,e64 t_1.2.1.toList),(4,e64 t_1.2.2.toList)]) ⟨Src.own (j:=0) rfl,Src.own (j:=1) rfl,Src.own (j:=2) rfl,trivial⟩)) isAgg64 inf64 rfl (by simp [flat])),trivial⟩
end Go.Proofs
end

section
namespace Go.Proofs
open Go Go.Kx
open Vector (replicate)
open TryI Try
def pcurve_curve_base (cM:Vx 64 4) (cI:BitVec 64) (cO:Vx 64 4) (cT:Vx 64 4) (c_b:Vx 64 4):Option (Vx 64 4 × Vx 64 4 × Vx 64 4) :=
 ltt ((#v[17627433388654248598#64,8575836109218198432#64,17923454489921339634#64,7716867327612699207#64]:Vx 64 4)) fun (m_1:Vx 64 4)=>(ltt ((#v[14678990851816772085#64,3156516839386865358#64,10297457778147434006#64,5756518291402817435#64]:Vx 64 4)) fun (m_2:Vx 64 4)=>((num_Field_In cM cI cO cT m_1).bind fun (r_1:Vx 64 4)=>((num_Field_In cM cI cO cT m_2).bind fun (r_2:Vx 64 4)=>((num_Field_One cM cI cO cT).bind fun (r_3:Vx 64 4)=>(some (r_1,r_2,r_3))))))
set_option maxHeartbeats 4000000 in
set_option maxRecDepth 20000 in
theorem F36_calls (bc:Nat) (obc:Nat) (bF:Nat) (oF:Nat) (cM:Vx 64 4) (cI:BitVec 64) (cO:Vx 64 4) (cT:Vx 64 4) (c_b:Vx 64 4) (r:Vx 64 4 × Vx 64 4 × Vx 64 4) (H:pcurve_curve_base cM cI cO cT c_b=some r) :
  Does Try.prog 36 [ptr (some (bc,obc)) 0] [] [⟨some (bc,obc),[ptr (some (bF,oF)) 0]⟩,⟨some (bc,obc+1),e64 c_b.toList⟩,⟨some (bF,oF),e64 cM.toList⟩,⟨some (bF,oF+4),[v64 cI]⟩,⟨some (bF,oF+5),e64 cO.toList⟩,⟨some (bF,oF+9),e64 cT.toList⟩] (Γ:=Unit) (fun g=>aG [(4,e64 r.1.toList),(4,e64 r.2.1.toList),(4,e64 r.2.2.toList)]) (fun g=>[]):=by
 intro w hmem hro hd
 refine calls_of (N:=25) (m0:=[(0,ptr (some (bc,obc)) 0)]) func36 rfl ntmps36 (argM_ok [ptr (some (bc,obc)) 0]) rfl hmem hro hd ?_
 unfold pcurve_curve_base at H
 refine TC_seq (TC_region (TLe (E_allocP [(4,e64 ((replicate 4 0#64).toList)),(4,e64 ((replicate 4 0#64).toList)),(4,e64 ((replicate 4 0#64).toList))] inf64 zer64 ⟨(lenV (f:=v64) (replicate 4 0#64)),(lenV (f:=v64) (replicate 4 0#64)),(lenV (f:=v64) (replicate 4 0#64)),trivial⟩) (fun b1=>?_)))
 refine TL_nil (TX_next (TC_seq (TC_region (TLv (V_buildArr (pv:=[(0,v64 17627433388654248598#64),(1,v64 8575836109218198432#64),(2,v64 17923454489921339634#64),(3,v64 7716867327612699207#64)]) rfl rfl underlying57 inf57 inf55 rfl zer57 (cs:=e64 ((#v[17627433388654248598#64,8575836109218198432#64,17923454489921339634#64,7716867327612699207#64]:Vx 64 4).toList)) (by kernel_rfl)) ?_))))
 refine TLe (E_al64 4 inf57 zer57) (fun b2=>?_)
 refine TLn (E_sv 0 inf57) (fun _=>?_)
 obtain ⟨m_1,hm_1,H⟩:=ltt_elim H
 refine TL_reE (j:=0) (A:=some (b2,0)) (cs:=e64 ((#v[17627433388654248598#64,8575836109218198432#64,17923454489921339634#64,7716867327612699207#64]:Vx 64 4).toList)) (cs':=e64 m_1.toList) rfl (congrArg (fun z:Vx 64 4=>e64 (Vector.toList z)) hm_1) ?_
 refine TL_nil (TX_next (TC_seq (TC_region (TLv (V_buildArr (pv:=[(0,v64 14678990851816772085#64),(1,v64 3156516839386865358#64),(2,v64 10297457778147434006#64),(3,v64 5756518291402817435#64)]) rfl rfl underlying57 inf57 inf55 rfl zer57 (cs:=e64 ((#v[14678990851816772085#64,3156516839386865358#64,10297457778147434006#64,5756518291402817435#64]:Vx 64 4).toList)) (by kernel_rfl)) ?_))))
 refine TLe (E_al64 4 inf57 zer57) (fun b3=>?_)
 refine TLn (E_sv 0 inf57) (fun _=>?_)
 obtain ⟨m_2,hm_2,H⟩:=ltt_elim H
 refine TL_reE (j:=0) (A:=some (b3,0)) (cs:=e64 ((#v[14678990851816772085#64,3156516839386865358#64,10297457778147434006#64,5756518291402817435#64]:Vx 64 4).toList)) (cs':=e64 m_2.toList) rfl (congrArg (fun z:Vx 64 4=>e64 (Vector.toList z)) hm_2) ?_
 refine TL_nil (TX_next (TC_seq ?_))
 obtain ⟨r_1,hr_1,H⟩:=bind_elim H
 obtain ⟨r_2,hr_2,H⟩:=bind_elim H
 obtain ⟨r_3,hr_3,H⟩:=bind_elim H
 refine TA_begin [] 19 (by kernel_rfl) (N:=19) rfl ?_
 refine TA_mix (is:=[]) (done':=dn 19 262143) [itV 0 7 (ptr (some (bc,obc)) 0) [],itV 1 8 (ptr (some (bc,obc)) 0) [0],itV 2 9 (ptr (some (bc,obc)) 0) [1],itV 3 10 (ptr (some (bF,oF)) 0) [2],itV 4 11 (aG [(4,e64 m_1.toList)]) [],itV 5 12 (aG [(4,e64 r_1.toList)]) [3,4],itV 6 13 (ptr (some (bc,obc)) 0) [],itV 7 14 (ptr (some (bc,obc)) 0) [6],itV 8 15 (ptr (some (bc,obc)) 0) [7],itV 9 16 (ptr (some (bF,oF)) 0) [8],itV 10 17 (aG [(4,e64 m_2.toList)]) [],itV 11 18 (aG [(4,e64 r_2.toList)]) [9,10],itV 12 19 (ptr (some (bc,obc)) 0) [],itV 13 20 (ptr (some (bc,obc)) 0) [12],itV 14 21 (ptr (some (bc,obc)) 0) [13],itV 15 22 (ptr (some (bF,oF)) 0) [14],itV 16 23 (aG [(4,e64 r_3.toList)]) [15],itV 17 24 (aG [(4,e64 r_1.toList),(4,e64 r_2.toList),(4,e64 r_3.toList)]) [11,5,16]] [] 1 (by kernel_rfl) (QP.then QP.body) (by kernel_rfl) rfl (.v rfl (V_move rfl) (.v rfl (V_nilCheck rfl) (.v rfl (V_fe underlying100 inf82) (.v rfl (V_load rfl (.r 0) rfl isAgg82) (.v rfl (V_lag (.o 1) isAgg57 inf57) (.e rfl (E_cu (F56_calls bF oF cM cI cO cT m_1 r_1 hr_1) call56 ⟨.r 2, .r 3, .r 4, .r 5,trivial⟩) (.v rfl (V_move rfl) (.v rfl (V_nilCheck rfl) (.v rfl (V_fe underlying100 inf82) (.v rfl (V_load rfl (.r 0) rfl isAgg82) (.v rfl (V_lag (.o 0) isAgg57 inf57) (.e rfl (E_cu (F56_calls bF oF cM cI cO cT m_2 r_2 hr_2) call56 ⟨.r 2, .r 3, .r 4, .r 5,trivial⟩) (.v rfl (V_move rfl) (.v rfl (V_nilCheck rfl) (.v rfl (V_fe underlying100 inf82) (.v rfl (V_load rfl (.r 0) rfl isAgg82) (.e rfl (E_cu (F75_calls bF oF cM cI cO cT r_3 hr_3) call75 ⟨.r 2, .r 3, .r 4, .r 5,trivial⟩) (.v rfl (V_buildStruct (pv:=[(0,aG [(4,e64 r_1.toList)]),(1,aG [(4,e64 r_2.toList)]),(2,aG [(4,e64 r_3.toList)])]) (pl:=[(0,4),(4,4),(8,4)]) rfl rfl underlying64 inf64 places64 zer64 (cs:=flat [(4,e64 r_1.toList),(4,e64 r_2.toList),(4,e64 r_3.toList)]) (fill_part [] [(4,e64 ((replicate 4 0#64).toList)),(4,e64 ((replicate 4 0#64).toList))] rfl rfl trivial rfl (lenV (f:=v64) (replicate 4 0#64)) (lenV (f:=v64) r_1) (fill_part [(4,e64 r_1.toList)] [(4,e64 ((replicate 4 0#64).toList))] rfl rfl ⟨(lenV (f:=v64) r_1),trivial⟩ rfl (lenV (f:=v64) (replicate 4 0#64)) (lenV (f:=v64) r_2) (fill_part [(4,e64 r_1.toList),(4,e64 r_2.toList)] [] rfl rfl ⟨(lenV (f:=v64) r_1),(lenV (f:=v64) r_2),trivial⟩ rfl (lenV (f:=v64) (replicate 4 0#64)) (lenV (f:=v64) r_3) fill_end)))) .nil)))))))))))))))))) .nil (by kernel_rfl) rfl (fun γ=>?_)
 refine TA_cut [(24,aG [(4,e64 r_1.toList),(4,e64 r_2.toList),(4,e64 r_3.toList)]),(2,ptr (some (b1,0)) 0)] [⟨some (b3,0),e64 m_2.toList⟩,⟨some (b2,0),e64 m_1.toList⟩,⟨some (b1,0),e64 ((replicate 4 0#64).toList)⟩,⟨some (b1,4),e64 ((replicate 4 0#64).toList)⟩,⟨some (b1,8),e64 ((replicate 4 0#64).toList)⟩] ⟨rfl,rfl,trivial⟩ rfl ?_
 refine TA_all (rs:=[18]) (by kernel_rfl) rfl ?_
 refine ⟨?_,trivial⟩
 refine TO_n (is:=[]) (done':=dn 19 524287) rfl rfl rfl (by kernel_rfl) (E_sp (b:=b1) (o:=0) [2,2,2] [(4,e64 ((replicate 4 0#64).toList)),(4,e64 ((replicate 4 0#64).toList)),(4,e64 ((replicate 4 0#64).toList))] [(4,e64 r_1.toList),(4,e64 r_2.toList),(4,e64 r_3.toList)] rfl inf64 ⟨(lenV (f:=v64) (replicate 4 0#64)),(lenV (f:=v64) (replicate 4 0#64)),(lenV (f:=v64) (replicate 4 0#64)),trivial⟩ ⟨(lenV (f:=v64) r_1),(lenV (f:=v64) r_2),(lenV (f:=v64) r_3),trivial⟩ ⟨(OneC.map (fun _=>rfl) _),(OneC.map (fun _=>rfl) _),(OneC.map (fun _=>rfl) _),trivial⟩) (fun _ _=>rfl) (fun _=>?_)
 refine TA_done (by kernel_rfl) ?_ 0
 refine TX_next (TC_ret ?_)
 obtain rfl:=sj H
 exact TXr (vs:=[_]) rfl ⟨(Res_agg (n:=12) (cs:=flat [(4,e64 r_1.toList),(4,e64 r_2.toList),(4,e64 r_3.toList)]) rfl (by simp) (SrcEnts (b:=b1) [(4,e64 r_1.toList),(4,e64 r_2.toList),(4,e64 r_3.toList)] 0 ⟨(lenV (f:=v64) r_1),(lenV (f:=v64) r_2),(lenV (f:=v64) r_3),trivial⟩ (AllSrc.all (M:=ents b1 0 [(4,e64 r_1.toList),(4,e64 r_2.toList),(4,e64 r_3.toList)]) ⟨Src.own (j:=0) rfl,Src.own (j:=1) rfl,Src.own (j:=2) rfl,trivial⟩)) isAgg64 inf64 rfl (by simp [flat])),trivial⟩
end Go.Proofs
end

section
namespace Go.Proofs
open Go Go.Kx
open TryI Try
def pcurve_Public (k:Str):Option (Str × Int) :=
 (pcurve_Scalar k).bind fun (r_1:Vx 64 4 × Bool)=>(if (!r_1.2)=true then (some (([]:Str),1100)) else ((pcurve_newCurve).bind fun (r_2:Vx 64 4 × BitVec 64 × Vx 64 4 × Vx 64 4 × Vx 64 4)=>((pcurve_curve_base r_2.1 r_2.2.1 r_2.2.2.1 r_2.2.2.2.1 r_2.2.2.2.2).bind fun (r_3:Vx 64 4 × Vx 64 4 × Vx 64 4)=>((pcurve_curve_times r_2.1 r_2.2.1 r_2.2.2.1 r_2.2.2.2.1 r_2.2.2.2.2 r_1.1 r_3.1 r_3.2.1 r_3.2.2).bind fun (r_4:Vx 64 4 × Vx 64 4 × Vx 64 4)=>((pcurve_curve_write r_2.1 r_2.2.1 r_2.2.2.1 r_2.2.2.2.1 r_2.2.2.2.2 r_4.1 r_4.2.1 r_4.2.2).bind fun (r_5:Str)=>(some (r_5,0)))))))
set_option maxHeartbeats 4000000 in
set_option maxRecDepth 20000 in
theorem F13_calls (k:Str) (r:Str × Int) (H:pcurve_Public k=some r) :
  Does Try.prog 13 [vs k] [] [] (Γ:=Unit) (fun g=>Value.tuple [vs r.1,vi r.2].toArray) (fun g=>[]):=by
 intro w hmem hro hd
 refine calls_of (N:=22) (m0:=[(0,vs k)]) func13 rfl ntmps13 (argM_ok [vs k]) rfl hmem hro hd ?_
 unfold pcurve_Public at H
 refine TC_seq (TC_region (TVa ?_))
 refine TVa ?_
 refine TL_nil (TX_next (TC_seq (TC_region (TVm ?_))))
 obtain ⟨r_1,hr_1,H⟩:=bind_elim H
 refine TLe (E_c0 (F32_calls k r_1 hr_1) call32 .z) (fun g_1=>?_)
 refine TVm ?_
 refine TLv V_ex ?_
 refine TLv V_ex ?_
 refine TLe (E_al64 4 inf57 zer57) (fun b1=>?_)
 refine TLn (E_sv (vs:=e64 r_1.1.toList) 0 inf57) (fun _=>?_)
 refine TVa ?_
 refine TL_nil (TX_next (TC_seq (TC_seq (TC_region (TVm ?_)))))
 refine TLv (V_un rfl (fun w=>notB w r_1.2)) ?_
 refine TL_nil (TX_next (TCb H (fun hc H=>?_) (fun hc H=>?_)))
 ·refine TC_seq (TC_region (TVa ?_))
  refine TVa ?_
  refine TL_nil (TX_next (TC_ret (TX_then_ret ?_)))
  obtain rfl:=sj H
  exact TX2
 ·refine TC_skip (TX_next (TC_seq (TC_region ?_)))
  obtain ⟨r_2,hr_2,H⟩:=bind_elim H
  refine TLe (E_call (Γ:=Nat × Nat) (val:=fun g=>ptr (some (g.1,0)) 0) (mem:=fun g=>[⟨some (g.1,0),[ptr (some (g.2,0)) 0]⟩,⟨some (g.2,0),e64 r_2.1.toList⟩,⟨some (g.2,4),[v64 r_2.2.1]⟩,⟨some (g.2,5),e64 r_2.2.2.1.toList⟩,⟨some (g.2,9),e64 r_2.2.2.2.1.toList⟩,⟨some (g.1,1),e64 r_2.2.2.2.2.toList⟩]) (vs:=[]) (Lin:=[]) (Ro:=[]) (is:=[]) rfl call33 (F33_calls r_2 hr_2) rfl trivial) (fun g_2=>?_)
  refine TVa ?_
  refine TL_nil (TX_next (TC_seq ?_))
  obtain ⟨r_3,hr_3,H⟩:=bind_elim H
  obtain ⟨r_4,hr_4,H⟩:=bind_elim H
  obtain ⟨r_5,hr_5,H⟩:=bind_elim H
  refine TA_begin [] 9 (by kernel_rfl) (N:=9) rfl ?_
  refine TA_mix (is:=[]) (done':=dn 9 127) [itV 0 15 (ptr (some (g_2.1,0)) 0) [],itV 1 16 (ptr (some (g_2.1,0)) 0) [],itV 2 17 (aG [(4,e64 r_1.1.toList)]) [],itV 3 18 (ptr (some (g_2.1,0)) 0) [],itV 4 19 (aG [(4,e64 r_3.1.toList),(4,e64 r_3.2.1.toList),(4,e64 r_3.2.2.toList)]) [3],itV 5 20 (aG [(4,e64 r_4.1.toList),(4,e64 r_4.2.1.toList),(4,e64 r_4.2.2.toList)]) [1,2,4],itV 6 21 (vs r_5) [5,0]] [] 2 (by kernel_rfl) (QP.then QP.body) (by kernel_rfl) rfl (.v rfl (V_move rfl) (.v rfl (V_move rfl) (.v rfl (V_lag (.o 6) isAgg57 inf57) (.v rfl (V_move rfl) (.e rfl (E_cu (F36_calls g_2.1 0 g_2.2 0 r_2.1 r_2.2.1 r_2.2.2.1 r_2.2.2.2.1 r_2.2.2.2.2 r_3 hr_3) call36 ⟨.o 0, .o 5, .o 1, .o 2, .o 3, .o 4,trivial⟩) (.e rfl (E_cu (F35_calls g_2.1 0 g_2.2 0 r_2.1 r_2.2.1 r_2.2.2.1 r_2.2.2.2.1 r_2.2.2.2.2 r_1.1 r_3.1 r_3.2.1 r_3.2.2 r_4 hr_4) call35 ⟨.o 0, .o 5, .o 1, .o 2, .o 3, .o 4,trivial⟩) (.e rfl (E_cu (F34_calls g_2.1 0 g_2.2 0 r_2.1 r_2.2.1 r_2.2.2.1 r_2.2.2.2.1 r_2.2.2.2.2 r_4.1 r_4.2.1 r_4.2.2 r_5 hr_5) call34 ⟨.o 0, .o 5, .o 1, .o 2, .o 3, .o 4,trivial⟩) .nil))))))) .nil (by kernel_rfl) rfl (fun γ=>?_)
  refine TA_cut [(21,vs r_5),(3,vi 0),(2,vs ([]:Str))] [⟨some (g_2.1,0),[ptr (some (g_2.2,0)) 0]⟩,⟨some (g_2.2,0),e64 r_2.1.toList⟩,⟨some (g_2.2,4),[v64 r_2.2.1]⟩,⟨some (g_2.2,5),e64 r_2.2.2.1.toList⟩,⟨some (g_2.2,9),e64 r_2.2.2.2.1.toList⟩,⟨some (g_2.1,1),e64 r_2.2.2.2.2.toList⟩,⟨some (b1,0),e64 r_1.1.toList⟩] ⟨rfl,rfl,rfl,trivial⟩ rfl ?_
  refine TA_all (rs:=[7]) (by kernel_rfl) rfl ?_
  refine ⟨?_,trivial⟩
  refine TO_v (is:=[]) (done':=dn 9 255) rfl rfl rfl rfl (by kernel_rfl) (V_assign rfl) (fun _=>rfl) ?_
  refine TA_all (rs:=[8]) (by kernel_rfl) rfl ?_
  refine ⟨?_,trivial⟩
  refine TO_v (is:=[]) (done':=dn 9 511) rfl rfl rfl rfl (by kernel_rfl) (V_assign rfl) (fun _=>rfl) ?_
  refine TA_done (by kernel_rfl) ?_ 0
  refine TX_next (TC_ret ?_)
  obtain rfl:=sj H
  exact TX2
end Go.Proofs
end

section
namespace Go.Proofs
open Go Go.Kx
open Vector (replicate)
open TryI Try
def pcurve_On (p:Str):Option (Bool) :=
 (pcurve_newCurve).bind fun (r_1:Vx 64 4 × BitVec 64 × Vx 64 4 × Vx 64 4 × Vx 64 4)=>((pcurve_curve_read r_1.1 r_1.2.1 r_1.2.2.1 r_1.2.2.2.1 r_1.2.2.2.2 p).bind fun (r_2:Vx 64 4 × Vx 64 4 × Vx 64 4 × Bool)=>(some r_2.2.2.2))
set_option maxHeartbeats 4000000 in
set_option maxRecDepth 20000 in
theorem F21_calls (p:Str) (r:Bool) (H:pcurve_On p=some r) :
  Does Try.prog 21 [vs p] [] [] (Γ:=Unit) (fun g=>vb r) (fun g=>[]):=by
 intro w hmem hro hd
 refine calls_of (N:=12) (m0:=[(0,vs p)]) func21 rfl ntmps21 (argM_ok [vs p]) rfl hmem hro hd ?_
 unfold pcurve_On at H
 refine TC_seq (TC_region (TVa ?_))
 refine TL_nil (TX_next (TC_seq (TC_region ?_)))
 obtain ⟨r_1,hr_1,H⟩:=bind_elim H
 refine TLe (E_call (Γ:=Nat × Nat) (val:=fun g=>ptr (some (g.1,0)) 0) (mem:=fun g=>[⟨some (g.1,0),[ptr (some (g.2,0)) 0]⟩,⟨some (g.2,0),e64 r_1.1.toList⟩,⟨some (g.2,4),[v64 r_1.2.1]⟩,⟨some (g.2,5),e64 r_1.2.2.1.toList⟩,⟨some (g.2,9),e64 r_1.2.2.2.1.toList⟩,⟨some (g.1,1),e64 r_1.2.2.2.2.toList⟩]) (vs:=[]) (Lin:=[]) (Ro:=[]) (is:=[]) rfl call33 (F33_calls r_1 hr_1) rfl trivial) (fun g_1=>?_)
 refine TVm ?_
 obtain ⟨r_2,hr_2,H⟩:=bind_elim H
 refine TLe (E_c0 (F41_calls g_1.1 0 g_1.2 0 r_1.1 r_1.2.1 r_1.2.2.1 r_1.2.2.2.1 r_1.2.2.2.2 p r_2 hr_2) call41 ⟨.o 0, .o 5, .o 1, .o 2, .o 3, .o 4,trivial⟩) (fun g_2=>?_)
 refine TVm ?_
 refine TLv V_ex ?_
 refine TLv V_ex ?_
 refine TLe (E_allocP [(4,e64 ((replicate 4 0#64).toList)),(4,e64 ((replicate 4 0#64).toList)),(4,e64 ((replicate 4 0#64).toList))] inf64 zer64 ⟨(lenV (f:=v64) (replicate 4 0#64)),(lenV (f:=v64) (replicate 4 0#64)),(lenV (f:=v64) (replicate 4 0#64)),trivial⟩) (fun b1=>?_)
 refine TLn (E_sp (b:=b1) (o:=0) [0,0,0] [(4,e64 ((replicate 4 0#64).toList)),(4,e64 ((replicate 4 0#64).toList)),(4,e64 ((replicate 4 0#64).toList))] [(4,e64 r_2.1.toList),(4,e64 r_2.2.1.toList),(4,e64 r_2.2.2.1.toList)] rfl inf64 ⟨(lenV (f:=v64) (replicate 4 0#64)),(lenV (f:=v64) (replicate 4 0#64)),(lenV (f:=v64) (replicate 4 0#64)),trivial⟩ ⟨(lenV (f:=v64) r_2.1),(lenV (f:=v64) r_2.2.1),(lenV (f:=v64) r_2.2.2.1),trivial⟩ ⟨(OneC.map (fun _=>rfl) _),(OneC.map (fun _=>rfl) _),(OneC.map (fun _=>rfl) _),trivial⟩) (fun _=>?_)
 refine TVa ?_
 refine TL_nil (TX_next (TC_seq (TC_region (TVm ?_))))
 refine TVa ?_
 refine TL_nil (TX_next (TC_ret ?_))
 obtain rfl:=sj H
 exact TX1
end Go.Proofs
end

section
namespace Go.Kx
open Go Go.Proofs
open Vector (replicate)
open Go.Nt hiding n4
def P4 (v:Vx 64 4 × Vx 64 4 × Vx 64 4) (p:Pt):Prop:=okP p ∧ ∃ t,T4 v t∧isJ t p
def encQ (q:Fp × Fp):Str:=[4#8]++nb32 (toN q.1)++nb32 (toN q.2)
def isPt (s:Str):Prop := ∃ q,okP (some q)∧s=encQ q
theorem toN_id {n:Nat} (h:n<P256):toN (mk (n:Int))=n:=by rw [toN_nat,Nat.mod_eq_of_lt h]
theorem encQ_len (q:Fp × Fp):(encQ q).length=65:=by simp [encQ,nb32_len]
theorem encQ_0 (q:Fp × Fp):sg (encQ q) 0=4#8:=rfl
theorem encQ_x (q:Fp × Fp):sub (encQ q) 1 33=nb32 (toN q.1):=by
 show sub (4#8 :: (nb32 (toN q.1)++nb32 (toN q.2))) 1 33=_
 simp only [sub,List.drop_succ_cons,List.drop_zero]
 rw [List.take_append_of_le_length (by rw [nb32_len]; omega)]
 exact List.take_of_length_le (by rw [nb32_len]; omega)
theorem encQ_y (q:Fp × Fp):sub (encQ q) 33 65=nb32 (toN q.2):=by
 have e:encQ q=([4#8]++nb32 (toN q.1))++nb32 (toN q.2):=rfl
 rw [e]
 simp only [sub]
 have h33:([4#8]++nb32 (toN q.1)).length=33:=by simp [nb32_len]
 rw [List.drop_append_of_le_length (by omega),List.drop_of_length_le (by omega),List.nil_append]
 exact List.take_of_length_le (by rw [nb32_len]; omega)
theorem P_lt256:P256<2 ^ 256:=md_P.lt
theorem split65 (s:Str) (h:s.length=65):s=[sg s 0]++sub s 1 33++sub s 33 65:=by
 apply List.ext_getElem?
 intro i
 by_cases h0:i<1
 ·have:i=0:=by omega
  subst this
  cases s with
  | nil=>cases h
  | cons x r=>rfl
 ·have l1:(sub s 1 33).length=32:=by rw [sub_length (by omega)]
  have l2:(sub s 33 65).length=32:=by rw [sub_length (by omega)]
  by_cases h1:i<33
  ·rw [List.getElem?_append_left (by simp [l1]; omega),List.getElem?_append_right (by simp; omega)]
   simp only [sub,List.length_singleton,List.getElem?_take,List.getElem?_drop]
   rw [if_pos (by omega),show 1+(i - 1)=i by omega]
  ·rw [List.getElem?_append_right (by simp [l1]; omega)]
   simp only [sub,List.length_append,List.length_singleton,List.length_take,List.length_drop,List.getElem?_take,List.getElem?_drop]
   by_cases h2:i<65
   ·rw [if_pos (by omega)]
    congr 1; omega
   ·rw [if_neg (by omega),List.getElem?_eq_none (by omega)]
theorem isPt_iff (s:Str):isPt s ↔ s.length=65∧sg s 0=4#8∧bnum (sub s 1 33)<P256∧bnum (sub s 33 65)<P256∧onF (mk (bnum (sub s 1 33):Int)) (mk (bnum (sub s 33 65):Int)):=by
 constructor
 ·rintro ⟨q,hq,rfl⟩
  have lt : ∀ f:Fp,toN f<2 ^ 256:=fun f=>Nat.lt_trans (toN_lt f) P_lt256
  rw [encQ_x,encQ_y,bnum_nb32 _ (lt _),bnum_nb32 _ (lt _),mk_toN,mk_toN]
  exact ⟨encQ_len q,encQ_0 q,toN_lt _,toN_lt _,hq⟩
 ·rintro ⟨h1,h2,h3,h4,h5⟩
  refine ⟨(mk (bnum (sub s 1 33):Int),mk (bnum (sub s 33 65):Int)),h5,?_⟩
  unfold encQ
  dsimp only
  rw [toN_id h3,toN_id h4,nb32_bnum _ (by rw [sub_length (by omega)]),nb32_bnum _ (by rw [sub_length (by omega)])]
  conv=>lhs; rw [split65 s h1,h2]
section
variable {M:Vx 64 4} {inv:BitVec 64} {one two b:Vx 64 4}
theorem double_pt (F:Fd P256 M inv one two) {x y z:Vx 64 4} {p:Pt} (h:P4 (x,y,z) p) : ∃ r,pcurve_curve_double M inv one two b x y z=some r∧P4 r (sumF p p):=by
 obtain ⟨hp,t,h1,h2⟩:=h
 obtain ⟨r,h3,h4⟩:=double_ex (b:=b) F h1
 exact ⟨r,h3,sum_ok hp hp,_,h4,isJ_dbl hp h2⟩
theorem add_pt (F:Fd P256 M inv one two) {x y z x' y' z':Vx 64 4} {p q:Pt} (h:P4 (x,y,z) p) (k:P4 (x',y',z') q) : ∃ r,pcurve_curve_add M inv one two b x y z x' y' z'=some r∧P4 r (sumF p q):=by
 obtain ⟨hp,t,h1,h2⟩:=h
 obtain ⟨hq,u,k1,k2⟩:=k
 obtain ⟨r,h3,h4⟩:=add_ex (b:=b) F h1 k1
 exact ⟨r,h3,sum_ok hp hq,_,h4,isJ_add hp hq h2 k2⟩
theorem zero_pt:P4 (replicate 4 0#64,replicate 4 0#64,replicate 4 0#64) none:=⟨trivial,(0,0,0),⟨F4_0,F4_0,F4_0⟩,rfl⟩
theorem times_pt (F:Fd P256 M inv one two) {k x y z:Vx 64 4} {a:Nat} (h:P4 (x,y,z) (sG a)) : ∃ r,pcurve_curve_times M inv one two b k x y z=some r∧P4 r (sG (n4 k * a)):=by
 have hk:=n4_lt k
 have key : ∃ r,loop (pcurve_curve_times.b0 M inv one two b k x y z) BIG (255,replicate 4 0#64,replicate 4 0#64,replicate 4 0#64)=some r∧P4 r (sG (n4 k * a)):=by
  refine loop_inv 256 (fun i s=>s.1=255 - (i:Int)∧P4 s.2 (sG (n4 k / 2 ^ (256 - i) * a))) _ (by decide) ⟨rfl,?_⟩ ?_ ?_
  ·dsimp only
   rw [Nat.sub_zero,Nat.div_eq_of_lt hk,Nat.zero_mul]
   exact zero_pt
  ·rintro i ⟨i',o⟩ hi ⟨hi',ho⟩
   dsimp only at hi' ho
   obtain ⟨j,hj⟩ : ∃ j,j=255 - i:=⟨_,rfl⟩
   have hij:i'=(j:Int):=by omega
   rw [show 256 - i=j+1 by omega] at ho
   obtain ⟨r,hr,hR⟩:=double_pt (b:=b) F ho
   rw [sG_add] at hR
   have hbit:=bit4 k j (by omega)
   have hh:=half_eq (n4 k) j
   subst hij
   have w1:w64 ((j:Int) - 1)=255 - ((i+1:Nat):Int):=by rw [w64_id (by omega) (by omega)]; omega
   have w2:w64 ((j:Int).tdiv 64)=((j / 64:Nat):Int):=w64_div (b:=64) (by omega)
   have w3:(j:Int).tmod 64=((j % 64:Nat):Int):=tmodN' j 64
   unfold pcurve_curve_times.b0
   dsimp only
   rw [w2,w3]
   simp only [Int.toNat_natCast]
   clear w2 w3
   generalize hc:n4 k / 2 ^ (j+1)=c at *
   by_cases hb:(vg k (j / 64) >>> (j % 64)) &&& 1#64=1#64
   ·obtain ⟨r2,hr2,hR2⟩:=add_pt (b:=b) F hR h
    rw [sG_add] at hR2
    refine ⟨(255 - ((i+1:Nat):Int),r2),if_i (by omega) (bind_i hr (if_i (by omega) (if_i (by omega) (if_i hb (bind_i hr2 (ltt_i fun v hv=>by rw [hv,w1])))))),rfl,?_⟩
    dsimp only
    rw [show 256 - (i+1)=j by omega,hh,hbit.1 hb,show (2 * c+1) * a=c * a+c * a+a by rw [Nat.add_mul,Nat.mul_assoc,Nat.one_mul,Nat.two_mul]]
    exact hR2
   ·refine ⟨(255 - ((i+1:Nat):Int),r),if_i (by omega) (bind_i hr (if_i (by omega) (if_i (by omega) (if_n hb (ltt_i fun v hv=>by rw [hv,w1]))))),rfl,?_⟩
    dsimp only
    have h0:n4 k / 2 ^ j % 2=0:=by
     have : ¬ (n4 k / 2 ^ j % 2=1):=fun h=>hb (hbit.2 h)
     omega
    rw [show 256 - (i+1)=j by omega,hh,h0,Nat.add_zero,show 2 * c * a=c * a+c * a by rw [Nat.mul_assoc,Nat.two_mul]]
    exact hR
  ·rintro ⟨i',o⟩ ⟨hi',ho⟩
   dsimp only at hi' ho
   subst hi'
   refine ⟨o,by unfold pcurve_curve_times.b0; exact if_n (by dsimp only; omega) rfl,?_⟩
   rw [Nat.sub_self,Nat.pow_zero,Nat.div_one] at ho
   exact ho
 obtain ⟨r,h2,hR⟩:=key
 refine ⟨r,?_,hR⟩
 unfold pcurve_curve_times
 exact bind_i h2 rfl
theorem Fd.intoF (F:Fd P256 M inv one two) {x:Vx 64 4} (hx:n4 x<P256) : ∃ r,num_Field_In M inv one two x=some r∧F4 r (Go.Nt.mk (n4 x:Int)):=by
 obtain ⟨r,h1,h2⟩:=F.into hx
 exact ⟨r,h1,by unfold F4; rw [toN_id hx]; exact h2⟩
theorem Fd.unitF (F:Fd P256 M inv one two):F4 one 1:=by
 have:=F.unit
 rwa [show 1 % P256=1 by decide] at this
theorem Fd.outF (F:Fd P256 M inv one two) {x:Vx 64 4} {f:Fp} (hx:F4 x f) : ∃ r,num_Field_Out M inv one two x=some r∧n4 r=toN f:=F.out hx
theorem pow_inv {f:Fp} (hf:f ≠ 0):mk ((toN f ^ (P256 - 2) % P256:Nat):Int) * f=1:=by
 have h0:toN f ≠ 0:=fun h=>hf (toN_zero.1 h)
 have hnd : ¬ P256 ∣ toN f:=fun hd=>by
  have h1:=Nat.le_of_dvd (by omega) hd
  have h2:=toN_lt f
  omega
 have h1:=fermat2 pr_P hnd
 have e:toN f ^ (P256 - 1)=toN f ^ (P256 - 2) * toN f:=by
  rw [← Nat.pow_succ]
  exact congrArg (fun z=>toN f ^ z) (by decide)
 rw [e] at h1
 apply toN_inj
 rw [toN_mul,toN_nat,Nat.mod_mod,Nat.mod_mul_mod,h1]; rfl
theorem Fd.invF' (F:Fd P256 M inv one two) {x:Vx 64 4} {f:Fp} (hx:F4 x f) : ∃ r,num_Field_Inv M inv one two x=some r ∧ ∃ i,F4 r i∧(f ≠ 0 → i * f=1):=by
 obtain ⟨r,h1,h2⟩:=F.inverse hx
 refine ⟨r,h1,Go.Nt.mk ((toN f ^ (P256 - 2) % P256:Nat):Int),?_,pow_inv⟩
 unfold F4
 rw [toN_id (Nat.mod_lt _ (by decide))]
 exact h2
theorem base_pt (F:Fd P256 M inv one two) : ∃ r,pcurve_curve_base M inv one two b=some r∧P4 r (sG 1):=by
 have ex:n4 (#v[17627433388654248598#64,8575836109218198432#64,17923454489921339634#64,7716867327612699207#64]:Vx 64 4)=GX:=by decide
 have ey:n4 (#v[14678990851816772085#64,3156516839386865358#64,10297457778147434006#64,5756518291402817435#64]:Vx 64 4)=GY:=by decide
 obtain ⟨r1,h1,f1⟩:=F.intoF (x := #v[17627433388654248598#64,8575836109218198432#64,17923454489921339634#64,7716867327612699207#64]) (by rw [ex]; decide)
 obtain ⟨r2,h2,f2⟩:=F.intoF (x := #v[14678990851816772085#64,3156516839386865358#64,10297457778147434006#64,5756518291402817435#64]) (by rw [ey]; decide)
 rw [ex] at f1
 rw [ey] at f2
 refine ⟨(r1,r2,one),?_,gP_ok,(mk (GX:Int),mk (GY:Int),1),⟨f1,f2,F.unitF⟩,F_10,?_,?_⟩
 ·unfold pcurve_curve_base
  refine ltt_i fun v hv=>ltt_i fun w hw=>?_
  rw [hv,hw]
  exact bind_i h1 (bind_i h2 (bind_i rfl rfl))
 ·show mk (GX:Int)=mk (GX:Int) * (1 * 1); grind
 ·show mk (GY:Int)=mk (GY:Int) * (1 * (1 * 1)); grind
theorem unit_pt {x y:Vx 64 4} {q:Fp × Fp} (hq:okP (some q)) (f3:F4 x q.1) (f4:F4 y q.2) (h1:F4 one 1):P4 (x,y,one) (some q):=by
 refine ⟨hq,(q.1,q.2,1),⟨f3,f4,h1⟩,F_10,?_,?_⟩
 ·show q.1=q.1 * (1 * 1); grind
 ·show q.2=q.2 * (1 * (1 * 1)); grind
open Classical in
theorem read_ex (F:Fd P256 M inv one two) (hb:F4 b fB) (s:Str) : ∃ X Y Z,pcurve_curve_read M inv one two b s=some (X,Y,Z,decide (isPt s))∧(∃ t,T4 (X,Y,Z) t) ∧ ∀ q,okP (some q) → s=encQ q → P4 (X,Y,Z) (some q):=by
 unfold pcurve_curve_read
 by_cases hl:s.length=65
 case neg =>
  have hno : ¬ isPt s:=fun h=>hl ((isPt_iff s).1 h).1
  exact ⟨_,_,_,bind_i (v:=true) (if_i (by omega) rfl) (if_i rfl (by simp [hno])),⟨(0,0,0),F4_0,F4_0,F4_0⟩,fun q hq he=>absurd ⟨q,hq,he⟩ hno⟩
 by_cases h4:sg s 0=4#8
 case neg =>
  have hno : ¬ isPt s:=fun h=>h4 ((isPt_iff s).1 h).2.1
  exact ⟨_,_,_,bind_i (v:=true) (if_n (by omega) (if_i (by omega) (by simp [h4]))) (if_i rfl (by simp [hno])),⟨(0,0,0),F4_0,F4_0,F4_0⟩,fun q hq he=>absurd ⟨q,hq,he⟩ hno⟩
 obtain ⟨x,hx,ex⟩:=F.read (sub s 1 33) (by rw [sub_length (by omega)])
 obtain ⟨y,hy,ey⟩:=F.read (sub s 33 s.length) (by rw [sub_length (by omega),hl])
 have e65:sub s 33 s.length=sub s 33 65:=by rw [hl]
 rw [e65] at hy ey
 by_cases hxl:bnum (sub s 1 33)<P256
 case neg =>
  have hno : ¬ isPt s:=fun h=>hxl ((isPt_iff s).1 h).2.2.1
  refine ⟨_,_,_,bind_i (v:=false) (if_n (by omega) (if_i (by omega) (by simp [h4]))) (if_n (by decide) (if_i (by omega) (bind_i hx (if_i (by omega) (bind_i (by rw [e65]; exact hy) (bind_i (v:=true) (if_i (by simp [hxl]) rfl) (if_i rfl (by simp [hno])))))))),⟨(0,0,0),F4_0,F4_0,F4_0⟩,fun q hq he=>absurd ⟨q,hq,he⟩ hno⟩
 by_cases hyl:bnum (sub s 33 65)<P256
 case neg =>
  have hno : ¬ isPt s:=fun h=>hyl ((isPt_iff s).1 h).2.2.2.1
  refine ⟨_,_,_,bind_i (v:=false) (if_n (by omega) (if_i (by omega) (by simp [h4]))) (if_n (by decide) (if_i (by omega) (bind_i hx (if_i (by omega) (bind_i (by rw [e65]; exact hy) (bind_i (v:=true) (if_n (by simp [hxl]) (by simp [hyl])) (if_i rfl (by simp [hno])))))))),⟨(0,0,0),F4_0,F4_0,F4_0⟩,fun q hq he=>absurd ⟨q,hq,he⟩ hno⟩
 obtain ⟨r3,e3,f3⟩:=F.intoF (x:=x) (by rw [ex]; exact hxl)
 obtain ⟨r4,e4,f4⟩:=F.intoF (x:=y) (by rw [ey]; exact hyl)
 rw [ex] at f3
 rw [ey] at f4
 obtain ⟨r5,e5,f5⟩:=F.addF f3 f3
 obtain ⟨r6,e6,f6⟩:=F.addF f3 f5
 obtain ⟨r7,e7,f7⟩:=F.mulF f3 f3
 obtain ⟨r8,e8,f8⟩:=F.mulF f3 f7
 obtain ⟨r9,e9,f9⟩:=F.subF f8 f6
 obtain ⟨r10,e10,f10⟩:=F.addF f9 hb
 obtain ⟨r12,e12,f12⟩:=F.mulF f4 f4
 have heq:r12=r10 ↔ isPt s:=by
  rw [R4.inj md_P f12 f10,isPt_iff]
  constructor
  ·intro h
   refine ⟨hl,h4,hxl,hyl,?_⟩
   have:=toN_inj h
   unfold onF
   rw [this]; grind
  ·rintro ⟨-, -, -, -,h⟩
   unfold onF at h
   congr 1
   rw [h]; grind
 refine ⟨r3,r4,one,bind_i (v:=false) (if_n (by omega) (if_i (by omega) (by simp [h4]))) (if_n (by decide) (if_i (by omega) (bind_i hx (if_i (by omega) (bind_i (by rw [e65]; exact hy) (bind_i (v:=false) (if_n (by simp [hxl]) (by simp [hyl])) (if_n (by decide) ?_))))))),⟨(_,_,_),f3,f4,F.unitF⟩,?_⟩
 ·refine bind_i e3 (bind_i e4 (bind_i e5 (bind_i e6 (bind_i e7 (bind_i e8 (bind_i e9 (bind_i e10 (bind_i rfl (bind_i e12 (ltt_i fun v hv=>?_))))))))))
  rw [hv,decide_eq_decide.2 heq]
 ·rintro q hq rfl
  have lt : ∀ f:Fp,toN f<2 ^ 256:=fun f=>Nat.lt_trans (toN_lt f) P_lt256
  rw [encQ_x,bnum_nb32 _ (lt _),mk_toN] at f3
  rw [encQ_y,bnum_nb32 _ (lt _),mk_toN] at f4
  exact unit_pt hq f3 f4 F.unitF
theorem write_ex (F:Fd P256 M inv one two) {x y z:Vx 64 4} {q:Fp × Fp} (h:P4 (x,y,z) (some q)):pcurve_curve_write M inv one two b x y z=some (encQ q):=by
 obtain ⟨hq,⟨X,Y,Z⟩,⟨hX,hY,hZ⟩,hz,eX,eY⟩:=h
 dsimp only at hX hY hZ hz eX eY
 obtain ⟨r1,e1,i,f1,hi⟩:=F.invF' hZ
 have hi:=hi hz
 obtain ⟨r2,e2,f2⟩:=F.mulF f1 f1
 obtain ⟨r3,e3,f3⟩:=F.mulF hX f2
 obtain ⟨r4,e4,n4'⟩:=F.outF f3
 obtain ⟨r5,e5,f5⟩:=F.mulF f1 f2
 obtain ⟨r6,e6,f6⟩:=F.mulF hY f5
 obtain ⟨r7,e7,n7'⟩:=F.outF f6
 have x1:X * (i * i)=q.1:=by
  rw [eX]
  have:q.1 * (Z * Z) * (i * i)=q.1 * ((i * Z) * (i * Z)):=by grind
  rw [this,hi]; grind
 have y1:Y * (i * (i * i))=q.2:=by
  rw [eY]
  have:q.2 * (Z * (Z * Z)) * (i * (i * i))=q.2 * ((i * Z) * ((i * Z) * (i * Z))):=by grind
  rw [this,hi]; grind
 rw [x1] at n4'
 rw [y1] at n7'
 unfold pcurve_curve_write
 refine bind_i e1 (bind_i e2 (bind_i e3 (bind_i e4 (bind_i e5 (bind_i e6 (bind_i e7 (if_i rfl (bind_i (Bytes_eq r4) (if_i ?_ (bind_i (Bytes_eq r7) (if_i ?_ (ltt_i fun v hv=>?_))))))))))))
 ·simp [nb32_len]
 ·simp [nb32_len]
 ·rw [hv,n4',n7']; rfl
end
theorem newCurve_ex : ∃ inv one two b,pcurve_newCurve=some (vP,inv,one,two,b)∧Fd P256 vP inv one two∧F4 b fB:=by
 obtain ⟨inv,one,two,h1,F⟩:=New_P
 have eb:n4 (#v[4309448131093880907#64,7285987128567378166#64,12964664127075681980#64,6540974713487397863#64]:Vx 64 4)=B256:=by decide
 obtain ⟨r,h2,f2⟩:=F.intoF (x := #v[4309448131093880907#64,7285987128567378166#64,12964664127075681980#64,6540974713487397863#64]) (by rw [eb]; decide)
 rw [eb] at f2
 refine ⟨inv,one,two,r,?_,F,f2⟩
 unfold pcurve_newCurve
 exact bind_i h1 (bind_i h2 rfl)
def isSc (k:Str):Prop:=k.length=32∧bnum k<N256∧bnum k ≠ 0
open Classical in
theorem Scalar_ex (k:Str) : ∃ x,pcurve_Scalar k=some (x,decide (isSc k))∧(k.length=32 → n4 x=bnum k):=by
 obtain ⟨inv,one,two,h1,F⟩:=New_N
 unfold pcurve_Scalar
 by_cases hl:k.length=32
 ·obtain ⟨x,h2,e2⟩:=F.read k hl
  refine ⟨x,bind_i h1 (bind_i h2 ?_),fun _=>e2⟩
  dsimp only
  by_cases hlt:bnum k<N256
  ·rw [if_pos (by simp [hlt])]
   refine bind_i (num_Zero_eq x) ?_
   rw [e2]
   have e:(!(decide (bnum k=0)))=decide (isSc k):=by
    by_cases h0:bnum k=0
    ·have : ¬ isSc k:=fun h=>h.2.2 h0
     simp [h0,this]
    ·have:isSc k:=⟨hl,hlt,h0⟩
     simp [h0,this]
   rw [e]
  ·rw [if_neg (by simp [hlt])]
   have : ¬ isSc k:=fun h=>hlt h.2.1
   simp [this]
 ·have hno : ¬ isSc k:=fun h=>hl h.1
  refine ⟨replicate 4 0#64,bind_i h1 (bind_i (Read_bad k hl) ?_),fun h=>absurd h hl⟩
  dsimp only
  rw [if_neg (by decide)]
  simp [hno]
theorem sG_ne {a:Nat} (h:a % N256 ≠ 0) : ∃ q,sG a=some q:=by
 cases hs:sG a with
 | none=>exact absurd (sG_none hs) h
 | some q=>exact ⟨q,rfl⟩
def encP:Pt → Str
 | none=>[]
 | some q=>encQ q
theorem pt_cases (s:Str) (h:isPt s) : ∃ a q,a<N256∧a ≠ 0∧sG a=some q∧okP (some q)∧s=encQ q:=by
 obtain ⟨q,hq,hs⟩:=h
 obtain ⟨a,ha,he⟩:=span hq
 refine ⟨a,q,ha,fun h0=>?_,he.symm,hq,hs⟩
 rw [h0] at he; cases he
open Classical in
theorem On_eq (s:Str):pcurve_On s=some (decide (isPt s)):=by
 obtain ⟨inv,one,two,b,h1,F,hb⟩:=newCurve_ex
 obtain ⟨X,Y,Z,h2, -, -⟩:=read_ex F hb s
 unfold pcurve_On
 exact bind_i h1 (bind_i h2 rfl)
theorem Public_is (k:Str) (h:isSc k):pcurve_Public k=some (encP (sG (bnum k)),0):=by
 obtain ⟨x,h1,e1⟩:=Scalar_ex k
 obtain ⟨inv,one,two,b,h2,F,hb⟩:=newCurve_ex
 obtain ⟨g,h3,f3⟩:=base_pt (b:=b) F
 obtain ⟨r,h4,f4⟩:=times_pt (b:=b) (k:=x) F f3
 rw [e1 h.1,Nat.mul_one] at f4
 obtain ⟨q,hq⟩:=sG_ne (a:=bnum k) (by rw [Nat.mod_eq_of_lt h.2.1]; exact h.2.2)
 rw [hq] at f4
 unfold pcurve_Public
 refine bind_i h1 (if_n (by simp [h]) (bind_i h2 (bind_i h3 (bind_i h4 (bind_i (write_ex F f4) ?_)))))
 rw [hq]; rfl
end Go.Kx
end

section
namespace Go.Proofs
open Go Go.Kx
open TryI Try
def halberdref9_curveB:Option (Vx 32 8) :=
 ltt ((#v[668098635#32,1003371582#32,3428036854#32,1696401072#32,1989707452#32,3018571093#32,2855965671#32,1522939352#32]:Vx 32 8)) fun (m_1:Vx 32 8)=>(some m_1)
set_option maxHeartbeats 4000000 in
set_option maxRecDepth 20000 in
theorem F50_calls (r:Vx 32 8) (H:halberdref9_curveB=some r) :
  Does Try.prog 50 [] [] [] (Γ:=Unit) (fun g=>aG [(8,e32 r.toList)]) (fun g=>[]):=by
 intro w hmem hro hd
 refine calls_of (N:=2) (m0:=[]) func50 rfl ntmps50 (argM_ok []) rfl hmem hro hd ?_
 unfold halberdref9_curveB at H
 refine TC_seq (TC_region (TLe (E_al32 8 inf31 zer31) (fun b1=>?_)))
 refine TL_nil (TX_next (TC_seq (TC_region (TLv (V_buildArr (pv:=[(0,v32 668098635#32),(1,v32 1003371582#32),(2,v32 3428036854#32),(3,v32 1696401072#32),(4,v32 1989707452#32),(5,v32 3018571093#32),(6,v32 2855965671#32),(7,v32 1522939352#32)]) rfl rfl underlying31 inf31 inf29 rfl zer31 (cs:=e32 ((#v[668098635#32,1003371582#32,3428036854#32,1696401072#32,1989707452#32,3018571093#32,2855965671#32,1522939352#32]:Vx 32 8).toList)) (by kernel_rfl)) ?_))))
 refine TLn (E_sv 0 inf31) (fun _=>?_)
 obtain ⟨m_1,hm_1,H⟩:=ltt_elim H
 refine TL_reE (j:=0) (A:=some (b1,0)) (cs:=e32 ((#v[668098635#32,1003371582#32,3428036854#32,1696401072#32,1989707452#32,3018571093#32,2855965671#32,1522939352#32]:Vx 32 8).toList)) (cs':=e32 m_1.toList) rfl (congrArg (fun z:Vx 32 8=>e32 (Vector.toList z)) hm_1) ?_
 refine TL_nil (TX_next (TC_ret ?_))
 obtain rfl:=sj H
 exact TXr (vs:=[_]) rfl ⟨(Res_agg (n:=8) rfl (by simp) (.o 0) isAgg31 inf31 rfl (lenV (f:=v32) m_1)),trivial⟩
end Go.Proofs
end

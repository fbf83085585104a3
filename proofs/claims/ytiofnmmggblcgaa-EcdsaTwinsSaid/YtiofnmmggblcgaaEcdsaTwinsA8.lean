/-
  Part 8 of the proof of EcdsaTwins.
-/
import Derived.Test.YtiofnmmggblcgaaEcdsaTwinsA1
import Derived.Test.YtiofnmmggblcgaaEcdsaTwinsA2
import Derived.Test.YtiofnmmggblcgaaEcdsaTwinsA3
import Derived.Test.YtiofnmmggblcgaaEcdsaTwinsA4
import Derived.Test.YtiofnmmggblcgaaEcdsaTwinsA5
import Derived.Test.YtiofnmmggblcgaaEcdsaTwinsA6
import Derived.Test.YtiofnmmggblcgaaEcdsaTwinsA7
set_option linter.unusedVariables false
set_option linter.unusedSimpArgs false
section
namespace Go.Proofs
open Go Go.Kx
open Vector (replicate)
def pcurve_curve_times.b0 (cM:Vx 64 4) (cI:BitVec 64) (cO:Vx 64 4) (cT:Vx 64 4) (c_b:Vx 64 4) (k:Vx 64 4) (p_x:Vx 64 4) (p_y:Vx 64 4) (p_z:Vx 64 4) (s0:Int × Vx 64 4 × Vx 64 4 × Vx 64 4):Option ((Int × Vx 64 4 × Vx 64 4 × Vx 64 4) ⊕ (Vx 64 4 × Vx 64 4 × Vx 64 4)) :=
 if 0≤s0.1 then ((pcurve_curve_double cM cI cO cT c_b s0.2.1 s0.2.2.1 s0.2.2.2).bind fun (r_1:Vx 64 4 × Vx 64 4 × Vx 64 4)=>(if 0≤w64 (s0.1.tdiv 64)∧w64 (s0.1.tdiv 64)<(4:Int) then (if 0≤s0.1.tmod 64 then (if (((vg k ((w64 (s0.1.tdiv 64)).toNat)) >>> (s0.1.tmod 64).toNat) &&& 1#64)=1#64 then ((pcurve_curve_add cM cI cO cT c_b r_1.1 r_1.2.1 r_1.2.2 p_x p_y p_z).bind fun (r_2:Vx 64 4 × Vx 64 4 × Vx 64 4)=>(ltt (w64 (s0.1 - 1)) fun (i1:Int)=>(some (.inl (i1,r_2.1,r_2.2.1,r_2.2.2))))) else (ltt (w64 (s0.1 - 1)) fun (i2:Int)=>(some (.inl (i2,r_1.1,r_1.2.1,r_1.2.2))))) else none) else none)) else (some (.inr (s0.2.1,s0.2.2.1,s0.2.2.2)))
def pcurve_curve_times (cM:Vx 64 4) (cI:BitVec 64) (cO:Vx 64 4) (cT:Vx 64 4) (c_b:Vx 64 4) (k:Vx 64 4) (p_x:Vx 64 4) (p_y:Vx 64 4) (p_z:Vx 64 4):Option (Vx 64 4 × Vx 64 4 × Vx 64 4) :=
 (loop (pcurve_curve_times.b0 cM cI cO cT c_b k p_x p_y p_z) BIG (255,replicate 4 0#64,replicate 4 0#64,replicate 4 0#64)).bind fun (t_1:Vx 64 4 × Vx 64 4 × Vx 64 4)=>(some (t_1.1,t_1.2.1,t_1.2.2))
set_option maxHeartbeats 4000000 in
set_option maxRecDepth 20000 in
theorem F35_calls (bc:Nat) (obc:Nat) (bF:Nat) (oF:Nat) (cM:Vx 64 4) (cI:BitVec 64) (cO:Vx 64 4) (cT:Vx 64 4) (c_b:Vx 64 4) (k:Vx 64 4) (p_x:Vx 64 4) (p_y:Vx 64 4) (p_z:Vx 64 4) (r:Vx 64 4 × Vx 64 4 × Vx 64 4) (H:pcurve_curve_times cM cI cO cT c_b k p_x p_y p_z=some r) :
  Does Try.prog 35 [ptr (some (bc,obc)) 0,aG [(4,e64 k.toList)],aG [(4,e64 p_x.toList),(4,e64 p_y.toList),(4,e64 p_z.toList)]] [] [⟨some (bc,obc),[ptr (some (bF,oF)) 0]⟩,⟨some (bc,obc+1),e64 c_b.toList⟩,⟨some (bF,oF),e64 cM.toList⟩,⟨some (bF,oF+4),[v64 cI]⟩,⟨some (bF,oF+5),e64 cO.toList⟩,⟨some (bF,oF+9),e64 cT.toList⟩] (Γ:=Unit) (fun g=>aG [(4,e64 r.1.toList),(4,e64 r.2.1.toList),(4,e64 r.2.2.toList)]) (fun g=>[]):=by
 intro w hmem hro hd
 refine calls_of (N:=30) (m0:=[(0,ptr (some (bc,obc)) 0),(1,aG [(4,e64 k.toList)]),(2,aG [(4,e64 p_x.toList),(4,e64 p_y.toList),(4,e64 p_z.toList)])]) Try.func35 rfl Try.ntmps35 (argM_ok [ptr (some (bc,obc)) 0,aG [(4,e64 k.toList)],aG [(4,e64 p_x.toList),(4,e64 p_y.toList),(4,e64 p_z.toList)]]) rfl hmem hro hd ?_
 unfold pcurve_curve_times at H
 refine TC_seq (TC_region (TLe (E_boxP [(4,e64 k.toList)] rfl rfl ⟨(lenV (f:=v64) k),trivial⟩) (fun b1=>?_)))
 refine TLe (E_boxP [(4,e64 p_x.toList),(4,e64 p_y.toList),(4,e64 p_z.toList)] rfl rfl ⟨(lenV (f:=v64) p_x),(lenV (f:=v64) p_y),(lenV (f:=v64) p_z),trivial⟩) (fun b2=>?_)
 refine TLe (E_allocP [(4,e64 ((replicate 4 0#64).toList)),(4,e64 ((replicate 4 0#64).toList)),(4,e64 ((replicate 4 0#64).toList))] TryI.inf64 TryI.zer64 ⟨(lenV (f:=v64) (replicate 4 0#64)),(lenV (f:=v64) (replicate 4 0#64)),(lenV (f:=v64) (replicate 4 0#64)),trivial⟩) (fun b3=>?_)
 refine TL_nil (TX_next (TC_seq (TC_region (TLe (E_allocP [(4,e64 ((replicate 4 0#64).toList)),(4,e64 ((replicate 4 0#64).toList)),(4,e64 ((replicate 4 0#64).toList))] TryI.inf64 TryI.zer64 ⟨(lenV (f:=v64) (replicate 4 0#64)),(lenV (f:=v64) (replicate 4 0#64)),(lenV (f:=v64) (replicate 4 0#64)),trivial⟩) (fun b4=>?_)))))
 refine TL_nil (TX_next (TC_seq (TC_seq (TC_region (TLv (V_assign rfl) ?_)))))
 refine TL_nil (TX_next (TC_block ?_))
 obtain ⟨t_1,Hl,H⟩:=bind_elim H
 refine TC.sub (m':=[(0,ptr (some (bc,obc)) 0),(4,ptr (some (b1,0)) 0),(5,ptr (some (b2,0)) 0),(6,ptr (some (b3,0)) 0),(7,ptr (some (b4,0)) 0),(8,vi 255)]) ⟨rfl,rfl,rfl,rfl,rfl,rfl,trivial⟩ ?_
 refine TC.pull (is:=[9,6,6,6,3,3,3,0,0,0]) (L':=[⟨some (b1,0),e64 k.toList⟩,⟨some (b2,0),e64 p_x.toList⟩,⟨some (b2,4),e64 p_y.toList⟩,⟨some (b2,8),e64 p_z.toList⟩,⟨some (b3,0),e64 ((replicate 4 0#64).toList)⟩,⟨some (b3,4),e64 ((replicate 4 0#64).toList)⟩,⟨some (b3,8),e64 ((replicate 4 0#64).toList)⟩,⟨some (b4,0),e64 ((replicate 4 0#64).toList)⟩,⟨some (b4,4),e64 ((replicate 4 0#64).toList)⟩,⟨some (b4,8),e64 ((replicate 4 0#64).toList)⟩]) rfl ?_
 refine TC_loopL (id:=0) (body:=(pcurve_curve_times.b0 cM cI cO cT c_b k p_x p_y p_z)) (σ:=Int × Vx 64 4 × Vx 64 4 × Vx 64 4) (Γ:=Unit) (Γx:=Unit) (fun s0 g0_=>[(0,ptr (some (bc,obc)) 0),(4,ptr (some (b1,0)) 0),(5,ptr (some (b2,0)) 0),(6,ptr (some (b3,0)) 0),(7,ptr (some (b4,0)) 0),(8,vi s0.1)]) (fun s0 g0_=>[⟨some (b1,0),e64 k.toList⟩,⟨some (b2,0),e64 p_x.toList⟩,⟨some (b2,4),e64 p_y.toList⟩,⟨some (b2,8),e64 p_z.toList⟩,⟨some (b3,0),e64 ((replicate 4 0#64).toList)⟩,⟨some (b3,4),e64 ((replicate 4 0#64).toList)⟩,⟨some (b3,8),e64 ((replicate 4 0#64).toList)⟩,⟨some (b4,0),e64 s0.2.1.toList⟩,⟨some (b4,4),e64 s0.2.2.1.toList⟩,⟨some (b4,8),e64 s0.2.2.2.toList⟩]) (fun t g=>[(6,ptr (some (b3,0)) 0),(7,ptr (some (b4,0)) 0)]) (fun t g=>[⟨some (b3,0),e64 ((replicate 4 0#64).toList)⟩,⟨some (b3,4),e64 ((replicate 4 0#64).toList)⟩,⟨some (b3,8),e64 ((replicate 4 0#64).toList)⟩,⟨some (b4,0),e64 t.1.toList⟩,⟨some (b4,4),e64 t.2.1.toList⟩,⟨some (b4,8),e64 t.2.2.toList⟩]) ?_ BIG (255,replicate 4 0#64,replicate 4 0#64,replicate 4 0#64) () t_1 Hl ?_
 ·intro s0 g0_ r1 H K hK hE
  unfold pcurve_curve_times.b0 at H
  refine TC_seq (TC_seq (TC_region (TLv (V_move rfl) ?_)))
  refine TLv (V_bin rfl rfl (fun w=>geqI w s0.1 0)) ?_
  refine TL_nil (TX_next (TC_cond (b:=(decide (0≤s0.1))) rfl (fun hc=>?_) (fun hc=>?_)))
  ·replace H:=ite_t (of_decide_eq_true hc) H
   refine TC_skip (TX_next (TC_seq (TC_block (TC_seq (TC_region (TLv (V_move rfl) ?_))))))
   refine TLv (V_loadAgg (n:=12) (cs:=flat [(4,e64 s0.2.1.toList),(4,e64 s0.2.2.1.toList),(4,e64 s0.2.2.2.toList)]) rfl (by simp) (SrcEnts (b:=b4) [(4,e64 s0.2.1.toList),(4,e64 s0.2.2.1.toList),(4,e64 s0.2.2.2.toList)] 0 ⟨(lenV (f:=v64) s0.2.1),(lenV (f:=v64) s0.2.2.1),(lenV (f:=v64) s0.2.2.2),trivial⟩ (AllSrc.all (M:=ents b4 0 [(4,e64 s0.2.1.toList),(4,e64 s0.2.2.1.toList),(4,e64 s0.2.2.2.toList)]) ⟨Src.own (j:=7) rfl,Src.own (j:=8) rfl,Src.own (j:=9) rfl,trivial⟩)) Try.isAgg64 TryI.inf64 rfl (flat_len ⟨(lenV (f:=v64) s0.2.1),(lenV (f:=v64) s0.2.2.1),(lenV (f:=v64) s0.2.2.2),trivial⟩ rfl)) ?_
   obtain ⟨r_1,hr_1,H⟩:=bind_elim H
   refine TLe (E_c0 (F74_calls bc obc bF oF cM cI cO cT c_b s0.2.1 s0.2.2.1 s0.2.2.2 r_1 hr_1) Try.call74 ⟨.r 0, .r 1, .r 2, .r 3, .r 4, .r 5,trivial⟩) (fun g_1=>?_)
   refine TLn (E_sp (b:=b4) (o:=0) [7,7,7] [(4,e64 s0.2.1.toList),(4,e64 s0.2.2.1.toList),(4,e64 s0.2.2.2.toList)] [(4,e64 r_1.1.toList),(4,e64 r_1.2.1.toList),(4,e64 r_1.2.2.toList)] rfl TryI.inf64 ⟨(lenV (f:=v64) s0.2.1),(lenV (f:=v64) s0.2.2.1),(lenV (f:=v64) s0.2.2.2),trivial⟩ ⟨(lenV (f:=v64) r_1.1),(lenV (f:=v64) r_1.2.1),(lenV (f:=v64) r_1.2.2),trivial⟩ ⟨(OneC.map (fun _=>rfl) _),(OneC.map (fun _=>rfl) _),(OneC.map (fun _=>rfl) _),trivial⟩) (fun _=>?_)
   refine TL_nil (TX_next (TC_seq (TC_region (TLv (V_move rfl) ?_))))
   refine TLv (V_bin rfl rfl (fun w=>quoI w s0.1 64 (by decide))) ?_
   obtain ⟨h1,H⟩:=if_elim H
   refine TLv (V_idxArr (i:=w64 (s0.1.tdiv 64)) rfl rfl Try.underlying57 TryI.inf55 rfl h1.1 h1.2 (k:=(w64 (s0.1.tdiv 64)).toNat) (k01 _)) ?_
   refine TLv (V_load rfl (.o 3) (get_vec (f:=v64) (V:=k) (toNat_lt h1.1 h1.2)) Try.isAgg55) ?_
   refine TLv (V_move rfl) ?_
   refine TLv (V_bin rfl rfl (fun w=>remI w s0.1 64 (by decide))) ?_
   obtain ⟨h2,H⟩:=if_elim H
   refine TLv (V_bin rfl rfl (fun w=>shr64 w (vg k ((w64 (s0.1.tdiv 64)).toNat)) .i64 (s0.1.tmod 64) h2)) ?_
   refine TLv (V_bin rfl rfl (fun w=>and64 w ((vg k ((w64 (s0.1.tdiv 64)).toNat)) >>> (s0.1.tmod 64).toNat) 1#64)) ?_
   refine TLv (V_bin rfl rfl (fun w=>eql64 w (((vg k ((w64 (s0.1.tdiv 64)).toNat)) >>> (s0.1.tmod 64).toNat) &&& 1#64) 1#64)) ?_
   refine TL_nil (TX_next (TC_cond (b:=(decide ((((vg k ((w64 (s0.1.tdiv 64)).toNat)) >>> (s0.1.tmod 64).toNat) &&& 1#64)=1#64))) rfl (fun hc=>?_) (fun hc=>?_)))
   ·replace H:=ite_t (of_decide_eq_true hc) H
    refine TC_region (TLv (V_move rfl) ?_)
    refine TLv (V_loadAgg (n:=12) (cs:=flat [(4,e64 r_1.1.toList),(4,e64 r_1.2.1.toList),(4,e64 r_1.2.2.toList)]) rfl (by simp) (SrcEnts (b:=b4) [(4,e64 r_1.1.toList),(4,e64 r_1.2.1.toList),(4,e64 r_1.2.2.toList)] 0 ⟨(lenV (f:=v64) r_1.1),(lenV (f:=v64) r_1.2.1),(lenV (f:=v64) r_1.2.2),trivial⟩ (AllSrc.all (M:=ents b4 0 [(4,e64 r_1.1.toList),(4,e64 r_1.2.1.toList),(4,e64 r_1.2.2.toList)]) ⟨Src.own (j:=0) rfl,Src.own (j:=1) rfl,Src.own (j:=2) rfl,trivial⟩)) Try.isAgg64 TryI.inf64 rfl (flat_len ⟨(lenV (f:=v64) r_1.1),(lenV (f:=v64) r_1.2.1),(lenV (f:=v64) r_1.2.2),trivial⟩ rfl)) ?_
    refine TLv (V_loadAgg (n:=12) (cs:=flat [(4,e64 p_x.toList),(4,e64 p_y.toList),(4,e64 p_z.toList)]) rfl (by simp) (SrcEnts (b:=b2) [(4,e64 p_x.toList),(4,e64 p_y.toList),(4,e64 p_z.toList)] 0 ⟨(lenV (f:=v64) p_x),(lenV (f:=v64) p_y),(lenV (f:=v64) p_z),trivial⟩ (AllSrc.all (M:=ents b2 0 [(4,e64 p_x.toList),(4,e64 p_y.toList),(4,e64 p_z.toList)]) ⟨Src.own (j:=4) rfl,Src.own (j:=5) rfl,Src.own (j:=6) rfl,trivial⟩)) Try.isAgg64 TryI.inf64 rfl (flat_len ⟨(lenV (f:=v64) p_x),(lenV (f:=v64) p_y),(lenV (f:=v64) p_z),trivial⟩ rfl)) ?_
    obtain ⟨r_2,hr_2,H⟩:=bind_elim H
    refine TLe (E_c0 (F42_calls bc obc bF oF cM cI cO cT c_b r_1.1 r_1.2.1 r_1.2.2 p_x p_y p_z r_2 hr_2) Try.call42 ⟨.r 0, .r 1, .r 2, .r 3, .r 4, .r 5,trivial⟩) (fun g_2=>?_)
    refine TLn (E_sp (b:=b4) (o:=0) [0,0,0] [(4,e64 r_1.1.toList),(4,e64 r_1.2.1.toList),(4,e64 r_1.2.2.toList)] [(4,e64 r_2.1.toList),(4,e64 r_2.2.1.toList),(4,e64 r_2.2.2.toList)] rfl TryI.inf64 ⟨(lenV (f:=v64) r_1.1),(lenV (f:=v64) r_1.2.1),(lenV (f:=v64) r_1.2.2),trivial⟩ ⟨(lenV (f:=v64) r_2.1),(lenV (f:=v64) r_2.2.1),(lenV (f:=v64) r_2.2.2),trivial⟩ ⟨(OneC.map (fun _=>rfl) _),(OneC.map (fun _=>rfl) _),(OneC.map (fun _=>rfl) _),trivial⟩) (fun _=>?_)
    refine TL_nil (TX_block_normal (TX_next (TC_region (TLv (V_move rfl) ?_))))
    refine TLv (V_bin rfl rfl (fun w=>subI w s0.1 1)) ?_
    refine TLv (V_assign rfl) ?_
    obtain ⟨i1,hi1,H⟩:=ltt_elim H
    refine TL_re (d:=8) (v:=vi (w64 (s0.1 - 1))) (v':=vi i1) rfl (congrArg vi hi1) ?_
    refine TL_nil (TX.sub (m':=[(0,ptr (some (bc,obc)) 0),(4,ptr (some (b1,0)) 0),(5,ptr (some (b2,0)) 0),(6,ptr (some (b3,0)) 0),(7,ptr (some (b4,0)) 0),(8,vi i1)]) ⟨rfl,rfl,rfl,rfl,rfl,rfl,trivial⟩ ?_)
    refine TX.pull (is:=[3,3,3,3,3,3,3,0,0,0]) (L':=[⟨some (b1,0),e64 k.toList⟩,⟨some (b2,0),e64 p_x.toList⟩,⟨some (b2,4),e64 p_y.toList⟩,⟨some (b2,8),e64 p_z.toList⟩,⟨some (b3,0),e64 ((replicate 4 0#64).toList)⟩,⟨some (b3,4),e64 ((replicate 4 0#64).toList)⟩,⟨some (b3,8),e64 ((replicate 4 0#64).toList)⟩,⟨some (b4,0),e64 r_2.1.toList⟩,⟨some (b4,4),e64 r_2.2.1.toList⟩,⟨some (b4,8),e64 r_2.2.2.toList⟩]) rfl ?_
    obtain rfl:=Option.some.inj H
    exact fun a w hs=>hK (i1,r_2.1,r_2.2.1,r_2.2.2) rfl () a w hs
   ·replace H:=ite_f (of_decide_eq_false hc) H
    refine TC_skip (TX_block_normal (TX_next (TC_region (TLv (V_move rfl) ?_))))
    refine TLv (V_bin rfl rfl (fun w=>subI w s0.1 1)) ?_
    refine TLv (V_assign rfl) ?_
    obtain ⟨i2,hi2,H⟩:=ltt_elim H
    refine TL_re (d:=8) (v:=vi (w64 (s0.1 - 1))) (v':=vi i2) rfl (congrArg vi hi2) ?_
    refine TL_nil (TX.sub (m':=[(0,ptr (some (bc,obc)) 0),(4,ptr (some (b1,0)) 0),(5,ptr (some (b2,0)) 0),(6,ptr (some (b3,0)) 0),(7,ptr (some (b4,0)) 0),(8,vi i2)]) ⟨rfl,rfl,rfl,rfl,rfl,rfl,trivial⟩ ?_)
    refine TX.pull (is:=[3,3,3,3,3,3,3,0,0,0]) (L':=[⟨some (b1,0),e64 k.toList⟩,⟨some (b2,0),e64 p_x.toList⟩,⟨some (b2,4),e64 p_y.toList⟩,⟨some (b2,8),e64 p_z.toList⟩,⟨some (b3,0),e64 ((replicate 4 0#64).toList)⟩,⟨some (b3,4),e64 ((replicate 4 0#64).toList)⟩,⟨some (b3,8),e64 ((replicate 4 0#64).toList)⟩,⟨some (b4,0),e64 r_1.1.toList⟩,⟨some (b4,4),e64 r_1.2.1.toList⟩,⟨some (b4,8),e64 r_1.2.2.toList⟩]) rfl ?_
    obtain rfl:=Option.some.inj H
    exact fun a w hs=>hK (i2,r_1.1,r_1.2.1,r_1.2.2) rfl () a w hs
  ·replace H:=ite_f (of_decide_eq_false hc) H
   refine TC_exit (TX_then_exit (TX_then_exit (TX.sub (m':=[(6,ptr (some (b3,0)) 0),(7,ptr (some (b4,0)) 0)]) ⟨rfl,rfl,trivial⟩ ?_)))
   refine TX.pull (is:=[4,4,4,4,4,4]) (L':=[⟨some (b3,0),e64 ((replicate 4 0#64).toList)⟩,⟨some (b3,4),e64 ((replicate 4 0#64).toList)⟩,⟨some (b3,8),e64 ((replicate 4 0#64).toList)⟩,⟨some (b4,0),e64 s0.2.1.toList⟩,⟨some (b4,4),e64 s0.2.2.1.toList⟩,⟨some (b4,8),e64 s0.2.2.2.toList⟩]) rfl ?_
   obtain rfl:=Option.some.inj H
   exact hE (s0.2.1,s0.2.2.1,s0.2.2.2) rfl ()
 ·intro g
  refine TX_block_exit (TX_next (TC_seq (TC_region (TLv (V_loadAgg (n:=12) (cs:=flat [(4,e64 t_1.1.toList),(4,e64 t_1.2.1.toList),(4,e64 t_1.2.2.toList)]) rfl (by simp) (SrcEnts (b:=b4) [(4,e64 t_1.1.toList),(4,e64 t_1.2.1.toList),(4,e64 t_1.2.2.toList)] 0 ⟨(lenV (f:=v64) t_1.1),(lenV (f:=v64) t_1.2.1),(lenV (f:=v64) t_1.2.2),trivial⟩ (AllSrc.all (M:=ents b4 0 [(4,e64 t_1.1.toList),(4,e64 t_1.2.1.toList),(4,e64 t_1.2.2.toList)]) ⟨Src.own (j:=3) rfl,Src.own (j:=4) rfl,Src.own (j:=5) rfl,trivial⟩)) Try.isAgg64 TryI.inf64 rfl (flat_len ⟨(lenV (f:=v64) t_1.1),(lenV (f:=v64) t_1.2.1),(lenV (f:=v64) t_1.2.2),trivial⟩ rfl)) ?_))))
  refine TLn (E_sp (b:=b3) (o:=0) [0,0,0] [(4,e64 ((replicate 4 0#64).toList)),(4,e64 ((replicate 4 0#64).toList)),(4,e64 ((replicate 4 0#64).toList))] [(4,e64 t_1.1.toList),(4,e64 t_1.2.1.toList),(4,e64 t_1.2.2.toList)] rfl TryI.inf64 ⟨(lenV (f:=v64) (replicate 4 0#64)),(lenV (f:=v64) (replicate 4 0#64)),(lenV (f:=v64) (replicate 4 0#64)),trivial⟩ ⟨(lenV (f:=v64) t_1.1),(lenV (f:=v64) t_1.2.1),(lenV (f:=v64) t_1.2.2),trivial⟩ ⟨(OneC.map (fun _=>rfl) _),(OneC.map (fun _=>rfl) _),(OneC.map (fun _=>rfl) _),trivial⟩) (fun _=>?_)
  refine TL_nil (TX_next (TC_ret ?_))
  have hrv:=Option.some.inj H
  subst hrv
  exact TX_ret (rs:=[.cell 6 64]) (vs:=[aG [(4,e64 t_1.1.toList),(4,e64 t_1.2.1.toList),(4,e64 t_1.2.2.toList)]]) rfl ⟨(Res_agg (n:=12) (cs:=flat [(4,e64 t_1.1.toList),(4,e64 t_1.2.1.toList),(4,e64 t_1.2.2.toList)]) rfl (by simp) (SrcEnts (b:=b3) [(4,e64 t_1.1.toList),(4,e64 t_1.2.1.toList),(4,e64 t_1.2.2.toList)] 0 ⟨(lenV (f:=v64) t_1.1),(lenV (f:=v64) t_1.2.1),(lenV (f:=v64) t_1.2.2),trivial⟩ (AllSrc.all (M:=ents b3 0 [(4,e64 t_1.1.toList),(4,e64 t_1.2.1.toList),(4,e64 t_1.2.2.toList)]) ⟨Src.own (j:=0) rfl,Src.own (j:=1) rfl,Src.own (j:=2) rfl,trivial⟩)) Try.isAgg64 TryI.inf64 rfl (by simp [flat])),trivial⟩ (fun w' hs'=>⟨(),rfl,Step.left (Step.pulled (is:=[]) (A:=[]) hs' rfl)⟩)
end Go.Proofs
end

section
namespace Go.Proofs
open Go Go.Kx
open Vector (replicate)
def pcurve_curve_base (cM:Vx 64 4) (cI:BitVec 64) (cO:Vx 64 4) (cT:Vx 64 4) (c_b:Vx 64 4):Option (Vx 64 4 × Vx 64 4 × Vx 64 4) :=
 ltt ((#v[17627433388654248598#64,8575836109218198432#64,17923454489921339634#64,7716867327612699207#64]:Vx 64 4)) fun (m_1:Vx 64 4)=>(ltt ((#v[14678990851816772085#64,3156516839386865358#64,10297457778147434006#64,5756518291402817435#64]:Vx 64 4)) fun (m_2:Vx 64 4)=>((num_Field_In cM cI cO cT m_1).bind fun (r_1:Vx 64 4)=>((num_Field_In cM cI cO cT m_2).bind fun (r_2:Vx 64 4)=>((num_Field_One cM cI cO cT).bind fun (r_3:Vx 64 4)=>(some (r_1,r_2,r_3))))))
set_option maxHeartbeats 4000000 in
set_option maxRecDepth 20000 in
theorem F36_calls (bc:Nat) (obc:Nat) (bF:Nat) (oF:Nat) (cM:Vx 64 4) (cI:BitVec 64) (cO:Vx 64 4) (cT:Vx 64 4) (c_b:Vx 64 4) (r:Vx 64 4 × Vx 64 4 × Vx 64 4) (H:pcurve_curve_base cM cI cO cT c_b=some r) :
  Does Try.prog 36 [ptr (some (bc,obc)) 0] [] [⟨some (bc,obc),[ptr (some (bF,oF)) 0]⟩,⟨some (bc,obc+1),e64 c_b.toList⟩,⟨some (bF,oF),e64 cM.toList⟩,⟨some (bF,oF+4),[v64 cI]⟩,⟨some (bF,oF+5),e64 cO.toList⟩,⟨some (bF,oF+9),e64 cT.toList⟩] (Γ:=Unit) (fun g=>aG [(4,e64 r.1.toList),(4,e64 r.2.1.toList),(4,e64 r.2.2.toList)]) (fun g=>[]):=by
 intro w hmem hro hd
 refine calls_of (N:=25) (m0:=[(0,ptr (some (bc,obc)) 0)]) Try.func36 rfl Try.ntmps36 (argM_ok [ptr (some (bc,obc)) 0]) rfl hmem hro hd ?_
 unfold pcurve_curve_base at H
 refine TC_seq (TC_region (TLe (E_allocP [(4,e64 ((replicate 4 0#64).toList)),(4,e64 ((replicate 4 0#64).toList)),(4,e64 ((replicate 4 0#64).toList))] TryI.inf64 TryI.zer64 ⟨(lenV (f:=v64) (replicate 4 0#64)),(lenV (f:=v64) (replicate 4 0#64)),(lenV (f:=v64) (replicate 4 0#64)),trivial⟩) (fun b1=>?_)))
 refine TL_nil (TX_next (TC_seq (TC_region (TLv (V_buildArr (pv:=[(0,v64 17627433388654248598#64),(1,v64 8575836109218198432#64),(2,v64 17923454489921339634#64),(3,v64 7716867327612699207#64)]) rfl rfl Try.underlying57 TryI.inf57 TryI.inf55 rfl TryI.zer57 (cs:=e64 ((#v[17627433388654248598#64,8575836109218198432#64,17923454489921339634#64,7716867327612699207#64]:Vx 64 4).toList)) (by kernel_rfl)) ?_))))
 refine TLe (E_al64 4 TryI.inf57 TryI.zer57) (fun b2=>?_)
 refine TLn (E_sv 0 TryI.inf57) (fun _=>?_)
 obtain ⟨m_1,hm_1,H⟩:=ltt_elim H
 refine TL_reE (j:=0) (A:=some (b2,0)) (cs:=e64 ((#v[17627433388654248598#64,8575836109218198432#64,17923454489921339634#64,7716867327612699207#64]:Vx 64 4).toList)) (cs':=e64 m_1.toList) rfl (congrArg (fun z:Vx 64 4=>e64 (Vector.toList z)) hm_1) ?_
 refine TL_nil (TX_next (TC_seq (TC_region (TLv (V_buildArr (pv:=[(0,v64 14678990851816772085#64),(1,v64 3156516839386865358#64),(2,v64 10297457778147434006#64),(3,v64 5756518291402817435#64)]) rfl rfl Try.underlying57 TryI.inf57 TryI.inf55 rfl TryI.zer57 (cs:=e64 ((#v[14678990851816772085#64,3156516839386865358#64,10297457778147434006#64,5756518291402817435#64]:Vx 64 4).toList)) (by kernel_rfl)) ?_))))
 refine TLe (E_al64 4 TryI.inf57 TryI.zer57) (fun b3=>?_)
 refine TLn (E_sv 0 TryI.inf57) (fun _=>?_)
 obtain ⟨m_2,hm_2,H⟩:=ltt_elim H
 refine TL_reE (j:=0) (A:=some (b3,0)) (cs:=e64 ((#v[14678990851816772085#64,3156516839386865358#64,10297457778147434006#64,5756518291402817435#64]:Vx 64 4).toList)) (cs':=e64 m_2.toList) rfl (congrArg (fun z:Vx 64 4=>e64 (Vector.toList z)) hm_2) ?_
 refine TL_nil (TX_next (TC_seq ?_))
 obtain ⟨r_1,hr_1,H⟩:=bind_elim H
 obtain ⟨r_2,hr_2,H⟩:=bind_elim H
 obtain ⟨r_3,hr_3,H⟩:=bind_elim H
 refine TA_begin [] 19 (by kernel_rfl) (N:=19) rfl ?_
 refine TA_mix (is:=[]) (done':=dn 19 262143) [itV 0 7 (ptr (some (bc,obc)) 0) [],itV 1 8 (ptr (some (bc,obc)) 0) [0],itV 2 9 (ptr (some (bc,obc)) 0) [1],itV 3 10 (ptr (some (bF,oF)) 0) [2],itV 4 11 (aG [(4,e64 m_1.toList)]) [],itV 5 12 (aG [(4,e64 r_1.toList)]) [3,4],itV 6 13 (ptr (some (bc,obc)) 0) [],itV 7 14 (ptr (some (bc,obc)) 0) [6],itV 8 15 (ptr (some (bc,obc)) 0) [7],itV 9 16 (ptr (some (bF,oF)) 0) [8],itV 10 17 (aG [(4,e64 m_2.toList)]) [],itV 11 18 (aG [(4,e64 r_2.toList)]) [9,10],itV 12 19 (ptr (some (bc,obc)) 0) [],itV 13 20 (ptr (some (bc,obc)) 0) [12],itV 14 21 (ptr (some (bc,obc)) 0) [13],itV 15 22 (ptr (some (bF,oF)) 0) [14],itV 16 23 (aG [(4,e64 r_3.toList)]) [15],itV 17 24 (aG [(4,e64 r_1.toList),(4,e64 r_2.toList),(4,e64 r_3.toList)]) [11,5,16]] [] 1 (by kernel_rfl) (QP.then QP.body) (by kernel_rfl) rfl (.v rfl (V_move rfl) (.v rfl (V_nilCheck rfl) (.v rfl (V_fe Try.underlying100 TryI.inf82) (.v rfl (V_load rfl (.r 0) rfl Try.isAgg82) (.v rfl (V_lag (.o 1) Try.isAgg57 TryI.inf57) (.e rfl (E_cu (F56_calls bF oF cM cI cO cT m_1 r_1 hr_1) Try.call56 ⟨.r 2, .r 3, .r 4, .r 5,trivial⟩) (.v rfl (V_move rfl) (.v rfl (V_nilCheck rfl) (.v rfl (V_fe Try.underlying100 TryI.inf82) (.v rfl (V_load rfl (.r 0) rfl Try.isAgg82) (.v rfl (V_lag (.o 0) Try.isAgg57 TryI.inf57) (.e rfl (E_cu (F56_calls bF oF cM cI cO cT m_2 r_2 hr_2) Try.call56 ⟨.r 2, .r 3, .r 4, .r 5,trivial⟩) (.v rfl (V_move rfl) (.v rfl (V_nilCheck rfl) (.v rfl (V_fe Try.underlying100 TryI.inf82) (.v rfl (V_load rfl (.r 0) rfl Try.isAgg82) (.e rfl (E_cu (F75_calls bF oF cM cI cO cT r_3 hr_3) Try.call75 ⟨.r 2, .r 3, .r 4, .r 5,trivial⟩) (.v rfl (V_buildStruct (pv:=[(0,aG [(4,e64 r_1.toList)]),(1,aG [(4,e64 r_2.toList)]),(2,aG [(4,e64 r_3.toList)])]) (pl:=[(0,4),(4,4),(8,4)]) rfl rfl Try.underlying64 TryI.inf64 TryI.places64 TryI.zer64 (cs:=flat [(4,e64 r_1.toList),(4,e64 r_2.toList),(4,e64 r_3.toList)]) (fill_part [] [(4,e64 ((replicate 4 0#64).toList)),(4,e64 ((replicate 4 0#64).toList))] rfl rfl trivial rfl (lenV (f:=v64) (replicate 4 0#64)) (lenV (f:=v64) r_1) (fill_part [(4,e64 r_1.toList)] [(4,e64 ((replicate 4 0#64).toList))] rfl rfl ⟨(lenV (f:=v64) r_1),trivial⟩ rfl (lenV (f:=v64) (replicate 4 0#64)) (lenV (f:=v64) r_2) (fill_part [(4,e64 r_1.toList),(4,e64 r_2.toList)] [] rfl rfl ⟨(lenV (f:=v64) r_1),(lenV (f:=v64) r_2),trivial⟩ rfl (lenV (f:=v64) (replicate 4 0#64)) (lenV (f:=v64) r_3) fill_end)))) .nil)))))))))))))))))) .nil (by kernel_rfl) rfl (fun γ=>?_)
 refine TA_cut [(24,aG [(4,e64 r_1.toList),(4,e64 r_2.toList),(4,e64 r_3.toList)]),(2,ptr (some (b1,0)) 0)] [⟨some (b3,0),e64 m_2.toList⟩,⟨some (b2,0),e64 m_1.toList⟩,⟨some (b1,0),e64 ((replicate 4 0#64).toList)⟩,⟨some (b1,4),e64 ((replicate 4 0#64).toList)⟩,⟨some (b1,8),e64 ((replicate 4 0#64).toList)⟩] ⟨rfl,rfl,trivial⟩ rfl ?_
 refine TA_all (rs:=[18]) (by kernel_rfl) rfl ?_
 refine ⟨?_,trivial⟩
 refine TO_n (is:=[]) (done':=dn 19 524287) rfl rfl rfl (by kernel_rfl) (E_sp (b:=b1) (o:=0) [2,2,2] [(4,e64 ((replicate 4 0#64).toList)),(4,e64 ((replicate 4 0#64).toList)),(4,e64 ((replicate 4 0#64).toList))] [(4,e64 r_1.toList),(4,e64 r_2.toList),(4,e64 r_3.toList)] rfl TryI.inf64 ⟨(lenV (f:=v64) (replicate 4 0#64)),(lenV (f:=v64) (replicate 4 0#64)),(lenV (f:=v64) (replicate 4 0#64)),trivial⟩ ⟨(lenV (f:=v64) r_1),(lenV (f:=v64) r_2),(lenV (f:=v64) r_3),trivial⟩ ⟨(OneC.map (fun _=>rfl) _),(OneC.map (fun _=>rfl) _),(OneC.map (fun _=>rfl) _),trivial⟩) (fun _ _=>rfl) (fun _=>?_)
 refine TA_done (by kernel_rfl) ?_ 0
 refine TX_next (TC_ret ?_)
 have hrv:=Option.some.inj H
 subst hrv
 exact TX_ret (rs:=[.cell 2 64]) (vs:=[aG [(4,e64 r_1.toList),(4,e64 r_2.toList),(4,e64 r_3.toList)]]) rfl ⟨(Res_agg (n:=12) (cs:=flat [(4,e64 r_1.toList),(4,e64 r_2.toList),(4,e64 r_3.toList)]) rfl (by simp) (SrcEnts (b:=b1) [(4,e64 r_1.toList),(4,e64 r_2.toList),(4,e64 r_3.toList)] 0 ⟨(lenV (f:=v64) r_1),(lenV (f:=v64) r_2),(lenV (f:=v64) r_3),trivial⟩ (AllSrc.all (M:=ents b1 0 [(4,e64 r_1.toList),(4,e64 r_2.toList),(4,e64 r_3.toList)]) ⟨Src.own (j:=0) rfl,Src.own (j:=1) rfl,Src.own (j:=2) rfl,trivial⟩)) Try.isAgg64 TryI.inf64 rfl (by simp [flat])),trivial⟩ (fun w' hs'=>⟨(),rfl,Step.left (Step.pulled (is:=[]) (A:=[]) hs' rfl)⟩)
end Go.Proofs
end

section
namespace Go.Proofs
open Go Go.Kx
def pcurve_Public (k:Str):Option (Str × Int) :=
 (pcurve_Scalar k).bind fun (r_1:Vx 64 4 × Bool)=>(if (!r_1.2)=true then (some (([]:Str),1100)) else ((pcurve_newCurve).bind fun (r_2:Vx 64 4 × BitVec 64 × Vx 64 4 × Vx 64 4 × Vx 64 4)=>((pcurve_curve_base r_2.1 r_2.2.1 r_2.2.2.1 r_2.2.2.2.1 r_2.2.2.2.2).bind fun (r_3:Vx 64 4 × Vx 64 4 × Vx 64 4)=>((pcurve_curve_times r_2.1 r_2.2.1 r_2.2.2.1 r_2.2.2.2.1 r_2.2.2.2.2 r_1.1 r_3.1 r_3.2.1 r_3.2.2).bind fun (r_4:Vx 64 4 × Vx 64 4 × Vx 64 4)=>((pcurve_curve_write r_2.1 r_2.2.1 r_2.2.2.1 r_2.2.2.2.1 r_2.2.2.2.2 r_4.1 r_4.2.1 r_4.2.2).bind fun (r_5:Str)=>(some (r_5,0)))))))
set_option maxHeartbeats 4000000 in
set_option maxRecDepth 20000 in
theorem F13_calls (k:Str) (r:Str × Int) (H:pcurve_Public k=some r) :
  Does Try.prog 13 [vs k] [] [] (Γ:=Unit) (fun g=>Value.tuple [vs r.1,vi r.2].toArray) (fun g=>[]):=by
 intro w hmem hro hd
 refine calls_of (N:=22) (m0:=[(0,vs k)]) Try.func13 rfl Try.ntmps13 (argM_ok [vs k]) rfl hmem hro hd ?_
 unfold pcurve_Public at H
 refine TC_seq (TC_region (TLv (V_assign rfl) ?_))
 refine TLv (V_assign rfl) ?_
 refine TL_nil (TX_next (TC_seq (TC_region (TLv (V_move rfl) ?_))))
 obtain ⟨r_1,hr_1,H⟩:=bind_elim H
 refine TLe (E_c0 (F32_calls k r_1 hr_1) Try.call32 .z) (fun g_1=>?_)
 refine TLv (V_move rfl) ?_
 refine TLv V_ex ?_
 refine TLv V_ex ?_
 refine TLe (E_al64 4 TryI.inf57 TryI.zer57) (fun b1=>?_)
 refine TLn (E_sv (vs:=e64 r_1.1.toList) 0 TryI.inf57) (fun _=>?_)
 refine TLv (V_assign rfl) ?_
 refine TL_nil (TX_next (TC_seq (TC_seq (TC_region (TLv (V_move rfl) ?_)))))
 refine TLv (V_un rfl (fun w=>notB w r_1.2)) ?_
 refine TL_nil (TX_next (TC_cond (b:=(!r_1.2)) rfl (fun hc=>?_) (fun hc=>?_)))
 ·replace H:=ite_t hc H
  refine TC_seq (TC_region (TLv (V_assign rfl) ?_))
  refine TLv (V_assign rfl) ?_
  refine TL_nil (TX_next (TC_ret (TX_then_ret ?_)))
  have hrv:=Option.some.inj H
  subst hrv
  exact TX_ret (rs:=[.tmp 2, .tmp 3]) (vs:=[vs ([]:Str),vi 1100]) rfl ⟨rfl,rfl,trivial⟩ (fun w' hs'=>⟨(),rfl,Step.left (Step.pulled (is:=[]) (A:=[]) hs' rfl)⟩)
 ·replace H:=ite_f (Bool.eq_false_iff.1 hc) H
  refine TC_skip (TX_next (TC_seq (TC_region ?_)))
  obtain ⟨r_2,hr_2,H⟩:=bind_elim H
  refine TLe (E_call (Γ:=Nat × Nat) (val:=fun g=>ptr (some (g.1,0)) 0) (mem:=fun g=>[⟨some (g.1,0),[ptr (some (g.2,0)) 0]⟩,⟨some (g.2,0),e64 r_2.1.toList⟩,⟨some (g.2,4),[v64 r_2.2.1]⟩,⟨some (g.2,5),e64 r_2.2.2.1.toList⟩,⟨some (g.2,9),e64 r_2.2.2.2.1.toList⟩,⟨some (g.1,1),e64 r_2.2.2.2.2.toList⟩]) (vs:=[]) (Lin:=[]) (Ro:=[]) (is:=[]) rfl Try.call33 (F33_calls r_2 hr_2) rfl trivial) (fun g_2=>?_)
  refine TLv (V_assign rfl) ?_
  refine TL_nil (TX_next (TC_seq ?_))
  obtain ⟨r_3,hr_3,H⟩:=bind_elim H
  obtain ⟨r_4,hr_4,H⟩:=bind_elim H
  obtain ⟨r_5,hr_5,H⟩:=bind_elim H
  refine TA_begin [] 9 (by kernel_rfl) (N:=9) rfl ?_
  refine TA_mix (is:=[]) (done':=dn 9 127) [itV 0 15 (ptr (some (g_2.1,0)) 0) [],itV 1 16 (ptr (some (g_2.1,0)) 0) [],itV 2 17 (aG [(4,e64 r_1.1.toList)]) [],itV 3 18 (ptr (some (g_2.1,0)) 0) [],itV 4 19 (aG [(4,e64 r_3.1.toList),(4,e64 r_3.2.1.toList),(4,e64 r_3.2.2.toList)]) [3],itV 5 20 (aG [(4,e64 r_4.1.toList),(4,e64 r_4.2.1.toList),(4,e64 r_4.2.2.toList)]) [1,2,4],itV 6 21 (vs r_5) [5,0]] [] 2 (by kernel_rfl) (QP.then QP.body) (by kernel_rfl) rfl (.v rfl (V_move rfl) (.v rfl (V_move rfl) (.v rfl (V_lag (.o 6) Try.isAgg57 TryI.inf57) (.v rfl (V_move rfl) (.e rfl (E_cu (F36_calls g_2.1 0 g_2.2 0 r_2.1 r_2.2.1 r_2.2.2.1 r_2.2.2.2.1 r_2.2.2.2.2 r_3 hr_3) Try.call36 ⟨.o 0, .o 5, .o 1, .o 2, .o 3, .o 4,trivial⟩) (.e rfl (E_cu (F35_calls g_2.1 0 g_2.2 0 r_2.1 r_2.2.1 r_2.2.2.1 r_2.2.2.2.1 r_2.2.2.2.2 r_1.1 r_3.1 r_3.2.1 r_3.2.2 r_4 hr_4) Try.call35 ⟨.o 0, .o 5, .o 1, .o 2, .o 3, .o 4,trivial⟩) (.e rfl (E_cu (F34_calls g_2.1 0 g_2.2 0 r_2.1 r_2.2.1 r_2.2.2.1 r_2.2.2.2.1 r_2.2.2.2.2 r_4.1 r_4.2.1 r_4.2.2 r_5 hr_5) Try.call34 ⟨.o 0, .o 5, .o 1, .o 2, .o 3, .o 4,trivial⟩) .nil))))))) .nil (by kernel_rfl) rfl (fun γ=>?_)
  refine TA_cut [(21,vs r_5),(3,vi 0),(2,vs ([]:Str))] [⟨some (g_2.1,0),[ptr (some (g_2.2,0)) 0]⟩,⟨some (g_2.2,0),e64 r_2.1.toList⟩,⟨some (g_2.2,4),[v64 r_2.2.1]⟩,⟨some (g_2.2,5),e64 r_2.2.2.1.toList⟩,⟨some (g_2.2,9),e64 r_2.2.2.2.1.toList⟩,⟨some (g_2.1,1),e64 r_2.2.2.2.2.toList⟩,⟨some (b1,0),e64 r_1.1.toList⟩] ⟨rfl,rfl,rfl,trivial⟩ rfl ?_
  refine TA_all (rs:=[7]) (by kernel_rfl) rfl ?_
  refine ⟨?_,trivial⟩
  refine TO_v (is:=[]) (done':=dn 9 255) rfl rfl rfl rfl (by kernel_rfl) (V_assign rfl) (fun _=>rfl) ?_
  refine TA_all (rs:=[8]) (by kernel_rfl) rfl ?_
  refine ⟨?_,trivial⟩
  refine TO_v (is:=[]) (done':=dn 9 511) rfl rfl rfl rfl (by kernel_rfl) (V_assign rfl) (fun _=>rfl) ?_
  refine TA_done (by kernel_rfl) ?_ 0
  refine TX_next (TC_ret ?_)
  have hrv:=Option.some.inj H
  subst hrv
  exact TX_ret (rs:=[.tmp 2, .tmp 3]) (vs:=[vs r_5,vi 0]) rfl ⟨rfl,rfl,trivial⟩ (fun w' hs'=>⟨(),rfl,Step.left (Step.pulled (is:=[]) (A:=[]) hs' rfl)⟩)
end Go.Proofs
end

section
namespace Go.Proofs
open Go Go.Kx
open Vector (replicate)
def pcurve_On (p:Str):Option (Bool) :=
 (pcurve_newCurve).bind fun (r_1:Vx 64 4 × BitVec 64 × Vx 64 4 × Vx 64 4 × Vx 64 4)=>((pcurve_curve_read r_1.1 r_1.2.1 r_1.2.2.1 r_1.2.2.2.1 r_1.2.2.2.2 p).bind fun (r_2:Vx 64 4 × Vx 64 4 × Vx 64 4 × Bool)=>(some r_2.2.2.2))
set_option maxHeartbeats 4000000 in
set_option maxRecDepth 20000 in
theorem F21_calls (p:Str) (r:Bool) (H:pcurve_On p=some r) :
  Does Try.prog 21 [vs p] [] [] (Γ:=Unit) (fun g=>vb r) (fun g=>[]):=by
 intro w hmem hro hd
 refine calls_of (N:=12) (m0:=[(0,vs p)]) Try.func21 rfl Try.ntmps21 (argM_ok [vs p]) rfl hmem hro hd ?_
 unfold pcurve_On at H
 refine TC_seq (TC_region (TLv (V_assign rfl) ?_))
 refine TL_nil (TX_next (TC_seq (TC_region ?_)))
 obtain ⟨r_1,hr_1,H⟩:=bind_elim H
 refine TLe (E_call (Γ:=Nat × Nat) (val:=fun g=>ptr (some (g.1,0)) 0) (mem:=fun g=>[⟨some (g.1,0),[ptr (some (g.2,0)) 0]⟩,⟨some (g.2,0),e64 r_1.1.toList⟩,⟨some (g.2,4),[v64 r_1.2.1]⟩,⟨some (g.2,5),e64 r_1.2.2.1.toList⟩,⟨some (g.2,9),e64 r_1.2.2.2.1.toList⟩,⟨some (g.1,1),e64 r_1.2.2.2.2.toList⟩]) (vs:=[]) (Lin:=[]) (Ro:=[]) (is:=[]) rfl Try.call33 (F33_calls r_1 hr_1) rfl trivial) (fun g_1=>?_)
 refine TLv (V_move rfl) ?_
 obtain ⟨r_2,hr_2,H⟩:=bind_elim H
 refine TLe (E_c0 (F41_calls g_1.1 0 g_1.2 0 r_1.1 r_1.2.1 r_1.2.2.1 r_1.2.2.2.1 r_1.2.2.2.2 p r_2 hr_2) Try.call41 ⟨.o 0, .o 5, .o 1, .o 2, .o 3, .o 4,trivial⟩) (fun g_2=>?_)
 refine TLv (V_move rfl) ?_
 refine TLv V_ex ?_
 refine TLv V_ex ?_
 refine TLe (E_allocP [(4,e64 ((replicate 4 0#64).toList)),(4,e64 ((replicate 4 0#64).toList)),(4,e64 ((replicate 4 0#64).toList))] TryI.inf64 TryI.zer64 ⟨(lenV (f:=v64) (replicate 4 0#64)),(lenV (f:=v64) (replicate 4 0#64)),(lenV (f:=v64) (replicate 4 0#64)),trivial⟩) (fun b1=>?_)
 refine TLn (E_sp (b:=b1) (o:=0) [0,0,0] [(4,e64 ((replicate 4 0#64).toList)),(4,e64 ((replicate 4 0#64).toList)),(4,e64 ((replicate 4 0#64).toList))] [(4,e64 r_2.1.toList),(4,e64 r_2.2.1.toList),(4,e64 r_2.2.2.1.toList)] rfl TryI.inf64 ⟨(lenV (f:=v64) (replicate 4 0#64)),(lenV (f:=v64) (replicate 4 0#64)),(lenV (f:=v64) (replicate 4 0#64)),trivial⟩ ⟨(lenV (f:=v64) r_2.1),(lenV (f:=v64) r_2.2.1),(lenV (f:=v64) r_2.2.2.1),trivial⟩ ⟨(OneC.map (fun _=>rfl) _),(OneC.map (fun _=>rfl) _),(OneC.map (fun _=>rfl) _),trivial⟩) (fun _=>?_)
 refine TLv (V_assign rfl) ?_
 refine TL_nil (TX_next (TC_seq (TC_region (TLv (V_move rfl) ?_))))
 refine TLv (V_assign rfl) ?_
 refine TL_nil (TX_next (TC_ret ?_))
 have hrv:=Option.some.inj H
 subst hrv
 exact TX_ret (rs:=[.tmp 2]) (vs:=[vb r_2.2.2.2]) rfl ⟨rfl,trivial⟩ (fun w' hs'=>⟨(),rfl,Step.left (Step.pulled (is:=[]) (A:=[]) hs' rfl)⟩)
end Go.Proofs
end

section
namespace Go.Kx
open Go Go.Proofs
open Vector (replicate)
open Go.Nt hiding n4
def P4 (v:Vx 64 4 × Vx 64 4 × Vx 64 4) (p:Pt):Prop:=okP p ∧ ∃ t,T4 v t∧isJ t p
def encQ (q:Fp × Fp):Str:=[4#8]++nb32 (toN q.1)++nb32 (toN q.2)
def isPt (s:Str):Prop := ∃ q,okP (some q)∧s=encQ q
theorem toN_id {n:Nat} (h:n<P256):toN (mk (n:Int))=n:=by rw [toN_nat,Nat.mod_eq_of_lt h]
theorem encQ_len (q:Fp × Fp):(encQ q).length=65:=by simp [encQ,nb32_len]
theorem encQ_0 (q:Fp × Fp):sg (encQ q) 0=4#8:=rfl
theorem encQ_x (q:Fp × Fp):sub (encQ q) 1 33=nb32 (toN q.1):=by
 show sub (4#8 :: (nb32 (toN q.1)++nb32 (toN q.2))) 1 33=_
 simp only [sub,List.drop_succ_cons,List.drop_zero]
 rw [List.take_append_of_le_length (by rw [nb32_len]; omega)]
 exact List.take_of_length_le (by rw [nb32_len]; omega)
theorem encQ_y (q:Fp × Fp):sub (encQ q) 33 65=nb32 (toN q.2):=by
 have e:encQ q=([4#8]++nb32 (toN q.1))++nb32 (toN q.2):=rfl
 rw [e]
 simp only [sub]
 have h33:([4#8]++nb32 (toN q.1)).length=33:=by simp [nb32_len]
 rw [List.drop_append_of_le_length (by omega),List.drop_of_length_le (by omega),List.nil_append]
 exact List.take_of_length_le (by rw [nb32_len]; omega)
theorem P_lt256:P256<2 ^ 256:=md_P.lt
theorem split65 (s:Str) (h:s.length=65):s=[sg s 0]++sub s 1 33++sub s 33 65:=by
 apply List.ext_getElem?
 intro i
 by_cases h0:i<1
 ·have:i=0:=by omega
  subst this
  cases s with
  | nil=>cases h
  | cons x r=>rfl
 ·have l1:(sub s 1 33).length=32:=by rw [sub_length (by omega)]
  have l2:(sub s 33 65).length=32:=by rw [sub_length (by omega)]
  by_cases h1:i<33
  ·rw [List.getElem?_append_left (by simp [l1]; omega),List.getElem?_append_right (by simp; omega)]
   simp only [sub,List.length_singleton,List.getElem?_take,List.getElem?_drop]
   rw [if_pos (by omega),show 1+(i - 1)=i by omega]
  ·rw [List.getElem?_append_right (by simp [l1]; omega)]
   simp only [sub,List.length_append,List.length_singleton,List.length_take,List.length_drop,List.getElem?_take,List.getElem?_drop]
   by_cases h2:i<65
   ·rw [if_pos (by omega)]
    congr 1; omega
   ·rw [if_neg (by omega),List.getElem?_eq_none (by omega)]
theorem isPt_iff (s:Str):isPt s ↔ s.length=65∧sg s 0=4#8∧bnum (sub s 1 33)<P256∧bnum (sub s 33 65)<P256∧onF (mk (bnum (sub s 1 33):Int)) (mk (bnum (sub s 33 65):Int)):=by
 constructor
 ·rintro ⟨q,hq,rfl⟩
  have lt : ∀ f:Fp,toN f<2 ^ 256:=fun f=>Nat.lt_trans (toN_lt f) P_lt256
  rw [encQ_x,encQ_y,bnum_nb32 _ (lt _),bnum_nb32 _ (lt _),mk_toN,mk_toN]
  exact ⟨encQ_len q,encQ_0 q,toN_lt _,toN_lt _,hq⟩
 ·rintro ⟨h1,h2,h3,h4,h5⟩
  refine ⟨(mk (bnum (sub s 1 33):Int),mk (bnum (sub s 33 65):Int)),h5,?_⟩
  unfold encQ
  dsimp only
  rw [toN_id h3,toN_id h4,nb32_bnum _ (by rw [sub_length (by omega)]),nb32_bnum _ (by rw [sub_length (by omega)])]
  conv=>lhs; rw [split65 s h1,h2]
section
variable {M:Vx 64 4} {inv:BitVec 64} {one two b:Vx 64 4}
theorem double_pt (F:Fd P256 M inv one two) {x y z:Vx 64 4} {p:Pt} (h:P4 (x,y,z) p) : ∃ r,pcurve_curve_double M inv one two b x y z=some r∧P4 r (sumF p p):=by
 obtain ⟨hp,t,h1,h2⟩:=h
 obtain ⟨r,h3,h4⟩:=double_ex (b:=b) F h1
 exact ⟨r,h3,sum_ok hp hp,_,h4,isJ_dbl hp h2⟩
theorem add_pt (F:Fd P256 M inv one two) {x y z x' y' z':Vx 64 4} {p q:Pt} (h:P4 (x,y,z) p) (k:P4 (x',y',z') q) : ∃ r,pcurve_curve_add M inv one two b x y z x' y' z'=some r∧P4 r (sumF p q):=by
 obtain ⟨hp,t,h1,h2⟩:=h
 obtain ⟨hq,u,k1,k2⟩:=k
 obtain ⟨r,h3,h4⟩:=add_ex (b:=b) F h1 k1
 exact ⟨r,h3,sum_ok hp hq,_,h4,isJ_add hp hq h2 k2⟩
theorem zero_pt:P4 (replicate 4 0#64,replicate 4 0#64,replicate 4 0#64) none:=⟨trivial,(0,0,0),⟨F4_0,F4_0,F4_0⟩,rfl⟩
theorem times_pt (F:Fd P256 M inv one two) {k x y z:Vx 64 4} {a:Nat} (h:P4 (x,y,z) (sG a)) : ∃ r,pcurve_curve_times M inv one two b k x y z=some r∧P4 r (sG (n4 k * a)):=by
 have hk:=n4_lt k
 have key : ∃ r,loop (pcurve_curve_times.b0 M inv one two b k x y z) BIG (255,replicate 4 0#64,replicate 4 0#64,replicate 4 0#64)=some r∧P4 r (sG (n4 k * a)):=by
  refine loop_inv 256 (fun i s=>s.1=255 - (i:Int)∧P4 s.2 (sG (n4 k / 2 ^ (256 - i) * a))) _ (by decide) ⟨rfl,?_⟩ ?_ ?_
  ·dsimp only
   rw [Nat.sub_zero,Nat.div_eq_of_lt hk,Nat.zero_mul]
   exact zero_pt
  ·rintro i ⟨i',o⟩ hi ⟨hi',ho⟩
   dsimp only at hi' ho
   obtain ⟨j,hj⟩ : ∃ j,j=255 - i:=⟨_,rfl⟩
   have hij:i'=(j:Int):=by omega
   rw [show 256 - i=j+1 by omega] at ho
   obtain ⟨r,hr,hR⟩:=double_pt (b:=b) F ho
   rw [sG_add] at hR
   have hbit:=bit4 k j (by omega)
   have hh:=half_eq (n4 k) j
   subst hij
   have w1:w64 ((j:Int) - 1)=255 - ((i+1:Nat):Int):=by rw [w64_id (by omega) (by omega)]; omega
   have w2:w64 ((j:Int).tdiv 64)=((j / 64:Nat):Int):=w64_div (b:=64) (by omega)
   have w3:(j:Int).tmod 64=((j % 64:Nat):Int):=tmodN' j 64
   unfold pcurve_curve_times.b0
   dsimp only
   rw [w2,w3]
   simp only [Int.toNat_natCast]
   clear w2 w3
   generalize hc:n4 k / 2 ^ (j+1)=c at *
   by_cases hb:(vg k (j / 64) >>> (j % 64)) &&& 1#64=1#64
   ·obtain ⟨r2,hr2,hR2⟩:=add_pt (b:=b) F hR h
    rw [sG_add] at hR2
    refine ⟨(255 - ((i+1:Nat):Int),r2),if_i (by omega) (bind_i hr (if_i (by omega) (if_i (by omega) (if_i hb (bind_i hr2 (ltt_i fun v hv=>by rw [hv,w1])))))),rfl,?_⟩
    dsimp only
    rw [show 256 - (i+1)=j by omega,hh,hbit.1 hb,show (2 * c+1) * a=c * a+c * a+a by rw [Nat.add_mul,Nat.mul_assoc,Nat.one_mul,Nat.two_mul]]
    exact hR2
   ·refine ⟨(255 - ((i+1:Nat):Int),r),if_i (by omega) (bind_i hr (if_i (by omega) (if_i (by omega) (if_n hb (ltt_i fun v hv=>by rw [hv,w1]))))),rfl,?_⟩
    dsimp only
    have h0:n4 k / 2 ^ j % 2=0:=by
     have : ¬ (n4 k / 2 ^ j % 2=1):=fun h=>hb (hbit.2 h)
     omega
    rw [show 256 - (i+1)=j by omega,hh,h0,Nat.add_zero,show 2 * c * a=c * a+c * a by rw [Nat.mul_assoc,Nat.two_mul]]
    exact hR
  ·rintro ⟨i',o⟩ ⟨hi',ho⟩
   dsimp only at hi' ho
   subst hi'
   refine ⟨o,by unfold pcurve_curve_times.b0; exact if_n (by dsimp only; omega) rfl,?_⟩
   rw [Nat.sub_self,Nat.pow_zero,Nat.div_one] at ho
   exact ho
 obtain ⟨r,h2,hR⟩:=key
 refine ⟨r,?_,hR⟩
 unfold pcurve_curve_times
 exact bind_i h2 rfl
theorem Fd.intoF (F:Fd P256 M inv one two) {x:Vx 64 4} (hx:n4 x<P256) : ∃ r,num_Field_In M inv one two x=some r∧F4 r (Go.Nt.mk (n4 x:Int)):=by
 obtain ⟨r,h1,h2⟩:=F.into hx
 exact ⟨r,h1,by unfold F4; rw [toN_id hx]; exact h2⟩
theorem Fd.unitF (F:Fd P256 M inv one two):F4 one 1:=by
 have:=F.unit
 rwa [show 1 % P256=1 by decide] at this
theorem Fd.outF (F:Fd P256 M inv one two) {x:Vx 64 4} {f:Fp} (hx:F4 x f) : ∃ r,num_Field_Out M inv one two x=some r∧n4 r=toN f:=F.out hx
theorem pow_inv {f:Fp} (hf:f ≠ 0):mk ((toN f ^ (P256 - 2) % P256:Nat):Int) * f=1:=by
 have h0:toN f ≠ 0:=fun h=>hf (toN_zero.1 h)
 have hnd : ¬ P256 ∣ toN f:=fun hd=>by
  have h1:=Nat.le_of_dvd (by omega) hd
  have h2:=toN_lt f
  omega
 have h1:=fermat2 pr_P hnd
 have e:toN f ^ (P256 - 1)=toN f ^ (P256 - 2) * toN f:=by
  rw [← Nat.pow_succ]
  exact congrArg (fun z=>toN f ^ z) (by decide)
 rw [e] at h1
 apply toN_inj
 rw [toN_mul,toN_nat,Nat.mod_mod,Nat.mod_mul_mod,h1]; rfl
theorem Fd.invF' (F:Fd P256 M inv one two) {x:Vx 64 4} {f:Fp} (hx:F4 x f) : ∃ r,num_Field_Inv M inv one two x=some r ∧ ∃ i,F4 r i∧(f ≠ 0 → i * f=1):=by
 obtain ⟨r,h1,h2⟩:=F.inverse hx
 refine ⟨r,h1,Go.Nt.mk ((toN f ^ (P256 - 2) % P256:Nat):Int),?_,pow_inv⟩
 unfold F4
 rw [toN_id (Nat.mod_lt _ (by decide))]
 exact h2
theorem base_pt (F:Fd P256 M inv one two) : ∃ r,pcurve_curve_base M inv one two b=some r∧P4 r (sG 1):=by
 have ex:n4 (#v[17627433388654248598#64,8575836109218198432#64,17923454489921339634#64,7716867327612699207#64]:Vx 64 4)=GX:=by decide
 have ey:n4 (#v[14678990851816772085#64,3156516839386865358#64,10297457778147434006#64,5756518291402817435#64]:Vx 64 4)=GY:=by decide
 obtain ⟨r1,h1,f1⟩:=F.intoF (x := #v[17627433388654248598#64,8575836109218198432#64,17923454489921339634#64,7716867327612699207#64]) (by rw [ex]; decide)
 obtain ⟨r2,h2,f2⟩:=F.intoF (x := #v[14678990851816772085#64,3156516839386865358#64,10297457778147434006#64,5756518291402817435#64]) (by rw [ey]; decide)
 rw [ex] at f1
 rw [ey] at f2
 refine ⟨(r1,r2,one),?_,gP_ok,(mk (GX:Int),mk (GY:Int),1),⟨f1,f2,F.unitF⟩,F_10,?_,?_⟩
 ·unfold pcurve_curve_base
  refine ltt_i fun v hv=>ltt_i fun w hw=>?_
  rw [hv,hw]
  exact bind_i h1 (bind_i h2 (bind_i rfl rfl))
 ·show mk (GX:Int)=mk (GX:Int) * (1 * 1); grind
 ·show mk (GY:Int)=mk (GY:Int) * (1 * (1 * 1)); grind
theorem unit_pt {x y:Vx 64 4} {q:Fp × Fp} (hq:okP (some q)) (f3:F4 x q.1) (f4:F4 y q.2) (h1:F4 one 1):P4 (x,y,one) (some q):=by
 refine ⟨hq,(q.1,q.2,1),⟨f3,f4,h1⟩,F_10,?_,?_⟩
 ·show q.1=q.1 * (1 * 1); grind
 ·show q.2=q.2 * (1 * (1 * 1)); grind
open Classical in
theorem read_ex (F:Fd P256 M inv one two) (hb:F4 b fB) (s:Str) : ∃ X Y Z,pcurve_curve_read M inv one two b s=some (X,Y,Z,decide (isPt s))∧(∃ t,T4 (X,Y,Z) t) ∧ ∀ q,okP (some q) → s=encQ q → P4 (X,Y,Z) (some q):=by
 unfold pcurve_curve_read
 by_cases hl:s.length=65
 case neg =>
  have hno : ¬ isPt s:=fun h=>hl ((isPt_iff s).1 h).1
  exact ⟨_,_,_,bind_i (v:=true) (if_i (by omega) rfl) (if_i rfl (by simp [hno])),⟨(0,0,0),F4_0,F4_0,F4_0⟩,fun q hq he=>absurd ⟨q,hq,he⟩ hno⟩
 by_cases h4:sg s 0=4#8
 case neg =>
  have hno : ¬ isPt s:=fun h=>h4 ((isPt_iff s).1 h).2.1
  exact ⟨_,_,_,bind_i (v:=true) (if_n (by omega) (if_i (by omega) (by simp [h4]))) (if_i rfl (by simp [hno])),⟨(0,0,0),F4_0,F4_0,F4_0⟩,fun q hq he=>absurd ⟨q,hq,he⟩ hno⟩
 obtain ⟨x,hx,ex⟩:=F.read (sub s 1 33) (by rw [sub_length (by omega)])
 obtain ⟨y,hy,ey⟩:=F.read (sub s 33 s.length) (by rw [sub_length (by omega),hl])
 have e65:sub s 33 s.length=sub s 33 65:=by rw [hl]
 rw [e65] at hy ey
 by_cases hxl:bnum (sub s 1 33)<P256
 case neg =>
  have hno : ¬ isPt s:=fun h=>hxl ((isPt_iff s).1 h).2.2.1
  refine ⟨_,_,_,bind_i (v:=false) (if_n (by omega) (if_i (by omega) (by simp [h4]))) (if_n (by decide) (if_i (by omega) (bind_i hx (if_i (by omega) (bind_i (by rw [e65]; exact hy) (bind_i (v:=true) (if_i (by simp [hxl]) rfl) (if_i rfl (by simp [hno])))))))),⟨(0,0,0),F4_0,F4_0,F4_0⟩,fun q hq he=>absurd ⟨q,hq,he⟩ hno⟩
 by_cases hyl:bnum (sub s 33 65)<P256
 case neg =>
  have hno : ¬ isPt s:=fun h=>hyl ((isPt_iff s).1 h).2.2.2.1
  refine ⟨_,_,_,bind_i (v:=false) (if_n (by omega) (if_i (by omega) (by simp [h4]))) (if_n (by decide) (if_i (by omega) (bind_i hx (if_i (by omega) (bind_i (by rw [e65]; exact hy) (bind_i (v:=true) (if_n (by simp [hxl]) (by simp [hyl])) (if_i rfl (by simp [hno])))))))),⟨(0,0,0),F4_0,F4_0,F4_0⟩,fun q hq he=>absurd ⟨q,hq,he⟩ hno⟩
 obtain ⟨r3,e3,f3⟩:=F.intoF (x:=x) (by rw [ex]; exact hxl)
 obtain ⟨r4,e4,f4⟩:=F.intoF (x:=y) (by rw [ey]; exact hyl)
 rw [ex] at f3
 rw [ey] at f4
 obtain ⟨r5,e5,f5⟩:=F.addF f3 f3
 obtain ⟨r6,e6,f6⟩:=F.addF f3 f5
 obtain ⟨r7,e7,f7⟩:=F.mulF f3 f3
 obtain ⟨r8,e8,f8⟩:=F.mulF f3 f7
 obtain ⟨r9,e9,f9⟩:=F.subF f8 f6
 obtain ⟨r10,e10,f10⟩:=F.addF f9 hb
 obtain ⟨r12,e12,f12⟩:=F.mulF f4 f4
 have heq:r12=r10 ↔ isPt s:=by
  rw [R4.inj md_P f12 f10,isPt_iff]
  constructor
  ·intro h
   refine ⟨hl,h4,hxl,hyl,?_⟩
   have:=toN_inj h
   unfold onF
   rw [this]; grind
  ·rintro ⟨-, -, -, -,h⟩
   unfold onF at h
   congr 1
   rw [h]; grind
 refine ⟨r3,r4,one,bind_i (v:=false) (if_n (by omega) (if_i (by omega) (by simp [h4]))) (if_n (by decide) (if_i (by omega) (bind_i hx (if_i (by omega) (bind_i (by rw [e65]; exact hy) (bind_i (v:=false) (if_n (by simp [hxl]) (by simp [hyl])) (if_n (by decide) ?_))))))),⟨(_,_,_),f3,f4,F.unitF⟩,?_⟩
 ·refine bind_i e3 (bind_i e4 (bind_i e5 (bind_i e6 (bind_i e7 (bind_i e8 (bind_i e9 (bind_i e10 (bind_i rfl (bind_i e12 (ltt_i fun v hv=>?_))))))))))
  rw [hv,decide_eq_decide.2 heq]
 ·rintro q hq rfl
  have lt : ∀ f:Fp,toN f<2 ^ 256:=fun f=>Nat.lt_trans (toN_lt f) P_lt256
  rw [encQ_x,bnum_nb32 _ (lt _),mk_toN] at f3
  rw [encQ_y,bnum_nb32 _ (lt _),mk_toN] at f4
  exact unit_pt hq f3 f4 F.unitF
theorem write_ex (F:Fd P256 M inv one two) {x y z:Vx 64 4} {q:Fp × Fp} (h:P4 (x,y,z) (some q)):pcurve_curve_write M inv one two b x y z=some (encQ q):=by
 obtain ⟨hq,⟨X,Y,Z⟩,⟨hX,hY,hZ⟩,hz,eX,eY⟩:=h
 dsimp only at hX hY hZ hz eX eY
 obtain ⟨r1,e1,i,f1,hi⟩:=F.invF' hZ
 have hi:=hi hz
 obtain ⟨r2,e2,f2⟩:=F.mulF f1 f1
 obtain ⟨r3,e3,f3⟩:=F.mulF hX f2
 obtain ⟨r4,e4,n4'⟩:=F.outF f3
 obtain ⟨r5,e5,f5⟩:=F.mulF f1 f2
 obtain ⟨r6,e6,f6⟩:=F.mulF hY f5
 obtain ⟨r7,e7,n7'⟩:=F.outF f6
 have x1:X * (i * i)=q.1:=by
  rw [eX]
  have:q.1 * (Z * Z) * (i * i)=q.1 * ((i * Z) * (i * Z)):=by grind
  rw [this,hi]; grind
 have y1:Y * (i * (i * i))=q.2:=by
  rw [eY]
  have:q.2 * (Z * (Z * Z)) * (i * (i * i))=q.2 * ((i * Z) * ((i * Z) * (i * Z))):=by grind
  rw [this,hi]; grind
 rw [x1] at n4'
 rw [y1] at n7'
 unfold pcurve_curve_write
 refine bind_i e1 (bind_i e2 (bind_i e3 (bind_i e4 (bind_i e5 (bind_i e6 (bind_i e7 (if_i rfl (bind_i (Bytes_eq r4) (if_i ?_ (bind_i (Bytes_eq r7) (if_i ?_ (ltt_i fun v hv=>?_))))))))))))
 ·simp [nb32_len]
 ·simp [nb32_len]
 ·rw [hv,n4',n7']; rfl
end
theorem newCurve_ex : ∃ inv one two b,pcurve_newCurve=some (vP,inv,one,two,b)∧Fd P256 vP inv one two∧F4 b fB:=by
 obtain ⟨inv,one,two,h1,F⟩:=New_P
 have eb:n4 (#v[4309448131093880907#64,7285987128567378166#64,12964664127075681980#64,6540974713487397863#64]:Vx 64 4)=B256:=by decide
 obtain ⟨r,h2,f2⟩:=F.intoF (x := #v[4309448131093880907#64,7285987128567378166#64,12964664127075681980#64,6540974713487397863#64]) (by rw [eb]; decide)
 rw [eb] at f2
 refine ⟨inv,one,two,r,?_,F,f2⟩
 unfold pcurve_newCurve
 exact bind_i h1 (bind_i h2 rfl)
def isSc (k:Str):Prop:=k.length=32∧bnum k<N256∧bnum k ≠ 0
open Classical in
theorem Scalar_ex (k:Str) : ∃ x,pcurve_Scalar k=some (x,decide (isSc k))∧(k.length=32 → n4 x=bnum k):=by
 obtain ⟨inv,one,two,h1,F⟩:=New_N
 unfold pcurve_Scalar
 by_cases hl:k.length=32
 ·obtain ⟨x,h2,e2⟩:=F.read k hl
  refine ⟨x,bind_i h1 (bind_i h2 ?_),fun _=>e2⟩
  dsimp only
  by_cases hlt:bnum k<N256
  ·rw [if_pos (by simp [hlt])]
   refine bind_i (num_Zero_eq x) ?_
   rw [e2]
   have e:(!(decide (bnum k=0)))=decide (isSc k):=by
    by_cases h0:bnum k=0
    ·have : ¬ isSc k:=fun h=>h.2.2 h0
     simp [h0,this]
    ·have:isSc k:=⟨hl,hlt,h0⟩
     simp [h0,this]
   rw [e]
  ·rw [if_neg (by simp [hlt])]
   have : ¬ isSc k:=fun h=>hlt h.2.1
   simp [this]
 ·have hno : ¬ isSc k:=fun h=>hl h.1
  refine ⟨replicate 4 0#64,bind_i h1 (bind_i (Read_bad k hl) ?_),fun h=>absurd h hl⟩
  dsimp only
  rw [if_neg (by decide)]
  simp [hno]
theorem sG_ne {a:Nat} (h:a % N256 ≠ 0) : ∃ q,sG a=some q:=by
 cases hs:sG a with
 | none=>exact absurd (sG_none hs) h
 | some q=>exact ⟨q,rfl⟩
def encP:Pt → Str
 | none=>[]
 | some q=>encQ q
open Classical in
theorem On_eq (s:Str):pcurve_On s=some (decide (isPt s)):=by
 obtain ⟨inv,one,two,b,h1,F,hb⟩:=newCurve_ex
 obtain ⟨X,Y,Z,h2, -, -⟩:=read_ex F hb s
 unfold pcurve_On
 exact bind_i h1 (bind_i h2 rfl)
theorem Public_is (k:Str) (h:isSc k):pcurve_Public k=some (encP (sG (bnum k)),0):=by
 obtain ⟨x,h1,e1⟩:=Scalar_ex k
 obtain ⟨inv,one,two,b,h2,F,hb⟩:=newCurve_ex
 obtain ⟨g,h3,f3⟩:=base_pt (b:=b) F
 obtain ⟨r,h4,f4⟩:=times_pt (b:=b) (k:=x) F f3
 rw [e1 h.1,Nat.mul_one] at f4
 obtain ⟨q,hq⟩:=sG_ne (a:=bnum k) (by rw [Nat.mod_eq_of_lt h.2.1]; exact h.2.2)
 rw [hq] at f4
 unfold pcurve_Public
 refine bind_i h1 (if_n (by simp [h]) (bind_i h2 (bind_i h3 (bind_i h4 (bind_i (write_ex F f4) ?_)))))
 rw [hq]; rfl
end Go.Kx
end

section
namespace Go.Proofs
open Go Go.Kx
open Vector (replicate)
def halberdref9_plain (p_X:Vx 32 8) (p_Y:Vx 32 8) (p_Z:Vx 32 8):Option (Vx 32 8 × Vx 32 8 × Bool) :=
 if p_Z=(replicate 8 0#32:Vx 32 8) then (ltt ((replicate 8 0#32:Vx 32 8)) fun (m_1:Vx 32 8)=>(ltt ((replicate 8 0#32:Vx 32 8)) fun (m_2:Vx 32 8)=>(some (m_1,m_2,false)))) else ((halberdref9_power 0 p_Z).bind fun (r_1:Vx 32 8)=>((halberdref9_mont 0 r_1 r_1).bind fun (r_2:Vx 32 8)=>((halberdref9_mont 0 p_X r_2).bind fun (r_3:Vx 32 8)=>((halberdref9_out 0 r_3).bind fun (r_4:Vx 32 8)=>((halberdref9_mont 0 r_1 r_2).bind fun (r_5:Vx 32 8)=>((halberdref9_mont 0 p_Y r_5).bind fun (r_6:Vx 32 8)=>((halberdref9_out 0 r_6).bind fun (r_7:Vx 32 8)=>(some (r_4,r_7,true)))))))))
set_option maxHeartbeats 4000000 in
set_option maxRecDepth 20000 in
theorem F64_calls (p_X:Vx 32 8) (p_Y:Vx 32 8) (p_Z:Vx 32 8) (r:Vx 32 8 × Vx 32 8 × Bool) (H:halberdref9_plain p_X p_Y p_Z=some r) :
  Does Try.prog 64 [aG [(8,e32 p_X.toList),(8,e32 p_Y.toList),(8,e32 p_Z.toList)]] [] [] (Γ:=Unit) (fun g=>Value.tuple [aG [(8,e32 r.1.toList)],aG [(8,e32 r.2.1.toList)],vb r.2.2].toArray) (fun g=>[]):=by
 intro w hmem hro hd
 refine calls_of (N:=39) (m0:=[(0,aG [(8,e32 p_X.toList),(8,e32 p_Y.toList),(8,e32 p_Z.toList)])]) Try.func64 rfl Try.ntmps64 (argM_ok [aG [(8,e32 p_X.toList),(8,e32 p_Y.toList),(8,e32 p_Z.toList)]]) rfl hmem hro hd ?_
 unfold halberdref9_plain at H
 refine TC_seq (TC_region (TLe (E_boxP [(8,e32 p_X.toList),(8,e32 p_Y.toList),(8,e32 p_Z.toList)] rfl rfl ⟨(lenV (f:=v32) p_X),(lenV (f:=v32) p_Y),(lenV (f:=v32) p_Z),trivial⟩) (fun b1=>?_)))
 refine TLe (E_al32 8 TryI.inf31 TryI.zer31) (fun b2=>?_)
 refine TLe (E_al32 8 TryI.inf31 TryI.zer31) (fun b3=>?_)
 refine TLv (V_assign rfl) ?_
 refine TL_nil (TX_next (TC_seq (TC_seq (TC_region (TLv (V_fieldE rfl Try.underlying33 rfl rfl TryI.inf31 rfl (v:=ptr (some (b1,16)) 0) rfl) ?_)))))
 refine TLv (V_lag (.o 4) Try.isAgg31 TryI.inf31) ?_
 refine TLv (V_buildArr (pv:=[]) rfl rfl Try.underlying31 TryI.inf31 TryI.inf29 rfl TryI.zer31 (cs:=e32 ((replicate 8 0#32:Vx 32 8).toList)) (by kernel_rfl)) ?_
 refine TLv (V_bin rfl rfl (fun w=>eqlA32 w Try.underlying31 Try.underlying29 (by kernel_rfl) (by kernel_rfl) p_Z (replicate 8 0#32:Vx 32 8))) ?_
 refine TL_nil (TX_next (TC_cond (b:=(decide (p_Z=(replicate 8 0#32:Vx 32 8)))) rfl (fun hc=>?_) (fun hc=>?_)))
 ·replace H:=ite_t (of_decide_eq_true hc) H
  refine TC_seq (TC_region (TLv (V_buildArr (pv:=[]) rfl rfl Try.underlying31 TryI.inf31 TryI.inf29 rfl TryI.zer31 (cs:=e32 ((replicate 8 0#32:Vx 32 8).toList)) (by kernel_rfl)) ?_))
  refine TLv (V_buildArr (pv:=[]) rfl rfl Try.underlying31 TryI.inf31 TryI.inf29 rfl TryI.zer31 (cs:=e32 ((replicate 8 0#32:Vx 32 8).toList)) (by kernel_rfl)) ?_
  refine TLn (E_sv 1 TryI.inf31) (fun _=>?_)
  obtain ⟨m_1,hm_1,H⟩:=ltt_elim H
  refine TL_reE (j:=1) (A:=some (b2,0)) (cs:=e32 ((replicate 8 0#32:Vx 32 8).toList)) (cs':=e32 m_1.toList) rfl (congrArg (fun z:Vx 32 8=>e32 (Vector.toList z)) hm_1) ?_
  refine TLn (E_sv 0 TryI.inf31) (fun _=>?_)
  obtain ⟨m_2,hm_2,H⟩:=ltt_elim H
  refine TL_reE (j:=0) (A:=some (b3,0)) (cs:=e32 ((replicate 8 0#32:Vx 32 8).toList)) (cs':=e32 m_2.toList) rfl (congrArg (fun z:Vx 32 8=>e32 (Vector.toList z)) hm_2) ?_
  refine TLv (V_assign rfl) ?_
  refine TL_nil (TX_next (TC_ret (TX_then_ret ?_)))
  have hrv:=Option.some.inj H
  subst hrv
  exact TX_ret (rs:=[.cell 2 31, .cell 3 31, .tmp 4]) (vs:=[aG [(8,e32 m_1.toList)],aG [(8,e32 m_2.toList)],vb false]) rfl ⟨(Res_agg (n:=8) rfl (by simp) (.o 1) Try.isAgg31 TryI.inf31 rfl (lenV (f:=v32) m_1)),(Res_agg (n:=8) rfl (by simp) (.o 0) Try.isAgg31 TryI.inf31 rfl (lenV (f:=v32) m_2)),rfl,trivial⟩ (fun w' hs'=>⟨(),rfl,Step.left (Step.pulled (is:=[]) (A:=[]) hs' rfl)⟩)
 ·replace H:=ite_f (of_decide_eq_false hc) H
  refine TC_skip (TX_next (TC_seq (TC_region (TLv (V_assign rfl) ?_))))
  refine TL_nil (TX_next (TC_seq (TC_region (TLv (V_move rfl) ?_))))
  refine TLv (V_fieldE rfl Try.underlying33 rfl rfl TryI.inf31 rfl (v:=ptr (some (b1,16)) 0) rfl) ?_
  refine TLv (V_lag (.o 4) Try.isAgg31 TryI.inf31) ?_
  obtain ⟨r_1,hr_1,H⟩:=bind_elim H
  refine TLe (E_c0 (F91_calls 0 p_Z r_1 hr_1) Try.call91 .z) (fun g_1=>?_)
  refine TLe (E_al32 8 TryI.inf31 TryI.zer31) (fun b4=>?_)
  refine TLn (E_sv (vs:=e32 r_1.toList) 0 TryI.inf31) (fun _=>?_)
  refine TL_nil (TX_next (TC_seq (TC_region (TLv (V_move rfl) ?_))))
  refine TLv (V_lag (.o 0) Try.isAgg31 TryI.inf31) ?_
  refine TLv (V_lag (.o 0) Try.isAgg31 TryI.inf31) ?_
  obtain ⟨r_2,hr_2,H⟩:=bind_elim H
  refine TLe (E_c0 (F47_calls 0 r_1 r_1 r_2 hr_2) Try.call47 .z) (fun g_2=>?_)
  refine TLe (E_al32 8 TryI.inf31 TryI.zer31) (fun b5=>?_)
  refine TLn (E_sv (vs:=e32 r_2.toList) 0 TryI.inf31) (fun _=>?_)
  refine TL_nil (TX_next (TC.sub (m':=[(1,ptr (some (b1,0)) 0),(2,ptr (some (b2,0)) 0),(3,ptr (some (b3,0)) 0),(5,vi 0),(6,ptr (some (b4,0)) 0),(7,ptr (some (b5,0)) 0)]) ⟨rfl,rfl,rfl,rfl,rfl,rfl,trivial⟩ ?_))
  refine TC.pull (is:=[4,4,4,3,2,1,0]) (L':=[⟨some (b1,0),e32 p_X.toList⟩,⟨some (b1,8),e32 p_Y.toList⟩,⟨some (b1,16),e32 p_Z.toList⟩,⟨some (b2,0),e32 ((replicate 8 0#32).toList)⟩,⟨some (b3,0),e32 ((replicate 8 0#32).toList)⟩,⟨some (b4,0),e32 r_1.toList⟩,⟨some (b5,0),e32 r_2.toList⟩]) rfl ?_
  refine TC_seq ?_
  obtain ⟨r_3,hr_3,H⟩:=bind_elim H
  obtain ⟨r_4,hr_4,H⟩:=bind_elim H
  obtain ⟨r_5,hr_5,H⟩:=bind_elim H
  obtain ⟨r_6,hr_6,H⟩:=bind_elim H
  obtain ⟨r_7,hr_7,H⟩:=bind_elim H
  refine TA_begin [] 20 (by kernel_rfl) (N:=20) rfl ?_
  refine TA_mix (is:=[]) (done':=dn 20 131071) [itV 0 22 (vi 0) [],itV 1 23 (vi 0) [],itV 2 24 (ptr (some (b1,0)) 0) [],itV 3 25 (aG [(8,e32 p_X.toList)]) [2],itV 4 26 (aG [(8,e32 r_2.toList)]) [],itV 5 27 (aG [(8,e32 r_3.toList)]) [3,4,1],itV 6 28 (aG [(8,e32 r_4.toList)]) [5,0],itV 7 29 (vi 0) [],itV 8 30 (vi 0) [],itV 9 31 (ptr (some (b1,8)) 0) [],itV 10 32 (aG [(8,e32 p_Y.toList)]) [9],itV 11 33 (vi 0) [],itV 12 34 (aG [(8,e32 r_1.toList)]) [],itV 13 35 (aG [(8,e32 r_2.toList)]) [],itV 14 36 (aG [(8,e32 r_5.toList)]) [11,12,13],itV 15 37 (aG [(8,e32 r_6.toList)]) [10,14,8],itV 16 38 (aG [(8,e32 r_7.toList)]) [15,7]] [] 3 (by kernel_rfl) (QP.then QP.body) (by kernel_rfl) rfl (.v rfl (V_move rfl) (.v rfl (V_move rfl) (.v rfl (V_fe Try.underlying33 TryI.inf31) (.v rfl (V_lag (.o 0) Try.isAgg31 TryI.inf31) (.v rfl (V_lag (.o 6) Try.isAgg31 TryI.inf31) (.e rfl (E_cu (F47_calls 0 p_X r_2 r_3 hr_3) Try.call47 .z) (.e rfl (E_cu (F92_calls 0 r_3 r_4 hr_4) Try.call92 .z) (.v rfl (V_move rfl) (.v rfl (V_move rfl) (.v rfl (V_fe Try.underlying33 TryI.inf31) (.v rfl (V_lag (.o 1) Try.isAgg31 TryI.inf31) (.v rfl (V_move rfl) (.v rfl (V_lag (.o 5) Try.isAgg31 TryI.inf31) (.v rfl (V_lag (.o 6) Try.isAgg31 TryI.inf31) (.e rfl (E_cu (F47_calls 0 r_1 r_2 r_5 hr_5) Try.call47 .z) (.e rfl (E_cu (F47_calls 0 p_Y r_5 r_6 hr_6) Try.call47 .z) (.e rfl (E_cu (F92_calls 0 r_6 r_7 hr_7) Try.call92 .z) .nil))))))))))))))))) .nil (by kernel_rfl) rfl (fun γ=>?_)
  refine TA_cut [(38,aG [(8,e32 r_7.toList)]),(28,aG [(8,e32 r_4.toList)]),(2,ptr (some (b2,0)) 0),(3,ptr (some (b3,0)) 0)] [⟨some (b1,0),e32 p_X.toList⟩,⟨some (b1,8),e32 p_Y.toList⟩,⟨some (b1,16),e32 p_Z.toList⟩,⟨some (b2,0),e32 ((replicate 8 0#32).toList)⟩,⟨some (b3,0),e32 ((replicate 8 0#32).toList)⟩,⟨some (b4,0),e32 r_1.toList⟩,⟨some (b5,0),e32 r_2.toList⟩] ⟨rfl,rfl,rfl,rfl,trivial⟩ rfl ?_
  refine TA_all (rs:=[17]) (by kernel_rfl) rfl ?_
  refine ⟨?_,trivial⟩
  refine TO_n (is:=[]) (done':=dn 20 262143) rfl rfl rfl (by kernel_rfl) (E_sv (vs:=e32 r_4.toList) 3 TryI.inf31) (fun _ _=>rfl) (fun _=>?_)
  refine TA_all (rs:=[18]) (by kernel_rfl) rfl ?_
  refine ⟨?_,trivial⟩
  refine TO_n (is:=[]) (done':=dn 20 524287) rfl rfl rfl (by kernel_rfl) (E_sv (vs:=e32 r_7.toList) 4 TryI.inf31) (fun _ _=>rfl) (fun _=>?_)
  refine TA_all (rs:=[19]) (by kernel_rfl) rfl ?_
  refine ⟨?_,trivial⟩
  refine TO_v (is:=[]) (done':=dn 20 1048575) rfl rfl rfl rfl (by kernel_rfl) (V_assign rfl) (fun _=>rfl) ?_
  refine TA_done (by kernel_rfl) ?_ 0
  refine TX_next (TC_ret ?_)
  have hrv:=Option.some.inj H
  subst hrv
  exact TX_ret (rs:=[.cell 2 31, .cell 3 31, .tmp 4]) (vs:=[aG [(8,e32 r_4.toList)],aG [(8,e32 r_7.toList)],vb true]) rfl ⟨(Res_agg (n:=8) rfl (by simp) (.o 3) Try.isAgg31 TryI.inf31 rfl (lenV (f:=v32) r_4)),(Res_agg (n:=8) rfl (by simp) (.o 4) Try.isAgg31 TryI.inf31 rfl (lenV (f:=v32) r_7)),rfl,trivial⟩ (fun w' hs'=>⟨(),rfl,Step.left (Step.pulled (is:=[]) (A:=[]) hs' rfl)⟩)
end Go.Proofs
end

section
namespace Go.Proofs
open Go Go.Kx
def halberdref9_encode (p_X:Vx 32 8) (p_Y:Vx 32 8) (p_Z:Vx 32 8):Option (Str × Bool) :=
 (halberdref9_plain p_X p_Y p_Z).bind fun (r_1:Vx 32 8 × Vx 32 8 × Bool)=>(if (!r_1.2.2)=true then (some (([]:Str),false)) else ((halberdref9_put r_1.1).bind fun (r_2:Str)=>(if (([4#8]:Str)).length+(r_2).length≤4611686018427387904 then ((halberdref9_put r_1.2.1).bind fun (r_3:Str)=>(if (([4#8]:Str)++r_2).length+(r_3).length≤4611686018427387904 then (ltt ((([4#8]:Str)++r_2)++r_3) fun (x1:Str)=>(some (x1,true))) else none)) else none)))
set_option maxHeartbeats 4000000 in
set_option maxRecDepth 20000 in
theorem F38_calls (p_X:Vx 32 8) (p_Y:Vx 32 8) (p_Z:Vx 32 8) (r:Str × Bool) (H:halberdref9_encode p_X p_Y p_Z=some r) :
  Does Try.prog 38 [aG [(8,e32 p_X.toList),(8,e32 p_Y.toList),(8,e32 p_Z.toList)]] [] [] (Γ:=Unit) (fun g=>Value.tuple [vs r.1,vb r.2].toArray) (fun g=>[]):=by
 intro w hmem hro hd
 refine calls_of (N:=21) (m0:=[(0,aG [(8,e32 p_X.toList),(8,e32 p_Y.toList),(8,e32 p_Z.toList)])]) Try.func38 rfl Try.ntmps38 (argM_ok [aG [(8,e32 p_X.toList),(8,e32 p_Y.toList),(8,e32 p_Z.toList)]]) rfl hmem hro hd ?_
 unfold halberdref9_encode at H
 refine TC_seq (TC_region (TLe (E_boxP [(8,e32 p_X.toList),(8,e32 p_Y.toList),(8,e32 p_Z.toList)] rfl rfl ⟨(lenV (f:=v32) p_X),(lenV (f:=v32) p_Y),(lenV (f:=v32) p_Z),trivial⟩) (fun b1=>?_)))
 refine TLv (V_assign rfl) ?_
 refine TLv (V_assign rfl) ?_
 refine TL_nil (TX_next (TC_seq (TC_region (TLv (V_loadAgg (n:=24) (cs:=flat [(8,e32 p_X.toList),(8,e32 p_Y.toList),(8,e32 p_Z.toList)]) rfl (by simp) (SrcEnts (b:=b1) [(8,e32 p_X.toList),(8,e32 p_Y.toList),(8,e32 p_Z.toList)] 0 ⟨(lenV (f:=v32) p_X),(lenV (f:=v32) p_Y),(lenV (f:=v32) p_Z),trivial⟩ (AllSrc.all (M:=ents b1 0 [(8,e32 p_X.toList),(8,e32 p_Y.toList),(8,e32 p_Z.toList)]) ⟨Src.own (j:=0) rfl,Src.own (j:=1) rfl,Src.own (j:=2) rfl,trivial⟩)) Try.isAgg33 TryI.inf33 rfl (flat_len ⟨(lenV (f:=v32) p_X),(lenV (f:=v32) p_Y),(lenV (f:=v32) p_Z),trivial⟩ rfl)) ?_))))
 obtain ⟨r_1,hr_1,H⟩:=bind_elim H
 refine TLe (E_c0 (F64_calls p_X p_Y p_Z r_1 hr_1) Try.call64 .z) (fun g_1=>?_)
 refine TLv (V_move rfl) ?_
 refine TLv V_ex ?_
 refine TLv V_ex ?_
 refine TLv V_ex ?_
 refine TLe (E_al32 8 TryI.inf31 TryI.zer31) (fun b2=>?_)
 refine TLe (E_al32 8 TryI.inf31 TryI.zer31) (fun b3=>?_)
 refine TLn (E_sv (vs:=e32 r_1.1.toList) 1 TryI.inf31) (fun _=>?_)
 refine TLn (E_sv (vs:=e32 r_1.2.1.toList) 0 TryI.inf31) (fun _=>?_)
 refine TLv (V_assign rfl) ?_
 refine TL_nil (TX_next (TC_seq (TC_seq (TC_region (TLv (V_move rfl) ?_)))))
 refine TLv (V_un rfl (fun w=>notB w r_1.2.2)) ?_
 refine TL_nil (TX_next (TC_cond (b:=(!r_1.2.2)) rfl (fun hc=>?_) (fun hc=>?_)))
 ·replace H:=ite_t hc H
  refine TC_seq (TC_region (TLv (V_assign rfl) ?_))
  refine TLv (V_assign rfl) ?_
  refine TL_nil (TX_next (TC_ret (TX_then_ret ?_)))
  have hrv:=Option.some.inj H
  subst hrv
  exact TX_ret (rs:=[.tmp 2, .tmp 3]) (vs:=[vs ([]:Str),vb false]) rfl ⟨rfl,rfl,trivial⟩ (fun w' hs'=>⟨(),rfl,Step.left (Step.pulled (is:=[]) (A:=[]) hs' rfl)⟩)
 ·replace H:=ite_f (Bool.eq_false_iff.1 hc) H
  refine TC_skip (TX_next (TC_seq ?_))
  obtain ⟨r_2,hr_2,H⟩:=bind_elim H
  obtain ⟨h1,H⟩:=if_elim H
  obtain ⟨r_3,hr_3,H⟩:=bind_elim H
  obtain ⟨h2,H⟩:=if_elim H
  obtain ⟨x1,hx1,H⟩:=ltt_elim H
  refine TA_begin [] 8 (by kernel_rfl) (N:=8) rfl ?_
  refine TA_mix (is:=[]) (done':=dn 8 63) [itV 0 15 (aG [(8,e32 r_1.1.toList)]) [],itV 1 16 (vs r_2) [0],itV 2 17 (vs (([4#8]:Str)++r_2)) [1],itV 3 18 (aG [(8,e32 r_1.2.1.toList)]) [],itV 4 19 (vs r_3) [3],itV 5 20 (vs ((([4#8]:Str)++r_2)++r_3)) [2,4]] [] 2 (by kernel_rfl) (QP.then QP.body) (by kernel_rfl) rfl (.v rfl (V_lag (.o 1) Try.isAgg31 TryI.inf31) (.e rfl (E_cu (F51_calls r_1.1 r_2 hr_2) Try.call51 .z) (.v rfl (V_bin rfl rfl (fun w=>addS w ([4#8]:Str) r_2 h1)) (.v rfl (V_lag (.o 0) Try.isAgg31 TryI.inf31) (.e rfl (E_cu (F51_calls r_1.2.1 r_3 hr_3) Try.call51 .z) (.v rfl (V_bin rfl rfl (fun w=>addS w (([4#8]:Str)++r_2) r_3 h2)) .nil)))))) .nil (by kernel_rfl) rfl (fun γ=>?_)
  refine TA_cut [(20,vs ((([4#8]:Str)++r_2)++r_3)),(3,vb false),(2,vs ([]:Str))] [⟨some (b3,0),e32 r_1.2.1.toList⟩,⟨some (b2,0),e32 r_1.1.toList⟩,⟨some (b1,0),e32 p_X.toList⟩,⟨some (b1,8),e32 p_Y.toList⟩,⟨some (b1,16),e32 p_Z.toList⟩] ⟨rfl,rfl,rfl,trivial⟩ rfl ?_
  refine TA_all (rs:=[6]) (by kernel_rfl) rfl ?_
  refine ⟨?_,trivial⟩
  refine TO_v (is:=[]) (done':=dn 8 127) rfl rfl rfl rfl (by kernel_rfl) (V_assign rfl) (fun _=>rfl) ?_
  refine TA_re (d:=2) (v:=vs ((([4#8]:Str)++r_2)++r_3)) (v':=vs x1) rfl (congrArg vs hx1) ?_
  refine TA_all (rs:=[7]) (by kernel_rfl) rfl ?_
  refine ⟨?_,trivial⟩
  refine TO_v (is:=[]) (done':=dn 8 255) rfl rfl rfl rfl (by kernel_rfl) (V_assign rfl) (fun _=>rfl) ?_
  refine TA_done (by kernel_rfl) ?_ 0
  refine TX_next (TC_ret ?_)
  have hrv:=Option.some.inj H
  subst hrv
  exact TX_ret (rs:=[.tmp 2, .tmp 3]) (vs:=[vs x1,vb true]) rfl ⟨rfl,rfl,trivial⟩ (fun w' hs'=>⟨(),rfl,Step.left (Step.pulled (is:=[]) (A:=[]) hs' rfl)⟩)
end Go.Proofs
end

section
namespace Go.Proofs
open Go Go.Kx
open Vector (replicate)
def halberdref9_scalar (k:Str):Option (Vx 32 8 × Bool) :=
 (halberdref9_Number 1 k).bind fun (r_1:Vx 32 8 × Bool)=>(if r_1.2=true then (ltt (decide (r_1.1 ≠ (replicate 8 0#32:Vx 32 8))) fun (x1:Bool)=>(some (r_1.1,x1))) else (some (r_1.1,false)))
set_option maxHeartbeats 4000000 in
set_option maxRecDepth 20000 in
theorem F37_calls (k:Str) (r:Vx 32 8 × Bool) (H:halberdref9_scalar k=some r) :
  Does Try.prog 37 [vs k] [] [] (Γ:=Unit) (fun g=>Value.tuple [aG [(8,e32 r.1.toList)],vb r.2].toArray) (fun g=>[]):=by
 intro w hmem hro hd
 refine calls_of (N:=18) (m0:=[(0,vs k)]) Try.func37 rfl Try.ntmps37 (argM_ok [vs k]) rfl hmem hro hd ?_
 unfold halberdref9_scalar at H
 refine TC_seq (TC_region (TLe (E_al32 8 TryI.inf31 TryI.zer31) (fun b1=>?_)))
 refine TLv (V_assign rfl) ?_
 refine TL_nil (TX_next (TC_seq (TC_region (TLv (V_move rfl) ?_))))
 obtain ⟨r_1,hr_1,H⟩:=bind_elim H
 refine TLe (E_c0 (F45_calls 1 k r_1 hr_1) Try.call45 .z) (fun g_1=>?_)
 refine TLv (V_move rfl) ?_
 refine TLv V_ex ?_
 refine TLv V_ex ?_
 refine TLe (E_al32 8 TryI.inf31 TryI.zer31) (fun b2=>?_)
 refine TLn (E_sv (vs:=e32 r_1.1.toList) 0 TryI.inf31) (fun _=>?_)
 refine TLv (V_assign rfl) ?_
 refine TL_nil (TX_next (TC_seq (TC_em r_1.2 (fun hg2_3=>?_) (fun hg2_3=>?_))))
 ·replace H:=ite_t hg2_3 H
  obtain ⟨x1,hx1,H⟩:=ltt_elim H
  refine TA_begin [⟨some (b2,0),e32 r_1.1.toList⟩] 8 (by kernel_rfl) (N:=9) rfl ?_
  refine TA_tk 0 [0] (dn 9 1) rfl rfl (V_lag (.o 0) Try.isAgg31 TryI.inf31) ?_
  refine TA_tk 1 [0] (dn 9 3) rfl rfl (V_move rfl) ?_
  refine TA_tk 2 [0] (dn 9 7) rfl rfl (V_move rfl) ?_
  refine TA_re (d:=13) (v:=vb r_1.2) (v':=vb true) rfl (congrArg vb hg2_3) ?_
  refine TA_tw 3 [0] (dn 9 15) rfl rfl (V_lag (.o 0) Try.isAgg31 TryI.inf31) ?_
  refine TA_tw 4 [0] (dn 9 31) rfl rfl (V_buildArr (pv:=[]) rfl rfl Try.underlying31 TryI.inf31 TryI.inf29 rfl TryI.zer31 (cs:=e32 ((replicate 8 0#32:Vx 32 8).toList)) (by kernel_rfl)) ?_
  refine TA_tw 5 [0] (dn 9 63) rfl rfl (V_bin rfl rfl (fun w=>neqA32 w Try.underlying31 Try.underlying29 (by kernel_rfl) (by kernel_rfl) r_1.1 (replicate 8 0#32:Vx 32 8))) ?_
  refine TA_tk 6 [0] (dn 9 127) rfl rfl (V_pick (b:=true) rfl rfl) ?_
  refine TA_all (rs:=[7]) (by kernel_rfl) rfl ?_
  refine ⟨?_,trivial⟩
  refine TO_n (is:=[0]) (done':=dn 9 255) rfl rfl rfl (by kernel_rfl) (E_sv (vs:=e32 r_1.1.toList) 1 TryI.inf31) (fun _ _=>rfl) (fun _=>?_)
  refine TA_all (rs:=[8]) (by kernel_rfl) rfl ?_
  refine ⟨?_,trivial⟩
  refine TO_v (is:=[]) (R:=[]) (done':=dn 9 511) rfl rfl rfl rfl (by kernel_rfl) (V_assign rfl) (fun h=>by cases h) ?_
  refine TA_re (d:=3) (v:=vb (decide (r_1.1 ≠ (replicate 8 0#32:Vx 32 8)))) (v':=vb x1) rfl (congrArg vb hx1) ?_
  refine TA_done (by kernel_rfl) ?_ 0
  refine TX_next (TC_ret ?_)
  have hrv:=Option.some.inj H
  subst hrv
  exact TX_ret (rs:=[.cell 2 31, .tmp 3]) (vs:=[aG [(8,e32 r_1.1.toList)],vb x1]) rfl ⟨(Res_agg (n:=8) rfl (by simp) (.o 1) Try.isAgg31 TryI.inf31 rfl (lenV (f:=v32) r_1.1)),rfl,trivial⟩ (fun w' hs'=>⟨(),rfl,Step.left (Step.pulled (is:=[]) (A:=[]) hs' rfl)⟩)
 ·replace H:=ite_f (Bool.eq_false_iff.1 hg2_3) H
  refine TA_begin [⟨some (b2,0),e32 r_1.1.toList⟩] 8 (by kernel_rfl) (N:=9) rfl ?_
  refine TA_tk 0 [0] (dn 9 1) rfl rfl (V_lag (.o 0) Try.isAgg31 TryI.inf31) ?_
  refine TA_tk 1 [0] (dn 9 3) rfl rfl (V_move rfl) ?_
  refine TA_tk 2 [0] (dn 9 7) rfl rfl (V_move rfl) ?_
  refine TA_re (d:=13) (v:=vb r_1.2) (v':=vb false) rfl (congrArg vb hg2_3) ?_
  refine TA_ts 3 [0] (dn 9 15) rfl rfl ?_
  refine TA_ts 4 [0] (dn 9 31) rfl rfl ?_
  refine TA_ts 5 [0] (dn 9 63) rfl rfl ?_
  refine TA_tk 6 [0] (dn 9 127) rfl rfl (V_pick (b:=false) rfl rfl) ?_
  refine TA_all (rs:=[7]) (by kernel_rfl) rfl ?_
  refine ⟨?_,trivial⟩
  refine TO_n (is:=[0]) (done':=dn 9 255) rfl rfl rfl (by kernel_rfl) (E_sv (vs:=e32 r_1.1.toList) 1 TryI.inf31) (fun _ _=>rfl) (fun _=>?_)
  refine TA_all (rs:=[8]) (by kernel_rfl) rfl ?_
  refine ⟨?_,trivial⟩
  refine TO_v (is:=[]) (R:=[]) (done':=dn 9 511) rfl rfl rfl rfl (by kernel_rfl) (V_assign rfl) (fun h=>by cases h) ?_
  refine TA_done (by kernel_rfl) ?_ 0
  refine TX_next (TC_ret ?_)
  have hrv:=Option.some.inj H
  subst hrv
  exact TX_ret (rs:=[.cell 2 31, .tmp 3]) (vs:=[aG [(8,e32 r_1.1.toList)],vb false]) rfl ⟨(Res_agg (n:=8) rfl (by simp) (.o 1) Try.isAgg31 TryI.inf31 rfl (lenV (f:=v32) r_1.1)),rfl,trivial⟩ (fun w' hs'=>⟨(),rfl,Step.left (Step.pulled (is:=[]) (A:=[]) hs' rfl)⟩)
end Go.Proofs
end

section
namespace Go.Proofs
open Go Go.Kx
open Vector (replicate)
def halberdref9_product.b0 (k:Vx 32 8) (p_X:Vx 32 8) (p_Y:Vx 32 8) (p_Z:Vx 32 8) (s0:Int × Vx 32 8 × Vx 32 8 × Vx 32 8):Option ((Int × Vx 32 8 × Vx 32 8 × Vx 32 8) ⊕ (Vx 32 8 × Vx 32 8 × Vx 32 8)) :=
 if 0≤s0.1 then ((halberdref9_twice s0.2.1 s0.2.2.1 s0.2.2.2).bind fun (r_1:Vx 32 8 × Vx 32 8 × Vx 32 8)=>(if 0≤w64 (s0.1.tdiv 32)∧w64 (s0.1.tdiv 32)<(8:Int) then (if 0≤s0.1.tmod 32 then (if (((vg k ((w64 (s0.1.tdiv 32)).toNat)) >>> (s0.1.tmod 32).toNat) &&& 1#32)=1#32 then ((halberdref9_together r_1.1 r_1.2.1 r_1.2.2 p_X p_Y p_Z).bind fun (r_2:Vx 32 8 × Vx 32 8 × Vx 32 8)=>(ltt (w64 (s0.1 - 1)) fun (i1:Int)=>(some (.inl (i1,r_2.1,r_2.2.1,r_2.2.2))))) else (ltt (w64 (s0.1 - 1)) fun (i2:Int)=>(some (.inl (i2,r_1.1,r_1.2.1,r_1.2.2))))) else none) else none)) else (some (.inr (s0.2.1,s0.2.2.1,s0.2.2.2)))
def halberdref9_product (k:Vx 32 8) (p_X:Vx 32 8) (p_Y:Vx 32 8) (p_Z:Vx 32 8):Option (Vx 32 8 × Vx 32 8 × Vx 32 8) :=
 (loop (halberdref9_product.b0 k p_X p_Y p_Z) BIG (255,replicate 8 0#32,replicate 8 0#32,replicate 8 0#32)).bind fun (t_1:Vx 32 8 × Vx 32 8 × Vx 32 8)=>(some (t_1.1,t_1.2.1,t_1.2.2))
set_option maxHeartbeats 4000000 in
set_option maxRecDepth 20000 in
theorem F39_calls (k:Vx 32 8) (p_X:Vx 32 8) (p_Y:Vx 32 8) (p_Z:Vx 32 8) (r:Vx 32 8 × Vx 32 8 × Vx 32 8) (H:halberdref9_product k p_X p_Y p_Z=some r) :
  Does Try.prog 39 [aG [(8,e32 k.toList)],aG [(8,e32 p_X.toList),(8,e32 p_Y.toList),(8,e32 p_Z.toList)]] [] [] (Γ:=Unit) (fun g=>aG [(8,e32 r.1.toList),(8,e32 r.2.1.toList),(8,e32 r.2.2.toList)]) (fun g=>[]):=by
 intro w hmem hro hd
 refine calls_of (N:=27) (m0:=[(0,aG [(8,e32 k.toList)]),(1,aG [(8,e32 p_X.toList),(8,e32 p_Y.toList),(8,e32 p_Z.toList)])]) Try.func39 rfl Try.ntmps39 (argM_ok [aG [(8,e32 k.toList)],aG [(8,e32 p_X.toList),(8,e32 p_Y.toList),(8,e32 p_Z.toList)]]) rfl hmem hro hd ?_
 unfold halberdref9_product at H
 refine TC_seq (TC_region (TLe (E_boxP [(8,e32 k.toList)] rfl rfl ⟨(lenV (f:=v32) k),trivial⟩) (fun b1=>?_)))
 refine TLe (E_boxP [(8,e32 p_X.toList),(8,e32 p_Y.toList),(8,e32 p_Z.toList)] rfl rfl ⟨(lenV (f:=v32) p_X),(lenV (f:=v32) p_Y),(lenV (f:=v32) p_Z),trivial⟩) (fun b2=>?_)
 refine TLe (E_allocP [(8,e32 ((replicate 8 0#32).toList)),(8,e32 ((replicate 8 0#32).toList)),(8,e32 ((replicate 8 0#32).toList))] TryI.inf33 TryI.zer33 ⟨(lenV (f:=v32) (replicate 8 0#32)),(lenV (f:=v32) (replicate 8 0#32)),(lenV (f:=v32) (replicate 8 0#32)),trivial⟩) (fun b3=>?_)
 refine TL_nil (TX_next (TC_seq (TC_region (TLv (V_buildStruct (pv:=[]) (pl:=[(0,8),(8,8),(16,8)]) rfl rfl Try.underlying33 TryI.inf33 TryI.places33 TryI.zer33 (cs:=flat [(8,e32 ((replicate 8 0#32).toList)),(8,e32 ((replicate 8 0#32).toList)),(8,e32 ((replicate 8 0#32).toList))]) fill_end) ?_))))
 refine TLe (E_allocP [(8,e32 ((replicate 8 0#32).toList)),(8,e32 ((replicate 8 0#32).toList)),(8,e32 ((replicate 8 0#32).toList))] TryI.inf33 TryI.zer33 ⟨(lenV (f:=v32) (replicate 8 0#32)),(lenV (f:=v32) (replicate 8 0#32)),(lenV (f:=v32) (replicate 8 0#32)),trivial⟩) (fun b4=>?_)
 refine TLn (E_sp (b:=b4) (o:=0) [0,0,0] [(8,e32 ((replicate 8 0#32).toList)),(8,e32 ((replicate 8 0#32).toList)),(8,e32 ((replicate 8 0#32).toList))] [(8,e32 ((replicate 8 0#32).toList)),(8,e32 ((replicate 8 0#32).toList)),(8,e32 ((replicate 8 0#32).toList))] rfl TryI.inf33 ⟨(lenV (f:=v32) (replicate 8 0#32)),(lenV (f:=v32) (replicate 8 0#32)),(lenV (f:=v32) (replicate 8 0#32)),trivial⟩ ⟨(lenV (f:=v32) (replicate 8 0#32)),(lenV (f:=v32) (replicate 8 0#32)),(lenV (f:=v32) (replicate 8 0#32)),trivial⟩ ⟨(OneC.map (fun _=>rfl) _),(OneC.map (fun _=>rfl) _),(OneC.map (fun _=>rfl) _),trivial⟩) (fun _=>?_)
 refine TL_nil (TX_next (TC_seq (TC_seq (TC_region (TLv (V_assign rfl) ?_)))))
 refine TL_nil (TX_next (TC_block ?_))
 obtain ⟨t_1,Hl,H⟩:=bind_elim H
 refine TC.sub (m':=[(2,ptr (some (b1,0)) 0),(3,ptr (some (b2,0)) 0),(4,ptr (some (b3,0)) 0),(5,ptr (some (b4,0)) 0),(6,vi 255)]) ⟨rfl,rfl,rfl,rfl,rfl,trivial⟩ ?_
 refine TC.pull (is:=[9,6,6,6,3,3,3,0,0,0]) (L':=[⟨some (b1,0),e32 k.toList⟩,⟨some (b2,0),e32 p_X.toList⟩,⟨some (b2,8),e32 p_Y.toList⟩,⟨some (b2,16),e32 p_Z.toList⟩,⟨some (b3,0),e32 ((replicate 8 0#32).toList)⟩,⟨some (b3,8),e32 ((replicate 8 0#32).toList)⟩,⟨some (b3,16),e32 ((replicate 8 0#32).toList)⟩,⟨some (b4,0),e32 ((replicate 8 0#32).toList)⟩,⟨some (b4,8),e32 ((replicate 8 0#32).toList)⟩,⟨some (b4,16),e32 ((replicate 8 0#32).toList)⟩]) rfl ?_
 refine TC_loopL (id:=0) (body:=(halberdref9_product.b0 k p_X p_Y p_Z)) (σ:=Int × Vx 32 8 × Vx 32 8 × Vx 32 8) (Γ:=Unit) (Γx:=Unit) (fun s0 g0_=>[(2,ptr (some (b1,0)) 0),(3,ptr (some (b2,0)) 0),(4,ptr (some (b3,0)) 0),(5,ptr (some (b4,0)) 0),(6,vi s0.1)]) (fun s0 g0_=>[⟨some (b1,0),e32 k.toList⟩,⟨some (b2,0),e32 p_X.toList⟩,⟨some (b2,8),e32 p_Y.toList⟩,⟨some (b2,16),e32 p_Z.toList⟩,⟨some (b3,0),e32 ((replicate 8 0#32).toList)⟩,⟨some (b3,8),e32 ((replicate 8 0#32).toList)⟩,⟨some (b3,16),e32 ((replicate 8 0#32).toList)⟩,⟨some (b4,0),e32 s0.2.1.toList⟩,⟨some (b4,8),e32 s0.2.2.1.toList⟩,⟨some (b4,16),e32 s0.2.2.2.toList⟩]) (fun t g=>[(4,ptr (some (b3,0)) 0),(5,ptr (some (b4,0)) 0)]) (fun t g=>[⟨some (b3,0),e32 ((replicate 8 0#32).toList)⟩,⟨some (b3,8),e32 ((replicate 8 0#32).toList)⟩,⟨some (b3,16),e32 ((replicate 8 0#32).toList)⟩,⟨some (b4,0),e32 t.1.toList⟩,⟨some (b4,8),e32 t.2.1.toList⟩,⟨some (b4,16),e32 t.2.2.toList⟩]) ?_ BIG (255,replicate 8 0#32,replicate 8 0#32,replicate 8 0#32) () t_1 Hl ?_
 ·intro s0 g0_ r1 H K hK hE
  unfold halberdref9_product.b0 at H
  refine TC_seq (TC_seq (TC_region (TLv (V_move rfl) ?_)))
  refine TLv (V_bin rfl rfl (fun w=>geqI w s0.1 0)) ?_
  refine TL_nil (TX_next (TC_cond (b:=(decide (0≤s0.1))) rfl (fun hc=>?_) (fun hc=>?_)))
  ·replace H:=ite_t (of_decide_eq_true hc) H
   refine TC_skip (TX_next (TC_seq (TC_block (TC_seq (TC_region (TLv (V_loadAgg (n:=24) (cs:=flat [(8,e32 s0.2.1.toList),(8,e32 s0.2.2.1.toList),(8,e32 s0.2.2.2.toList)]) rfl (by simp) (SrcEnts (b:=b4) [(8,e32 s0.2.1.toList),(8,e32 s0.2.2.1.toList),(8,e32 s0.2.2.2.toList)] 0 ⟨(lenV (f:=v32) s0.2.1),(lenV (f:=v32) s0.2.2.1),(lenV (f:=v32) s0.2.2.2),trivial⟩ (AllSrc.all (M:=ents b4 0 [(8,e32 s0.2.1.toList),(8,e32 s0.2.2.1.toList),(8,e32 s0.2.2.2.toList)]) ⟨Src.own (j:=7) rfl,Src.own (j:=8) rfl,Src.own (j:=9) rfl,trivial⟩)) Try.isAgg33 TryI.inf33 rfl (flat_len ⟨(lenV (f:=v32) s0.2.1),(lenV (f:=v32) s0.2.2.1),(lenV (f:=v32) s0.2.2.2),trivial⟩ rfl)) ?_))))))
   obtain ⟨r_1,hr_1,H⟩:=bind_elim H
   refine TLe (E_c0 (F76_calls s0.2.1 s0.2.2.1 s0.2.2.2 r_1 hr_1) Try.call76 .z) (fun g_1=>?_)
   refine TLn (E_sp (b:=b4) (o:=0) [7,7,7] [(8,e32 s0.2.1.toList),(8,e32 s0.2.2.1.toList),(8,e32 s0.2.2.2.toList)] [(8,e32 r_1.1.toList),(8,e32 r_1.2.1.toList),(8,e32 r_1.2.2.toList)] rfl TryI.inf33 ⟨(lenV (f:=v32) s0.2.1),(lenV (f:=v32) s0.2.2.1),(lenV (f:=v32) s0.2.2.2),trivial⟩ ⟨(lenV (f:=v32) r_1.1),(lenV (f:=v32) r_1.2.1),(lenV (f:=v32) r_1.2.2),trivial⟩ ⟨(OneC.map (fun _=>rfl) _),(OneC.map (fun _=>rfl) _),(OneC.map (fun _=>rfl) _),trivial⟩) (fun _=>?_)
   refine TL_nil (TX_next (TC_seq (TC_region (TLv (V_move rfl) ?_))))
   refine TLv (V_bin rfl rfl (fun w=>quoI w s0.1 32 (by decide))) ?_
   obtain ⟨h1,H⟩:=if_elim H
   refine TLv (V_idxArr (i:=w64 (s0.1.tdiv 32)) rfl rfl Try.underlying31 TryI.inf29 rfl h1.1 h1.2 (k:=(w64 (s0.1.tdiv 32)).toNat) (k01 _)) ?_
   refine TLv (V_load rfl (.o 3) (get_vec (f:=v32) (V:=k) (toNat_lt h1.1 h1.2)) Try.isAgg29) ?_
   refine TLv (V_move rfl) ?_
   refine TLv (V_bin rfl rfl (fun w=>remI w s0.1 32 (by decide))) ?_
   obtain ⟨h2,H⟩:=if_elim H
   refine TLv (V_bin rfl rfl (fun w=>shr32 w (vg k ((w64 (s0.1.tdiv 32)).toNat)) .i64 (s0.1.tmod 32) h2)) ?_
   refine TLv (V_bin rfl rfl (fun w=>and32 w ((vg k ((w64 (s0.1.tdiv 32)).toNat)) >>> (s0.1.tmod 32).toNat) 1#32)) ?_
   refine TLv (V_bin rfl rfl (fun w=>eql32 w (((vg k ((w64 (s0.1.tdiv 32)).toNat)) >>> (s0.1.tmod 32).toNat) &&& 1#32) 1#32)) ?_
   refine TL_nil (TX_next (TC_cond (b:=(decide ((((vg k ((w64 (s0.1.tdiv 32)).toNat)) >>> (s0.1.tmod 32).toNat) &&& 1#32)=1#32))) rfl (fun hc=>?_) (fun hc=>?_)))
   ·replace H:=ite_t (of_decide_eq_true hc) H
    refine TC_region (TLv (V_loadAgg (n:=24) (cs:=flat [(8,e32 r_1.1.toList),(8,e32 r_1.2.1.toList),(8,e32 r_1.2.2.toList)]) rfl (by simp) (SrcEnts (b:=b4) [(8,e32 r_1.1.toList),(8,e32 r_1.2.1.toList),(8,e32 r_1.2.2.toList)] 0 ⟨(lenV (f:=v32) r_1.1),(lenV (f:=v32) r_1.2.1),(lenV (f:=v32) r_1.2.2),trivial⟩ (AllSrc.all (M:=ents b4 0 [(8,e32 r_1.1.toList),(8,e32 r_1.2.1.toList),(8,e32 r_1.2.2.toList)]) ⟨Src.own (j:=0) rfl,Src.own (j:=1) rfl,Src.own (j:=2) rfl,trivial⟩)) Try.isAgg33 TryI.inf33 rfl (flat_len ⟨(lenV (f:=v32) r_1.1),(lenV (f:=v32) r_1.2.1),(lenV (f:=v32) r_1.2.2),trivial⟩ rfl)) ?_)
    refine TLv (V_loadAgg (n:=24) (cs:=flat [(8,e32 p_X.toList),(8,e32 p_Y.toList),(8,e32 p_Z.toList)]) rfl (by simp) (SrcEnts (b:=b2) [(8,e32 p_X.toList),(8,e32 p_Y.toList),(8,e32 p_Z.toList)] 0 ⟨(lenV (f:=v32) p_X),(lenV (f:=v32) p_Y),(lenV (f:=v32) p_Z),trivial⟩ (AllSrc.all (M:=ents b2 0 [(8,e32 p_X.toList),(8,e32 p_Y.toList),(8,e32 p_Z.toList)]) ⟨Src.own (j:=4) rfl,Src.own (j:=5) rfl,Src.own (j:=6) rfl,trivial⟩)) Try.isAgg33 TryI.inf33 rfl (flat_len ⟨(lenV (f:=v32) p_X),(lenV (f:=v32) p_Y),(lenV (f:=v32) p_Z),trivial⟩ rfl)) ?_
    obtain ⟨r_2,hr_2,H⟩:=bind_elim H
    refine TLe (E_c0 (F44_calls r_1.1 r_1.2.1 r_1.2.2 p_X p_Y p_Z r_2 hr_2) Try.call44 .z) (fun g_2=>?_)
    refine TLn (E_sp (b:=b4) (o:=0) [0,0,0] [(8,e32 r_1.1.toList),(8,e32 r_1.2.1.toList),(8,e32 r_1.2.2.toList)] [(8,e32 r_2.1.toList),(8,e32 r_2.2.1.toList),(8,e32 r_2.2.2.toList)] rfl TryI.inf33 ⟨(lenV (f:=v32) r_1.1),(lenV (f:=v32) r_1.2.1),(lenV (f:=v32) r_1.2.2),trivial⟩ ⟨(lenV (f:=v32) r_2.1),(lenV (f:=v32) r_2.2.1),(lenV (f:=v32) r_2.2.2),trivial⟩ ⟨(OneC.map (fun _=>rfl) _),(OneC.map (fun _=>rfl) _),(OneC.map (fun _=>rfl) _),trivial⟩) (fun _=>?_)
    refine TL_nil (TX_block_normal (TX_next (TC_region (TLv (V_move rfl) ?_))))
    refine TLv (V_bin rfl rfl (fun w=>subI w s0.1 1)) ?_
    refine TLv (V_assign rfl) ?_
    obtain ⟨i1,hi1,H⟩:=ltt_elim H
    refine TL_re (d:=6) (v:=vi (w64 (s0.1 - 1))) (v':=vi i1) rfl (congrArg vi hi1) ?_
    refine TL_nil (TX.sub (m':=[(2,ptr (some (b1,0)) 0),(3,ptr (some (b2,0)) 0),(4,ptr (some (b3,0)) 0),(5,ptr (some (b4,0)) 0),(6,vi i1)]) ⟨rfl,rfl,rfl,rfl,rfl,trivial⟩ ?_)
    refine TX.pull (is:=[3,3,3,3,3,3,3,0,0,0]) (L':=[⟨some (b1,0),e32 k.toList⟩,⟨some (b2,0),e32 p_X.toList⟩,⟨some (b2,8),e32 p_Y.toList⟩,⟨some (b2,16),e32 p_Z.toList⟩,⟨some (b3,0),e32 ((replicate 8 0#32).toList)⟩,⟨some (b3,8),e32 ((replicate 8 0#32).toList)⟩,⟨some (b3,16),e32 ((replicate 8 0#32).toList)⟩,⟨some (b4,0),e32 r_2.1.toList⟩,⟨some (b4,8),e32 r_2.2.1.toList⟩,⟨some (b4,16),e32 r_2.2.2.toList⟩]) rfl ?_
    obtain rfl:=Option.some.inj H
    exact fun a w hs=>hK (i1,r_2.1,r_2.2.1,r_2.2.2) rfl () a w hs
   ·replace H:=ite_f (of_decide_eq_false hc) H
    refine TC_skip (TX_block_normal (TX_next (TC_region (TLv (V_move rfl) ?_))))
    refine TLv (V_bin rfl rfl (fun w=>subI w s0.1 1)) ?_
    refine TLv (V_assign rfl) ?_
    obtain ⟨i2,hi2,H⟩:=ltt_elim H
    refine TL_re (d:=6) (v:=vi (w64 (s0.1 - 1))) (v':=vi i2) rfl (congrArg vi hi2) ?_
    refine TL_nil (TX.sub (m':=[(2,ptr (some (b1,0)) 0),(3,ptr (some (b2,0)) 0),(4,ptr (some (b3,0)) 0),(5,ptr (some (b4,0)) 0),(6,vi i2)]) ⟨rfl,rfl,rfl,rfl,rfl,trivial⟩ ?_)
    refine TX.pull (is:=[3,3,3,3,3,3,3,0,0,0]) (L':=[⟨some (b1,0),e32 k.toList⟩,⟨some (b2,0),e32 p_X.toList⟩,⟨some (b2,8),e32 p_Y.toList⟩,⟨some (b2,16),e32 p_Z.toList⟩,⟨some (b3,0),e32 ((replicate 8 0#32).toList)⟩,⟨some (b3,8),e32 ((replicate 8 0#32).toList)⟩,⟨some (b3,16),e32 ((replicate 8 0#32).toList)⟩,⟨some (b4,0),e32 r_1.1.toList⟩,⟨some (b4,8),e32 r_1.2.1.toList⟩,⟨some (b4,16),e32 r_1.2.2.toList⟩]) rfl ?_
    obtain rfl:=Option.some.inj H
    exact fun a w hs=>hK (i2,r_1.1,r_1.2.1,r_1.2.2) rfl () a w hs
  ·replace H:=ite_f (of_decide_eq_false hc) H
   refine TC_exit (TX_then_exit (TX_then_exit (TX.sub (m':=[(4,ptr (some (b3,0)) 0),(5,ptr (some (b4,0)) 0)]) ⟨rfl,rfl,trivial⟩ ?_)))
   refine TX.pull (is:=[4,4,4,4,4,4]) (L':=[⟨some (b3,0),e32 ((replicate 8 0#32).toList)⟩,⟨some (b3,8),e32 ((replicate 8 0#32).toList)⟩,⟨some (b3,16),e32 ((replicate 8 0#32).toList)⟩,⟨some (b4,0),e32 s0.2.1.toList⟩,⟨some (b4,8),e32 s0.2.2.1.toList⟩,⟨some (b4,16),e32 s0.2.2.2.toList⟩]) rfl ?_
   obtain rfl:=Option.some.inj H
   exact hE (s0.2.1,s0.2.2.1,s0.2.2.2) rfl ()
 ·intro g
  refine TX_block_exit (TX_next (TC_seq (TC_region (TLv (V_loadAgg (n:=24) (cs:=flat [(8,e32 t_1.1.toList),(8,e32 t_1.2.1.toList),(8,e32 t_1.2.2.toList)]) rfl (by simp) (SrcEnts (b:=b4) [(8,e32 t_1.1.toList),(8,e32 t_1.2.1.toList),(8,e32 t_1.2.2.toList)] 0 ⟨(lenV (f:=v32) t_1.1),(lenV (f:=v32) t_1.2.1),(lenV (f:=v32) t_1.2.2),trivial⟩ (AllSrc.all (M:=ents b4 0 [(8,e32 t_1.1.toList),(8,e32 t_1.2.1.toList),(8,e32 t_1.2.2.toList)]) ⟨Src.own (j:=3) rfl,Src.own (j:=4) rfl,Src.own (j:=5) rfl,trivial⟩)) Try.isAgg33 TryI.inf33 rfl (flat_len ⟨(lenV (f:=v32) t_1.1),(lenV (f:=v32) t_1.2.1),(lenV (f:=v32) t_1.2.2),trivial⟩ rfl)) ?_))))
  refine TLn (E_sp (b:=b3) (o:=0) [0,0,0] [(8,e32 ((replicate 8 0#32).toList)),(8,e32 ((replicate 8 0#32).toList)),(8,e32 ((replicate 8 0#32).toList))] [(8,e32 t_1.1.toList),(8,e32 t_1.2.1.toList),(8,e32 t_1.2.2.toList)] rfl TryI.inf33 ⟨(lenV (f:=v32) (replicate 8 0#32)),(lenV (f:=v32) (replicate 8 0#32)),(lenV (f:=v32) (replicate 8 0#32)),trivial⟩ ⟨(lenV (f:=v32) t_1.1),(lenV (f:=v32) t_1.2.1),(lenV (f:=v32) t_1.2.2),trivial⟩ ⟨(OneC.map (fun _=>rfl) _),(OneC.map (fun _=>rfl) _),(OneC.map (fun _=>rfl) _),trivial⟩) (fun _=>?_)
  refine TL_nil (TX_next (TC_ret ?_))
  have hrv:=Option.some.inj H
  subst hrv
  exact TX_ret (rs:=[.cell 4 33]) (vs:=[aG [(8,e32 t_1.1.toList),(8,e32 t_1.2.1.toList),(8,e32 t_1.2.2.toList)]]) rfl ⟨(Res_agg (n:=24) (cs:=flat [(8,e32 t_1.1.toList),(8,e32 t_1.2.1.toList),(8,e32 t_1.2.2.toList)]) rfl (by simp) (SrcEnts (b:=b3) [(8,e32 t_1.1.toList),(8,e32 t_1.2.1.toList),(8,e32 t_1.2.2.toList)] 0 ⟨(lenV (f:=v32) t_1.1),(lenV (f:=v32) t_1.2.1),(lenV (f:=v32) t_1.2.2),trivial⟩ (AllSrc.all (M:=ents b3 0 [(8,e32 t_1.1.toList),(8,e32 t_1.2.1.toList),(8,e32 t_1.2.2.toList)]) ⟨Src.own (j:=0) rfl,Src.own (j:=1) rfl,Src.own (j:=2) rfl,trivial⟩)) Try.isAgg33 TryI.inf33 rfl (by simp [flat])),trivial⟩ (fun w' hs'=>⟨(),rfl,Step.left (Step.pulled (is:=[]) (A:=[]) hs' rfl)⟩)
end Go.Proofs
end

section
namespace Go.Proofs
open Go Go.Kx
open Vector (replicate)
def halberdref9_G:Option (Vx 32 8 × Vx 32 8 × Vx 32 8) :=
 (halberdref9_into 0 (#v[3633889942#32,4104206661#32,770388896#32,1996717441#32,1671708914#32,4173129445#32,3777774151#32,1796723186#32]:Vx 32 8)).bind fun (r_1:Vx 32 8)=>((halberdref9_into 0 (#v[935285237#32,3417718888#32,1798397646#32,734933847#32,2081398294#32,2397563722#32,4263149467#32,1340293858#32]:Vx 32 8)).bind fun (r_2:Vx 32 8)=>((halberdref9_into 0 (vp (replicate 8 0#32) 0 1#32:Vx 32 8)).bind fun (r_3:Vx 32 8)=>(some (r_1,r_2,r_3))))
set_option maxHeartbeats 4000000 in
set_option maxRecDepth 20000 in
theorem F40_calls (r:Vx 32 8 × Vx 32 8 × Vx 32 8) (H:halberdref9_G=some r) :
  Does Try.prog 40 [] [] [] (Γ:=Unit) (fun g=>aG [(8,e32 r.1.toList),(8,e32 r.2.1.toList),(8,e32 r.2.2.toList)]) (fun g=>[]):=by
 intro w hmem hro hd
 refine calls_of (N:=8) (m0:=[]) Try.func40 rfl Try.ntmps40 (argM_ok []) rfl hmem hro hd ?_
 unfold halberdref9_G at H
 refine TC_seq (TC_region (TLe (E_allocP [(8,e32 ((replicate 8 0#32).toList)),(8,e32 ((replicate 8 0#32).toList)),(8,e32 ((replicate 8 0#32).toList))] TryI.inf33 TryI.zer33 ⟨(lenV (f:=v32) (replicate 8 0#32)),(lenV (f:=v32) (replicate 8 0#32)),(lenV (f:=v32) (replicate 8 0#32)),trivial⟩) (fun b1=>?_)))
 refine TL_nil (TX_next (TC_seq (TC_region (TLv (V_buildArr (pv:=[(0,v32 3633889942#32),(1,v32 4104206661#32),(2,v32 770388896#32),(3,v32 1996717441#32),(4,v32 1671708914#32),(5,v32 4173129445#32),(6,v32 3777774151#32),(7,v32 1796723186#32)]) rfl rfl Try.underlying31 TryI.inf31 TryI.inf29 rfl TryI.zer31 (cs:=e32 ((#v[3633889942#32,4104206661#32,770388896#32,1996717441#32,1671708914#32,4173129445#32,3777774151#32,1796723186#32]:Vx 32 8).toList)) (by kernel_rfl)) ?_))))
 obtain ⟨r_1,hr_1,H⟩:=bind_elim H
 refine TLe (E_c0 (F46_calls 0 (#v[3633889942#32,4104206661#32,770388896#32,1996717441#32,1671708914#32,4173129445#32,3777774151#32,1796723186#32]:Vx 32 8) r_1 hr_1) Try.call46 .z) (fun g_1=>?_)
 refine TLv (V_buildArr (pv:=[(0,v32 935285237#32),(1,v32 3417718888#32),(2,v32 1798397646#32),(3,v32 734933847#32),(4,v32 2081398294#32),(5,v32 2397563722#32),(6,v32 4263149467#32),(7,v32 1340293858#32)]) rfl rfl Try.underlying31 TryI.inf31 TryI.inf29 rfl TryI.zer31 (cs:=e32 ((#v[935285237#32,3417718888#32,1798397646#32,734933847#32,2081398294#32,2397563722#32,4263149467#32,1340293858#32]:Vx 32 8).toList)) (by kernel_rfl)) ?_
 obtain ⟨r_2,hr_2,H⟩:=bind_elim H
 refine TLe (E_c0 (F46_calls 0 (#v[935285237#32,3417718888#32,1798397646#32,734933847#32,2081398294#32,2397563722#32,4263149467#32,1340293858#32]:Vx 32 8) r_2 hr_2) Try.call46 .z) (fun g_2=>?_)
 refine TLv (V_buildArr (pv:=[(0,v32 1#32)]) rfl rfl Try.underlying31 TryI.inf31 TryI.inf29 rfl TryI.zer31 (cs:=e32 ((vp (replicate 8 0#32) 0 1#32:Vx 32 8).toList)) (by kernel_rfl)) ?_
 obtain ⟨r_3,hr_3,H⟩:=bind_elim H
 refine TLe (E_c0 (F46_calls 0 (vp (replicate 8 0#32) 0 1#32:Vx 32 8) r_3 hr_3) Try.call46 .z) (fun g_3=>?_)
 refine TLv (V_buildStruct (pv:=[(0,aG [(8,e32 r_1.toList)]),(1,aG [(8,e32 r_2.toList)]),(2,aG [(8,e32 r_3.toList)])]) (pl:=[(0,8),(8,8),(16,8)]) rfl rfl Try.underlying33 TryI.inf33 TryI.places33 TryI.zer33 (cs:=flat [(8,e32 r_1.toList),(8,e32 r_2.toList),(8,e32 r_3.toList)]) (fill_part [] [(8,e32 ((replicate 8 0#32).toList)),(8,e32 ((replicate 8 0#32).toList))] rfl rfl trivial rfl (lenV (f:=v32) (replicate 8 0#32)) (lenV (f:=v32) r_1) (fill_part [(8,e32 r_1.toList)] [(8,e32 ((replicate 8 0#32).toList))] rfl rfl ⟨(lenV (f:=v32) r_1),trivial⟩ rfl (lenV (f:=v32) (replicate 8 0#32)) (lenV (f:=v32) r_2) (fill_part [(8,e32 r_1.toList),(8,e32 r_2.toList)] [] rfl rfl ⟨(lenV (f:=v32) r_1),(lenV (f:=v32) r_2),trivial⟩ rfl (lenV (f:=v32) (replicate 8 0#32)) (lenV (f:=v32) r_3) fill_end)))) ?_
 refine TLn (E_sp (b:=b1) (o:=0) [0,0,0] [(8,e32 ((replicate 8 0#32).toList)),(8,e32 ((replicate 8 0#32).toList)),(8,e32 ((replicate 8 0#32).toList))] [(8,e32 r_1.toList),(8,e32 r_2.toList),(8,e32 r_3.toList)] rfl TryI.inf33 ⟨(lenV (f:=v32) (replicate 8 0#32)),(lenV (f:=v32) (replicate 8 0#32)),(lenV (f:=v32) (replicate 8 0#32)),trivial⟩ ⟨(lenV (f:=v32) r_1),(lenV (f:=v32) r_2),(lenV (f:=v32) r_3),trivial⟩ ⟨(OneC.map (fun _=>rfl) _),(OneC.map (fun _=>rfl) _),(OneC.map (fun _=>rfl) _),trivial⟩) (fun _=>?_)
 refine TL_nil (TX_next (TC_ret ?_))
 have hrv:=Option.some.inj H
 subst hrv
 exact TX_ret (rs:=[.cell 0 33]) (vs:=[aG [(8,e32 r_1.toList),(8,e32 r_2.toList),(8,e32 r_3.toList)]]) rfl ⟨(Res_agg (n:=24) (cs:=flat [(8,e32 r_1.toList),(8,e32 r_2.toList),(8,e32 r_3.toList)]) rfl (by simp) (SrcEnts (b:=b1) [(8,e32 r_1.toList),(8,e32 r_2.toList),(8,e32 r_3.toList)] 0 ⟨(lenV (f:=v32) r_1),(lenV (f:=v32) r_2),(lenV (f:=v32) r_3),trivial⟩ (AllSrc.all (M:=ents b1 0 [(8,e32 r_1.toList),(8,e32 r_2.toList),(8,e32 r_3.toList)]) ⟨Src.own (j:=0) rfl,Src.own (j:=1) rfl,Src.own (j:=2) rfl,trivial⟩)) Try.isAgg33 TryI.inf33 rfl (by simp [flat])),trivial⟩ (fun w' hs'=>⟨(),rfl,Step.left (Step.pulled (is:=[]) (A:=[]) hs' rfl)⟩)
end Go.Proofs
end

section
namespace Go.Proofs
open Go Go.Kx
def halberdref9_Public (k:Str):Option (Str × Int) :=
 (halberdref9_scalar k).bind fun (r_1:Vx 32 8 × Bool)=>(if (!r_1.2)=true then (some (([]:Str),1100)) else ((halberdref9_G).bind fun (r_2:Vx 32 8 × Vx 32 8 × Vx 32 8)=>((halberdref9_product r_1.1 r_2.1 r_2.2.1 r_2.2.2).bind fun (r_3:Vx 32 8 × Vx 32 8 × Vx 32 8)=>((halberdref9_encode r_3.1 r_3.2.1 r_3.2.2).bind fun (r_4:Str × Bool)=>(some (r_4.1,0))))))
set_option maxHeartbeats 4000000 in
set_option maxRecDepth 20000 in
theorem F14_calls (k:Str) (r:Str × Int) (H:halberdref9_Public k=some r) :
  Does Try.prog 14 [vs k] [] [] (Γ:=Unit) (fun g=>Value.tuple [vs r.1,vi r.2].toArray) (fun g=>[]):=by
 intro w hmem hro hd
 refine calls_of (N:=23) (m0:=[(0,vs k)]) Try.func14 rfl Try.ntmps14 (argM_ok [vs k]) rfl hmem hro hd ?_
 unfold halberdref9_Public at H
 refine TC_seq (TC_region (TLv (V_assign rfl) ?_))
 refine TLv (V_assign rfl) ?_
 refine TL_nil (TX_next (TC_seq (TC_region (TLv (V_move rfl) ?_))))
 obtain ⟨r_1,hr_1,H⟩:=bind_elim H
 refine TLe (E_c0 (F37_calls k r_1 hr_1) Try.call37 .z) (fun g_1=>?_)
 refine TLv (V_move rfl) ?_
 refine TLv V_ex ?_
 refine TLv V_ex ?_
 refine TLe (E_al32 8 TryI.inf31 TryI.zer31) (fun b1=>?_)
 refine TLn (E_sv (vs:=e32 r_1.1.toList) 0 TryI.inf31) (fun _=>?_)
 refine TLv (V_assign rfl) ?_
 refine TL_nil (TX_next (TC_seq (TC_seq (TC_region (TLv (V_move rfl) ?_)))))
 refine TLv (V_un rfl (fun w=>notB w r_1.2)) ?_
 refine TL_nil (TX_next (TC_cond (b:=(!r_1.2)) rfl (fun hc=>?_) (fun hc=>?_)))
 ·replace H:=ite_t hc H
  refine TC_seq (TC_region (TLv (V_assign rfl) ?_))
  refine TLv (V_assign rfl) ?_
  refine TL_nil (TX_next (TC_ret (TX_then_ret ?_)))
  have hrv:=Option.some.inj H
  subst hrv
  exact TX_ret (rs:=[.tmp 2, .tmp 3]) (vs:=[vs ([]:Str),vi 1100]) rfl ⟨rfl,rfl,trivial⟩ (fun w' hs'=>⟨(),rfl,Step.left (Step.pulled (is:=[]) (A:=[]) hs' rfl)⟩)
 ·replace H:=ite_f (Bool.eq_false_iff.1 hc) H
  refine TC_skip (TX_next (TC_seq ?_))
  obtain ⟨r_2,hr_2,H⟩:=bind_elim H
  obtain ⟨r_3,hr_3,H⟩:=bind_elim H
  obtain ⟨r_4,hr_4,H⟩:=bind_elim H
  refine TA_begin [] 9 (by kernel_rfl) (N:=9) rfl ?_
  refine TA_mix (is:=[]) (done':=dn 9 511) [itV 0 16 (aG [(8,e32 r_1.1.toList)]) [],itV 1 17 (aG [(8,e32 r_2.1.toList),(8,e32 r_2.2.1.toList),(8,e32 r_2.2.2.toList)]) [],itV 2 18 (aG [(8,e32 r_3.1.toList),(8,e32 r_3.2.1.toList),(8,e32 r_3.2.2.toList)]) [0,1],itV 3 19 (Value.tuple [vs r_4.1,vb r_4.2].toArray) [2],itV 4 15 (Value.tuple [vs r_4.1,vb r_4.2].toArray) [3],itV 5 20 (vs r_4.1) [4],itV 6 21 (vb r_4.2) [4],itV 7 6 (vs r_4.1) [5],itV 8 7 (vb r_4.2) [6]] [] 0 (by kernel_rfl) (QP.then QP.body) (by kernel_rfl) rfl (.v rfl (V_lag (.o 0) Try.isAgg31 TryI.inf31) (.e rfl (E_cu (F40_calls r_2 hr_2) Try.call40 .z) (.e rfl (E_cu (F39_calls r_1.1 r_2.1 r_2.2.1 r_2.2.2 r_3 hr_3) Try.call39 .z) (.e rfl (E_cu (F38_calls r_3.1 r_3.2.1 r_3.2.2 r_4 hr_4) Try.call38 .z) (.v rfl (V_move rfl) (.v rfl V_ex (.v rfl V_ex (.v rfl (V_assign rfl) (.v rfl (V_assign rfl) .nil))))))))) .nil (by kernel_rfl) rfl (fun γ=>?_)
  refine TA_cut [(6,vs r_4.1)] [⟨some (b1,0),e32 r_1.1.toList⟩] ⟨rfl,trivial⟩ rfl ?_
  refine TA_done (by kernel_rfl) ?_ 0
  refine TX_next (TC_seq (TC_region (TLv (V_move rfl) ?_)))
  refine TLv (V_assign rfl) ?_
  refine TLv (V_assign rfl) ?_
  refine TL_nil (TX_next (TC_ret ?_))
  have hrv:=Option.some.inj H
  subst hrv
  exact TX_ret (rs:=[.tmp 2, .tmp 3]) (vs:=[vs r_4.1,vi 0]) rfl ⟨rfl,rfl,trivial⟩ (fun w' hs'=>⟨(),rfl,Step.left (Step.pulled (is:=[]) (A:=[]) hs' rfl)⟩)
end Go.Proofs
end

section
namespace Go.Kx
open Go Go.Proofs
open Vector (replicate)
open Go.Nt hiding n4
def P8 (v:Vx 32 8 × Vx 32 8 × Vx 32 8) (p:Pt):Prop:=okP p ∧ ∃ t,T8 v t∧isJ t p
theorem twice_pt {x y z:Vx 32 8} {p:Pt} (h:P8 (x,y,z) p) : ∃ r,halberdref9_twice x y z=some r∧P8 r (sumF p p):=by
 obtain ⟨hp,t,h1,h2⟩:=h
 obtain ⟨r,h3,h4⟩:=twice_ex h1
 refine ⟨r,h3,sum_ok hp hp,_,h4,?_⟩
 by_cases hz:t.2.2=0
 ·rw [show jDbl' t=t from if_pos hz]
  cases p with
  | none=>exact h2
  | some q=>exact absurd hz h2.1
 ·rw [show jDbl' t=jDbl t from if_neg hz]
  exact isJ_dbl hp h2
theorem together_pt {x y z x' y' z':Vx 32 8} {p q:Pt} (h:P8 (x,y,z) p) (k:P8 (x',y',z') q) : ∃ r,halberdref9_together x y z x' y' z'=some r∧P8 r (sumF p q):=by
 obtain ⟨hp,t,h1,h2⟩:=h
 obtain ⟨hq,u,k1,k2⟩:=k
 obtain ⟨r,h3,h4⟩:=together_ex h1 k1
 exact ⟨r,h3,sum_ok hp hq,_,h4,isJ_add hp hq h2 k2⟩
theorem zero_pt8:P8 (replicate 8 0#32,replicate 8 0#32,replicate 8 0#32) none:=⟨trivial,(0,0,0),⟨F8_0,F8_0,F8_0⟩,rfl⟩
theorem product_pt {k x y z:Vx 32 8} {a:Nat} (h:P8 (x,y,z) (sG a)) : ∃ r,halberdref9_product k x y z=some r∧P8 r (sG (n8 k * a)):=by
 have hk:=n8_lt k
 have key : ∃ r,loop (halberdref9_product.b0 k x y z) BIG (255,replicate 8 0#32,replicate 8 0#32,replicate 8 0#32)=some r∧P8 r (sG (n8 k * a)):=by
  refine loop_inv 256 (fun i s=>s.1=255 - (i:Int)∧P8 s.2 (sG (n8 k / 2 ^ (256 - i) * a))) _ (by decide) ⟨rfl,?_⟩ ?_ ?_
  ·dsimp only
   rw [Nat.sub_zero,Nat.div_eq_of_lt hk,Nat.zero_mul]
   exact zero_pt8
  ·rintro i ⟨i',o⟩ hi ⟨hi',ho⟩
   dsimp only at hi' ho
   obtain ⟨j,hj⟩ : ∃ j,j=255 - i:=⟨_,rfl⟩
   have hij:i'=(j:Int):=by omega
   rw [show 256 - i=j+1 by omega] at ho
   obtain ⟨r,hr,hR⟩:=twice_pt ho
   rw [sG_add] at hR
   have hbit:=bit8 k j (by omega)
   have hh:=half_eq (n8 k) j
   subst hij
   have w1:w64 ((j:Int) - 1)=255 - ((i+1:Nat):Int):=by rw [w64_id (by omega) (by omega)]; omega
   have w2:w64 ((j:Int).tdiv 32)=((j / 32:Nat):Int):=w64_div (b:=32) (by omega)
   have w3:(j:Int).tmod 32=((j % 32:Nat):Int):=tmodN' j 32
   unfold halberdref9_product.b0
   dsimp only
   rw [w2,w3]
   simp only [Int.toNat_natCast]
   clear w2 w3
   generalize hc:n8 k / 2 ^ (j+1)=c at *
   by_cases hb:(vg k (j / 32) >>> (j % 32)) &&& 1#32=1#32
   ·obtain ⟨r2,hr2,hR2⟩:=together_pt hR h
    rw [sG_add] at hR2
    refine ⟨(255 - ((i+1:Nat):Int),r2),if_i (by omega) (bind_i hr (if_i (by omega) (if_i (by omega) (if_i hb (bind_i hr2 (ltt_i fun v hv=>by rw [hv,w1])))))),rfl,?_⟩
    dsimp only
    rw [show 256 - (i+1)=j by omega,hh,hbit.1 hb,show (2 * c+1) * a=c * a+c * a+a by rw [Nat.add_mul,Nat.mul_assoc,Nat.one_mul,Nat.two_mul]]
    exact hR2
   ·refine ⟨(255 - ((i+1:Nat):Int),r),if_i (by omega) (bind_i hr (if_i (by omega) (if_i (by omega) (if_n hb (ltt_i fun v hv=>by rw [hv,w1]))))),rfl,?_⟩
    dsimp only
    have h0:n8 k / 2 ^ j % 2=0:=by
     have : ¬ (n8 k / 2 ^ j % 2=1):=fun h=>hb (hbit.2 h)
     omega
    rw [show 256 - (i+1)=j by omega,hh,h0,Nat.add_zero,show 2 * c * a=c * a+c * a by rw [Nat.mul_assoc,Nat.two_mul]]
    exact hR
  ·rintro ⟨i',o⟩ ⟨hi',ho⟩
   dsimp only at hi' ho
   subst hi'
   refine ⟨o,by unfold halberdref9_product.b0; exact if_n (by dsimp only; omega) rfl,?_⟩
   rw [Nat.sub_self,Nat.pow_zero,Nat.div_one] at ho
   exact ho
 obtain ⟨r,h2,hR⟩:=key
 refine ⟨r,?_,hR⟩
 unfold halberdref9_product
 exact bind_i h2 rfl
theorem intoF {x:Vx 32 8} (hx:n8 x<P256) : ∃ r,halberdref9_into 0 x=some r∧F8 r (mk (n8 x:Int)):=by
 obtain ⟨r,h1,h2⟩:=Rd_P.into hx
 exact ⟨r,h1,by unfold F8; rw [toN_id hx]; exact h2⟩
theorem unitF : ∃ r,halberdref9_into 0 (vp (replicate 8 0#32) 0 1#32)=some r∧F8 r 1:=by
 obtain ⟨r,h1,h2⟩:=Rd_P.unit
 rw [show 1 % P256=1 by decide] at h2
 exact ⟨r,h1,h2⟩
theorem outF {x:Vx 32 8} {f:Fp} (hx:F8 x f) : ∃ r,halberdref9_out 0 x=some r∧n8 r=toN f:=Rd_P.out hx
theorem powerF {x:Vx 32 8} {f:Fp} (hx:F8 x f) : ∃ r,halberdref9_power 0 x=some r ∧ ∃ i,F8 r i∧(f ≠ 0 → i * f=1):=by
 obtain ⟨r,h1,h2⟩:=Rd_P.power hx
 refine ⟨r,h1,mk ((toN f ^ (P256 - 2) % P256:Nat):Int),?_,pow_inv⟩
 unfold F8
 rw [toN_id (Nat.mod_lt _ (by decide))]
 exact h2
theorem unit_pt8 {x y one:Vx 32 8} {q:Fp × Fp} (hq:okP (some q)) (f3:F8 x q.1) (f4:F8 y q.2) (h1:F8 one 1):P8 (x,y,one) (some q):=by
 refine ⟨hq,(q.1,q.2,1),⟨f3,f4,h1⟩,F_10,?_,?_⟩
 ·show q.1=q.1 * (1 * 1); grind
 ·show q.2=q.2 * (1 * (1 * 1)); grind
theorem G_pt : ∃ r,halberdref9_G=some r∧P8 r (sG 1):=by
 have ex:n8 (#v[3633889942#32,4104206661#32,770388896#32,1996717441#32,1671708914#32,4173129445#32,3777774151#32,1796723186#32]:Vx 32 8)=GX:=by decide
 have ey:n8 (#v[935285237#32,3417718888#32,1798397646#32,734933847#32,2081398294#32,2397563722#32,4263149467#32,1340293858#32]:Vx 32 8)=GY:=by decide
 obtain ⟨r1,h1,f1⟩:=intoF (x := #v[3633889942#32,4104206661#32,770388896#32,1996717441#32,1671708914#32,4173129445#32,3777774151#32,1796723186#32]) (by rw [ex]; decide)
 obtain ⟨r2,h2,f2⟩:=intoF (x := #v[935285237#32,3417718888#32,1798397646#32,734933847#32,2081398294#32,2397563722#32,4263149467#32,1340293858#32]) (by rw [ey]; decide)
 rw [ex] at f1
 rw [ey] at f2
 obtain ⟨r3,h3,f3⟩:=unitF
 refine ⟨(r1,r2,r3),?_,unit_pt8 (q:=(mk (GX:Int),mk (GY:Int))) gP_ok f1 f2 f3⟩
 unfold halberdref9_G
 exact bind_i h1 (bind_i h2 (bind_i h3 rfl))
theorem plain_ex {x y z:Vx 32 8} {p:Pt} (h:P8 (x,y,z) p):(p=none → halberdref9_plain x y z=some (replicate 8 0#32,replicate 8 0#32,false)) ∧
  ∀ q,p=some q → ∃ X Y,halberdref9_plain x y z=some (X,Y,true)∧n8 X=toN q.1∧n8 Y=toN q.2:=by
 have F:=Rd_P
 obtain ⟨hp,⟨X,Y,Z⟩,⟨hX,hY,hZ⟩,hj⟩:=h
 dsimp only at hX hY hZ
 constructor
 ·rintro rfl
  have hz:Z=0:=hj
  unfold halberdref9_plain
  exact if_i (hZ.zero.2 hz) rfl
 ·rintro q rfl
  obtain ⟨hz,eX,eY⟩:=hj
  dsimp only at hz eX eY
  obtain ⟨r1,e1,i,f1,hi⟩:=powerF hZ
  have hi:=hi hz
  obtain ⟨r2,e2,f2⟩:=F.mulF f1 f1
  obtain ⟨r3,e3,f3⟩:=F.mulF hX f2
  obtain ⟨r4,e4,n4'⟩:=outF f3
  obtain ⟨r5,e5,f5⟩:=F.mulF f1 f2
  obtain ⟨r6,e6,f6⟩:=F.mulF hY f5
  obtain ⟨r7,e7,n7'⟩:=outF f6
  have x1:X * (i * i)=q.1:=by
   rw [eX]
   have:q.1 * (Z * Z) * (i * i)=q.1 * ((i * Z) * (i * Z)):=by grind
   rw [this,hi]; grind
  have y1:Y * (i * (i * i))=q.2:=by
   rw [eY]
   have:q.2 * (Z * (Z * Z)) * (i * (i * i))=q.2 * ((i * Z) * ((i * Z) * (i * Z))):=by grind
   rw [this,hi]; grind
  rw [x1] at n4'
  rw [y1] at n7'
  refine ⟨r4,r7,?_,n4',n7'⟩
  unfold halberdref9_plain
  exact if_n (fun c=>hz (hZ.zero.1 c)) (bind_i e1 (bind_i e2 (bind_i e3 (bind_i e4 (bind_i e5 (bind_i e6 (bind_i e7 rfl)))))))
def encR:Pt → Str × Bool
 | none=>([],false)
 | some q=>(encQ q,true)
theorem encode_ex {x y z:Vx 32 8} {p:Pt} (h:P8 (x,y,z) p):halberdref9_encode x y z=some (encR p):=by
 obtain ⟨h0,h1⟩:=plain_ex h
 unfold halberdref9_encode
 cases p with
 | none=>exact bind_i (h0 rfl) (if_i rfl rfl)
 | some q =>
  obtain ⟨X,Y,e,eX,eY⟩:=h1 q rfl
  refine bind_i e (if_n (by simp) (bind_i (put_eq X) (if_i ?_ (bind_i (put_eq Y) (if_i ?_ (ltt_i fun v hv=>?_))))))
  ·simp [nb32_len]
  ·simp [nb32_len]
  ·rw [hv,eX,eY]; rfl
open Classical in
theorem scalar_ex (k:Str) : ∃ x,halberdref9_scalar k=some (x,decide (isSc k))∧(k.length=32 → n8 x=bnum k):=by
 unfold halberdref9_scalar
 by_cases hl:k.length=32
 ·obtain ⟨x,h2,e2⟩:=Rd_N.number (by decide) k hl
  refine ⟨x,bind_i h2 ?_,fun _=>e2⟩
  dsimp only
  by_cases hlt:bnum k<N256
  ·rw [if_pos (by simp [hlt])]
   refine ltt_i fun v hv=>?_
   have hx:x=replicate 8 0#32 ↔ bnum k=0:=by
    rw [← e2]
    exact ⟨fun h=>by rw [h,n8_zero],fun h=>n8_ext (by rw [h,n8_zero])⟩
   have e:v=decide (isSc k):=by
    rw [hv]
    refine decide_eq_decide.2 ⟨fun h=>⟨hl,hlt,fun c=>h (hx.2 c)⟩,fun h c=>h.2.2 (hx.1 c)⟩
   rw [e]
  ·rw [if_neg (by simp [hlt])]
   have : ¬ isSc k:=fun h=>hlt h.2.1
   simp [this]
 ·have hno : ¬ isSc k:=fun h=>hl h.1
  refine ⟨replicate 8 0#32,bind_i (Number_bad 1 k (by decide) hl) ?_,fun h=>absurd h hl⟩
  dsimp only
  rw [if_neg (by decide)]
  simp [hno]
theorem rPublic_is (k:Str) (h:isSc k):halberdref9_Public k=some (encP (sG (bnum k)),0):=by
 obtain ⟨x,h1,e1⟩:=scalar_ex k
 obtain ⟨g,h3,f3⟩:=G_pt
 obtain ⟨r,h4,f4⟩:=product_pt (k:=x) f3
 rw [e1 h.1,Nat.mul_one] at f4
 unfold halberdref9_Public
 refine bind_i h1 (if_n (by simp [h]) (bind_i h3 (bind_i h4 (bind_i (encode_ex f4) ?_))))
 generalize sG (bnum k)=p; cases p <;> rfl
end Go.Kx
end

section
namespace Go.Proofs
open Go Go.Kx
def der_tag (t_:Int):Option (Bool) :=
 if 0≤t_ then (if t_≤255 then (ltt (decide ((iop (· &&& ·) t_ 31) ≠ 31)) fun (x1:Bool)=>(some x1)) else (some false)) else (some false)
set_option maxHeartbeats 4000000 in
set_option maxRecDepth 20000 in
theorem F89_calls (t_:Int) (r:Bool) (H:der_tag t_=some r) :
  Does Try.prog 89 [vi t_] [] [] (Γ:=Unit) (fun g=>vb r) (fun g=>[]):=by
 intro w hmem hro hd
 refine calls_of (N:=14) (m0:=[(0,vi t_)]) Try.func89 rfl Try.ntmps89 (argM_ok [vi t_]) rfl hmem hro hd ?_
 unfold der_tag at H
 refine TC_seq (TC_region (TLv (V_assign rfl) ?_))
 refine TL_nil (TX_next (TC_seq (TC_region (TLv (V_move rfl) ?_))))
 refine TLv (V_bin rfl rfl (fun w=>geqI w t_ 0)) ?_
 refine TLv (V_move rfl) ?_
 refine TL_fork (d:=5) (b:=(decide (0≤t_))) rfl (fun hc=>?_) (fun hc=>?_)
 ·replace H:=ite_t (of_decide_eq_true hc) H
  refine TL_want rfl rfl rfl rfl rfl rfl (V_move rfl) ?_
  refine TL_want rfl rfl rfl rfl rfl rfl (V_bin rfl rfl (fun w=>leqI w t_ 255)) ?_
  refine TLv (V_pick (b:=true) rfl rfl) ?_
  refine TLv (V_move rfl) ?_
  refine TL_fork (d:=9) (b:=(decide (t_≤255))) rfl (fun hc=>?_) (fun hc=>?_)
  ·replace H:=ite_t (of_decide_eq_true hc) H
   refine TL_want rfl rfl rfl rfl rfl rfl (V_move rfl) ?_
   refine TL_want rfl rfl rfl rfl rfl rfl (V_bin rfl rfl (fun w=>andI w t_ 31)) ?_
   refine TL_want rfl rfl rfl rfl rfl rfl (V_bin rfl rfl (fun w=>neqI w (iop (· &&& ·) t_ 31) 31)) ?_
   refine TLv (V_pick (b:=true) rfl rfl) ?_
   refine TLv (V_assign rfl) ?_
   obtain ⟨x1,hx1,H⟩:=ltt_elim H
   refine TL_re (d:=2) (v:=vb (decide ((iop (· &&& ·) t_ 31) ≠ 31))) (v':=vb x1) rfl (congrArg vb hx1) ?_
   refine TL_nil (TX_next (TC_ret ?_))
   have hrv:=Option.some.inj H
   subst hrv
   exact TX_ret (rs:=[.tmp 2]) (vs:=[vb x1]) rfl ⟨rfl,trivial⟩ (fun w' hs'=>⟨(),rfl,Step.left (Step.pulled (is:=[]) (A:=[]) hs' rfl)⟩)
  ·replace H:=ite_f (of_decide_eq_false hc) H
   refine TL_skip rfl rfl rfl rfl rfl rfl rfl ?_
   refine TL_skip rfl rfl rfl rfl rfl rfl rfl ?_
   refine TL_skip rfl rfl rfl rfl rfl rfl rfl ?_
   refine TLv (V_pick (b:=false) rfl rfl) ?_
   refine TLv (V_assign rfl) ?_
   refine TL_nil (TX_next (TC_ret ?_))
   have hrv:=Option.some.inj H
   subst hrv
   exact TX_ret (rs:=[.tmp 2]) (vs:=[vb false]) rfl ⟨rfl,trivial⟩ (fun w' hs'=>⟨(),rfl,Step.left (Step.pulled (is:=[]) (A:=[]) hs' rfl)⟩)
 ·replace H:=ite_f (of_decide_eq_false hc) H
  refine TL_skip rfl rfl rfl rfl rfl rfl rfl ?_
  refine TL_skip rfl rfl rfl rfl rfl rfl rfl ?_
  refine TLv (V_pick (b:=false) rfl rfl) ?_
  refine TLv (V_move rfl) ?_
  refine TL_skip rfl rfl rfl rfl rfl rfl rfl ?_
  refine TL_skip rfl rfl rfl rfl rfl rfl rfl ?_
  refine TL_skip rfl rfl rfl rfl rfl rfl rfl ?_
  refine TLv (V_pick (b:=false) rfl rfl) ?_
  refine TLv (V_assign rfl) ?_
  refine TL_nil (TX_next (TC_ret ?_))
  have hrv:=Option.some.inj H
  subst hrv
  exact TX_ret (rs:=[.tmp 2]) (vs:=[vb false]) rfl ⟨rfl,trivial⟩ (fun w' hs'=>⟨(),rfl,Step.left (Step.pulled (is:=[]) (A:=[]) hs' rfl)⟩)
end Go.Proofs
end

section
namespace Go.Proofs
open Go Go.Kx
def der_head (t_:Int) (n:Int):Option (Str) :=
 ltt (decide (n<128)) fun (x1:Bool)=>(if x1=true then (if (([BitVec.ofInt 8 t_,BitVec.ofInt 8 n]:List (BitVec 8))).length=2 then (ltt (([BitVec.ofInt 8 t_,BitVec.ofInt 8 n]:List (BitVec 8))) fun (x2:Str)=>(some x2)) else none) else (ltt (decide (n<256)) fun (x3:Bool)=>(if x3=true then (if (([BitVec.ofInt 8 t_,129#8,BitVec.ofInt 8 n]:List (BitVec 8))).length=3 then (ltt (([BitVec.ofInt 8 t_,129#8,BitVec.ofInt 8 n]:List (BitVec 8))) fun (x4:Str)=>(some x4)) else none) else (if (([BitVec.ofInt 8 t_,130#8,BitVec.ofInt 8 (shrI' n 8),BitVec.ofInt 8 n]:List (BitVec 8))).length=4 then (ltt (([BitVec.ofInt 8 t_,130#8,BitVec.ofInt 8 (shrI' n 8),BitVec.ofInt 8 n]:List (BitVec 8))) fun (x5:Str)=>(some x5)) else none))))
set_option maxHeartbeats 4000000 in
set_option maxRecDepth 20000 in
theorem F90_calls (t_:Int) (n:Int) (r:Str) (H:der_head t_ n=some r) :
  Does Try.prog 90 [vi t_,vi n] [] [] (Γ:=Unit) (fun g=>vs r) (fun g=>[]):=by
 intro w hmem hro hd
 refine calls_of (N:=32) (m0:=[(0,vi t_),(1,vi n)]) Try.func90 rfl Try.ntmps90 (argM_ok [vi t_,vi n]) rfl hmem hro hd ?_
 unfold der_head at H
 refine TC_seq (TC_region (TLv (V_assign rfl) ?_))
 refine TL_nil (TX_next (TC_seq (TC_block (TC_seq (TC_region (TLv (V_move rfl) ?_))))))
 refine TLv (V_bin rfl rfl (fun w=>lssI w n 128)) ?_
 refine TLv (V_assign rfl) ?_
 obtain ⟨x1,hx1,H⟩:=ltt_elim H
 refine TL_re (d:=5) (v:=vb (decide (n<128))) (v':=vb x1) rfl (congrArg vb hx1) ?_
 refine TL_nil (TX_next (TC_cond (b:=x1) rfl (fun hc=>?_) (fun hc=>?_)))
 ·replace H:=ite_t hc H
  refine TC_seq (TC_region (TLv (V_move rfl) ?_))
  refine TLv (V_conv rfl (fun w=>cvI8 w _ _ Try.underlying5 (TryI.und3) .i64 t_)) ?_
  refine TLv (V_move rfl) ?_
  refine TLv (V_conv rfl (fun w=>cvI8 w _ _ Try.underlying5 (TryI.und3) .i64 n)) ?_
  refine TLe (E_buildSlice (pv:=[(0,v8 (BitVec.ofInt 8 t_)),(1,v8 (BitVec.ofInt 8 n))]) rfl rfl Try.underlying42 TryI.inf5 (s:=1) rfl TryI.zer5 rfl rfl rfl (cs:=e8 ([BitVec.ofInt 8 t_,BitVec.ofInt 8 n]:List (BitVec 8))) (by kernel_rfl)) (fun b1=>?_)
  obtain ⟨h1,H⟩:=if_elim H
  refine TLv (V_b2s rfl Try.underlying42 Try.underlying5 Try.underlying9 (.o 0) h1) ?_
  refine TLv (V_assign rfl) ?_
  obtain ⟨x2,hx2,H⟩:=ltt_elim H
  refine TL_re (d:=4) (v:=vs ([BitVec.ofInt 8 t_,BitVec.ofInt 8 n]:List (BitVec 8))) (v':=vs x2) rfl (congrArg vs hx2) ?_
  refine TL_nil (TX_next (TC_ret (TX_block_ret (TX_then_ret ?_))))
  have hrv:=Option.some.inj H
  subst hrv
  exact TX_ret (rs:=[.tmp 4]) (vs:=[vs x2]) rfl ⟨rfl,trivial⟩ (fun w' hs'=>⟨(),rfl,Step.left (Step.pulled (is:=[]) (A:=[]) hs' rfl)⟩)
 ·replace H:=ite_f (Bool.eq_false_iff.1 hc) H
  refine TC_seq (TC_region (TLv (V_move rfl) ?_))
  refine TLv (V_bin rfl rfl (fun w=>lssI w n 256)) ?_
  refine TLv (V_assign rfl) ?_
  obtain ⟨x3,hx3,H⟩:=ltt_elim H
  refine TL_re (d:=14) (v:=vb (decide (n<256))) (v':=vb x3) rfl (congrArg vb hx3) ?_
  refine TL_nil (TX_next (TC_cond (b:=x3) rfl (fun hc=>?_) (fun hc=>?_)))
  ·replace H:=ite_t hc H
   refine TC_seq (TC_region (TLv (V_move rfl) ?_))
   refine TLv (V_conv rfl (fun w=>cvI8 w _ _ Try.underlying5 (TryI.und3) .i64 t_)) ?_
   refine TLv (V_move rfl) ?_
   refine TLv (V_conv rfl (fun w=>cvI8 w _ _ Try.underlying5 (TryI.und3) .i64 n)) ?_
   refine TLe (E_buildSlice (pv:=[(0,v8 (BitVec.ofInt 8 t_)),(1,v8 129#8),(2,v8 (BitVec.ofInt 8 n))]) rfl rfl Try.underlying42 TryI.inf5 (s:=1) rfl TryI.zer5 rfl rfl rfl (cs:=e8 ([BitVec.ofInt 8 t_,129#8,BitVec.ofInt 8 n]:List (BitVec 8))) (by kernel_rfl)) (fun b2=>?_)
   obtain ⟨h2,H⟩:=if_elim H
   refine TLv (V_b2s rfl Try.underlying42 Try.underlying5 Try.underlying9 (.o 0) h2) ?_
   refine TLv (V_assign rfl) ?_
   obtain ⟨x4,hx4,H⟩:=ltt_elim H
   refine TL_re (d:=4) (v:=vs ([BitVec.ofInt 8 t_,129#8,BitVec.ofInt 8 n]:List (BitVec 8))) (v':=vs x4) rfl (congrArg vs hx4) ?_
   refine TL_nil (TX_next (TC_ret (TX_block_ret (TX_then_ret ?_))))
   have hrv:=Option.some.inj H
   subst hrv
   exact TX_ret (rs:=[.tmp 4]) (vs:=[vs x4]) rfl ⟨rfl,trivial⟩ (fun w' hs'=>⟨(),rfl,Step.left (Step.pulled (is:=[]) (A:=[]) hs' rfl)⟩)
  ·replace H:=ite_f (Bool.eq_false_iff.1 hc) H
   refine TC_skip (TX_block_normal (TX_next (TC_seq (TC_region (TLv (V_move rfl) ?_)))))
   refine TLv (V_conv rfl (fun w=>cvI8 w _ _ Try.underlying5 (TryI.und3) .i64 t_)) ?_
   refine TLv (V_move rfl) ?_
   refine TLv (V_bin rfl rfl (fun w=>shrI w n .u64 8 (by decide))) ?_
   refine TLv (V_conv rfl (fun w=>cvI8 w _ _ Try.underlying5 (TryI.und3) .i64 (shrI' n 8))) ?_
   refine TLv (V_move rfl) ?_
   refine TLv (V_conv rfl (fun w=>cvI8 w _ _ Try.underlying5 (TryI.und3) .i64 n)) ?_
   refine TLe (E_buildSlice (pv:=[(0,v8 (BitVec.ofInt 8 t_)),(1,v8 130#8),(2,v8 (BitVec.ofInt 8 (shrI' n 8))),(3,v8 (BitVec.ofInt 8 n))]) rfl rfl Try.underlying42 TryI.inf5 (s:=1) rfl TryI.zer5 rfl rfl rfl (cs:=e8 ([BitVec.ofInt 8 t_,130#8,BitVec.ofInt 8 (shrI' n 8),BitVec.ofInt 8 n]:List (BitVec 8))) (by kernel_rfl)) (fun b3=>?_)
   obtain ⟨h3,H⟩:=if_elim H
   refine TLv (V_b2s rfl Try.underlying42 Try.underlying5 Try.underlying9 (.o 0) h3) ?_
   refine TLv (V_assign rfl) ?_
   obtain ⟨x5,hx5,H⟩:=ltt_elim H
   refine TL_re (d:=4) (v:=vs ([BitVec.ofInt 8 t_,130#8,BitVec.ofInt 8 (shrI' n 8),BitVec.ofInt 8 n]:List (BitVec 8))) (v':=vs x5) rfl (congrArg vs hx5) ?_
   refine TL_nil (TX_next (TC_ret ?_))
   have hrv:=Option.some.inj H
   subst hrv
   exact TX_ret (rs:=[.tmp 4]) (vs:=[vs x5]) rfl ⟨rfl,trivial⟩ (fun w' hs'=>⟨(),rfl,Step.left (Step.pulled (is:=[]) (A:=[]) hs' rfl)⟩)
end Go.Proofs
end

section
namespace Go.Proofs
open Go Go.Kx
def der_Put.b0 (parts:List (Str)) (s0:Int × Int):Option ((Int × Int) ⊕ ((Int) ⊕ (Str × Int))) :=
 if s0.2<((parts).length:Int) then (if 0≤s0.2∧s0.2<((parts).length:Int) then (ltt (lg parts ((s0.2).toNat)) fun (p1:Str)=>(ltt (w64 (s0.1+((p1).length:Int))) fun (n1:Int)=>(if 65535<n1 then (some (.inr (.inr (([]:Str),1300)))) else (some (.inl (n1,w64 (s0.2+1))))))) else none) else (some (.inr (.inl s0.1)))
def der_Put.b1 (parts:List (Str)) (s1:Int × List (BitVec 8)):Option ((Int × List (BitVec 8)) ⊕ (List (BitVec 8))) :=
 if s1.1<((parts).length:Int) then (if 0≤s1.1∧s1.1<((parts).length:Int) then (ltt (lg parts ((s1.1).toNat)) fun (p2:Str)=>(if (s1.2).length+(p2).length≤140737488355328 then (ltt (s1.2++p2) fun (l1:List (BitVec 8))=>(some (.inl (w64 (s1.1+1),l1)))) else none)) else none) else (some (.inr s1.2))
def der_Put (t_:Int) (parts:List (Str)):Option (Str × Int) :=
 (loop (der_Put.b0 parts) BIG (0,0)).bind fun (t_1:(Int) ⊕ (Str × Int))=>(match t_1 with | .inl t_1=>((der_tag t_).bind fun (r_1:Bool)=>(if (!r_1)=true then (some (([]:Str),1300)) else ((der_head t_ t_1).bind fun (r_2:Str)=>((loop (der_Put.b1 parts) BIG (0,r_2)).bind fun (t_2:List (BitVec 8))=>(some (t_2,0)))))) | .inr rv=>some rv)
set_option maxHeartbeats 4000000 in
set_option maxRecDepth 20000 in
theorem F63_calls (Aparts:Adr) (cparts:Nat) (t_:Int) (parts:List (Str)) (hcparts:(parts).length≤cparts) (r:Str × Int) (H:der_Put t_ parts=some r) :
  Does Try.prog 63 [vi t_,sl Aparts ((parts).length) cparts] [] [⟨Aparts,eS parts⟩] (Γ:=Unit) (fun g=>Value.tuple [vs r.1,vi r.2].toArray) (fun g=>[]):=by
 intro w hmem hro hd
 refine calls_of (N:=44) (m0:=[(0,vi t_),(1,sl Aparts ((parts).length) cparts)]) Try.func63 rfl Try.ntmps63 (argM_ok [vi t_,sl Aparts ((parts).length) cparts]) rfl hmem hro hd ?_
 unfold der_Put at H
 refine TC_seq (TC_region (TLv (V_assign rfl) ?_))
 refine TLv (V_assign rfl) ?_
 refine TL_nil (TX_next (TC_seq (TC_region (TLv (V_assign rfl) ?_))))
 refine TL_nil (TX_next (TC_seq (TC_seq (TC_region (TLv (V_move rfl) ?_)))))
 refine TLv (V_len_slice rfl Try.underlying46) ?_
 refine TLv (V_move rfl) ?_
 refine TL_nil (TX_next (TC_block ?_))
 obtain ⟨t_1,Hl,H⟩:=bind_elim H
 refine TC.sub (m':=[(0,vi t_),(1,sl Aparts ((parts).length) cparts),(6,vi 0),(12,sl Aparts ((parts).length) cparts),(13,vi ((parts).length:Int)),(14,vi 0)]) ⟨rfl,rfl,rfl,rfl,rfl,rfl,trivial⟩ ?_
 refine TC.pull (is:=[]) (L':=[]) rfl ?_
 refine TC_loopR (id:=0) (body:=(der_Put.b0 parts)) (σ:=Int × Int) (Γ:=Unit) (Γx:=Unit) (fun s0 g0_=>[(0,vi t_),(1,sl Aparts ((parts).length) cparts),(6,vi s0.1),(12,sl Aparts ((parts).length) cparts),(13,vi ((parts).length:Int)),(14,vi s0.2)]) (fun s0 g0_=>[]) (fun t g=>[(0,vi t_),(1,sl Aparts ((parts).length) cparts),(6,vi t)]) (fun t g=>[]) r ?_ BIG (0,0) () t_1 Hl ?_
 ·intro s0 g0_ r1 H K hK hE hR1
  unfold der_Put.b0 at H
  refine TC_seq (TC_region (TLv (V_bin rfl rfl (fun w=>lssI w s0.2 ((parts).length:Int))) ?_))
  refine TL_nil (TX_next (TC_seq (TC_cond (b:=(decide (s0.2<((parts).length:Int)))) rfl (fun hc=>?_) (fun hc=>?_))))
  ·replace H:=ite_t (of_decide_eq_true hc) H
   refine TC_skip (TX_next (TC_seq (TC_block (TC_seq (TC_region ?_)))))
   obtain ⟨h1,H⟩:=if_elim H
   refine TLv (V_idxSlS (i:=s0.2) rfl rfl Try.underlying46 TryI.inf9 rfl (.r 0) (map_ne (toNat_lt h1.1 h1.2)) h1.1 h1.2 (k:=(s0.2).toNat) (km1 _)) ?_
   refine TLv (V_load rfl (.r 0) (get_map (f:=vs) (l:=parts) (toNat_lt h1.1 h1.2)) Try.isAgg9) ?_
   refine TLv (V_assign rfl) ?_
   obtain ⟨p1,hp1,H⟩:=ltt_elim H
   refine TL_re (d:=8) (v:=vs (lg parts ((s0.2).toNat))) (v':=vs p1) rfl (congrArg vs hp1) ?_
   refine TL_nil (TX_next (TC_seq (TC_region (TLv (V_move rfl) ?_))))
   refine TLv (V_move rfl) ?_
   refine TLv (V_len_str rfl Try.underlying9) ?_
   refine TLv (V_bin rfl rfl (fun w=>addI w s0.1 ((p1).length:Int))) ?_
   refine TLv (V_assign rfl) ?_
   obtain ⟨n1,hn1,H⟩:=ltt_elim H
   refine TL_re (d:=6) (v:=vi (w64 (s0.1+((p1).length:Int)))) (v':=vi n1) rfl (congrArg vi hn1) ?_
   refine TL_nil (TX_next (TC_seq (TC_region (TLv (V_move rfl) ?_))))
   refine TLv (V_bin rfl rfl (fun w=>gtrI w n1 65535)) ?_
   refine TL_nil (TX_next (TC_cond (b:=(decide (65535<n1))) rfl (fun hc=>?_) (fun hc=>?_)))
   ·replace H:=ite_t (of_decide_eq_true hc) H
    refine TC_seq (TC_region (TLv (V_assign rfl) ?_))
    refine TLv (V_assign rfl) ?_
    refine TL_nil (TX_next (TC_ret (TX_block_ret (TX_then_ret (TX_then_ret (TX_block_ret (TX_then_ret ?_)))))))
    have hrv:=(hR1 _ (Option.some.inj H).symm)
    subst hrv
    exact TX_ret (rs:=[.tmp 4, .tmp 5]) (vs:=[vs ([]:Str),vi 1300]) rfl ⟨rfl,rfl,trivial⟩ (fun w' hs'=>⟨(),rfl,Step.left (Step.pulled (is:=[]) (A:=[]) hs' rfl)⟩)
   ·replace H:=ite_f (of_decide_eq_false hc) H
    refine TC_skip (TX_block_normal (TX_next (TC_region (TLv (V_bin rfl rfl (fun w=>addI w s0.2 1)) ?_))))
    refine TLv (V_move rfl) ?_
    refine TL_nil (TX.sub (m':=[(0,vi t_),(1,sl Aparts ((parts).length) cparts),(6,vi n1),(12,sl Aparts ((parts).length) cparts),(13,vi ((parts).length:Int)),(14,vi (w64 (s0.2+1)))]) ⟨rfl,rfl,rfl,rfl,rfl,rfl,trivial⟩ ?_)
    refine TX.pull (is:=[]) (L':=[]) rfl ?_
    obtain rfl:=Option.some.inj H
    exact fun a w hs=>hK (n1,w64 (s0.2+1)) rfl () a w hs
  ·replace H:=ite_f (of_decide_eq_false hc) H
   refine TC_exit (TX_then_exit (TX_then_exit (TX.sub (m':=[(0,vi t_),(1,sl Aparts ((parts).length) cparts),(6,vi s0.1)]) ⟨rfl,rfl,rfl,trivial⟩ ?_)))
   refine TX.pull (is:=[]) (L':=[]) rfl ?_
   obtain rfl:=Option.some.inj H
   exact hE s0.1 rfl ()
 ·rcases t_1 with t_1 | rv
  ·intro gx1
   dsimp only at H
   refine TX_block_exit (TX_next (TC_seq (TC_seq (TC_region (TLv (V_move rfl) ?_)))))
   obtain ⟨r_1,hr_1,H⟩:=bind_elim H
   refine TLe (E_c0 (F89_calls t_ r_1 hr_1) Try.call89 .z) (fun g_1=>?_)
   refine TLv (V_un rfl (fun w=>notB w r_1)) ?_
   refine TL_nil (TX_next (TC_cond (b:=(!r_1)) rfl (fun hc=>?_) (fun hc=>?_)))
   ·replace H:=ite_t hc H
    refine TC_seq (TC_region (TLv (V_assign rfl) ?_))
    refine TLv (V_assign rfl) ?_
    refine TL_nil (TX_next (TC_ret (TX_then_ret ?_)))
    have hrv:=Option.some.inj H
    subst hrv
    exact TX_ret (rs:=[.tmp 4, .tmp 5]) (vs:=[vs ([]:Str),vi 1300]) rfl ⟨rfl,rfl,trivial⟩ (fun w' hs'=>⟨(),rfl,Step.left (Step.pulled (is:=[]) (A:=[]) hs' rfl)⟩)
   ·replace H:=ite_f (Bool.eq_false_iff.1 hc) H
    refine TC_skip (TX_next (TC_seq (TC_region (TLv (V_move rfl) ?_))))
    refine TLv (V_move rfl) ?_
    obtain ⟨r_2,hr_2,H⟩:=bind_elim H
    refine TLe (E_c0 (F90_calls t_ t_1 r_2 hr_2) Try.call90 .z) (fun g_2=>?_)
    refine TLe (E_s2bR rfl Try.underlying9 Try.underlying42 Try.underlying5) (fun g_3=>?_)
    refine TLv (V_assign rfl) ?_
    refine TL_nil (TX_next (TC_seq (TC_seq (TC_region (TLv (V_move rfl) ?_)))))
    refine TLv (V_len_slice rfl Try.underlying46) ?_
    refine TLv (V_move rfl) ?_
    refine TL_nil (TX_next (TC_block ?_))
    obtain ⟨t_2,Hl,H⟩:=bind_elim H
    refine TC.sub (m':=[(9,sl (some (g_3.1,0)) ((r_2).length) ((r_2++g_3.2).length)),(32,sl Aparts ((parts).length) cparts),(33,vi ((parts).length:Int)),(34,vi 0)]) ⟨rfl,rfl,rfl,rfl,trivial⟩ ?_
    refine TC.pull (is:=[0]) (L':=[⟨some (g_3.1,0),e8 (r_2++g_3.2)⟩]) rfl ?_
    refine TC_loopL (id:=2) (body:=(der_Put.b1 parts)) (σ:=Int × List (BitVec 8)) (Γ:=Adr × List (BitVec 8)) (Γx:=Adr × List (BitVec 8)) (fun s1 g1_=>[(9,sl g1_.1 ((s1.2).length) ((s1.2++g1_.2).length)),(32,sl Aparts ((parts).length) cparts),(33,vi ((parts).length:Int)),(34,vi s1.1)]) (fun s1 g1_=>[⟨g1_.1,e8 (s1.2++g1_.2)⟩]) (fun t g=>[(9,sl g.1 ((t).length) ((t++g.2).length))]) (fun t g=>[⟨g.1,e8 (t++g.2)⟩]) ?_ BIG (0,r_2) (some (g_3.1,0),g_3.2) t_2 Hl ?_
    ·intro s1 g1_ r1 H K hK hE
     unfold der_Put.b1 at H
     refine TC_seq (TC_region (TLv (V_bin rfl rfl (fun w=>lssI w s1.1 ((parts).length:Int))) ?_))
     refine TL_nil (TX_next (TC_seq (TC_cond (b:=(decide (s1.1<((parts).length:Int)))) rfl (fun hc=>?_) (fun hc=>?_))))
     ·replace H:=ite_t (of_decide_eq_true hc) H
      refine TC_skip (TX_next (TC_seq (TC_block (TC_seq (TC_region ?_)))))
      obtain ⟨h2,H⟩:=if_elim H
      refine TLv (V_idxSlS (i:=s1.1) rfl rfl Try.underlying46 TryI.inf9 rfl (.r 0) (map_ne (toNat_lt h2.1 h2.2)) h2.1 h2.2 (k:=(s1.1).toNat) (km1 _)) ?_
      refine TLv (V_load rfl (.r 0) (get_map (f:=vs) (l:=parts) (toNat_lt h2.1 h2.2)) Try.isAgg9) ?_
      refine TLv (V_assign rfl) ?_
      obtain ⟨p2,hp2,H⟩:=ltt_elim H
      refine TL_re (d:=11) (v:=vs (lg parts ((s1.1).toNat))) (v':=vs p2) rfl (congrArg vs hp2) ?_
      refine TL_nil (TX_next (TC_region (TLv (V_move rfl) ?_)))
      refine TLv (V_move rfl) ?_
      obtain ⟨h3,H⟩:=if_elim H
      obtain ⟨l1,hl1,H⟩:=ltt_elim H
      refine TLe (E_appStr (j:=0) (l:=s1.2) (sp:=g1_.2) (st:=p2) rfl rfl rfl Try.underlying42 Try.underlying9 TryI.inf5 rfl TryI.zer5 (B:=1) rfl (by have:=h3; omega) (by have:=h3; omega) hl1) (fun q1=>?_)
      refine TLv (V_assign rfl) ?_
      refine TL_nil (TX_block_normal (TX_next (TC_region (TLv (V_bin rfl rfl (fun w=>addI w s1.1 1)) ?_))))
      refine TLv (V_move rfl) ?_
      refine TL_nil (TX.sub (m':=[(9,sl q1.1 ((l1).length) ((l1++q1.2).length)),(32,sl Aparts ((parts).length) cparts),(33,vi ((parts).length:Int)),(34,vi (w64 (s1.1+1)))]) ⟨rfl,rfl,rfl,rfl,trivial⟩ ?_)
      refine TX.pull (is:=[0]) (L':=[⟨q1.1,e8 (l1++q1.2)⟩]) rfl ?_
      obtain rfl:=Option.some.inj H
      exact fun a w hs=>hK (w64 (s1.1+1),l1) rfl (q1.1,q1.2) a w hs
     ·replace H:=ite_f (of_decide_eq_false hc) H
      refine TC_exit (TX_then_exit (TX_then_exit (TX.sub (m':=[(9,sl g1_.1 ((s1.2).length) ((s1.2++g1_.2).length))]) ⟨rfl,trivial⟩ ?_)))
      refine TX.pull (is:=[0]) (L':=[⟨g1_.1,e8 (s1.2++g1_.2)⟩]) rfl ?_
      obtain rfl:=Option.some.inj H
      exact hE s1.2 rfl (g1_.1,g1_.2)
    ·intro g
     obtain ⟨gx2,hgx⟩ : ∃ z,z=g:=⟨g,rfl⟩; subst hgx
     refine TX_block_exit (TX_next (TC_seq (TC_region (TLv (V_move rfl) ?_))))
     refine TLv (V_b2s rfl Try.underlying42 Try.underlying5 Try.underlying9 (srcRow (.o 0)) rfl) ?_
     refine TLv (V_assign rfl) ?_
     refine TLv (V_assign rfl) ?_
     refine TL_nil (TX_next (TC_ret ?_))
     have hrv:=Option.some.inj H
     subst hrv
     exact TX_ret (rs:=[.tmp 4, .tmp 5]) (vs:=[vs t_2,vi 0]) rfl ⟨rfl,rfl,trivial⟩ (fun w' hs'=>⟨(),rfl,Step.left (Step.pulled (is:=[]) (A:=[]) hs' rfl)⟩)
  ·exact (Option.some.inj H)
end Go.Proofs
end

section
namespace Go.Proofs
open Go Go.Kx
def der_Integer.b0  (s0:Str):Option ((Str) ⊕ (Str)) :=
 (if 0<((s0).length:Int) then (if 0≤(0:Int)∧(0:Int)<((s0).length:Int) then (some (decide ((sg s0 0)=0#8))) else none) else (some false)).bind fun (j1:Bool)=>(if j1=true then (if 1≤(s0).length then (ltt (sub s0 1 ((s0).length)) fun (x1:Str)=>(some (.inl x1))) else none) else (some (.inr s0)))
def der_Integer (x:Str):Option (Str × Int) :=
 if 64<((x).length:Int) then (some (([]:Str),1300)) else ((loop (der_Integer.b0) BIG x).bind fun (t_1:Str)=>((if t_1=([]:Str) then (some true) else (if 0≤(0:Int)∧(0:Int)<((t_1).length:Int) then (some (decide ((128#8).toNat≤((sg t_1 0)).toNat))) else none)).bind fun (j2:Bool)=>((if j2=true then (if (([0#8]:Str)).length+(t_1).length≤4611686018427387904 then (ltt (([0#8]:Str)++t_1) fun (x2:Str)=>(some x2)) else none) else (some t_1)).bind fun (j3:Str)=>(if (([j3]:List (Str))).length=1 then ((der_Put 2 ([j3]:List (Str))).bind fun (r_1:Str × Int)=>(some (r_1.1,r_1.2))) else none))))
set_option maxHeartbeats 4000000 in
set_option maxRecDepth 20000 in
theorem F61_calls (x:Str) (r:Str × Int) (H:der_Integer x=some r) :
  Does Try.prog 61 [vs x] [] [] (Γ:=Unit) (fun g=>Value.tuple [vs r.1,vi r.2].toArray) (fun g=>[]):=by
 intro w hmem hro hd
 refine calls_of (N:=31) (m0:=[(0,vs x)]) Try.func61 rfl Try.ntmps61 (argM_ok [vs x]) rfl hmem hro hd ?_
 unfold der_Integer at H
 refine TC_seq (TC_region (TLv (V_assign rfl) ?_))
 refine TLv (V_assign rfl) ?_
 refine TL_nil (TX_next (TC_seq (TC_seq (TC_region (TLv (V_move rfl) ?_)))))
 refine TLv (V_len_str rfl Try.underlying9) ?_
 refine TLv (V_bin rfl rfl (fun w=>gtrI w ((x).length:Int) 64)) ?_
 refine TL_nil (TX_next (TC_cond (b:=(decide (64<((x).length:Int)))) rfl (fun hc=>?_) (fun hc=>?_)))
 ·replace H:=ite_t (of_decide_eq_true hc) H
  refine TC_seq (TC_region (TLv (V_assign rfl) ?_))
  refine TLv (V_assign rfl) ?_
  refine TL_nil (TX_next (TC_ret (TX_then_ret ?_)))
  have hrv:=Option.some.inj H
  subst hrv
  exact TX_ret (rs:=[.tmp 2, .tmp 3]) (vs:=[vs ([]:Str),vi 1300]) rfl ⟨rfl,rfl,trivial⟩ (fun w' hs'=>⟨(),rfl,Step.left (Step.pulled (is:=[]) (A:=[]) hs' rfl)⟩)
 ·replace H:=ite_f (of_decide_eq_false hc) H
  refine TC_skip (TX_next (TC_seq (TC_block ?_)))
  obtain ⟨t_1,Hl,H⟩:=bind_elim H
  refine TC.sub (m':=[(0,vs x)]) ⟨rfl,trivial⟩ ?_
  refine TC.pull (is:=[]) (L':=[]) rfl ?_
  refine TC_loopL (id:=0) (body:=(der_Integer.b0)) (σ:=Str) (Γ:=Unit) (Γx:=Unit) (fun s0 g0_=>[(0,vs s0)]) (fun s0 g0_=>[]) (fun t g=>[(0,vs t)]) (fun t g=>[]) ?_ BIG x () t_1 Hl ?_
  ·intro s0 g0_ r1 H K hK hE
   unfold der_Integer.b0 at H
   refine TC_seq (TC_seq (TC_region (TLv (V_move rfl) ?_)))
   refine TLv (V_len_str rfl Try.underlying9) ?_
   refine TLv (V_bin rfl rfl (fun w=>gtrI w ((s0).length:Int) 0)) ?_
   refine TLv (V_move rfl) ?_
   obtain ⟨j1,Hj,H⟩:=bind_elim H
   refine TL_join (Γ:=Unit) (fun gj1=>[(0,vs s0),(14,vb j1)]) (fun gj1=>[]) ?_ ?_
   ·intro gj1
    refine TX_next (TC_cond (b:=j1) rfl (fun hc=>?_) (fun hc=>?_))
    ·replace H:=ite_t hc H
     refine TC_skip (TX_next (TC_block (TC_region (TLv (V_move rfl) ?_))))
     obtain ⟨h1,H⟩:=if_elim H
     refine TLv (V_sliceStr (l:=1) (h:=(s0).length) rfl Try.underlying9 (Bnd.some' (i:=1) rfl (by decide)) Bnd.none' h1 (Nat.le_refl _)) ?_
     refine TLv (V_assign rfl) ?_
     obtain ⟨x1,hx1,H⟩:=ltt_elim H
     refine TL_re (d:=0) (v:=vs (sub s0 1 ((s0).length))) (v':=vs x1) rfl (congrArg vs hx1) ?_
     refine TL_nil (TX_block_normal (TX.sub (m':=[(0,vs x1)]) ⟨rfl,trivial⟩ ?_))
     refine TX.pull (is:=[]) (L':=[]) rfl ?_
     obtain rfl:=Option.some.inj H
     exact fun a w hs=>hK x1 rfl () a w hs
    ·replace H:=ite_f (Bool.eq_false_iff.1 hc) H
     refine TC_exit (TX_then_exit (TX_then_exit (TX.sub (m':=[(0,vs s0)]) ⟨rfl,trivial⟩ ?_)))
     refine TX.pull (is:=[]) (L':=[]) rfl ?_
     obtain rfl:=Option.some.inj H
     exact hE s0 rfl ()
   ·intro hJ
    replace H:=Hj
    refine TL_fork (d:=10) (b:=(decide (0<((s0).length:Int)))) rfl (fun hc=>?_) (fun hc=>?_)
    ·replace H:=ite_t (of_decide_eq_true hc) H
     refine TL_want rfl rfl rfl rfl rfl rfl (V_move rfl) ?_
     obtain ⟨h2,H⟩:=if_elim H
     refine TL_want rfl rfl rfl rfl rfl rfl (V_idxStr rfl rfl (i:=0) Try.underlying9 h2.1 h2.2) ?_
     refine TL_want rfl rfl rfl rfl rfl rfl (V_bin rfl rfl (fun w=>eql8 w (sg s0 0) 0#8)) ?_
     refine TLv (V_pick (b:=true) rfl rfl) ?_
     refine TL_nil (TX.sub (m':=[(0,vs s0),(14,vb (decide ((sg s0 0)=0#8)))]) ⟨rfl,rfl,trivial⟩ ?_)
     refine TX.pull (is:=[]) (L':=[]) rfl ?_
     obtain rfl:=Option.some.inj H
     exact hJ ()
    ·replace H:=ite_f (of_decide_eq_false hc) H
     refine TL_skip rfl rfl rfl rfl rfl rfl rfl ?_
     refine TL_skip rfl rfl rfl rfl rfl rfl rfl ?_
     refine TL_skip rfl rfl rfl rfl rfl rfl rfl ?_
     refine TLv (V_pick (b:=false) rfl rfl) ?_
     refine TL_nil (TX.sub (m':=[(0,vs s0),(14,vb false)]) ⟨rfl,rfl,trivial⟩ ?_)
     refine TX.pull (is:=[]) (L':=[]) rfl ?_
     obtain rfl:=Option.some.inj H
     exact hJ ()
  ·intro g
   refine TX_block_exit (TX_next (TC_seq (TC_seq (TC_region (TLv (V_move rfl) ?_)))))
   refine TLv (V_bin rfl rfl (fun w=>eqlS w t_1 ([]:Str))) ?_
   refine TLv (V_move rfl) ?_
   obtain ⟨j2,Hj,H⟩:=bind_elim H
   refine TL_join (Γ:=Unit) (fun gj2=>[(0,vs t_1),(23,vb j2)]) (fun gj2=>[]) ?_ ?_
   ·intro gj2
    refine TX_next ?_
    obtain ⟨j3,Hj,H⟩:=bind_elim H
    refine TC_join (Γ:=Unit) (fun gj3=>[(0,vs j3)]) (fun gj3=>[]) ?_ ?_
    ·intro gj3
     refine TX_next (TC_seq (TC_region (TLv (V_move rfl) ?_)))
     refine TLe (E_buildSlice (pv:=[(0,vs j3)]) rfl rfl Try.underlying46 TryI.inf9 (s:=1) rfl TryI.zer9 rfl rfl rfl (cs:=eS ([j3]:List (Str))) (by kernel_rfl)) (fun b1=>?_)
     obtain ⟨h3,H⟩:=if_elim H
     refine TL_re (d:=27) (v:=sl (some (b1,0)) 1 1) (v':=sl (some (b1,0)) ((([j3]:List (Str))).length) ((([j3]:List (Str))).length)) rfl (congrArg (fun n=>sl (some (b1,0)) n n) h3.symm) ?_
     obtain ⟨r_1,hr_1,H⟩:=bind_elim H
     refine TLe (E_c0 (F63_calls (some (b1,0)) ((([j3]:List (Str))).length) 2 ([j3]:List (Str)) (Nat.le_refl _) r_1 hr_1) Try.call63 ⟨.o 0,trivial⟩) (fun g_1=>?_)
     refine TLv V_ex ?_
     refine TLv V_ex ?_
     refine TLv (V_assign rfl) ?_
     refine TLv (V_assign rfl) ?_
     refine TL_nil (TX_next (TC_ret ?_))
     have hrv:=Option.some.inj H
     subst hrv
     exact TX_ret (rs:=[.tmp 2, .tmp 3]) (vs:=[vs r_1.1,vi r_1.2]) rfl ⟨rfl,rfl,trivial⟩ (fun w' hs'=>⟨(),rfl,Step.left (Step.pulled (is:=[]) (A:=[]) hs' rfl)⟩)
    ·intro hJ
     replace H:=Hj
     refine TC_cond (b:=j2) rfl (fun hc=>?_) (fun hc=>?_)
     ·replace H:=ite_t hc H
      refine TC_region (TLv (V_move rfl) ?_)
      obtain ⟨h4,H⟩:=if_elim H
      refine TLv (V_bin rfl rfl (fun w=>addS w ([0#8]:Str) t_1 h4)) ?_
      refine TLv (V_assign rfl) ?_
      obtain ⟨x2,hx2,H⟩:=ltt_elim H
      refine TL_re (d:=0) (v:=vs (([0#8]:Str)++t_1)) (v':=vs x2) rfl (congrArg vs hx2) ?_
      refine TL_nil (TX.sub (m':=[(0,vs x2)]) ⟨rfl,trivial⟩ ?_)
      refine TX.pull (is:=[]) (L':=[]) rfl ?_
      obtain rfl:=Option.some.inj H
      exact hJ ()
     ·replace H:=ite_f (Bool.eq_false_iff.1 hc) H
      refine TC_skip (TX.sub (m':=[(0,vs t_1)]) ⟨rfl,trivial⟩ ?_)
      refine TX.pull (is:=[]) (L':=[]) rfl ?_
      obtain rfl:=Option.some.inj H
      exact hJ ()
   ·intro hJ
    replace H:=Hj
    refine TL_fork (d:=19) (b:=(decide (t_1=([]:Str)))) rfl (fun hc=>?_) (fun hc=>?_)
    ·replace H:=ite_t (of_decide_eq_true hc) H
     refine TL_skip rfl rfl rfl rfl rfl rfl rfl ?_
     refine TL_skip rfl rfl rfl rfl rfl rfl rfl ?_
     refine TL_skip rfl rfl rfl rfl rfl rfl rfl ?_
     refine TLv (V_pick (b:=true) rfl rfl) ?_
     refine TL_nil (TX.sub (m':=[(0,vs t_1),(23,vb true)]) ⟨rfl,rfl,trivial⟩ ?_)
     refine TX.pull (is:=[]) (L':=[]) rfl ?_
     obtain rfl:=Option.some.inj H
     exact hJ ()
    ·replace H:=ite_f (of_decide_eq_false hc) H
     refine TL_want rfl rfl rfl rfl rfl rfl (V_move rfl) ?_
     obtain ⟨h5,H⟩:=if_elim H
     refine TL_want rfl rfl rfl rfl rfl rfl (V_idxStr rfl rfl (i:=0) Try.underlying9 h5.1 h5.2) ?_
     refine TL_want rfl rfl rfl rfl rfl rfl (V_bin rfl rfl (fun w=>geq8 w (sg t_1 0) 128#8)) ?_
     refine TLv (V_pick (b:=false) rfl rfl) ?_
     refine TL_nil (TX.sub (m':=[(0,vs t_1),(23,vb (decide ((128#8).toNat≤((sg t_1 0)).toNat)))]) ⟨rfl,rfl,trivial⟩ ?_)
     refine TX.pull (is:=[]) (L':=[]) rfl ?_
     obtain rfl:=Option.some.inj H
     exact hJ ()
end Go.Proofs
end

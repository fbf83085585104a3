/-
  Part 4 of the proof of EcdsaTwins.
-/
import Derived.Test.YtiofnmmggblcgaaEcdsaTwinsA1
import Derived.Test.YtiofnmmggblcgaaEcdsaTwinsA2
import Derived.Test.YtiofnmmggblcgaaEcdsaTwinsA3
set_option linter.unusedVariables false
set_option linter.unusedSimpArgs false
section
namespace Go.Proofs
open Go Go.Kx
open Vector (replicate)
def num_Field_Inv.b0 (f_M:Vx 64 4) (f_inv:BitVec 64) (f_one:Vx 64 4) (f_two:Vx 64 4) (x:Vx 64 4) (r_1:Vx 64 4 × BitVec 64) (s0:Int × Vx 64 4):Option ((Int × Vx 64 4) ⊕ (Vx 64 4)) :=
 if 0≤s0.1 then ((num_Field_Mul f_M f_inv f_one f_two s0.2 s0.2).bind fun (r_2:Vx 64 4)=>(if 0≤w64 (s0.1.tdiv 64)∧w64 (s0.1.tdiv 64)<(4:Int) then (if 0≤s0.1.tmod 64 then (if (((vg r_1.1 ((w64 (s0.1.tdiv 64)).toNat)) >>> (s0.1.tmod 64).toNat) &&& 1#64)=1#64 then ((num_Field_Mul f_M f_inv f_one f_two r_2 x).bind fun (r_3:Vx 64 4)=>(ltt (w64 (s0.1 - 1)) fun (i1:Int)=>(some (.inl (i1,r_3))))) else (ltt (w64 (s0.1 - 1)) fun (i2:Int)=>(some (.inl (i2,r_2))))) else none) else none)) else (some (.inr s0.2))
def num_Field_Inv (f_M:Vx 64 4) (f_inv:BitVec 64) (f_one:Vx 64 4) (f_two:Vx 64 4) (x:Vx 64 4):Option (Vx 64 4) :=
 (num_sub f_M (vp (replicate 4 0#64) 0 2#64:Vx 64 4)).bind fun (r_1:Vx 64 4 × BitVec 64)=>((loop (num_Field_Inv.b0 f_M f_inv f_one f_two x r_1) BIG (255,f_one)).bind fun (t_1:Vx 64 4)=>(some t_1))
set_option maxHeartbeats 4000000 in
set_option maxRecDepth 20000 in
theorem F60_calls (bf:Nat) (obf:Nat) (f_M:Vx 64 4) (f_inv:BitVec 64) (f_one:Vx 64 4) (f_two:Vx 64 4) (x:Vx 64 4) (r:Vx 64 4) (H:num_Field_Inv f_M f_inv f_one f_two x=some r) :
  Does Try.prog 60 [ptr (some (bf,obf)) 0,aG [(4,e64 x.toList)]] [] [⟨some (bf,obf),e64 f_M.toList⟩,⟨some (bf,obf+4),[v64 f_inv]⟩,⟨some (bf,obf+5),e64 f_one.toList⟩,⟨some (bf,obf+9),e64 f_two.toList⟩] (Γ:=Unit) (fun g=>aG [(4,e64 r.toList)]) (fun g=>[]):=by
 intro w hmem hro hd
 refine calls_of (N:=44) (m0:=[(0,ptr (some (bf,obf)) 0),(1,aG [(4,e64 x.toList)])]) Try.func60 rfl Try.ntmps60 (argM_ok [ptr (some (bf,obf)) 0,aG [(4,e64 x.toList)]]) rfl hmem hro hd ?_
 unfold num_Field_Inv at H
 refine TC_seq (TC_region (TLe (E_boxP [(4,e64 x.toList)] rfl rfl ⟨(lenV (f:=v64) x),trivial⟩) (fun b1=>?_)))
 refine TLe (E_al64 4 TryI.inf57 TryI.zer57) (fun b2=>?_)
 refine TL_nil (TX_next (TC_seq (TC_region (TLv (V_move rfl) ?_))))
 refine TLv (V_nilCheck rfl) ?_
 refine TLv (V_fieldE rfl Try.underlying113 rfl rfl TryI.inf57 rfl (v:=ptr (some (bf,obf)) 0) rfl) ?_
 refine TLv (V_lag (.r 0) Try.isAgg57 TryI.inf57) ?_
 refine TLv (V_buildArr (pv:=[(0,v64 2#64)]) rfl rfl Try.underlying57 TryI.inf57 TryI.inf55 rfl TryI.zer57 (cs:=e64 ((vp (replicate 4 0#64) 0 2#64:Vx 64 4).toList)) (by kernel_rfl)) ?_
 obtain ⟨r_1,hr_1,H⟩:=bind_elim H
 refine TLe (E_c0 (F85_calls f_M (vp (replicate 4 0#64) 0 2#64:Vx 64 4) r_1 hr_1) Try.call85 .z) (fun g_1=>?_)
 refine TLv (V_move rfl) ?_
 refine TLv V_ex ?_
 refine TLv V_ex ?_
 refine TLe (E_al64 4 TryI.inf57 TryI.zer57) (fun b3=>?_)
 refine TLn (E_sv (vs:=e64 r_1.1.toList) 0 TryI.inf57) (fun _=>?_)
 refine TLv (V_assign rfl) ?_
 refine TL_nil (TX_next (TC_seq (TC_region (TLv (V_move rfl) ?_))))
 refine TLv (V_nilCheck rfl) ?_
 refine TLv (V_fieldE rfl Try.underlying113 rfl rfl TryI.inf57 rfl (v:=ptr (some (bf,obf+5)) 0) rfl) ?_
 refine TLv (V_lag (.r 2) Try.isAgg57 TryI.inf57) ?_
 refine TLe (E_al64 4 TryI.inf57 TryI.zer57) (fun b4=>?_)
 refine TLn (E_sv (vs:=e64 f_one.toList) 0 TryI.inf57) (fun _=>?_)
 refine TL_nil (TX_next (TC_seq (TC_seq (TC_region (TLv (V_assign rfl) ?_)))))
 refine TL_nil (TX_next (TC_block ?_))
 obtain ⟨t_1,Hl,H⟩:=bind_elim H
 refine TC.sub (m':=[(0,ptr (some (bf,obf)) 0),(3,ptr (some (b1,0)) 0),(4,ptr (some (b2,0)) 0),(5,ptr (some (b3,0)) 0),(7,ptr (some (b4,0)) 0),(8,vi 255)]) ⟨rfl,rfl,rfl,rfl,rfl,rfl,trivial⟩ ?_
 refine TC.pull (is:=[3,2,1,0]) (L':=[⟨some (b1,0),e64 x.toList⟩,⟨some (b2,0),e64 ((replicate 4 0#64).toList)⟩,⟨some (b3,0),e64 r_1.1.toList⟩,⟨some (b4,0),e64 f_one.toList⟩]) rfl ?_
 refine TC_loopL (id:=0) (body:=(num_Field_Inv.b0 f_M f_inv f_one f_two x r_1)) (σ:=Int × Vx 64 4) (Γ:=Unit) (Γx:=Unit) (fun s0 g0_=>[(0,ptr (some (bf,obf)) 0),(3,ptr (some (b1,0)) 0),(4,ptr (some (b2,0)) 0),(5,ptr (some (b3,0)) 0),(7,ptr (some (b4,0)) 0),(8,vi s0.1)]) (fun s0 g0_=>[⟨some (b1,0),e64 x.toList⟩,⟨some (b2,0),e64 ((replicate 4 0#64).toList)⟩,⟨some (b3,0),e64 r_1.1.toList⟩,⟨some (b4,0),e64 s0.2.toList⟩]) (fun t g=>[(4,ptr (some (b2,0)) 0),(7,ptr (some (b4,0)) 0)]) (fun t g=>[⟨some (b2,0),e64 ((replicate 4 0#64).toList)⟩,⟨some (b4,0),e64 t.toList⟩]) ?_ BIG (255,f_one) () t_1 Hl ?_
 ·intro s0 g0_ r1 H K hK hE
  unfold num_Field_Inv.b0 at H
  refine TC_seq (TC_seq (TC_region (TLv (V_move rfl) ?_)))
  refine TLv (V_bin rfl rfl (fun w=>geqI w s0.1 0)) ?_
  refine TL_nil (TX_next (TC_cond (b:=(decide (0≤s0.1))) rfl (fun hc=>?_) (fun hc=>?_)))
  ·replace H:=ite_t (of_decide_eq_true hc) H
   refine TC_skip (TX_next (TC_seq (TC_block (TC_seq (TC_region (TLv (V_move rfl) ?_))))))
   refine TLv (V_lag (.o 3) Try.isAgg57 TryI.inf57) ?_
   refine TLv (V_lag (.o 3) Try.isAgg57 TryI.inf57) ?_
   obtain ⟨r_2,hr_2,H⟩:=bind_elim H
   refine TLe (E_c0 (F58_calls bf obf f_M f_inv f_one f_two s0.2 s0.2 r_2 hr_2) Try.call58 ⟨.r 0, .r 1, .r 2, .r 3,trivial⟩) (fun g_2=>?_)
   refine TLn (E_sv (vs:=e64 r_2.toList) 3 TryI.inf57) (fun _=>?_)
   refine TL_nil (TX_next (TC_seq (TC_region (TLv (V_move rfl) ?_))))
   refine TLv (V_bin rfl rfl (fun w=>quoI w s0.1 64 (by decide))) ?_
   obtain ⟨h1,H⟩:=if_elim H
   refine TLv (V_idxArr (i:=w64 (s0.1.tdiv 64)) rfl rfl Try.underlying57 TryI.inf55 rfl h1.1 h1.2 (k:=(w64 (s0.1.tdiv 64)).toNat) (k01 _)) ?_
   refine TLv (V_load rfl (.o 2) (get_vec (f:=v64) (V:=r_1.1) (toNat_lt h1.1 h1.2)) Try.isAgg55) ?_
   refine TLv (V_move rfl) ?_
   refine TLv (V_bin rfl rfl (fun w=>remI w s0.1 64 (by decide))) ?_
   obtain ⟨h2,H⟩:=if_elim H
   refine TLv (V_bin rfl rfl (fun w=>shr64 w (vg r_1.1 ((w64 (s0.1.tdiv 64)).toNat)) .i64 (s0.1.tmod 64) h2)) ?_
   refine TLv (V_bin rfl rfl (fun w=>and64 w ((vg r_1.1 ((w64 (s0.1.tdiv 64)).toNat)) >>> (s0.1.tmod 64).toNat) 1#64)) ?_
   refine TLv (V_bin rfl rfl (fun w=>eql64 w (((vg r_1.1 ((w64 (s0.1.tdiv 64)).toNat)) >>> (s0.1.tmod 64).toNat) &&& 1#64) 1#64)) ?_
   refine TL_nil (TX_next (TC_cond (b:=(decide ((((vg r_1.1 ((w64 (s0.1.tdiv 64)).toNat)) >>> (s0.1.tmod 64).toNat) &&& 1#64)=1#64))) rfl (fun hc=>?_) (fun hc=>?_)))
   ·replace H:=ite_t (of_decide_eq_true hc) H
    refine TC_region (TLv (V_move rfl) ?_)
    refine TLv (V_lag (.o 3) Try.isAgg57 TryI.inf57) ?_
    refine TLv (V_lag (.o 0) Try.isAgg57 TryI.inf57) ?_
    obtain ⟨r_3,hr_3,H⟩:=bind_elim H
    refine TLe (E_c0 (F58_calls bf obf f_M f_inv f_one f_two r_2 x r_3 hr_3) Try.call58 ⟨.r 0, .r 1, .r 2, .r 3,trivial⟩) (fun g_3=>?_)
    refine TLn (E_sv (vs:=e64 r_3.toList) 3 TryI.inf57) (fun _=>?_)
    refine TL_nil (TX_block_normal (TX_next (TC_region (TLv (V_move rfl) ?_))))
    refine TLv (V_bin rfl rfl (fun w=>subI w s0.1 1)) ?_
    refine TLv (V_assign rfl) ?_
    obtain ⟨i1,hi1,H⟩:=ltt_elim H
    refine TL_re (d:=8) (v:=vi (w64 (s0.1 - 1))) (v':=vi i1) rfl (congrArg vi hi1) ?_
    refine TL_nil (TX.sub (m':=[(0,ptr (some (bf,obf)) 0),(3,ptr (some (b1,0)) 0),(4,ptr (some (b2,0)) 0),(5,ptr (some (b3,0)) 0),(7,ptr (some (b4,0)) 0),(8,vi i1)]) ⟨rfl,rfl,rfl,rfl,rfl,rfl,trivial⟩ ?_)
    refine TX.pull (is:=[0,0,0,0]) (L':=[⟨some (b1,0),e64 x.toList⟩,⟨some (b2,0),e64 ((replicate 4 0#64).toList)⟩,⟨some (b3,0),e64 r_1.1.toList⟩,⟨some (b4,0),e64 r_3.toList⟩]) rfl ?_
    obtain rfl:=Option.some.inj H
    exact fun a w hs=>hK (i1,r_3) rfl () a w hs
   ·replace H:=ite_f (of_decide_eq_false hc) H
    refine TC_skip (TX_block_normal (TX_next (TC_region (TLv (V_move rfl) ?_))))
    refine TLv (V_bin rfl rfl (fun w=>subI w s0.1 1)) ?_
    refine TLv (V_assign rfl) ?_
    obtain ⟨i2,hi2,H⟩:=ltt_elim H
    refine TL_re (d:=8) (v:=vi (w64 (s0.1 - 1))) (v':=vi i2) rfl (congrArg vi hi2) ?_
    refine TL_nil (TX.sub (m':=[(0,ptr (some (bf,obf)) 0),(3,ptr (some (b1,0)) 0),(4,ptr (some (b2,0)) 0),(5,ptr (some (b3,0)) 0),(7,ptr (some (b4,0)) 0),(8,vi i2)]) ⟨rfl,rfl,rfl,rfl,rfl,rfl,trivial⟩ ?_)
    refine TX.pull (is:=[0,0,0,0]) (L':=[⟨some (b1,0),e64 x.toList⟩,⟨some (b2,0),e64 ((replicate 4 0#64).toList)⟩,⟨some (b3,0),e64 r_1.1.toList⟩,⟨some (b4,0),e64 r_2.toList⟩]) rfl ?_
    obtain rfl:=Option.some.inj H
    exact fun a w hs=>hK (i2,r_2) rfl () a w hs
  ·replace H:=ite_f (of_decide_eq_false hc) H
   refine TC_exit (TX_then_exit (TX_then_exit (TX.sub (m':=[(4,ptr (some (b2,0)) 0),(7,ptr (some (b4,0)) 0)]) ⟨rfl,rfl,trivial⟩ ?_)))
   refine TX.pull (is:=[1,2]) (L':=[⟨some (b2,0),e64 ((replicate 4 0#64).toList)⟩,⟨some (b4,0),e64 s0.2.toList⟩]) rfl ?_
   obtain rfl:=Option.some.inj H
   exact hE s0.2 rfl ()
 ·intro g
  refine TX_block_exit (TX_next (TC_seq (TC_region (TLv (V_lag (.o 1) Try.isAgg57 TryI.inf57) ?_))))
  refine TLn (E_sv (vs:=e64 t_1.toList) 0 TryI.inf57) (fun _=>?_)
  refine TL_nil (TX_next (TC_ret ?_))
  have hrv:=Option.some.inj H
  subst hrv
  exact TX_ret (rs:=[.cell 4 57]) (vs:=[aG [(4,e64 t_1.toList)]]) rfl ⟨(Res_agg (n:=4) rfl (by simp) (.o 0) Try.isAgg57 TryI.inf57 rfl (lenV (f:=v64) t_1)),trivial⟩ (fun w' hs'=>⟨(),rfl,Step.left (Step.pulled (is:=[]) (A:=[]) hs' rfl)⟩)
end Go.Proofs
end

section
namespace Go.Proofs
open Go Go.Kx
open Vector (replicate)
def num_Field_Rest (f_M:Vx 64 4) (f_inv:BitVec 64) (f_one:Vx 64 4) (f_two:Vx 64 4) (x:Vx 64 4):Option (Vx 64 4) :=
 (num_sub x f_M).bind fun (r_1:Vx 64 4 × BitVec 64)=>(if r_1.2=0#64 then (some r_1.1) else (some x))
set_option maxHeartbeats 4000000 in
set_option maxRecDepth 20000 in
theorem F54_calls (bf:Nat) (obf:Nat) (f_M:Vx 64 4) (f_inv:BitVec 64) (f_one:Vx 64 4) (f_two:Vx 64 4) (x:Vx 64 4) (r:Vx 64 4) (H:num_Field_Rest f_M f_inv f_one f_two x=some r) :
  Does Try.prog 54 [ptr (some (bf,obf)) 0,aG [(4,e64 x.toList)]] [] [⟨some (bf,obf),e64 f_M.toList⟩,⟨some (bf,obf+4),[v64 f_inv]⟩,⟨some (bf,obf+5),e64 f_one.toList⟩,⟨some (bf,obf+9),e64 f_two.toList⟩] (Γ:=Unit) (fun g=>aG [(4,e64 r.toList)]) (fun g=>[]):=by
 intro w hmem hro hd
 refine calls_of (N:=20) (m0:=[(0,ptr (some (bf,obf)) 0),(1,aG [(4,e64 x.toList)])]) Try.func54 rfl Try.ntmps54 (argM_ok [ptr (some (bf,obf)) 0,aG [(4,e64 x.toList)]]) rfl hmem hro hd ?_
 unfold num_Field_Rest at H
 refine TC_seq (TC_region (TLe (E_boxP [(4,e64 x.toList)] rfl rfl ⟨(lenV (f:=v64) x),trivial⟩) (fun b1=>?_)))
 refine TLe (E_al64 4 TryI.inf57 TryI.zer57) (fun b2=>?_)
 refine TL_nil (TX_next (TC_seq ?_))
 obtain ⟨r_1,hr_1,H⟩:=bind_elim H
 refine TA_begin [⟨some (b2,0),e64 ((replicate 4 0#64).toList)⟩,⟨some (b1,0),e64 x.toList⟩] 11 (by kernel_rfl) (N:=12) rfl ?_
 refine TA_tk 0 [0,0] (dn 12 1) rfl rfl (V_lag (.o 1) Try.isAgg57 TryI.inf57) ?_
 refine TA_tk 1 [0,0] (dn 12 3) rfl rfl (V_move rfl) ?_
 refine TA_tk 2 [0,0] (dn 12 7) rfl rfl (V_nilCheck rfl) ?_
 refine TA_tk 3 [0,0] (dn 12 15) rfl rfl (V_fieldE rfl Try.underlying113 rfl rfl TryI.inf57 rfl (v:=ptr (some (bf,obf)) 0) rfl) ?_
 refine TA_tk 4 [0,0] (dn 12 31) rfl rfl (V_lag (.r 0) Try.isAgg57 TryI.inf57) ?_
 refine TA_mix (is:=[0,0]) (done':=dn 12 1023) [itV 5 13 (Value.tuple [aG [(4,e64 r_1.1.toList)],v64 r_1.2].toArray) [],itV 6 7 (Value.tuple [aG [(4,e64 r_1.1.toList)],v64 r_1.2].toArray) [5],itV 7 14 (aG [(4,e64 r_1.1.toList)]) [6],itA64 9 5 4] [itV 8 15 (v64 r_1.2) [6]] 2 (by kernel_rfl) (QP.then QP.body) (by kernel_rfl) rfl (.e rfl (E_cu (F85_calls x f_M r_1 hr_1) Try.call85 .z) (.v rfl (V_move rfl) (.v rfl V_ex (.c rfl (fun _ _=>(E_al64 4 TryI.inf57 TryI.zer57)) .nil)))) (.c rfl (fun _=>V_ex) .nil) (by kernel_rfl) rfl (fun γ=>?_)
 refine TA_cut [(15,v64 r_1.2),(5,ptr (some ((γ 9),0)) 0),(14,aG [(4,e64 r_1.1.toList)]),(4,ptr (some (b2,0)) 0),(3,ptr (some (b1,0)) 0)] [⟨some ((γ 9),0),e64 ((replicate 4 0#64).toList)⟩,⟨some (b2,0),e64 ((replicate 4 0#64).toList)⟩,⟨some (b1,0),e64 x.toList⟩] ⟨rfl,rfl,rfl,rfl,rfl,trivial⟩ rfl ?_
 generalize γ 9=b3
 refine TA_all (rs:=[10]) (by kernel_rfl) rfl ?_
 refine ⟨?_,trivial⟩
 refine TO_n (is:=[1,1]) (done':=dn 12 2047) rfl rfl rfl (by kernel_rfl) (E_sv (vs:=e64 r_1.1.toList) 0 TryI.inf57) (fun _ _=>rfl) (fun _=>?_)
 refine TA_all (rs:=[11]) (by kernel_rfl) rfl ?_
 refine ⟨?_,trivial⟩
 refine TO_v (is:=[]) (R:=[]) (done':=dn 12 4095) rfl rfl rfl rfl (by kernel_rfl) (V_assign rfl) (fun h=>by cases h) ?_
 refine TA_done (by kernel_rfl) ?_ 0
 refine TX_next (TC_seq (TC_seq (TC_region (TLv (V_move rfl) ?_))))
 refine TLv (V_bin rfl rfl (fun w=>eql64 w r_1.2 0#64)) ?_
 refine TL_nil (TX_next (TC_cond (b:=(decide (r_1.2=0#64))) rfl (fun hc=>?_) (fun hc=>?_)))
 ·replace H:=ite_t (of_decide_eq_true hc) H
  refine TC_seq (TC_region (TLv (V_lag (.o 0) Try.isAgg57 TryI.inf57) ?_))
  refine TLn (E_sv (vs:=e64 r_1.1.toList) 1 TryI.inf57) (fun _=>?_)
  refine TL_nil (TX_next (TC_ret (TX_then_ret ?_)))
  have hrv:=Option.some.inj H
  subst hrv
  exact TX_ret (rs:=[.cell 4 57]) (vs:=[aG [(4,e64 r_1.1.toList)]]) rfl ⟨(Res_agg (n:=4) rfl (by simp) (.o 1) Try.isAgg57 TryI.inf57 rfl (lenV (f:=v64) r_1.1)),trivial⟩ (fun w' hs'=>⟨(),rfl,Step.left (Step.pulled (is:=[]) (A:=[]) hs' rfl)⟩)
 ·replace H:=ite_f (of_decide_eq_false hc) H
  refine TC_skip (TX_next (TC_seq (TC_region (TLv (V_lag (.o 2) Try.isAgg57 TryI.inf57) ?_))))
  refine TLn (E_sv (vs:=e64 x.toList) 1 TryI.inf57) (fun _=>?_)
  refine TL_nil (TX_next (TC_ret ?_))
  have hrv:=Option.some.inj H
  subst hrv
  exact TX_ret (rs:=[.cell 4 57]) (vs:=[aG [(4,e64 x.toList)]]) rfl ⟨(Res_agg (n:=4) rfl (by simp) (.o 1) Try.isAgg57 TryI.inf57 rfl (lenV (f:=v64) x)),trivial⟩ (fun w' hs'=>⟨(),rfl,Step.left (Step.pulled (is:=[]) (A:=[]) hs' rfl)⟩)
end Go.Proofs
end

section
namespace Go.Proofs
open Go Go.Kx
open Vector (replicate)
def num_Nat_Zero (x:Vx 64 4):Option (Bool) :=
 ltt (decide (x=(replicate 4 0#64:Vx 64 4))) fun (x1:Bool)=>(some x1)
set_option maxHeartbeats 4000000 in
set_option maxRecDepth 20000 in
theorem F43_calls (x:Vx 64 4) (r:Bool) (H:num_Nat_Zero x=some r) :
  Does Try.prog 43 [aG [(4,e64 x.toList)]] [] [] (Γ:=Unit) (fun g=>vb r) (fun g=>[]):=by
 intro w hmem hro hd
 refine calls_of (N:=6) (m0:=[(0,aG [(4,e64 x.toList)])]) Try.func43 rfl Try.ntmps43 (argM_ok [aG [(4,e64 x.toList)]]) rfl hmem hro hd ?_
 unfold num_Nat_Zero at H
 refine TC_seq (TC_region (TLe (E_boxP [(4,e64 x.toList)] rfl rfl ⟨(lenV (f:=v64) x),trivial⟩) (fun b1=>?_)))
 refine TLv (V_assign rfl) ?_
 refine TL_nil (TX_next (TC_seq (TC_region (TLv (V_lag (.o 0) Try.isAgg57 TryI.inf57) ?_))))
 refine TLv (V_buildArr (pv:=[]) rfl rfl Try.underlying57 TryI.inf57 TryI.inf55 rfl TryI.zer57 (cs:=e64 ((replicate 4 0#64:Vx 64 4).toList)) (by kernel_rfl)) ?_
 refine TLv (V_bin rfl rfl (fun w=>eqlA w Try.underlying57 Try.underlying55 (by kernel_rfl) (by kernel_rfl) x (replicate 4 0#64:Vx 64 4))) ?_
 refine TLv (V_assign rfl) ?_
 obtain ⟨x1,hx1,H⟩:=ltt_elim H
 refine TL_re (d:=2) (v:=vb (decide (x=(replicate 4 0#64:Vx 64 4)))) (v':=vb x1) rfl (congrArg vb hx1) ?_
 refine TL_nil (TX_next (TC_ret ?_))
 have hrv:=Option.some.inj H
 subst hrv
 exact TX_ret (rs:=[.tmp 2]) (vs:=[vb x1]) rfl ⟨rfl,trivial⟩ (fun w' hs'=>⟨(),rfl,Step.left (Step.pulled (is:=[]) (A:=[]) hs' rfl)⟩)
end Go.Proofs
end

section
namespace Go.Proofs
open Go Go.Kx
def num_Nat_Less (x:Vx 64 4) (y:Vx 64 4):Option (Bool) :=
 (num_sub x y).bind fun (r_1:Vx 64 4 × BitVec 64)=>(ltt (decide (r_1.2=1#64)) fun (x1:Bool)=>(some x1))
set_option maxHeartbeats 4000000 in
set_option maxRecDepth 20000 in
theorem F100_calls (x:Vx 64 4) (y:Vx 64 4) (r:Bool) (H:num_Nat_Less x y=some r) :
  Does Try.prog 100 [aG [(4,e64 x.toList)],aG [(4,e64 y.toList)]] [] [] (Γ:=Unit) (fun g=>vb r) (fun g=>[]):=by
 intro w hmem hro hd
 refine calls_of (N:=15) (m0:=[(0,aG [(4,e64 x.toList)]),(1,aG [(4,e64 y.toList)])]) Try.func100 rfl Try.ntmps100 (argM_ok [aG [(4,e64 x.toList)],aG [(4,e64 y.toList)]]) rfl hmem hro hd ?_
 unfold num_Nat_Less at H
 refine TC_seq (TC_region (TLe (E_boxP [(4,e64 x.toList)] rfl rfl ⟨(lenV (f:=v64) x),trivial⟩) (fun b1=>?_)))
 refine TLe (E_boxP [(4,e64 y.toList)] rfl rfl ⟨(lenV (f:=v64) y),trivial⟩) (fun b2=>?_)
 refine TLv (V_assign rfl) ?_
 refine TL_nil (TX_next (TC_seq (TC_region (TLv (V_lag (.o 1) Try.isAgg57 TryI.inf57) ?_))))
 refine TLv (V_lag (.o 0) Try.isAgg57 TryI.inf57) ?_
 obtain ⟨r_1,hr_1,H⟩:=bind_elim H
 refine TLe (E_c0 (F85_calls x y r_1 hr_1) Try.call85 .z) (fun g_1=>?_)
 refine TLv (V_move rfl) ?_
 refine TLv V_ex ?_
 refine TLv V_ex ?_
 refine TLe (E_al64 4 TryI.inf57 TryI.zer57) (fun b3=>?_)
 refine TLn (E_sv (vs:=e64 r_1.1.toList) 0 TryI.inf57) (fun _=>?_)
 refine TLv (V_assign rfl) ?_
 refine TL_nil (TX_next (TC_seq (TC_region (TLv (V_move rfl) ?_))))
 refine TLv (V_bin rfl rfl (fun w=>eql64 w r_1.2 1#64)) ?_
 refine TLv (V_assign rfl) ?_
 obtain ⟨x1,hx1,H⟩:=ltt_elim H
 refine TL_re (d:=4) (v:=vb (decide (r_1.2=1#64))) (v':=vb x1) rfl (congrArg vb hx1) ?_
 refine TL_nil (TX_next (TC_ret ?_))
 have hrv:=Option.some.inj H
 subst hrv
 exact TX_ret (rs:=[.tmp 4]) (vs:=[vb x1]) rfl ⟨rfl,trivial⟩ (fun w' hs'=>⟨(),rfl,Step.left (Step.pulled (is:=[]) (A:=[]) hs' rfl)⟩)
end Go.Proofs
end

section
namespace Go.Kx
open Go Go.Proofs
open Vector (replicate)
structure Md (m:Nat):Prop where
 two:2<m
 lt:m<2 ^ 256
 inv : ∃ ri,(2 ^ 256 * ri) % m=1
theorem Md.cancel {m:Nat} (hm:Md m) {a b:Nat} (h:(a * 2 ^ 256) % m=(b * 2 ^ 256) % m):a % m=b % m:=by
 obtain ⟨ri,hri⟩:=hm.inv
 have key : ∀ c:Nat,(c * 2 ^ 256 % m * ri) % m=c % m:=fun c=>by
  rw [Nat.mod_mul_mod,Nat.mul_assoc,Nat.mul_mod,hri,Nat.mul_one,Nat.mod_mod]
 rw [← key a, ← key b,h]
theorem Md.cancel_lt {m:Nat} (hm:Md m) {a b:Nat} (ha:a<m) (hb:b<m) (h:(a * 2 ^ 256) % m=(b * 2 ^ 256) % m):a=b:=by
 have:=hm.cancel h
 rwa [Nat.mod_eq_of_lt ha,Nat.mod_eq_of_lt hb] at this
def R4 (m:Nat) (v:Vx 64 4) (a:Nat):Prop:=a<m∧n4 v=a * 2 ^ 256 % m
def R8 (m:Nat) (v:Vx 32 8) (a:Nat):Prop:=a<m∧n8 v=a * 2 ^ 256 % m
theorem R4.lt {m:Nat} (hm:Md m) {v:Vx 64 4} {a:Nat} (h:R4 m v a):n4 v<m:=by rw [h.2]; exact Nat.mod_lt _ (by have:=hm.two; omega)
theorem R8.lt {m:Nat} (hm:Md m) {v:Vx 32 8} {a:Nat} (h:R8 m v a):n8 v<m:=by rw [h.2]; exact Nat.mod_lt _ (by have:=hm.two; omega)
theorem R4.inj {m:Nat} (hm:Md m) {v w:Vx 64 4} {a b:Nat} (h:R4 m v a) (k:R4 m w b):v=w ↔ a=b:=by
 constructor
 ·rintro rfl
  exact hm.cancel_lt h.1 k.1 (h.2.symm.trans k.2)
 ·rintro rfl
  exact n4_ext (h.2.trans k.2.symm)
theorem R8.inj {m:Nat} (hm:Md m) {v w:Vx 32 8} {a b:Nat} (h:R8 m v a) (k:R8 m w b):v=w ↔ a=b:=by
 constructor
 ·rintro rfl
  exact hm.cancel_lt h.1 k.1 (h.2.symm.trans k.2)
 ·rintro rfl
  exact n8_ext (h.2.trans k.2.symm)
theorem n4_zero:n4 (replicate 4 0#64)=0:=by decide
theorem n8_zero:n8 (replicate 8 0#32)=0:=by decide
theorem R4_zero {m:Nat} (hm:Md m):R4 m (replicate 4 0#64) 0:=⟨by have:=hm.two; omega,by rw [n4_zero,Nat.zero_mul,Nat.zero_mod]⟩
theorem R8_zero {m:Nat} (hm:Md m):R8 m (replicate 8 0#32) 0:=⟨by have:=hm.two; omega,by rw [n8_zero,Nat.zero_mul,Nat.zero_mod]⟩
theorem prod_rep {m:Nat} (hm:Md m) {a b x y r:Nat} (hx:x=a * 2 ^ 256 % m) (hy:y=b * 2 ^ 256 % m) (hr:r<m) (e:(r * 2 ^ 256) % m=(x * y) % m):r=(a * b % m) * 2 ^ 256 % m:=by
 have h0:0<m:=by have:=hm.two; omega
 refine hm.cancel_lt hr (Nat.mod_lt _ h0) ?_
 rw [e,hx,hy, ← Nat.mul_mod,Nat.mod_mul_mod (a * b % m * 2 ^ 256),Nat.mul_assoc (a * b % m),Nat.mod_mul_mod]
 congr 1
 generalize (2 ^ 256:Nat)=R
 grind
theorem in_rep {m:Nat} (hm:Md m) {x r:Nat} (hx:x<m) (hr:r<m) (e:(r * 2 ^ 256) % m=(x * (2 ^ 512 % m)) % m):r=x * 2 ^ 256 % m:=by
 have h0:0<m:=by have:=hm.two; omega
 refine hm.cancel_lt hr (Nat.mod_lt _ h0) ?_
 have h5 : ∀ k:Nat,k=256+256 → 2 ^ k=2 ^ 256 * 2 ^ 256:=fun k h=>by rw [h]; exact Nat.pow_add 2 256 256
 rw [e,h5 512 rfl,Nat.mul_mod_mod,Nat.mod_mul_mod,Nat.mul_assoc]
theorem out_rep {m:Nat} (hm:Md m) {a x r:Nat} (ha:a<m) (hx:x=a * 2 ^ 256 % m) (hr:r<m) (e:(r * 2 ^ 256) % m=(x * 1) % m):r=a:=by
 refine hm.cancel_lt hr ha ?_
 rw [e,hx,Nat.mul_one,Nat.mod_mod]
theorem sub_mod_eq {m x y:Nat} (hx:x<m) (hy:y<m):(x+(m - y)) % m=if y≤x then x - y else x+m - y:=by
 split
 ·rw [show x+(m - y)=x - y+m by omega,Nat.add_mod_right,Nat.mod_eq_of_lt (by omega)]
 ·rw [Nat.mod_eq_of_lt (by omega)]; omega
theorem add_rep {m:Nat} {a b:Nat}:(a * 2 ^ 256 % m+b * 2 ^ 256 % m) % m=((a+b) % m) * 2 ^ 256 % m:=by
 rw [← Nat.add_mod,Nat.mod_mul_mod,Nat.add_mul]
theorem sub_rep {m:Nat} (h0:0<m) {a b:Nat} (hb:b<m):(a * 2 ^ 256 % m+(m - b * 2 ^ 256 % m)) % m=((a+(m - b)) % m) * 2 ^ 256 % m:=by
 rw [Nat.mod_mul_mod,Nat.add_mul,Nat.add_mod (a * 2 ^ 256),Nat.add_mod (a * 2 ^ 256 % m),Nat.mod_mod]
 congr 2
 rw [Nat.sub_mul]
 have hk:=Nat.mod_add_div (b * 2 ^ 256) m
 have hlt:=Nat.mod_lt (b * 2 ^ 256) h0
 have hle:b * 2 ^ 256 / m≤2 ^ 256:=by
  have:b * 2 ^ 256≤m * 2 ^ 256:=Nat.mul_le_mul_right _ (by omega)
  exact Nat.div_le_of_le_mul this
 generalize b * 2 ^ 256 / m=q at *
 generalize hc:b * 2 ^ 256 % m=c at *
 rw [← hk]
 by_cases hz:c=0
 ·subst hz
  rw [Nat.sub_zero,Nat.mod_self,Nat.zero_add, ← Nat.mul_sub,Nat.mul_mod_right]
 ·have hq:q<2 ^ 256:=by
   rcases Nat.lt_or_eq_of_le hle with h | h
   ·exact h
   ·exfalso
    subst h
    have h2:b * 2 ^ 256<m * 2 ^ 256:=Nat.mul_lt_mul_of_pos_right hb (by decide)
    omega
  obtain ⟨d,hd⟩ : ∃ d,2 ^ 256=q+1+d:=⟨2 ^ 256 - q - 1,by omega⟩
  have e:m * 2 ^ 256 - (c+m * q)=(m - c)+m * d:=by
   rw [hd,Nat.mul_add,Nat.mul_add,Nat.mul_one]
   generalize m * q=u
   generalize m * d=v
   omega
  rw [e,Nat.add_mul_mod_self_left]
theorem pv_dig {B:Nat} {f:Nat → Nat} (hf : ∀ j,f j<B) : ∀ n k,k<n → pv B f n / B ^ k % B=f k
 | 0,k,h=>by omega
 | n+1,k,h=>by
  show (pv B f n+f n * B ^ n) / B ^ k % B=f k
  have hB:0<B:=by have:=hf 0; omega
  by_cases hk:k=n
  ·subst hk
   rw [Nat.add_mul_div_right _ _ (Nat.pow_pos hB),Nat.div_eq_of_lt (pv_lt hf k),Nat.zero_add,Nat.mod_eq_of_lt (hf k)]
  ·have e:f n * B ^ n=f n * B ^ (n - k - 1) * B * B ^ k:=by
    rw [Nat.mul_assoc,Nat.mul_assoc, ← Nat.pow_succ', ← Nat.pow_add]
    congr 2; omega
   rw [e,Nat.add_mul_div_right _ _ (Nat.pow_pos hB),Nat.add_mul_mod_self_right]
   exact pv_dig hf n k (by omega)
theorem bit_eq {b n:Nat} (v:Vector (BitVec b) n) (k j:Nat) (hk:k<n) (hj:j<b):((vg v k >>> j) &&& 1#b=1#b) ↔ (pv (2 ^ b) (wv v) n / 2 ^ (b * k+j)) % 2=1:=by
 have hd:=pv_dig (wv_lt v) n k hk
 have hb:0<b:=by omega
 have e1:(1#b).toNat=1:=by rw [BitVec.toNat_ofNat]; exact Nat.mod_eq_of_lt (Nat.one_lt_two_pow (by omega))
 rw [← BitVec.toNat_inj,BitVec.toNat_and,BitVec.toNat_ushiftRight,Nat.shiftRight_eq_div_pow,e1,Nat.and_one_is_mod]
 have:(vg v k).toNat=pv (2 ^ b) (wv v) n / (2 ^ b) ^ k % 2 ^ b:=hd.symm
 rw [this,Nat.pow_add,Nat.pow_mul, ← Nat.div_div_eq_div_mul]
 generalize pv (2 ^ b) (wv v) n / (2 ^ b) ^ k=x
 have e2:2 ^ b=2 ^ j * 2 ^ (b - j):=by rw [← Nat.pow_add]; congr 1; omega
 rw [e2,Nat.mod_mul_right_div_self,Nat.mod_mod_of_dvd]
 exact ⟨2 ^ (b - j - 1),by rw [← Nat.pow_succ']; congr 1; omega⟩
theorem bit4 (v:Vx 64 4) (i:Nat) (hi:i<256):((vg v (i / 64) >>> (i % 64)) &&& 1#64=1#64) ↔ (n4 v / 2 ^ i) % 2=1:=by
 have:=bit_eq v (i / 64) (i % 64) (by omega) (by omega)
 rwa [Nat.div_add_mod] at this
theorem bit8 (v:Vx 32 8) (i:Nat) (hi:i<256):((vg v (i / 32) >>> (i % 32)) &&& 1#32=1#32) ↔ (n8 v / 2 ^ i) % 2=1:=by
 have:=bit_eq v (i / 32) (i % 32) (by omega) (by omega)
 rwa [Nat.div_add_mod] at this
theorem half_eq (E i:Nat):E / 2 ^ i=2 * (E / 2 ^ (i+1))+E / 2 ^ i % 2:=by
 rw [Nat.pow_succ, ← Nat.div_div_eq_div_mul]
 omega
theorem pow_dbl {m a e:Nat}:(a ^ e % m) * (a ^ e % m) % m=a ^ (2 * e) % m:=by
 rw [← Nat.mul_mod, ← Nat.pow_add]; congr 2; omega
theorem pow_dbl1 {m a e:Nat}:(a ^ (2 * e) % m) * a % m=a ^ (2 * e+1) % m:=by
 rw [Nat.mod_mul_mod,Nat.pow_succ]
structure Fd (m:Nat) (M:Vx 64 4) (inv:BitVec 64) (one two:Vx 64 4):Prop where
 md:Md m
 hM:n4 M=m
 hinv:(wv M 0 * inv.toNat+1) % 2 ^ 64=0
 h1:n4 one=2 ^ 256 % m
 h2:n4 two=2 ^ 512 % m
section
variable {m:Nat} {M:Vx 64 4} {inv:BitVec 64} {one two x y:Vx 64 4} {a b:Nat}
theorem Fd.mul0 (F:Fd m M inv one two) (hx:n4 x<m) : ∃ r,num_Field_Mul M inv one two x y=some r∧n4 r<m∧(n4 r * 2 ^ 256) % m=(n4 x * n4 y) % m:=by
 have:=num_Field_Mul_ex M inv one two x y F.hinv (by rw [F.hM]; exact Nat.mul_lt_mul_of_lt_of_le hx (Nat.le_of_lt (n4_lt y)) (by decide))
 rwa [F.hM] at this
theorem Fd.mul (F:Fd m M inv one two) (hx:R4 m x a) (hy:R4 m y b) : ∃ r,num_Field_Mul M inv one two x y=some r∧R4 m r (a * b % m):=by
 obtain ⟨r,h1,h2,h3⟩:=F.mul0 (y:=y) (hx.lt F.md)
 exact ⟨r,h1,Nat.mod_lt _ (by have:=F.md.two; omega),prod_rep F.md hx.2 hy.2 h2 h3⟩
theorem Fd.unit (F:Fd m M inv one two):R4 m one (1 % m):=⟨Nat.mod_lt _ (by have:=F.md.two; omega),by rw [F.h1,Nat.mod_mul_mod,Nat.one_mul]⟩
theorem Fd.into (F:Fd m M inv one two) (hx:n4 x<m) : ∃ r,num_Field_In M inv one two x=some r∧R4 m r (n4 x):=by
 obtain ⟨r,h1,h2,h3⟩:=F.mul0 (y:=two) hx
 refine ⟨r,?_,hx,in_rep F.md hx h2 (by rw [h3,F.h2])⟩
 unfold num_Field_In
 exact bind_i h1 rfl
theorem n4_one:n4 (vp (replicate 4 0#64) 0 1#64)=1:=by decide
theorem Fd.out (F:Fd m M inv one two) (hx:R4 m x a) : ∃ r,num_Field_Out M inv one two x=some r∧n4 r=a:=by
 obtain ⟨r,h1,h2,h3⟩:=F.mul0 (y:=(vp (replicate 4 0#64) 0 1#64)) (hx.lt F.md)
 rw [n4_one] at h3
 refine ⟨r,?_,out_rep F.md hx.1 hx.2 h2 h3⟩
 unfold num_Field_Out
 exact bind_i h1 rfl
theorem Fd.add0 (F:Fd m M inv one two) (hx:n4 x<m) (hy:n4 y<m) : ∃ r,num_Field_Add M inv one two x y=some r∧n4 r=(n4 x+n4 y) % m:=by
 obtain ⟨⟨s,c⟩,h1,e1,l1⟩:=num_add_ex x y
 obtain ⟨⟨d,b'⟩,h2,e2,l2⟩:=num_sub_ex s M
 dsimp only at e1 l1 e2 l2
 have hmlt:=F.md.lt
 have:=n4_lt s
 have:=n4_lt d
 rw [F.hM] at e2
 unfold num_Field_Add
 by_cases hc:c=1#64
 ·have hc':c.toNat=1:=by rw [hc]; rfl
  refine ⟨d,bind_i h1 (bind_i h2 (bind_i (if_i hc rfl) (if_i rfl rfl))),?_⟩
  rw [show n4 x+n4 y=n4 d+m by omega,Nat.add_mod_right,Nat.mod_eq_of_lt (by omega)]
 ·have hc':c.toNat=0:=by
   have:c.toNat ≠ 1:=fun h=>hc (BitVec.eq_of_toNat_eq h)
   omega
  by_cases hb:b'=0#64
  ·have hb':b'.toNat=0:=by rw [hb]; rfl
   refine ⟨d,bind_i h1 (bind_i h2 (bind_i (if_n hc rfl) (if_i (by simp [hb]) rfl))),?_⟩
   rw [show n4 x+n4 y=n4 d+m by omega,Nat.add_mod_right,Nat.mod_eq_of_lt (by omega)]
  ·have hb':b'.toNat=1:=by
    have:b'.toNat ≠ 0:=fun h=>hb (BitVec.eq_of_toNat_eq h)
    omega
   refine ⟨s,bind_i h1 (bind_i h2 (bind_i (if_n hc rfl) (if_n (by simp [hb]) rfl))),?_⟩
   rw [show n4 x+n4 y=n4 s by omega,Nat.mod_eq_of_lt (by omega)]
theorem Fd.add (F:Fd m M inv one two) (hx:R4 m x a) (hy:R4 m y b) : ∃ r,num_Field_Add M inv one two x y=some r∧R4 m r ((a+b) % m):=by
 obtain ⟨r,h1,h2⟩:=F.add0 (hx.lt F.md) (hy.lt F.md)
 exact ⟨r,h1,Nat.mod_lt _ (by have:=F.md.two; omega),by rw [h2,hx.2,hy.2,add_rep]⟩
theorem Fd.sub0 (F:Fd m M inv one two) (hx:n4 x<m) (hy:n4 y<m) : ∃ r,num_Field_Sub M inv one two x y=some r∧n4 r=(n4 x+(m - n4 y)) % m:=by
 obtain ⟨⟨s,c⟩,h1,e1,l1⟩:=num_sub_ex x y
 obtain ⟨⟨d,b'⟩,h2,e2,l2⟩:=num_add_ex s M
 dsimp only at e1 l1 e2 l2
 have hmlt:=F.md.lt
 have:=n4_lt s
 have:=n4_lt d
 rw [F.hM] at e2
 unfold num_Field_Sub
 rw [sub_mod_eq hx hy]
 by_cases hc:c=1#64
 ·have hc':c.toNat=1:=by rw [hc]; rfl
  refine ⟨d,bind_i h1 (if_i hc (bind_i h2 rfl)),?_⟩
  rw [if_neg (by omega)]; omega
 ·have hc':c.toNat=0:=by
   have:c.toNat ≠ 1:=fun h=>hc (BitVec.eq_of_toNat_eq h)
   omega
  refine ⟨s,bind_i h1 (if_n hc rfl),?_⟩
  rw [if_pos (by omega)]; omega
theorem Fd.sub (F:Fd m M inv one two) (hx:R4 m x a) (hy:R4 m y b) : ∃ r,num_Field_Sub M inv one two x y=some r∧R4 m r ((a+(m - b)) % m):=by
 obtain ⟨r,h1,h2⟩:=F.sub0 (hx.lt F.md) (hy.lt F.md)
 exact ⟨r,h1,Nat.mod_lt _ (by have:=F.md.two; omega),by rw [h2,hx.2,hy.2,sub_rep (by have:=F.md.two; omega) hy.1]⟩
theorem num_Zero_eq (x:Vx 64 4):num_Nat_Zero x=some (decide (n4 x=0)):=by
 unfold num_Nat_Zero ltt
 congr 1
 refine decide_eq_decide.2 ⟨fun h=>by rw [h,n4_zero],fun h=>n4_ext (by rw [h,n4_zero])⟩
theorem R4.zero (hm:Md m) (hx:R4 m x a):num_Nat_Zero x=some (decide (a=0)):=by
 rw [num_Zero_eq]
 congr 1
 refine decide_eq_decide.2 ⟨fun h=>?_,fun h=>?_⟩
 ·exact hm.cancel_lt hx.1 (by have:=hm.two; omega) (by rw [← hx.2,h,Nat.zero_mul,Nat.zero_mod])
 ·rw [hx.2,h,Nat.zero_mul,Nat.zero_mod]
theorem num_Less_eq (x y:Vx 64 4):num_Nat_Less x y=some (decide (n4 x<n4 y)):=by
 obtain ⟨⟨s,c⟩,h1,e1,l1⟩:=num_sub_ex x y
 dsimp only at e1 l1
 have:=n4_lt s
 have:=n4_lt y
 have:=n4_lt x
 unfold num_Nat_Less
 refine bind_i h1 ?_
 unfold ltt
 congr 1
 refine decide_eq_decide.2 ⟨fun h=>?_,fun h=>?_⟩
 ·have hc':c.toNat=1:=by rw [show c=1#64 from h]; rfl
  omega
 ·exact BitVec.eq_of_toNat_eq (show c.toNat=1 by omega)
theorem Fd.rest (F:Fd m M inv one two) (hx:n4 x<2 * m) : ∃ r,num_Field_Rest M inv one two x=some r∧n4 r=n4 x % m:=by
 obtain ⟨⟨s,c⟩,h1,e1,l1⟩:=num_sub_ex x M
 dsimp only at e1 l1
 rw [F.hM] at e1
 have:=n4_lt s
 have:=n4_lt x
 have hmlt:=F.md.lt
 unfold num_Field_Rest
 by_cases hc:c=0#64
 ·have hc':c.toNat=0:=by rw [hc]; rfl
  refine ⟨s,bind_i h1 (if_i hc rfl),?_⟩
  rw [show n4 x=n4 s+m by omega,Nat.add_mod_right,Nat.mod_eq_of_lt (by omega)]
 ·have hc':c.toNat=1:=by
   have:c.toNat ≠ 0:=fun h=>hc (BitVec.eq_of_toNat_eq h)
   omega
  refine ⟨x,bind_i h1 (if_n hc rfl),?_⟩
  rw [Nat.mod_eq_of_lt (by omega)]
theorem n4_two:n4 (vp (replicate 4 0#64) 0 2#64)=2:=by decide
theorem Fd.inverse (F:Fd m M inv one two) (hx:R4 m x a) : ∃ r,num_Field_Inv M inv one two x=some r∧R4 m r (a ^ (m - 2) % m):=by
 obtain ⟨⟨e,c⟩,h1,e1,l1⟩:=num_sub_ex M (vp (replicate 4 0#64) 0 2#64)
 dsimp only at e1 l1
 rw [F.hM,n4_two] at e1
 have hmt:=F.md.two
 have hmlt:=F.md.lt
 have:=n4_lt e
 have he:n4 e=m - 2:=by omega
 have key : ∃ r,loop (num_Field_Inv.b0 M inv one two x (e,c)) BIG (255,one)=some r∧R4 m r (a ^ (m - 2) % m):=by
  refine loop_inv 256 (fun k s=>s.1=255 - (k:Int)∧R4 m s.2 (a ^ ((m - 2) / 2 ^ (256 - k)) % m)) _ (by decide) ⟨rfl,?_⟩ ?_ ?_
  ·dsimp only
   rw [Nat.div_eq_of_lt (by rw [Nat.sub_zero]; omega),Nat.pow_zero]
   exact F.unit
  ·rintro k ⟨i,o⟩ hk ⟨hi,ho⟩
   dsimp only at hi ho
   obtain ⟨j,hj⟩ : ∃ j,j=255 - k:=⟨_,rfl⟩
   have hi':i=(j:Int):=by omega
   rw [show 256 - k=j+1 by omega] at ho
   obtain ⟨r,hr,hR⟩:=F.mul ho ho
   rw [pow_dbl] at hR
   have hbit:=bit4 e j (by omega)
   rw [he] at hbit
   have hh:=half_eq (m - 2) j
   subst hi'
   have w1:w64 ((j:Int) - 1)=255 - ((k+1:Nat):Int):=by rw [w64_id (by omega) (by omega)]; omega
   have w2:w64 ((j:Int).tdiv 64)=((j / 64:Nat):Int):=w64_div (b:=64) (by omega)
   have w3:(j:Int).tmod 64=((j % 64:Nat):Int):=tmodN' j 64
   unfold num_Field_Inv.b0
   dsimp only
   rw [w2,w3]
   simp only [Int.toNat_natCast]
   clear w2 w3
   by_cases hb:(vg e (j / 64) >>> (j % 64)) &&& 1#64=1#64
   ·obtain ⟨r2,hr2,hR2⟩:=F.mul hR hx
    rw [pow_dbl1] at hR2
    refine ⟨(255 - ((k+1:Nat):Int),r2),if_i (by omega) (bind_i hr (if_i (by omega) (if_i (by omega) (if_i hb (bind_i hr2 (ltt_i fun v hv=>by rw [hv,w1])))))),rfl,?_⟩
    dsimp only
    rw [show 256 - (k+1)=j by omega,hh,hbit.1 hb]
    exact hR2
   ·refine ⟨(255 - ((k+1:Nat):Int),r),if_i (by omega) (bind_i hr (if_i (by omega) (if_i (by omega) (if_n hb (ltt_i fun v hv=>by rw [hv,w1]))))),rfl,?_⟩
    dsimp only
    have h0:(m - 2) / 2 ^ j % 2=0:=by
     have : ¬ ((m - 2) / 2 ^ j % 2=1):=fun h=>hb (hbit.2 h)
     omega
    rw [show 256 - (k+1)=j by omega,hh,h0,Nat.add_zero]
    exact hR
  ·rintro ⟨i,o⟩ ⟨hi,ho⟩
   dsimp only at hi ho
   subst hi
   refine ⟨o,by unfold num_Field_Inv.b0; exact if_n (by dsimp only; omega) rfl,?_⟩
   rw [Nat.sub_self,Nat.pow_zero,Nat.div_one] at ho
   exact ho
 obtain ⟨r,h2,hR⟩:=key
 refine ⟨r,?_,hR⟩
 unfold num_Field_Inv
 exact bind_i h1 (bind_i h2 rfl)
end
end Go.Kx
end

section
namespace Go.Proofs
open Go Go.Kx
open Vector (replicate)
def halberdref9_add (which:Int) (a_:Vx 32 8) (b:Vx 32 8):Option (Vx 32 8) :=
 (halberdref9_modulus which).bind fun (r_1:Vx 32 8)=>((halberdref9_plus a_ b).bind fun (r_2:Vx 32 8 × BitVec 64)=>((if r_2.2=1#64 then (some true) else ((halberdref9_less r_2.1 r_1).bind fun (r_4:Bool)=>(some (!r_4)))).bind fun (j1:Bool)=>(if j1=true then ((halberdref9_minus r_2.1 r_1).bind fun (r_3:Vx 32 8)=>(some r_3)) else (some r_2.1))))
set_option maxHeartbeats 4000000 in
set_option maxRecDepth 20000 in
theorem F48_calls (which:Int) (a_:Vx 32 8) (b:Vx 32 8) (r:Vx 32 8) (H:halberdref9_add which a_ b=some r) :
  Does Try.prog 48 [vi which,aG [(8,e32 a_.toList)],aG [(8,e32 b.toList)]] [] [] (Γ:=Unit) (fun g=>aG [(8,e32 r.toList)]) (fun g=>[]):=by
 intro w hmem hro hd
 refine calls_of (N:=30) (m0:=[(0,vi which),(1,aG [(8,e32 a_.toList)]),(2,aG [(8,e32 b.toList)])]) Try.func48 rfl Try.ntmps48 (argM_ok [vi which,aG [(8,e32 a_.toList)],aG [(8,e32 b.toList)]]) rfl hmem hro hd ?_
 unfold halberdref9_add at H
 refine TC_seq (TC_region (TLe (E_boxP [(8,e32 a_.toList)] rfl rfl ⟨(lenV (f:=v32) a_),trivial⟩) (fun b1=>?_)))
 refine TLe (E_boxP [(8,e32 b.toList)] rfl rfl ⟨(lenV (f:=v32) b),trivial⟩) (fun b2=>?_)
 refine TLe (E_al32 8 TryI.inf31 TryI.zer31) (fun b3=>?_)
 refine TL_nil (TX_next (TC_seq (TC_region (TLv (V_move rfl) ?_))))
 obtain ⟨r_1,hr_1,H⟩:=bind_elim H
 refine TLe (E_c0 (F79_calls which r_1 hr_1) Try.call79 .z) (fun g_1=>?_)
 refine TLe (E_al32 8 TryI.inf31 TryI.zer31) (fun b4=>?_)
 refine TLn (E_sv (vs:=e32 r_1.toList) 0 TryI.inf31) (fun _=>?_)
 refine TL_nil (TX_next (TC_seq (TC_region (TLv (V_lag (.o 3) Try.isAgg31 TryI.inf31) ?_))))
 refine TLv (V_lag (.o 2) Try.isAgg31 TryI.inf31) ?_
 obtain ⟨r_2,hr_2,H⟩:=bind_elim H
 refine TLe (E_c0 (F83_calls a_ b r_2 hr_2) Try.call83 .z) (fun g_2=>?_)
 refine TLv (V_move rfl) ?_
 refine TLv V_ex ?_
 refine TLv V_ex ?_
 refine TLe (E_al32 8 TryI.inf31 TryI.zer31) (fun b5=>?_)
 refine TLn (E_sv (vs:=e32 r_2.1.toList) 0 TryI.inf31) (fun _=>?_)
 refine TLv (V_assign rfl) ?_
 refine TL_nil (TX_next (TC_seq (TC_seq (TC_region (TLv (V_move rfl) ?_)))))
 refine TLv (V_bin rfl rfl (fun w=>eql64 w r_2.2 1#64)) ?_
 refine TLv (V_move rfl) ?_
 obtain ⟨j1,Hj,H⟩:=bind_elim H
 refine TL_join (Γ:=Unit) (fun gj1=>[(6,ptr (some (b3,0)) 0),(7,ptr (some (b4,0)) 0),(8,ptr (some (b5,0)) 0),(25,vb j1)]) (fun gj1=>[⟨some (b3,0),e32 ((replicate 8 0#32).toList)⟩,⟨some (b4,0),e32 r_1.toList⟩,⟨some (b5,0),e32 r_2.1.toList⟩]) ?_ ?_
 ·intro gj1
  refine TX_next (TC_cond (b:=j1) rfl (fun hc=>?_) (fun hc=>?_))
  ·replace H:=ite_t hc H
   refine TC_region (TLv (V_lag (.o 2) Try.isAgg31 TryI.inf31) ?_)
   refine TLv (V_lag (.o 1) Try.isAgg31 TryI.inf31) ?_
   obtain ⟨r_3,hr_3,H⟩:=bind_elim H
   refine TLe (E_c0 (F82_calls r_2.1 r_1 r_3 hr_3) Try.call82 .z) (fun g_3=>?_)
   refine TLn (E_sv (vs:=e32 r_3.toList) 2 TryI.inf31) (fun _=>?_)
   refine TL_nil (TX_next (TC_seq (TC_region (TLv (V_lag (.o 2) Try.isAgg31 TryI.inf31) ?_))))
   refine TLn (E_sv (vs:=e32 r_3.toList) 0 TryI.inf31) (fun _=>?_)
   refine TL_nil (TX_next (TC_ret ?_))
   have hrv:=Option.some.inj H
   subst hrv
   exact TX_ret (rs:=[.cell 6 31]) (vs:=[aG [(8,e32 r_3.toList)]]) rfl ⟨(Res_agg (n:=8) rfl (by simp) (.o 0) Try.isAgg31 TryI.inf31 rfl (lenV (f:=v32) r_3)),trivial⟩ (fun w' hs'=>⟨(),rfl,Step.left (Step.pulled (is:=[]) (A:=[]) hs' rfl)⟩)
  ·replace H:=ite_f (Bool.eq_false_iff.1 hc) H
   refine TC_skip (TX_next (TC_seq (TC_region (TLv (V_lag (.o 2) Try.isAgg31 TryI.inf31) ?_))))
   refine TLn (E_sv (vs:=e32 r_2.1.toList) 0 TryI.inf31) (fun _=>?_)
   refine TL_nil (TX_next (TC_ret ?_))
   have hrv:=Option.some.inj H
   subst hrv
   exact TX_ret (rs:=[.cell 6 31]) (vs:=[aG [(8,e32 r_2.1.toList)]]) rfl ⟨(Res_agg (n:=8) rfl (by simp) (.o 0) Try.isAgg31 TryI.inf31 rfl (lenV (f:=v32) r_2.1)),trivial⟩ (fun w' hs'=>⟨(),rfl,Step.left (Step.pulled (is:=[]) (A:=[]) hs' rfl)⟩)
 ·intro hJ
  replace H:=Hj
  refine TL_fork (d:=20) (b:=(decide (r_2.2=1#64))) rfl (fun hc=>?_) (fun hc=>?_)
  ·replace H:=ite_t (of_decide_eq_true hc) H
   refine TL_skip rfl rfl rfl rfl rfl rfl rfl ?_
   refine TL_skip rfl rfl rfl rfl rfl rfl rfl ?_
   refine TL_skip rfl rfl rfl rfl rfl rfl rfl ?_
   refine TL_skip rfl rfl rfl rfl rfl rfl rfl ?_
   refine TLv (V_pick (b:=true) rfl rfl) ?_
   refine TL_nil (TX.sub (m':=[(6,ptr (some (b3,0)) 0),(7,ptr (some (b4,0)) 0),(8,ptr (some (b5,0)) 0),(25,vb true)]) ⟨rfl,rfl,rfl,rfl,trivial⟩ ?_)
   refine TX.pull (is:=[2,1,0]) (L':=[⟨some (b3,0),e32 ((replicate 8 0#32).toList)⟩,⟨some (b4,0),e32 r_1.toList⟩,⟨some (b5,0),e32 r_2.1.toList⟩]) rfl ?_
   obtain rfl:=Option.some.inj H
   exact hJ ()
  ·replace H:=ite_f (of_decide_eq_false hc) H
   refine TL_want rfl rfl rfl rfl rfl rfl (V_lag (.o 0) Try.isAgg31 TryI.inf31) ?_
   refine TL_want rfl rfl rfl rfl rfl rfl (V_lag (.o 1) Try.isAgg31 TryI.inf31) ?_
   obtain ⟨r_4,hr_4,H⟩:=bind_elim H
   refine TL_wantE rfl rfl rfl rfl rfl rfl (E_c0 (F78_calls r_2.1 r_1 r_4 hr_4) Try.call78 .z) (fun g_4=>?_)
   refine TL_want rfl rfl rfl rfl rfl rfl (V_un rfl (fun w=>notB w r_4)) ?_
   refine TLv (V_pick (b:=false) rfl rfl) ?_
   refine TL_nil (TX.sub (m':=[(6,ptr (some (b3,0)) 0),(7,ptr (some (b4,0)) 0),(8,ptr (some (b5,0)) 0),(25,vb (!r_4))]) ⟨rfl,rfl,rfl,rfl,trivial⟩ ?_)
   refine TX.pull (is:=[2,1,0]) (L':=[⟨some (b3,0),e32 ((replicate 8 0#32).toList)⟩,⟨some (b4,0),e32 r_1.toList⟩,⟨some (b5,0),e32 r_2.1.toList⟩]) rfl ?_
   obtain rfl:=Option.some.inj H
   exact hJ ()
end Go.Proofs
end

section
namespace Go.Proofs
open Go Go.Kx
open Vector (replicate)
def halberdref9_sub (which:Int) (a_:Vx 32 8) (b:Vx 32 8):Option (Vx 32 8) :=
 (halberdref9_less a_ b).bind fun (r_1:Bool)=>(if r_1=true then ((halberdref9_modulus which).bind fun (r_2:Vx 32 8)=>((halberdref9_plus a_ r_2).bind fun (r_3:Vx 32 8 × BitVec 64)=>((halberdref9_minus r_3.1 b).bind fun (r_4:Vx 32 8)=>(some r_4)))) else ((halberdref9_minus a_ b).bind fun (r_5:Vx 32 8)=>(some r_5)))
set_option maxHeartbeats 4000000 in
set_option maxRecDepth 20000 in
theorem F49_calls (which:Int) (a_:Vx 32 8) (b:Vx 32 8) (r:Vx 32 8) (H:halberdref9_sub which a_ b=some r) :
  Does Try.prog 49 [vi which,aG [(8,e32 a_.toList)],aG [(8,e32 b.toList)]] [] [] (Γ:=Unit) (fun g=>aG [(8,e32 r.toList)]) (fun g=>[]):=by
 intro w hmem hro hd
 refine calls_of (N:=23) (m0:=[(0,vi which),(1,aG [(8,e32 a_.toList)]),(2,aG [(8,e32 b.toList)])]) Try.func49 rfl Try.ntmps49 (argM_ok [vi which,aG [(8,e32 a_.toList)],aG [(8,e32 b.toList)]]) rfl hmem hro hd ?_
 unfold halberdref9_sub at H
 refine TC_seq (TC_region (TLe (E_boxP [(8,e32 a_.toList)] rfl rfl ⟨(lenV (f:=v32) a_),trivial⟩) (fun b1=>?_)))
 refine TLe (E_boxP [(8,e32 b.toList)] rfl rfl ⟨(lenV (f:=v32) b),trivial⟩) (fun b2=>?_)
 refine TLe (E_al32 8 TryI.inf31 TryI.zer31) (fun b3=>?_)
 refine TL_nil (TX_next (TC_seq (TC_seq (TC_region (TLv (V_lag (.o 2) Try.isAgg31 TryI.inf31) ?_)))))
 refine TLv (V_lag (.o 1) Try.isAgg31 TryI.inf31) ?_
 obtain ⟨r_1,hr_1,H⟩:=bind_elim H
 refine TLe (E_c0 (F78_calls a_ b r_1 hr_1) Try.call78 .z) (fun g_1=>?_)
 refine TL_nil (TX_next (TC_cond (b:=r_1) rfl (fun hc=>?_) (fun hc=>?_)))
 ·replace H:=ite_t hc H
  refine TC_seq ?_
  obtain ⟨r_2,hr_2,H⟩:=bind_elim H
  obtain ⟨r_3,hr_3,H⟩:=bind_elim H
  refine TA_begin [⟨some (b3,0),e32 ((replicate 8 0#32).toList)⟩,⟨some (b2,0),e32 b.toList⟩,⟨some (b1,0),e32 a_.toList⟩] 9 (by kernel_rfl) (N:=10) rfl ?_
  refine TA_tk 0 [0,0,0] (dn 10 1) rfl rfl (V_lag (.o 2) Try.isAgg31 TryI.inf31) ?_
  refine TA_tk 1 [0,0,0] (dn 10 3) rfl rfl (V_move rfl) ?_
  refine TA_mix (is:=[0,0,0]) (done':=dn 10 255) [itV 2 15 (aG [(8,e32 r_2.toList)]) [],itV 3 16 (Value.tuple [aG [(8,e32 r_3.1.toList)],v64 r_3.2].toArray) [2],itV 4 12 (Value.tuple [aG [(8,e32 r_3.1.toList)],v64 r_3.2].toArray) [3],itV 5 17 (aG [(8,e32 r_3.1.toList)]) [4],itA32 7 7 8] [itV 6 18 (v64 r_3.2) [4]] 2 (by kernel_rfl) (QP.then (QP.then QP.body)) (by kernel_rfl) rfl (.e rfl (E_cu (F79_calls which r_2 hr_2) Try.call79 .z) (.e rfl (E_cu (F83_calls a_ r_2 r_3 hr_3) Try.call83 .z) (.v rfl (V_move rfl) (.v rfl V_ex (.c rfl (fun _ _=>(E_al32 8 TryI.inf31 TryI.zer31)) .nil))))) (.c rfl (fun _=>V_ex) .nil) (by kernel_rfl) rfl (fun γ=>?_)
  refine TA_cut [(18,v64 r_3.2),(7,ptr (some ((γ 7),0)) 0),(17,aG [(8,e32 r_3.1.toList)]),(6,ptr (some (b3,0)) 0),(5,ptr (some (b2,0)) 0),(4,ptr (some (b1,0)) 0)] [⟨some ((γ 7),0),e32 ((replicate 8 0#32).toList)⟩,⟨some (b3,0),e32 ((replicate 8 0#32).toList)⟩,⟨some (b2,0),e32 b.toList⟩,⟨some (b1,0),e32 a_.toList⟩] ⟨rfl,rfl,rfl,rfl,rfl,rfl,trivial⟩ rfl ?_
  generalize γ 7=b4
  refine TA_all (rs:=[8]) (by kernel_rfl) rfl ?_
  refine ⟨?_,trivial⟩
  refine TO_n (is:=[1,1,1]) (done':=dn 10 511) rfl rfl rfl (by kernel_rfl) (E_sv (vs:=e32 r_3.1.toList) 0 TryI.inf31) (fun _ _=>rfl) (fun _=>?_)
  refine TA_all (rs:=[9]) (by kernel_rfl) rfl ?_
  refine ⟨?_,trivial⟩
  refine TO_v (is:=[]) (R:=[]) (done':=dn 10 1023) rfl rfl rfl rfl (by kernel_rfl) (V_assign rfl) (fun h=>by cases h) ?_
  refine TA_done (by kernel_rfl) ?_ 0
  refine TX_next (TC_region (TLv (V_lag (.o 0) Try.isAgg31 TryI.inf31) ?_))
  refine TLn (E_sv (vs:=e32 r_3.1.toList) 3 TryI.inf31) (fun _=>?_)
  refine TL_nil (TX_next (TC_seq (TC_region (TLv (V_lag (.o 3) Try.isAgg31 TryI.inf31) ?_))))
  refine TLv (V_lag (.o 2) Try.isAgg31 TryI.inf31) ?_
  obtain ⟨r_4,hr_4,H⟩:=bind_elim H
  refine TLe (E_c0 (F82_calls r_3.1 b r_4 hr_4) Try.call82 .z) (fun g_4=>?_)
  refine TLn (E_sv (vs:=e32 r_4.toList) 1 TryI.inf31) (fun _=>?_)
  refine TL_nil (TX_next (TC_ret ?_))
  have hrv:=Option.some.inj H
  subst hrv
  exact TX_ret (rs:=[.cell 6 31]) (vs:=[aG [(8,e32 r_4.toList)]]) rfl ⟨(Res_agg (n:=8) rfl (by simp) (.o 1) Try.isAgg31 TryI.inf31 rfl (lenV (f:=v32) r_4)),trivial⟩ (fun w' hs'=>⟨(),rfl,Step.left (Step.pulled (is:=[]) (A:=[]) hs' rfl)⟩)
 ·replace H:=ite_f (Bool.eq_false_iff.1 hc) H
  refine TC_skip (TX_next (TC_seq (TC_region (TLv (V_lag (.o 2) Try.isAgg31 TryI.inf31) ?_))))
  refine TLv (V_lag (.o 1) Try.isAgg31 TryI.inf31) ?_
  obtain ⟨r_5,hr_5,H⟩:=bind_elim H
  refine TLe (E_c0 (F82_calls a_ b r_5 hr_5) Try.call82 .z) (fun g_5=>?_)
  refine TLn (E_sv (vs:=e32 r_5.toList) 0 TryI.inf31) (fun _=>?_)
  refine TL_nil (TX_next (TC_ret ?_))
  have hrv:=Option.some.inj H
  subst hrv
  exact TX_ret (rs:=[.cell 6 31]) (vs:=[aG [(8,e32 r_5.toList)]]) rfl ⟨(Res_agg (n:=8) rfl (by simp) (.o 0) Try.isAgg31 TryI.inf31 rfl (lenV (f:=v32) r_5)),trivial⟩ (fun w' hs'=>⟨(),rfl,Step.left (Step.pulled (is:=[]) (A:=[]) hs' rfl)⟩)
end Go.Proofs
end

section
namespace Go.Proofs
open Go Go.Kx
def halberdref9_square (which:Int):Option (Vx 32 8) :=
 ltt (decide (which=0)) fun (x1:Bool)=>(if x1=true then (ltt ((#v[3#32,0#32,4294967295#32,4294967291#32,4294967294#32,4294967295#32,4294967293#32,4#32]:Vx 32 8)) fun (m_1:Vx 32 8)=>(some m_1)) else (ltt (decide (which=1)) fun (x2:Bool)=>(if x2=true then (ltt ((#v[3195661986#32,2200194197#32,1237151654#32,1184463260#32,728493145#32,675656249#32,4091106848#32,1726033300#32]:Vx 32 8)) fun (m_2:Vx 32 8)=>(some m_2)) else (ltt ((#v[1444#32,0#32,0#32,0#32,0#32,0#32,0#32,0#32]:Vx 32 8)) fun (m_3:Vx 32 8)=>(some m_3)))))
set_option maxHeartbeats 4000000 in
set_option maxRecDepth 20000 in
theorem F80_calls (which:Int) (r:Vx 32 8) (H:halberdref9_square which=some r) :
  Does Try.prog 80 [vi which] [] [] (Γ:=Unit) (fun g=>aG [(8,e32 r.toList)]) (fun g=>[]):=by
 intro w hmem hro hd
 refine calls_of (N:=11) (m0:=[(0,vi which)]) Try.func80 rfl Try.ntmps80 (argM_ok [vi which]) rfl hmem hro hd ?_
 unfold halberdref9_square at H
 refine TC_seq (TC_region (TLe (E_al32 8 TryI.inf31 TryI.zer31) (fun b1=>?_)))
 refine TL_nil (TX_next (TC_seq (TC_seq (TC_region (TLv (V_move rfl) ?_)))))
 refine TL_nil (TX_next (TC_block (TC_seq (TC_region (TLv (V_bin rfl rfl (fun w=>eqlI w which 0)) ?_)))))
 refine TLv (V_assign rfl) ?_
 obtain ⟨x1,hx1,H⟩:=ltt_elim H
 refine TL_re (d:=4) (v:=vb (decide (which=0))) (v':=vb x1) rfl (congrArg vb hx1) ?_
 refine TL_nil (TX_next (TC_cond (b:=x1) rfl (fun hc=>?_) (fun hc=>?_)))
 ·replace H:=ite_t hc H
  refine TC_seq (TC_region (TLv (V_buildArr (pv:=[(0,v32 3#32),(1,v32 0#32),(2,v32 4294967295#32),(3,v32 4294967291#32),(4,v32 4294967294#32),(5,v32 4294967295#32),(6,v32 4294967293#32),(7,v32 4#32)]) rfl rfl Try.underlying31 TryI.inf31 TryI.inf29 rfl TryI.zer31 (cs:=e32 ((#v[3#32,0#32,4294967295#32,4294967291#32,4294967294#32,4294967295#32,4294967293#32,4#32]:Vx 32 8).toList)) (by kernel_rfl)) ?_))
  refine TLn (E_sv 0 TryI.inf31) (fun _=>?_)
  obtain ⟨m_1,hm_1,H⟩:=ltt_elim H
  refine TL_reE (j:=0) (A:=some (b1,0)) (cs:=e32 ((#v[3#32,0#32,4294967295#32,4294967291#32,4294967294#32,4294967295#32,4294967293#32,4#32]:Vx 32 8).toList)) (cs':=e32 m_1.toList) rfl (congrArg (fun z:Vx 32 8=>e32 (Vector.toList z)) hm_1) ?_
  refine TL_nil (TX_next (TC_ret (TX_block_ret (TX_then_ret ?_))))
  have hrv:=Option.some.inj H
  subst hrv
  exact TX_ret (rs:=[.cell 2 31]) (vs:=[aG [(8,e32 m_1.toList)]]) rfl ⟨(Res_agg (n:=8) rfl (by simp) (.o 0) Try.isAgg31 TryI.inf31 rfl (lenV (f:=v32) m_1)),trivial⟩ (fun w' hs'=>⟨(),rfl,Step.left (Step.pulled (is:=[]) (A:=[]) hs' rfl)⟩)
 ·replace H:=ite_f (Bool.eq_false_iff.1 hc) H
  refine TC_seq (TC_region (TLv (V_bin rfl rfl (fun w=>eqlI w which 1)) ?_))
  refine TLv (V_assign rfl) ?_
  obtain ⟨x2,hx2,H⟩:=ltt_elim H
  refine TL_re (d:=7) (v:=vb (decide (which=1))) (v':=vb x2) rfl (congrArg vb hx2) ?_
  refine TL_nil (TX_next (TC_cond (b:=x2) rfl (fun hc=>?_) (fun hc=>?_)))
  ·replace H:=ite_t hc H
   refine TC_seq (TC_region (TLv (V_buildArr (pv:=[(0,v32 3195661986#32),(1,v32 2200194197#32),(2,v32 1237151654#32),(3,v32 1184463260#32),(4,v32 728493145#32),(5,v32 675656249#32),(6,v32 4091106848#32),(7,v32 1726033300#32)]) rfl rfl Try.underlying31 TryI.inf31 TryI.inf29 rfl TryI.zer31 (cs:=e32 ((#v[3195661986#32,2200194197#32,1237151654#32,1184463260#32,728493145#32,675656249#32,4091106848#32,1726033300#32]:Vx 32 8).toList)) (by kernel_rfl)) ?_))
   refine TLn (E_sv 0 TryI.inf31) (fun _=>?_)
   obtain ⟨m_2,hm_2,H⟩:=ltt_elim H
   refine TL_reE (j:=0) (A:=some (b1,0)) (cs:=e32 ((#v[3195661986#32,2200194197#32,1237151654#32,1184463260#32,728493145#32,675656249#32,4091106848#32,1726033300#32]:Vx 32 8).toList)) (cs':=e32 m_2.toList) rfl (congrArg (fun z:Vx 32 8=>e32 (Vector.toList z)) hm_2) ?_
   refine TL_nil (TX_next (TC_ret (TX_block_ret (TX_then_ret ?_))))
   have hrv:=Option.some.inj H
   subst hrv
   exact TX_ret (rs:=[.cell 2 31]) (vs:=[aG [(8,e32 m_2.toList)]]) rfl ⟨(Res_agg (n:=8) rfl (by simp) (.o 0) Try.isAgg31 TryI.inf31 rfl (lenV (f:=v32) m_2)),trivial⟩ (fun w' hs'=>⟨(),rfl,Step.left (Step.pulled (is:=[]) (A:=[]) hs' rfl)⟩)
  ·replace H:=ite_f (Bool.eq_false_iff.1 hc) H
   refine TC_skip (TX_block_normal (TX_next (TC_seq (TC_region (TLv (V_buildArr (pv:=[(0,v32 1444#32),(1,v32 0#32),(2,v32 0#32),(3,v32 0#32),(4,v32 0#32),(5,v32 0#32),(6,v32 0#32),(7,v32 0#32)]) rfl rfl Try.underlying31 TryI.inf31 TryI.inf29 rfl TryI.zer31 (cs:=e32 ((#v[1444#32,0#32,0#32,0#32,0#32,0#32,0#32,0#32]:Vx 32 8).toList)) (by kernel_rfl)) ?_)))))
   refine TLn (E_sv 0 TryI.inf31) (fun _=>?_)
   obtain ⟨m_3,hm_3,H⟩:=ltt_elim H
   refine TL_reE (j:=0) (A:=some (b1,0)) (cs:=e32 ((#v[1444#32,0#32,0#32,0#32,0#32,0#32,0#32,0#32]:Vx 32 8).toList)) (cs':=e32 m_3.toList) rfl (congrArg (fun z:Vx 32 8=>e32 (Vector.toList z)) hm_3) ?_
   refine TL_nil (TX_next (TC_ret ?_))
   have hrv:=Option.some.inj H
   subst hrv
   exact TX_ret (rs:=[.cell 2 31]) (vs:=[aG [(8,e32 m_3.toList)]]) rfl ⟨(Res_agg (n:=8) rfl (by simp) (.o 0) Try.isAgg31 TryI.inf31 rfl (lenV (f:=v32) m_3)),trivial⟩ (fun w' hs'=>⟨(),rfl,Step.left (Step.pulled (is:=[]) (A:=[]) hs' rfl)⟩)
end Go.Proofs
end

section
namespace Go.Proofs
open Go Go.Kx
open Vector (replicate)
def halberdref9_into (which:Int) (a_:Vx 32 8):Option (Vx 32 8) :=
 (halberdref9_square which).bind fun (r_1:Vx 32 8)=>((halberdref9_mont which a_ r_1).bind fun (r_2:Vx 32 8)=>(some r_2))
set_option maxHeartbeats 4000000 in
set_option maxRecDepth 20000 in
theorem F46_calls (which:Int) (a_:Vx 32 8) (r:Vx 32 8) (H:halberdref9_into which a_=some r) :
  Does Try.prog 46 [vi which,aG [(8,e32 a_.toList)]] [] [] (Γ:=Unit) (fun g=>aG [(8,e32 r.toList)]) (fun g=>[]):=by
 intro w hmem hro hd
 refine calls_of (N:=10) (m0:=[(0,vi which),(1,aG [(8,e32 a_.toList)])]) Try.func46 rfl Try.ntmps46 (argM_ok [vi which,aG [(8,e32 a_.toList)]]) rfl hmem hro hd ?_
 unfold halberdref9_into at H
 refine TC_seq (TC_region (TLe (E_boxP [(8,e32 a_.toList)] rfl rfl ⟨(lenV (f:=v32) a_),trivial⟩) (fun b1=>?_)))
 refine TLe (E_al32 8 TryI.inf31 TryI.zer31) (fun b2=>?_)
 refine TL_nil (TX_next (TC_seq ?_))
 obtain ⟨r_1,hr_1,H⟩:=bind_elim H
 obtain ⟨r_2,hr_2,H⟩:=bind_elim H
 refine TA_begin [] 6 (by kernel_rfl) (N:=6) rfl ?_
 refine TA_mix (is:=[]) (done':=dn 6 31) [itV 0 5 (vi which) [],itV 1 6 (aG [(8,e32 a_.toList)]) [],itV 2 7 (vi which) [],itV 3 8 (aG [(8,e32 r_1.toList)]) [2],itV 4 9 (aG [(8,e32 r_2.toList)]) [3,0,1]] [] 1 (by kernel_rfl) (QP.then QP.body) (by kernel_rfl) rfl (.v rfl (V_move rfl) (.v rfl (V_lag (.o 1) Try.isAgg31 TryI.inf31) (.v rfl (V_move rfl) (.e rfl (E_cu (F80_calls which r_1 hr_1) Try.call80 .z) (.e rfl (E_cu (F47_calls which a_ r_1 r_2 hr_2) Try.call47 .z) .nil))))) .nil (by kernel_rfl) rfl (fun γ=>?_)
 refine TA_cut [(9,aG [(8,e32 r_2.toList)]),(4,ptr (some (b2,0)) 0)] [⟨some (b2,0),e32 ((replicate 8 0#32).toList)⟩,⟨some (b1,0),e32 a_.toList⟩] ⟨rfl,rfl,trivial⟩ rfl ?_
 refine TA_all (rs:=[5]) (by kernel_rfl) rfl ?_
 refine ⟨?_,trivial⟩
 refine TO_n (is:=[]) (done':=dn 6 63) rfl rfl rfl (by kernel_rfl) (E_sv (vs:=e32 r_2.toList) 0 TryI.inf31) (fun _ _=>rfl) (fun _=>?_)
 refine TA_done (by kernel_rfl) ?_ 0
 refine TX_next (TC_ret ?_)
 have hrv:=Option.some.inj H
 subst hrv
 exact TX_ret (rs:=[.cell 4 31]) (vs:=[aG [(8,e32 r_2.toList)]]) rfl ⟨(Res_agg (n:=8) rfl (by simp) (.o 0) Try.isAgg31 TryI.inf31 rfl (lenV (f:=v32) r_2)),trivial⟩ (fun w' hs'=>⟨(),rfl,Step.left (Step.pulled (is:=[]) (A:=[]) hs' rfl)⟩)
end Go.Proofs
end

section
namespace Go.Proofs
open Go Go.Kx
open Vector (replicate)
def halberdref9_out (which:Int) (a_:Vx 32 8):Option (Vx 32 8) :=
 (halberdref9_mont which a_ (vp (replicate 8 0#32) 0 1#32:Vx 32 8)).bind fun (r_1:Vx 32 8)=>(some r_1)
set_option maxHeartbeats 4000000 in
set_option maxRecDepth 20000 in
theorem F92_calls (which:Int) (a_:Vx 32 8) (r:Vx 32 8) (H:halberdref9_out which a_=some r) :
  Does Try.prog 92 [vi which,aG [(8,e32 a_.toList)]] [] [] (Γ:=Unit) (fun g=>aG [(8,e32 r.toList)]) (fun g=>[]):=by
 intro w hmem hro hd
 refine calls_of (N:=9) (m0:=[(0,vi which),(1,aG [(8,e32 a_.toList)])]) Try.func92 rfl Try.ntmps92 (argM_ok [vi which,aG [(8,e32 a_.toList)]]) rfl hmem hro hd ?_
 unfold halberdref9_out at H
 refine TC_seq (TC_region (TLe (E_boxP [(8,e32 a_.toList)] rfl rfl ⟨(lenV (f:=v32) a_),trivial⟩) (fun b1=>?_)))
 refine TLe (E_al32 8 TryI.inf31 TryI.zer31) (fun b2=>?_)
 refine TL_nil (TX_next (TC_seq (TC_region (TLv (V_move rfl) ?_))))
 refine TLv (V_lag (.o 1) Try.isAgg31 TryI.inf31) ?_
 refine TLv (V_buildArr (pv:=[(0,v32 1#32)]) rfl rfl Try.underlying31 TryI.inf31 TryI.inf29 rfl TryI.zer31 (cs:=e32 ((vp (replicate 8 0#32) 0 1#32:Vx 32 8).toList)) (by kernel_rfl)) ?_
 obtain ⟨r_1,hr_1,H⟩:=bind_elim H
 refine TLe (E_c0 (F47_calls which a_ (vp (replicate 8 0#32) 0 1#32:Vx 32 8) r_1 hr_1) Try.call47 .z) (fun g_1=>?_)
 refine TLn (E_sv (vs:=e32 r_1.toList) 0 TryI.inf31) (fun _=>?_)
 refine TL_nil (TX_next (TC_ret ?_))
 have hrv:=Option.some.inj H
 subst hrv
 exact TX_ret (rs:=[.cell 4 31]) (vs:=[aG [(8,e32 r_1.toList)]]) rfl ⟨(Res_agg (n:=8) rfl (by simp) (.o 0) Try.isAgg31 TryI.inf31 rfl (lenV (f:=v32) r_1)),trivial⟩ (fun w' hs'=>⟨(),rfl,Step.left (Step.pulled (is:=[]) (A:=[]) hs' rfl)⟩)
end Go.Proofs
end

section
namespace Go.Proofs
open Go Go.Kx
open Vector (replicate)
def halberdref9_power.b0 (which:Int) (a_:Vx 32 8) (r_2:Vx 32 8) (s0:Int × Vx 32 8):Option ((Int × Vx 32 8) ⊕ (Vx 32 8)) :=
 if 0≤s0.1 then ((halberdref9_mont which s0.2 s0.2).bind fun (r_4:Vx 32 8)=>(if 0≤w64 (s0.1.tdiv 32)∧w64 (s0.1.tdiv 32)<(8:Int) then (if 0≤s0.1.tmod 32 then (if (((vg r_2 ((w64 (s0.1.tdiv 32)).toNat)) >>> (s0.1.tmod 32).toNat) &&& 1#32)=1#32 then ((halberdref9_mont which r_4 a_).bind fun (r_5:Vx 32 8)=>(ltt (w64 (s0.1 - 1)) fun (i1:Int)=>(some (.inl (i1,r_5))))) else (ltt (w64 (s0.1 - 1)) fun (i2:Int)=>(some (.inl (i2,r_4))))) else none) else none)) else (some (.inr s0.2))
def halberdref9_power (which:Int) (a_:Vx 32 8):Option (Vx 32 8) :=
 (halberdref9_modulus which).bind fun (r_1:Vx 32 8)=>((halberdref9_minus r_1 (vp (replicate 8 0#32) 0 2#32:Vx 32 8)).bind fun (r_2:Vx 32 8)=>((halberdref9_into which (vp (replicate 8 0#32) 0 1#32:Vx 32 8)).bind fun (r_3:Vx 32 8)=>((loop (halberdref9_power.b0 which a_ r_2) BIG (255,r_3)).bind fun (t_1:Vx 32 8)=>(some t_1))))
set_option maxHeartbeats 4000000 in
set_option maxRecDepth 20000 in
theorem F91_calls (which:Int) (a_:Vx 32 8) (r:Vx 32 8) (H:halberdref9_power which a_=some r) :
  Does Try.prog 91 [vi which,aG [(8,e32 a_.toList)]] [] [] (Γ:=Unit) (fun g=>aG [(8,e32 r.toList)]) (fun g=>[]):=by
 intro w hmem hro hd
 refine calls_of (N:=37) (m0:=[(0,vi which),(1,aG [(8,e32 a_.toList)])]) Try.func91 rfl Try.ntmps91 (argM_ok [vi which,aG [(8,e32 a_.toList)]]) rfl hmem hro hd ?_
 unfold halberdref9_power at H
 refine TC_seq (TC_region (TLe (E_boxP [(8,e32 a_.toList)] rfl rfl ⟨(lenV (f:=v32) a_),trivial⟩) (fun b1=>?_)))
 refine TLe (E_al32 8 TryI.inf31 TryI.zer31) (fun b2=>?_)
 refine TL_nil (TX_next (TC_seq (TC_region (TLv (V_move rfl) ?_))))
 obtain ⟨r_1,hr_1,H⟩:=bind_elim H
 refine TLe (E_c0 (F79_calls which r_1 hr_1) Try.call79 .z) (fun g_1=>?_)
 refine TLv (V_buildArr (pv:=[(0,v32 2#32)]) rfl rfl Try.underlying31 TryI.inf31 TryI.inf29 rfl TryI.zer31 (cs:=e32 ((vp (replicate 8 0#32) 0 2#32:Vx 32 8).toList)) (by kernel_rfl)) ?_
 obtain ⟨r_2,hr_2,H⟩:=bind_elim H
 refine TLe (E_c0 (F82_calls r_1 (vp (replicate 8 0#32) 0 2#32:Vx 32 8) r_2 hr_2) Try.call82 .z) (fun g_2=>?_)
 refine TLe (E_al32 8 TryI.inf31 TryI.zer31) (fun b3=>?_)
 refine TLn (E_sv (vs:=e32 r_2.toList) 0 TryI.inf31) (fun _=>?_)
 refine TL_nil (TX_next (TC_seq (TC_region (TLv (V_move rfl) ?_))))
 refine TLv (V_buildArr (pv:=[(0,v32 1#32)]) rfl rfl Try.underlying31 TryI.inf31 TryI.inf29 rfl TryI.zer31 (cs:=e32 ((vp (replicate 8 0#32) 0 1#32:Vx 32 8).toList)) (by kernel_rfl)) ?_
 obtain ⟨r_3,hr_3,H⟩:=bind_elim H
 refine TLe (E_c0 (F46_calls which (vp (replicate 8 0#32) 0 1#32:Vx 32 8) r_3 hr_3) Try.call46 .z) (fun g_3=>?_)
 refine TLe (E_al32 8 TryI.inf31 TryI.zer31) (fun b4=>?_)
 refine TLn (E_sv (vs:=e32 r_3.toList) 0 TryI.inf31) (fun _=>?_)
 refine TL_nil (TX_next (TC_seq (TC_seq (TC_region (TLv (V_assign rfl) ?_)))))
 refine TL_nil (TX_next (TC_block ?_))
 obtain ⟨t_1,Hl,H⟩:=bind_elim H
 refine TC.sub (m':=[(0,vi which),(3,ptr (some (b1,0)) 0),(4,ptr (some (b2,0)) 0),(5,ptr (some (b3,0)) 0),(6,ptr (some (b4,0)) 0),(7,vi 255)]) ⟨rfl,rfl,rfl,rfl,rfl,rfl,trivial⟩ ?_
 refine TC.pull (is:=[3,2,1,0]) (L':=[⟨some (b1,0),e32 a_.toList⟩,⟨some (b2,0),e32 ((replicate 8 0#32).toList)⟩,⟨some (b3,0),e32 r_2.toList⟩,⟨some (b4,0),e32 r_3.toList⟩]) rfl ?_
 refine TC_loopL (id:=0) (body:=(halberdref9_power.b0 which a_ r_2)) (σ:=Int × Vx 32 8) (Γ:=Unit) (Γx:=Unit) (fun s0 g0_=>[(0,vi which),(3,ptr (some (b1,0)) 0),(4,ptr (some (b2,0)) 0),(5,ptr (some (b3,0)) 0),(6,ptr (some (b4,0)) 0),(7,vi s0.1)]) (fun s0 g0_=>[⟨some (b1,0),e32 a_.toList⟩,⟨some (b2,0),e32 ((replicate 8 0#32).toList)⟩,⟨some (b3,0),e32 r_2.toList⟩,⟨some (b4,0),e32 s0.2.toList⟩]) (fun t g=>[(4,ptr (some (b2,0)) 0),(6,ptr (some (b4,0)) 0)]) (fun t g=>[⟨some (b2,0),e32 ((replicate 8 0#32).toList)⟩,⟨some (b4,0),e32 t.toList⟩]) ?_ BIG (255,r_3) () t_1 Hl ?_
 ·intro s0 g0_ r1 H K hK hE
  unfold halberdref9_power.b0 at H
  refine TC_seq (TC_seq (TC_region (TLv (V_move rfl) ?_)))
  refine TLv (V_bin rfl rfl (fun w=>geqI w s0.1 0)) ?_
  refine TL_nil (TX_next (TC_cond (b:=(decide (0≤s0.1))) rfl (fun hc=>?_) (fun hc=>?_)))
  ·replace H:=ite_t (of_decide_eq_true hc) H
   refine TC_skip (TX_next (TC_seq (TC_block (TC_seq (TC_region (TLv (V_move rfl) ?_))))))
   refine TLv (V_lag (.o 3) Try.isAgg31 TryI.inf31) ?_
   refine TLv (V_lag (.o 3) Try.isAgg31 TryI.inf31) ?_
   obtain ⟨r_4,hr_4,H⟩:=bind_elim H
   refine TLe (E_c0 (F47_calls which s0.2 s0.2 r_4 hr_4) Try.call47 .z) (fun g_4=>?_)
   refine TLn (E_sv (vs:=e32 r_4.toList) 3 TryI.inf31) (fun _=>?_)
   refine TL_nil (TX_next (TC_seq (TC_region (TLv (V_move rfl) ?_))))
   refine TLv (V_bin rfl rfl (fun w=>quoI w s0.1 32 (by decide))) ?_
   obtain ⟨h1,H⟩:=if_elim H
   refine TLv (V_idxArr (i:=w64 (s0.1.tdiv 32)) rfl rfl Try.underlying31 TryI.inf29 rfl h1.1 h1.2 (k:=(w64 (s0.1.tdiv 32)).toNat) (k01 _)) ?_
   refine TLv (V_load rfl (.o 2) (get_vec (f:=v32) (V:=r_2) (toNat_lt h1.1 h1.2)) Try.isAgg29) ?_
   refine TLv (V_move rfl) ?_
   refine TLv (V_bin rfl rfl (fun w=>remI w s0.1 32 (by decide))) ?_
   obtain ⟨h2,H⟩:=if_elim H
   refine TLv (V_bin rfl rfl (fun w=>shr32 w (vg r_2 ((w64 (s0.1.tdiv 32)).toNat)) .i64 (s0.1.tmod 32) h2)) ?_
   refine TLv (V_bin rfl rfl (fun w=>and32 w ((vg r_2 ((w64 (s0.1.tdiv 32)).toNat)) >>> (s0.1.tmod 32).toNat) 1#32)) ?_
   refine TLv (V_bin rfl rfl (fun w=>eql32 w (((vg r_2 ((w64 (s0.1.tdiv 32)).toNat)) >>> (s0.1.tmod 32).toNat) &&& 1#32) 1#32)) ?_
   refine TL_nil (TX_next (TC_cond (b:=(decide ((((vg r_2 ((w64 (s0.1.tdiv 32)).toNat)) >>> (s0.1.tmod 32).toNat) &&& 1#32)=1#32))) rfl (fun hc=>?_) (fun hc=>?_)))
   ·replace H:=ite_t (of_decide_eq_true hc) H
    refine TC_region (TLv (V_move rfl) ?_)
    refine TLv (V_lag (.o 3) Try.isAgg31 TryI.inf31) ?_
    refine TLv (V_lag (.o 0) Try.isAgg31 TryI.inf31) ?_
    obtain ⟨r_5,hr_5,H⟩:=bind_elim H
    refine TLe (E_c0 (F47_calls which r_4 a_ r_5 hr_5) Try.call47 .z) (fun g_5=>?_)
    refine TLn (E_sv (vs:=e32 r_5.toList) 3 TryI.inf31) (fun _=>?_)
    refine TL_nil (TX_block_normal (TX_next (TC_region (TLv (V_move rfl) ?_))))
    refine TLv (V_bin rfl rfl (fun w=>subI w s0.1 1)) ?_
    refine TLv (V_assign rfl) ?_
    obtain ⟨i1,hi1,H⟩:=ltt_elim H
    refine TL_re (d:=7) (v:=vi (w64 (s0.1 - 1))) (v':=vi i1) rfl (congrArg vi hi1) ?_
    refine TL_nil (TX.sub (m':=[(0,vi which),(3,ptr (some (b1,0)) 0),(4,ptr (some (b2,0)) 0),(5,ptr (some (b3,0)) 0),(6,ptr (some (b4,0)) 0),(7,vi i1)]) ⟨rfl,rfl,rfl,rfl,rfl,rfl,trivial⟩ ?_)
    refine TX.pull (is:=[0,0,0,0]) (L':=[⟨some (b1,0),e32 a_.toList⟩,⟨some (b2,0),e32 ((replicate 8 0#32).toList)⟩,⟨some (b3,0),e32 r_2.toList⟩,⟨some (b4,0),e32 r_5.toList⟩]) rfl ?_
    obtain rfl:=Option.some.inj H
    exact fun a w hs=>hK (i1,r_5) rfl () a w hs
   ·replace H:=ite_f (of_decide_eq_false hc) H
    refine TC_skip (TX_block_normal (TX_next (TC_region (TLv (V_move rfl) ?_))))
    refine TLv (V_bin rfl rfl (fun w=>subI w s0.1 1)) ?_
    refine TLv (V_assign rfl) ?_
    obtain ⟨i2,hi2,H⟩:=ltt_elim H
    refine TL_re (d:=7) (v:=vi (w64 (s0.1 - 1))) (v':=vi i2) rfl (congrArg vi hi2) ?_
    refine TL_nil (TX.sub (m':=[(0,vi which),(3,ptr (some (b1,0)) 0),(4,ptr (some (b2,0)) 0),(5,ptr (some (b3,0)) 0),(6,ptr (some (b4,0)) 0),(7,vi i2)]) ⟨rfl,rfl,rfl,rfl,rfl,rfl,trivial⟩ ?_)
    refine TX.pull (is:=[0,0,0,0]) (L':=[⟨some (b1,0),e32 a_.toList⟩,⟨some (b2,0),e32 ((replicate 8 0#32).toList)⟩,⟨some (b3,0),e32 r_2.toList⟩,⟨some (b4,0),e32 r_4.toList⟩]) rfl ?_
    obtain rfl:=Option.some.inj H
    exact fun a w hs=>hK (i2,r_4) rfl () a w hs
  ·replace H:=ite_f (of_decide_eq_false hc) H
   refine TC_exit (TX_then_exit (TX_then_exit (TX.sub (m':=[(4,ptr (some (b2,0)) 0),(6,ptr (some (b4,0)) 0)]) ⟨rfl,rfl,trivial⟩ ?_)))
   refine TX.pull (is:=[1,2]) (L':=[⟨some (b2,0),e32 ((replicate 8 0#32).toList)⟩,⟨some (b4,0),e32 s0.2.toList⟩]) rfl ?_
   obtain rfl:=Option.some.inj H
   exact hE s0.2 rfl ()
 ·intro g
  refine TX_block_exit (TX_next (TC_seq (TC_region (TLv (V_lag (.o 1) Try.isAgg31 TryI.inf31) ?_))))
  refine TLn (E_sv (vs:=e32 t_1.toList) 0 TryI.inf31) (fun _=>?_)
  refine TL_nil (TX_next (TC_ret ?_))
  have hrv:=Option.some.inj H
  subst hrv
  exact TX_ret (rs:=[.cell 4 31]) (vs:=[aG [(8,e32 t_1.toList)]]) rfl ⟨(Res_agg (n:=8) rfl (by simp) (.o 0) Try.isAgg31 TryI.inf31 rfl (lenV (f:=v32) t_1)),trivial⟩ (fun w' hs'=>⟨(),rfl,Step.left (Step.pulled (is:=[]) (A:=[]) hs' rfl)⟩)
end Go.Proofs
end

section
namespace Go.Kx
open Go Go.Proofs
open Vector (replicate)
structure Rd (m:Nat) (which:Int):Prop where
 md:Md m
 mod : ∃ M,halberdref9_modulus which=some M∧n8 M=m ∧ ∃ inv,halberdref9_inverse which=some inv∧(wv M 0 * inv.toNat+1) % 2 ^ 32=0
 sq : ∃ q,halberdref9_square which=some q∧n8 q=2 ^ 512 % m
section
variable {m:Nat} {which:Int} {x y:Vx 32 8} {a b:Nat}
theorem Rd.mul0 (F:Rd m which) (hx:n8 x<m) : ∃ r,halberdref9_mont which x y=some r∧n8 r<m∧(n8 r * 2 ^ 256) % m=(n8 x * n8 y) % m:=by
 obtain ⟨M,h1,h2,inv,h3,h4⟩:=F.mod
 have:=ref_mont_ex which M inv h1 h3 h4 x y (by rw [h2]; exact Nat.mul_lt_mul_of_lt_of_le hx (Nat.le_of_lt (n8_lt y)) (by decide))
 rwa [h2] at this
theorem Rd.mul (F:Rd m which) (hx:R8 m x a) (hy:R8 m y b) : ∃ r,halberdref9_mont which x y=some r∧R8 m r (a * b % m):=by
 obtain ⟨r,h1,h2,h3⟩:=F.mul0 (y:=y) (hx.lt F.md)
 exact ⟨r,h1,Nat.mod_lt _ (by have:=F.md.two; omega),prod_rep F.md hx.2 hy.2 h2 h3⟩
theorem Rd.into (F:Rd m which) (hx:n8 x<m) : ∃ r,halberdref9_into which x=some r∧R8 m r (n8 x):=by
 obtain ⟨q,h0,hq⟩:=F.sq
 obtain ⟨r,h1,h2,h3⟩:=F.mul0 (y:=q) hx
 refine ⟨r,?_,hx,in_rep F.md hx h2 (by rw [h3,hq])⟩
 unfold halberdref9_into
 exact bind_i h0 (bind_i h1 rfl)
theorem n8_one:n8 (vp (replicate 8 0#32) 0 1#32)=1:=by decide
theorem n8_two:n8 (vp (replicate 8 0#32) 0 2#32)=2:=by decide
theorem Rd.out (F:Rd m which) (hx:R8 m x a) : ∃ r,halberdref9_out which x=some r∧n8 r=a:=by
 obtain ⟨r,h1,h2,h3⟩:=F.mul0 (y:=(vp (replicate 8 0#32) 0 1#32)) (hx.lt F.md)
 rw [n8_one] at h3
 refine ⟨r,?_,out_rep F.md hx.1 hx.2 h2 h3⟩
 unfold halberdref9_out
 exact bind_i h1 rfl
theorem Rd.unit (F:Rd m which) : ∃ r,halberdref9_into which (vp (replicate 8 0#32) 0 1#32)=some r∧R8 m r (1 % m):=by
 have:=F.into (x:=vp (replicate 8 0#32) 0 1#32) (by rw [n8_one]; have:=F.md.two; omega)
 rw [n8_one] at this
 rwa [Nat.mod_eq_of_lt (by have:=F.md.two; omega)]
theorem Rd.add0 (F:Rd m which) (hx:n8 x<m) (hy:n8 y<m) : ∃ r,halberdref9_add which x y=some r∧n8 r=(n8 x+n8 y) % m:=by
 obtain ⟨M,h0,hM, -⟩:=F.mod
 obtain ⟨⟨s,c⟩,h1,e1,l1⟩:=ref_plus_ex x y
 obtain ⟨d,h2,b',l2,e2⟩:=ref_minus_ex s M
 dsimp only at e1 l1
 have hmlt:=F.md.lt
 have:=n8_lt s
 have:=n8_lt d
 rw [hM] at e2
 have hls:=ref_less_eq s M
 rw [hM] at hls
 unfold halberdref9_add
 by_cases hc:c=1#64
 ·have hc':c.toNat=1:=by rw [hc]; rfl
  refine ⟨d,bind_i h0 (bind_i h1 (bind_i (if_i hc rfl) (if_i rfl (bind_i h2 rfl)))),?_⟩
  rw [show n8 x+n8 y=n8 d+m by omega,Nat.add_mod_right,Nat.mod_eq_of_lt (by omega)]
 ·have hc':c.toNat=0:=by
   have:c.toNat ≠ 1:=fun h=>hc (BitVec.eq_of_toNat_eq h)
   omega
  by_cases hb:n8 s<m
  ·refine ⟨s,bind_i h0 (bind_i h1 (bind_i (v:=false) (if_n hc (bind_i hls (by simp [hb]))) (if_n (by decide) rfl))),?_⟩
   rw [show n8 x+n8 y=n8 s by omega,Nat.mod_eq_of_lt (by omega)]
  ·refine ⟨d,bind_i h0 (bind_i h1 (bind_i (v:=true) (if_n hc (bind_i hls (by simp [hb]))) (if_i rfl (bind_i h2 rfl)))),?_⟩
   rw [show n8 x+n8 y=n8 d+m by omega,Nat.add_mod_right,Nat.mod_eq_of_lt (by omega)]
theorem Rd.add (F:Rd m which) (hx:R8 m x a) (hy:R8 m y b) : ∃ r,halberdref9_add which x y=some r∧R8 m r ((a+b) % m):=by
 obtain ⟨r,h1,h2⟩:=F.add0 (hx.lt F.md) (hy.lt F.md)
 exact ⟨r,h1,Nat.mod_lt _ (by have:=F.md.two; omega),by rw [h2,hx.2,hy.2,add_rep]⟩
theorem Rd.sub0 (F:Rd m which) (hx:n8 x<m) (hy:n8 y<m) : ∃ r,halberdref9_sub which x y=some r∧n8 r=(n8 x+(m - n8 y)) % m:=by
 obtain ⟨M,h0,hM, -⟩:=F.mod
 obtain ⟨⟨s,c⟩,h1,e1,l1⟩:=ref_plus_ex x M
 dsimp only at e1 l1
 have hmlt:=F.md.lt
 have:=n8_lt s
 rw [hM] at e1
 have hls:=ref_less_eq x y
 unfold halberdref9_sub
 rw [sub_mod_eq hx hy]
 by_cases hc:n8 x<n8 y
 ·obtain ⟨d,h2,b',l2,e2⟩:=ref_minus_ex s y
  have:=n8_lt d
  refine ⟨d,bind_i hls (if_i (by simp [hc]) (bind_i h0 (bind_i h1 (bind_i h2 rfl)))),?_⟩
  rw [if_neg (by omega)]; omega
 ·obtain ⟨d,h2,b',l2,e2⟩:=ref_minus_ex x y
  have:=n8_lt d
  refine ⟨d,bind_i hls (if_n (by simp [hc]) (bind_i h2 rfl)),?_⟩
  rw [if_pos (by omega)]; omega
theorem Rd.sub (F:Rd m which) (hx:R8 m x a) (hy:R8 m y b) : ∃ r,halberdref9_sub which x y=some r∧R8 m r ((a+(m - b)) % m):=by
 obtain ⟨r,h1,h2⟩:=F.sub0 (hx.lt F.md) (hy.lt F.md)
 exact ⟨r,h1,Nat.mod_lt _ (by have:=F.md.two; omega),by rw [h2,hx.2,hy.2,sub_rep (by have:=F.md.two; omega) hy.1]⟩
theorem R8.zero (hm:Md m) (hx:R8 m x a):x=replicate 8 0#32 ↔ a=0:=R8.inj hm hx (R8_zero hm)
theorem Rd.power (F:Rd m which) (hx:R8 m x a) : ∃ r,halberdref9_power which x=some r∧R8 m r (a ^ (m - 2) % m):=by
 obtain ⟨M,h0,hM, -⟩:=F.mod
 obtain ⟨e,h1,c,l1,e1⟩:=ref_minus_ex M (vp (replicate 8 0#32) 0 2#32)
 rw [hM,n8_two] at e1
 have hmt:=F.md.two
 have hmlt:=F.md.lt
 have:=n8_lt e
 have he:n8 e=m - 2:=by omega
 obtain ⟨one,h2,hone⟩:=F.unit
 have key : ∃ r,loop (halberdref9_power.b0 which x e) BIG (255,one)=some r∧R8 m r (a ^ (m - 2) % m):=by
  refine loop_inv 256 (fun k s=>s.1=255 - (k:Int)∧R8 m s.2 (a ^ ((m - 2) / 2 ^ (256 - k)) % m)) _ (by decide) ⟨rfl,?_⟩ ?_ ?_
  ·dsimp only
   rw [Nat.div_eq_of_lt (by rw [Nat.sub_zero]; omega),Nat.pow_zero]
   exact hone
  ·rintro k ⟨i,o⟩ hk ⟨hi,ho⟩
   dsimp only at hi ho
   obtain ⟨j,hj⟩ : ∃ j,j=255 - k:=⟨_,rfl⟩
   have hi':i=(j:Int):=by omega
   rw [show 256 - k=j+1 by omega] at ho
   obtain ⟨r,hr,hR⟩:=F.mul ho ho
   rw [pow_dbl] at hR
   have hbit:=bit8 e j (by omega)
   rw [he] at hbit
   have hh:=half_eq (m - 2) j
   subst hi'
   have w1:w64 ((j:Int) - 1)=255 - ((k+1:Nat):Int):=by rw [w64_id (by omega) (by omega)]; omega
   have w2:w64 ((j:Int).tdiv 32)=((j / 32:Nat):Int):=w64_div (b:=32) (by omega)
   have w3:(j:Int).tmod 32=((j % 32:Nat):Int):=tmodN' j 32
   unfold halberdref9_power.b0
   dsimp only
   rw [w2,w3]
   simp only [Int.toNat_natCast]
   clear w2 w3
   by_cases hb:(vg e (j / 32) >>> (j % 32)) &&& 1#32=1#32
   ·obtain ⟨r2,hr2,hR2⟩:=F.mul hR hx
    rw [pow_dbl1] at hR2
    refine ⟨(255 - ((k+1:Nat):Int),r2),if_i (by omega) (bind_i hr (if_i (by omega) (if_i (by omega) (if_i hb (bind_i hr2 (ltt_i fun v hv=>by rw [hv,w1])))))),rfl,?_⟩
    dsimp only
    rw [show 256 - (k+1)=j by omega,hh,hbit.1 hb]
    exact hR2
   ·refine ⟨(255 - ((k+1:Nat):Int),r),if_i (by omega) (bind_i hr (if_i (by omega) (if_i (by omega) (if_n hb (ltt_i fun v hv=>by rw [hv,w1]))))),rfl,?_⟩
    dsimp only
    have h0:(m - 2) / 2 ^ j % 2=0:=by
     have : ¬ ((m - 2) / 2 ^ j % 2=1):=fun h=>hb (hbit.2 h)
     omega
    rw [show 256 - (k+1)=j by omega,hh,h0,Nat.add_zero]
    exact hR
  ·rintro ⟨i,o⟩ ⟨hi,ho⟩
   dsimp only at hi ho
   subst hi
   refine ⟨o,by unfold halberdref9_power.b0; exact if_n (by dsimp only; omega) rfl,?_⟩
   rw [Nat.sub_self,Nat.pow_zero,Nat.div_one] at ho
   exact ho
 obtain ⟨r,h3,hR⟩:=key
 refine ⟨r,?_,hR⟩
 unfold halberdref9_power
 exact bind_i h0 (bind_i h1 (bind_i h2 (bind_i h3 rfl)))
end
open Go.Nt in
theorem md_P:Md P256:=⟨by decide,by decide,115792089183396302114378112356516095823261736990586219612555396166510339686400,by decide⟩
end Go.Kx
end

section
namespace Go.Proofs
open Go Go.Kx
open Vector (replicate)
def num_modulus (which:Int):Option (Vx 64 4 × Bool) :=
 ltt (decide (which=0)) fun (x1:Bool)=>(if x1=true then (ltt ((#v[18446744073709551615#64,4294967295#64,0#64,18446744069414584321#64]:Vx 64 4)) fun (m_1:Vx 64 4)=>(some (m_1,true))) else (ltt (decide (which=1)) fun (x2:Bool)=>(if x2=true then (ltt ((#v[17562291160714782033#64,13611842547513532036#64,18446744073709551615#64,18446744069414584320#64]:Vx 64 4)) fun (m_2:Vx 64 4)=>(some (m_2,true))) else (ltt (decide (which=2)) fun (x3:Bool)=>(if x3=true then (ltt ((#v[18446744073709551597#64,18446744073709551615#64,18446744073709551615#64,9223372036854775807#64]:Vx 64 4)) fun (m_3:Vx 64 4)=>(some (m_3,true))) else (ltt ((replicate 4 0#64:Vx 64 4)) fun (m_4:Vx 64 4)=>(some (m_4,false))))))))
set_option maxHeartbeats 4000000 in
set_option maxRecDepth 20000 in
theorem F84_calls (which:Int) (r:Vx 64 4 × Bool) (H:num_modulus which=some r) :
  Does Try.prog 84 [vi which] [] [] (Γ:=Unit) (fun g=>Value.tuple [aG [(4,e64 r.1.toList)],vb r.2].toArray) (fun g=>[]):=by
 intro w hmem hro hd
 refine calls_of (N:=15) (m0:=[(0,vi which)]) Try.func84 rfl Try.ntmps84 (argM_ok [vi which]) rfl hmem hro hd ?_
 unfold num_modulus at H
 refine TC_seq (TC_region (TLe (E_al64 4 TryI.inf57 TryI.zer57) (fun b1=>?_)))
 refine TLv (V_assign rfl) ?_
 refine TL_nil (TX_next (TC_seq (TC_seq (TC_region (TLv (V_move rfl) ?_)))))
 refine TL_nil (TX_next (TC_block (TC_seq (TC_region (TLv (V_bin rfl rfl (fun w=>eqlI w which 0)) ?_)))))
 refine TLv (V_assign rfl) ?_
 obtain ⟨x1,hx1,H⟩:=ltt_elim H
 refine TL_re (d:=5) (v:=vb (decide (which=0))) (v':=vb x1) rfl (congrArg vb hx1) ?_
 refine TL_nil (TX_next (TC_cond (b:=x1) rfl (fun hc=>?_) (fun hc=>?_)))
 ·replace H:=ite_t hc H
  refine TC_seq (TC_region (TLv (V_buildArr (pv:=[(0,v64 18446744073709551615#64),(1,v64 4294967295#64),(2,v64 0#64),(3,v64 18446744069414584321#64)]) rfl rfl Try.underlying57 TryI.inf57 TryI.inf55 rfl TryI.zer57 (cs:=e64 ((#v[18446744073709551615#64,4294967295#64,0#64,18446744069414584321#64]:Vx 64 4).toList)) (by kernel_rfl)) ?_))
  refine TLn (E_sv 0 TryI.inf57) (fun _=>?_)
  obtain ⟨m_1,hm_1,H⟩:=ltt_elim H
  refine TL_reE (j:=0) (A:=some (b1,0)) (cs:=e64 ((#v[18446744073709551615#64,4294967295#64,0#64,18446744069414584321#64]:Vx 64 4).toList)) (cs':=e64 m_1.toList) rfl (congrArg (fun z:Vx 64 4=>e64 (Vector.toList z)) hm_1) ?_
  refine TLv (V_assign rfl) ?_
  refine TL_nil (TX_next (TC_ret (TX_block_ret (TX_then_ret ?_))))
  have hrv:=Option.some.inj H
  subst hrv
  exact TX_ret (rs:=[.cell 2 57, .tmp 3]) (vs:=[aG [(4,e64 m_1.toList)],vb true]) rfl ⟨(Res_agg (n:=4) rfl (by simp) (.o 0) Try.isAgg57 TryI.inf57 rfl (lenV (f:=v64) m_1)),rfl,trivial⟩ (fun w' hs'=>⟨(),rfl,Step.left (Step.pulled (is:=[]) (A:=[]) hs' rfl)⟩)
 ·replace H:=ite_f (Bool.eq_false_iff.1 hc) H
  refine TC_seq (TC_region (TLv (V_bin rfl rfl (fun w=>eqlI w which 1)) ?_))
  refine TLv (V_assign rfl) ?_
  obtain ⟨x2,hx2,H⟩:=ltt_elim H
  refine TL_re (d:=8) (v:=vb (decide (which=1))) (v':=vb x2) rfl (congrArg vb hx2) ?_
  refine TL_nil (TX_next (TC_cond (b:=x2) rfl (fun hc=>?_) (fun hc=>?_)))
  ·replace H:=ite_t hc H
   refine TC_seq (TC_region (TLv (V_buildArr (pv:=[(0,v64 17562291160714782033#64),(1,v64 13611842547513532036#64),(2,v64 18446744073709551615#64),(3,v64 18446744069414584320#64)]) rfl rfl Try.underlying57 TryI.inf57 TryI.inf55 rfl TryI.zer57 (cs:=e64 ((#v[17562291160714782033#64,13611842547513532036#64,18446744073709551615#64,18446744069414584320#64]:Vx 64 4).toList)) (by kernel_rfl)) ?_))
   refine TLn (E_sv 0 TryI.inf57) (fun _=>?_)
   obtain ⟨m_2,hm_2,H⟩:=ltt_elim H
   refine TL_reE (j:=0) (A:=some (b1,0)) (cs:=e64 ((#v[17562291160714782033#64,13611842547513532036#64,18446744073709551615#64,18446744069414584320#64]:Vx 64 4).toList)) (cs':=e64 m_2.toList) rfl (congrArg (fun z:Vx 64 4=>e64 (Vector.toList z)) hm_2) ?_
   refine TLv (V_assign rfl) ?_
   refine TL_nil (TX_next (TC_ret (TX_block_ret (TX_then_ret ?_))))
   have hrv:=Option.some.inj H
   subst hrv
   exact TX_ret (rs:=[.cell 2 57, .tmp 3]) (vs:=[aG [(4,e64 m_2.toList)],vb true]) rfl ⟨(Res_agg (n:=4) rfl (by simp) (.o 0) Try.isAgg57 TryI.inf57 rfl (lenV (f:=v64) m_2)),rfl,trivial⟩ (fun w' hs'=>⟨(),rfl,Step.left (Step.pulled (is:=[]) (A:=[]) hs' rfl)⟩)
  ·replace H:=ite_f (Bool.eq_false_iff.1 hc) H
   refine TC_seq (TC_region (TLv (V_bin rfl rfl (fun w=>eqlI w which 2)) ?_))
   refine TLv (V_assign rfl) ?_
   obtain ⟨x3,hx3,H⟩:=ltt_elim H
   refine TL_re (d:=11) (v:=vb (decide (which=2))) (v':=vb x3) rfl (congrArg vb hx3) ?_
   refine TL_nil (TX_next (TC_cond (b:=x3) rfl (fun hc=>?_) (fun hc=>?_)))
   ·replace H:=ite_t hc H
    refine TC_seq (TC_region (TLv (V_buildArr (pv:=[(0,v64 18446744073709551597#64),(1,v64 18446744073709551615#64),(2,v64 18446744073709551615#64),(3,v64 9223372036854775807#64)]) rfl rfl Try.underlying57 TryI.inf57 TryI.inf55 rfl TryI.zer57 (cs:=e64 ((#v[18446744073709551597#64,18446744073709551615#64,18446744073709551615#64,9223372036854775807#64]:Vx 64 4).toList)) (by kernel_rfl)) ?_))
    refine TLn (E_sv 0 TryI.inf57) (fun _=>?_)
    obtain ⟨m_3,hm_3,H⟩:=ltt_elim H
    refine TL_reE (j:=0) (A:=some (b1,0)) (cs:=e64 ((#v[18446744073709551597#64,18446744073709551615#64,18446744073709551615#64,9223372036854775807#64]:Vx 64 4).toList)) (cs':=e64 m_3.toList) rfl (congrArg (fun z:Vx 64 4=>e64 (Vector.toList z)) hm_3) ?_
    refine TLv (V_assign rfl) ?_
    refine TL_nil (TX_next (TC_ret (TX_block_ret (TX_then_ret ?_))))
    have hrv:=Option.some.inj H
    subst hrv
    exact TX_ret (rs:=[.cell 2 57, .tmp 3]) (vs:=[aG [(4,e64 m_3.toList)],vb true]) rfl ⟨(Res_agg (n:=4) rfl (by simp) (.o 0) Try.isAgg57 TryI.inf57 rfl (lenV (f:=v64) m_3)),rfl,trivial⟩ (fun w' hs'=>⟨(),rfl,Step.left (Step.pulled (is:=[]) (A:=[]) hs' rfl)⟩)
   ·replace H:=ite_f (Bool.eq_false_iff.1 hc) H
    refine TC_skip (TX_block_normal (TX_next (TC_seq (TC_region (TLv (V_buildArr (pv:=[]) rfl rfl Try.underlying57 TryI.inf57 TryI.inf55 rfl TryI.zer57 (cs:=e64 ((replicate 4 0#64:Vx 64 4).toList)) (by kernel_rfl)) ?_)))))
    refine TLn (E_sv 0 TryI.inf57) (fun _=>?_)
    obtain ⟨m_4,hm_4,H⟩:=ltt_elim H
    refine TL_reE (j:=0) (A:=some (b1,0)) (cs:=e64 ((replicate 4 0#64:Vx 64 4).toList)) (cs':=e64 m_4.toList) rfl (congrArg (fun z:Vx 64 4=>e64 (Vector.toList z)) hm_4) ?_
    refine TLv (V_assign rfl) ?_
    refine TL_nil (TX_next (TC_ret ?_))
    have hrv:=Option.some.inj H
    subst hrv
    exact TX_ret (rs:=[.cell 2 57, .tmp 3]) (vs:=[aG [(4,e64 m_4.toList)],vb false]) rfl ⟨(Res_agg (n:=4) rfl (by simp) (.o 0) Try.isAgg57 TryI.inf57 rfl (lenV (f:=v64) m_4)),rfl,trivial⟩ (fun w' hs'=>⟨(),rfl,Step.left (Step.pulled (is:=[]) (A:=[]) hs' rfl)⟩)
end Go.Proofs
end

section
namespace Go.Proofs
open Go Go.Kx
open Vector (replicate)
def num_New.b0 (r_1:Vx 64 4 × Bool) (s0:Int × BitVec 64):Option ((Int × BitVec 64) ⊕ (BitVec 64)) :=
 if s0.1<6 then (some (.inl (w64 (s0.1+1),s0.2 * (2#64 - ((vg r_1.1 0) * s0.2))))) else (some (.inr s0.2))
def num_New.b1 (r_1:Vx 64 4 × Bool) (t_1:BitVec 64) (s1:Int × Vx 64 4 × Vx 64 4):Option ((Int × Vx 64 4 × Vx 64 4) ⊕ (Vx 64 4 × Vx 64 4)) :=
 if s1.1<512 then ((if s1.1=256 then (some s1.2.2) else (some s1.2.1)).bind fun (j1:Vx 64 4)=>((num_Field_Add r_1.1 (-t_1) j1 (replicate 4 0#64) s1.2.2 s1.2.2).bind fun (r_2:Vx 64 4)=>(some (.inl (w64 (s1.1+1),j1,r_2))))) else (some (.inr (s1.2.1,s1.2.2)))
def num_New (which:Int):Option ((Unit) ⊕ (Vx 64 4 × BitVec 64 × Vx 64 4 × Vx 64 4)) :=
 (num_modulus which).bind fun (r_1:Vx 64 4 × Bool)=>(if (!r_1.2)=true then (some (.inl ())) else ((loop (num_New.b0 r_1) BIG (0,1#64)).bind fun (t_1:BitVec 64)=>(ltt ((vp (replicate 4 0#64) 0 1#64:Vx 64 4)) fun (m_1:Vx 64 4)=>((loop (num_New.b1 r_1 t_1) BIG (0,replicate 4 0#64,m_1)).bind fun (t_2:Vx 64 4 × Vx 64 4)=>(some (.inr (r_1.1, -t_1,t_2.1,t_2.2)))))))
set_option maxHeartbeats 4000000 in
set_option maxRecDepth 20000 in
theorem F53_calls (which:Int) (r:(Unit) ⊕ (Vx 64 4 × BitVec 64 × Vx 64 4 × Vx 64 4)) (H:num_New which=some r) :
  Does Try.prog 53 [vi which] [] [] (Γ:=Unit × Nat) (fun g=>match r with | .inl r=>Value.pointer none | .inr r=>ptr (some (g.2,0)) 0) (fun g=>match r with | .inl r=>[] | .inr r=>[⟨some (g.2,0),e64 r.1.toList⟩,⟨some (g.2,4),[v64 r.2.1]⟩,⟨some (g.2,5),e64 r.2.2.1.toList⟩,⟨some (g.2,9),e64 r.2.2.2.toList⟩]):=by
 intro w hmem hro hd
 refine calls_of (N:=64) (m0:=[(0,vi which)]) Try.func53 rfl Try.ntmps53 (argM_ok [vi which]) rfl hmem hro hd ?_
 unfold num_New at H
 refine TC_seq (TC_region (TLv (V_assign rfl) ?_))
 refine TL_nil (TX_next (TC_seq (TC_region (TLv (V_move rfl) ?_))))
 obtain ⟨r_1,hr_1,H⟩:=bind_elim H
 refine TLe (E_c0 (F84_calls which r_1 hr_1) Try.call84 .z) (fun g_1=>?_)
 refine TLv (V_move rfl) ?_
 refine TLv V_ex ?_
 refine TLv V_ex ?_
 refine TLe (E_al64 4 TryI.inf57 TryI.zer57) (fun b1=>?_)
 refine TLn (E_sv (vs:=e64 r_1.1.toList) 0 TryI.inf57) (fun _=>?_)
 refine TLv (V_assign rfl) ?_
 refine TL_nil (TX_next (TC_seq (TC_seq (TC_region (TLv (V_move rfl) ?_)))))
 refine TLv (V_un rfl (fun w=>notB w r_1.2)) ?_
 refine TL_nil (TX_next (TC_cond (b:=(!r_1.2)) rfl (fun hc=>?_) (fun hc=>?_)))
 ·replace H:=ite_t hc H
  refine TC_seq (TC_region (TLv (V_assign rfl) ?_))
  refine TL_nil (TX_next (TC_ret (TX_then_ret ?_)))
  have hrv:=Option.some.inj H
  subst hrv
  exact TX_ret (rs:=[.tmp 2]) (vs:=[Value.pointer none]) rfl ⟨rfl,trivial⟩ (fun w' hs'=>⟨((),(default:Nat)),rfl,Step.left (Step.pulled (is:=[]) (A:=[]) hs' rfl)⟩)
 ·replace H:=ite_f (Bool.eq_false_iff.1 hc) H
  refine TC_skip (TX_next (TC_seq (TC_region (TLv (V_lag (.o 0) Try.isAgg57 TryI.inf57) ?_))))
  refine TLv (V_buildStruct (pv:=[(0,aG [(4,e64 r_1.1.toList)]),(1,v64 1#64)]) (pl:=[(0,4),(4,1),(5,4),(9,4)]) rfl rfl Try.underlying113 TryI.inf113 TryI.places113 TryI.zer113 (cs:=flat [(4,e64 r_1.1.toList),(1,[v64 1#64]),(4,e64 ((replicate 4 0#64).toList)),(4,e64 ((replicate 4 0#64).toList))]) (fill_part [] [(1,[v64 0#64]),(4,e64 ((replicate 4 0#64).toList)),(4,e64 ((replicate 4 0#64).toList))] rfl rfl trivial rfl (lenV (f:=v64) (replicate 4 0#64)) (lenV (f:=v64) r_1.1) (fill_part [(4,e64 r_1.1.toList)] [(4,e64 ((replicate 4 0#64).toList)),(4,e64 ((replicate 4 0#64).toList))] rfl rfl ⟨(lenV (f:=v64) r_1.1),trivial⟩ rfl rfl rfl fill_end))) ?_
  refine TLe (E_boxP [(4,e64 r_1.1.toList),(1,[v64 1#64]),(4,e64 ((replicate 4 0#64).toList)),(4,e64 ((replicate 4 0#64).toList))] rfl rfl ⟨(lenV (f:=v64) r_1.1),rfl,(lenV (f:=v64) (replicate 4 0#64)),(lenV (f:=v64) (replicate 4 0#64)),trivial⟩) (fun b2=>?_)
  refine TLv (V_assign rfl) ?_
  refine TL_nil (TX_next (TC_seq (TC_seq (TC_region (TLv (V_move rfl) ?_)))))
  refine TL_nil (TX_next (TC_block ?_))
  obtain ⟨t_1,Hl,H⟩:=bind_elim H
  refine TC.sub (m':=[(3,ptr (some (b1,0)) 0),(5,ptr (some (b2,0)) 0),(18,vi 0)]) ⟨rfl,rfl,rfl,trivial⟩ ?_
  refine TC.pull (is:=[4,0,0,0,0]) (L':=[⟨some (b1,0),e64 r_1.1.toList⟩,⟨some (b2,0),e64 r_1.1.toList⟩,⟨some (b2,4),[v64 1#64]⟩,⟨some (b2,5),e64 ((replicate 4 0#64).toList)⟩,⟨some (b2,9),e64 ((replicate 4 0#64).toList)⟩]) rfl ?_
  refine TC_loopL (id:=0) (body:=(num_New.b0 r_1)) (σ:=Int × BitVec 64) (Γ:=Unit) (Γx:=Unit) (fun s0 g0_=>[(3,ptr (some (b1,0)) 0),(5,ptr (some (b2,0)) 0),(18,vi s0.1)]) (fun s0 g0_=>[⟨some (b1,0),e64 r_1.1.toList⟩,⟨some (b2,0),e64 r_1.1.toList⟩,⟨some (b2,4),[v64 s0.2]⟩,⟨some (b2,5),e64 ((replicate 4 0#64).toList)⟩,⟨some (b2,9),e64 ((replicate 4 0#64).toList)⟩]) (fun t g=>[(5,ptr (some (b2,0)) 0)]) (fun t g=>[⟨some (b2,0),e64 r_1.1.toList⟩,⟨some (b2,4),[v64 t]⟩,⟨some (b2,5),e64 ((replicate 4 0#64).toList)⟩,⟨some (b2,9),e64 ((replicate 4 0#64).toList)⟩]) ?_ BIG (0,1#64) () t_1 Hl ?_
  ·intro s0 g0_ r1 H K hK hE
   unfold num_New.b0 at H
   refine TC_seq (TC_region (TLv (V_bin rfl rfl (fun w=>lssI w s0.1 6)) ?_))
   refine TL_nil (TX_next (TC_seq (TC_cond (b:=(decide (s0.1<6))) rfl (fun hc=>?_) (fun hc=>?_))))
   ·replace H:=ite_t (of_decide_eq_true hc) H
    refine TC_skip (TX_next (TC_seq (TC_block (TA_begin [] 16 (by kernel_rfl) (N:=16) rfl ?_))))
    refine TA_mix (is:=[]) (done':=dn 16 32767) [itV 0 20 (ptr (some (b2,0)) 0) [],itV 1 21 (ptr (some (b2,0)) 0) [0],itV 2 22 (ptr (some (b2,4)) 0) [1],itV 3 23 (v64 s0.2) [2],itV 4 24 (ptr (some (b1,0)) 0) [],itV 5 25 (v64 (vg r_1.1 0)) [4],itV 6 26 (ptr (some (b2,0)) 0) [],itV 7 27 (ptr (some (b2,0)) 0) [6],itV 8 28 (ptr (some (b2,4)) 0) [7],itV 9 29 (v64 s0.2) [8],itV 10 30 (v64 ((vg r_1.1 0) * s0.2)) [5,9],itV 11 31 (v64 (2#64 - ((vg r_1.1 0) * s0.2))) [10],itV 12 32 (v64 (s0.2 * (2#64 - ((vg r_1.1 0) * s0.2)))) [11,3],itV 13 33 (ptr (some (b2,0)) 0) [0],itV 14 34 (ptr (some (b2,4)) 0) [13]] [] 1 (by kernel_rfl) (QP.block (QP.then (QP.then (QP.block (QP.then QP.body))))) (by kernel_rfl) rfl (.v rfl (V_move rfl) (.v rfl (V_nilCheck rfl) (.v rfl (V_fe Try.underlying113 TryI.inf55) (.v rfl (V_load rfl (.o 2) rfl Try.isAgg55) (.v rfl (V_idxArr (i:=0) rfl rfl Try.underlying57 TryI.inf55 rfl (by decide) (by decide) (k:=0) (k01 _)) (.v rfl (V_load rfl (.o 0) (get_vec (f:=v64) (V:=r_1.1) (by decide:0<4)) Try.isAgg55) (.v rfl (V_move rfl) (.v rfl (V_nilCheck rfl) (.v rfl (V_fe Try.underlying113 TryI.inf55) (.v rfl (V_load rfl (.o 2) rfl Try.isAgg55) (.v rfl (V_bin rfl rfl (fun w=>mul64 w (vg r_1.1 0) s0.2)) (.v rfl (V_bin rfl rfl (fun w=>sub64 w 2#64 ((vg r_1.1 0) * s0.2))) (.v rfl (V_bin rfl rfl (fun w=>mul64 w s0.2 (2#64 - ((vg r_1.1 0) * s0.2)))) (.v rfl (V_nilCheck rfl) (.v rfl (V_fe Try.underlying113 TryI.inf55) .nil))))))))))))))) .nil (by kernel_rfl) rfl (fun γ=>?_)
    refine TA_cut [(34,ptr (some (b2,4)) 0),(32,v64 (s0.2 * (2#64 - ((vg r_1.1 0) * s0.2)))),(3,ptr (some (b1,0)) 0),(5,ptr (some (b2,0)) 0),(18,vi s0.1)] [⟨some (b1,0),e64 r_1.1.toList⟩,⟨some (b2,0),e64 r_1.1.toList⟩,⟨some (b2,4),[v64 s0.2]⟩,⟨some (b2,5),e64 ((replicate 4 0#64).toList)⟩,⟨some (b2,9),e64 ((replicate 4 0#64).toList)⟩] ⟨rfl,rfl,rfl,rfl,rfl,trivial⟩ rfl ?_
    refine TA_all (rs:=[15]) (by kernel_rfl) rfl ?_
    refine ⟨?_,trivial⟩
    refine TO_n (is:=[]) (done':=dn 16 65535) rfl rfl rfl (by kernel_rfl) (E_store (j:=2) rfl rfl TryI.inf55 rfl rfl rfl (Nat.lt_succ_self 0) (cs':=[v64 (s0.2 * (2#64 - ((vg r_1.1 0) * s0.2)))]) rfl) (fun _ _=>rfl) (fun _=>?_)
    refine TA_done (by kernel_rfl) ?_ 0
    refine TX_block_normal (TX_next (TC_region (TLv (V_bin rfl rfl (fun w=>addI w s0.1 1)) ?_)))
    refine TLv (V_move rfl) ?_
    refine TL_nil (TX.sub (m':=[(3,ptr (some (b1,0)) 0),(5,ptr (some (b2,0)) 0),(18,vi (w64 (s0.1+1)))]) ⟨rfl,rfl,rfl,trivial⟩ ?_)
    refine TX.pull (is:=[0,0,0,0,0]) (L':=[⟨some (b1,0),e64 r_1.1.toList⟩,⟨some (b2,0),e64 r_1.1.toList⟩,⟨some (b2,4),[v64 (s0.2 * (2#64 - ((vg r_1.1 0) * s0.2)))]⟩,⟨some (b2,5),e64 ((replicate 4 0#64).toList)⟩,⟨some (b2,9),e64 ((replicate 4 0#64).toList)⟩]) rfl ?_
    obtain rfl:=Option.some.inj H
    exact fun a w hs=>hK (w64 (s0.1+1),s0.2 * (2#64 - ((vg r_1.1 0) * s0.2))) rfl () a w hs
   ·replace H:=ite_f (of_decide_eq_false hc) H
    refine TC_exit (TX_then_exit (TX_then_exit (TX.sub (m':=[(5,ptr (some (b2,0)) 0)]) ⟨rfl,trivial⟩ ?_)))
    refine TX.pull (is:=[1,1,1,1]) (L':=[⟨some (b2,0),e64 r_1.1.toList⟩,⟨some (b2,4),[v64 s0.2]⟩,⟨some (b2,5),e64 ((replicate 4 0#64).toList)⟩,⟨some (b2,9),e64 ((replicate 4 0#64).toList)⟩]) rfl ?_
    obtain rfl:=Option.some.inj H
    exact hE s0.2 rfl ()
  ·intro g
   refine TX_block_exit (TX_next (TC_seq (TC_region (TLv (V_move rfl) ?_))))
   refine TLv (V_move rfl) ?_
   refine TLv (V_nilCheck rfl) ?_
   refine TLv (V_fieldE rfl Try.underlying113 rfl rfl TryI.inf55 rfl (v:=ptr (some (b2,4)) 0) rfl) ?_
   refine TLv (V_load rfl (.o 1) rfl Try.isAgg55) ?_
   refine TLv (V_un rfl (fun w=>neg64 w t_1)) ?_
   refine TLv (V_nilCheck rfl) ?_
   refine TLv (V_fieldE rfl Try.underlying113 rfl rfl TryI.inf55 rfl (v:=ptr (some (b2,4)) 0) rfl) ?_
   refine TLn (E_store (j:=1) rfl rfl TryI.inf55 rfl rfl rfl (Nat.lt_succ_self 0) (cs':=[v64 (-t_1)]) rfl) (fun _=>?_)
   refine TL_nil (TX_next (TC_seq (TC_region (TLv (V_buildArr (pv:=[(0,v64 1#64)]) rfl rfl Try.underlying57 TryI.inf57 TryI.inf55 rfl TryI.zer57 (cs:=e64 ((vp (replicate 4 0#64) 0 1#64:Vx 64 4).toList)) (by kernel_rfl)) ?_))))
   refine TLe (E_al64 4 TryI.inf57 TryI.zer57) (fun b3=>?_)
   refine TLn (E_sv 0 TryI.inf57) (fun _=>?_)
   obtain ⟨m_1,hm_1,H⟩:=ltt_elim H
   refine TL_reE (j:=0) (A:=some (b3,0)) (cs:=e64 ((vp (replicate 4 0#64) 0 1#64:Vx 64 4).toList)) (cs':=e64 m_1.toList) rfl (congrArg (fun z:Vx 64 4=>e64 (Vector.toList z)) hm_1) ?_
   refine TL_nil (TX_next (TC_seq (TC_seq (TC_region (TLv (V_move rfl) ?_)))))
   refine TL_nil (TX_next (TC_block ?_))
   obtain ⟨t_2,Hl,H⟩:=bind_elim H
   refine TC.sub (m':=[(5,ptr (some (b2,0)) 0),(6,ptr (some (b3,0)) 0),(45,vi 0)]) ⟨rfl,rfl,rfl,trivial⟩ ?_
   refine TC.pull (is:=[1,1,1,1,0]) (L':=[⟨some (b2,0),e64 r_1.1.toList⟩,⟨some (b2,4),[v64 (-t_1)]⟩,⟨some (b2,5),e64 ((replicate 4 0#64).toList)⟩,⟨some (b2,9),e64 ((replicate 4 0#64).toList)⟩,⟨some (b3,0),e64 m_1.toList⟩]) rfl ?_
   refine TC_loopL (id:=2) (body:=(num_New.b1 r_1 t_1)) (σ:=Int × Vx 64 4 × Vx 64 4) (Γ:=Unit) (Γx:=Unit) (fun s1 g1_=>[(5,ptr (some (b2,0)) 0),(6,ptr (some (b3,0)) 0),(45,vi s1.1)]) (fun s1 g1_=>[⟨some (b2,0),e64 r_1.1.toList⟩,⟨some (b2,4),[v64 (-t_1)]⟩,⟨some (b2,5),e64 s1.2.1.toList⟩,⟨some (b2,9),e64 ((replicate 4 0#64).toList)⟩,⟨some (b3,0),e64 s1.2.2.toList⟩]) (fun t g=>[(5,ptr (some (b2,0)) 0),(6,ptr (some (b3,0)) 0)]) (fun t g=>[⟨some (b2,0),e64 r_1.1.toList⟩,⟨some (b2,4),[v64 (-t_1)]⟩,⟨some (b2,5),e64 t.1.toList⟩,⟨some (b2,9),e64 ((replicate 4 0#64).toList)⟩,⟨some (b3,0),e64 t.2.toList⟩]) ?_ BIG (0,replicate 4 0#64,m_1) () t_2 Hl ?_
   ·intro s1 g1_ r1 H K hK hE
    unfold num_New.b1 at H
    refine TC_seq (TC_region (TLv (V_bin rfl rfl (fun w=>lssI w s1.1 512)) ?_))
    refine TL_nil (TX_next (TC_seq (TC_cond (b:=(decide (s1.1<512))) rfl (fun hc=>?_) (fun hc=>?_))))
    ·replace H:=ite_t (of_decide_eq_true hc) H
     refine TC_skip (TX_next (TC_seq (TC_block (TC_seq (TC_region (TLv (V_move rfl) ?_))))))
     refine TLv (V_assign rfl) ?_
     refine TL_nil (TX_next (TC_seq (TC_seq (TC_region (TLv (V_move rfl) ?_)))))
     refine TLv (V_bin rfl rfl (fun w=>eqlI w s1.1 256)) ?_
     refine TL_nil (TX_next ?_)
     obtain ⟨j1,Hj,H⟩:=bind_elim H
     refine TC_join (Γ:=Unit) (fun gj1=>[(5,ptr (some (b2,0)) 0),(6,ptr (some (b3,0)) 0),(45,vi s1.1)]) (fun gj1=>[⟨some (b2,0),e64 r_1.1.toList⟩,⟨some (b2,4),[v64 (-t_1)]⟩,⟨some (b2,5),e64 j1.toList⟩,⟨some (b2,9),e64 ((replicate 4 0#64).toList)⟩,⟨some (b3,0),e64 s1.2.2.toList⟩]) ?_ ?_
     ·intro gj1
      refine TX_next (TC_region (TLv (V_move rfl) ?_))
      refine TLv (V_lag (.o 4) Try.isAgg57 TryI.inf57) ?_
      refine TLv (V_lag (.o 4) Try.isAgg57 TryI.inf57) ?_
      obtain ⟨r_2,hr_2,H⟩:=bind_elim H
      refine TLe (E_c0 (F59_calls b2 0 r_1.1 (-t_1) j1 (replicate 4 0#64) s1.2.2 s1.2.2 r_2 hr_2) Try.call59 ⟨.o 0, .o 1, .o 2, .o 3,trivial⟩) (fun g_2=>?_)
      refine TLn (E_sv (vs:=e64 r_2.toList) 4 TryI.inf57) (fun _=>?_)
      refine TL_nil (TX_block_normal (TX_next (TC_region (TLv (V_bin rfl rfl (fun w=>addI w s1.1 1)) ?_))))
      refine TLv (V_move rfl) ?_
      refine TL_nil (TX.sub (m':=[(5,ptr (some (b2,0)) 0),(6,ptr (some (b3,0)) 0),(45,vi (w64 (s1.1+1)))]) ⟨rfl,rfl,rfl,trivial⟩ ?_)
      refine TX.pull (is:=[0,0,0,0,0]) (L':=[⟨some (b2,0),e64 r_1.1.toList⟩,⟨some (b2,4),[v64 (-t_1)]⟩,⟨some (b2,5),e64 j1.toList⟩,⟨some (b2,9),e64 ((replicate 4 0#64).toList)⟩,⟨some (b3,0),e64 r_2.toList⟩]) rfl ?_
      obtain rfl:=Option.some.inj H
      exact fun a w hs=>hK (w64 (s1.1+1),j1,r_2) rfl () a w hs
     ·intro hJ
      replace H:=Hj
      refine TC_cond (b:=(decide (s1.1=256))) rfl (fun hc=>?_) (fun hc=>?_)
      ·replace H:=ite_t (of_decide_eq_true hc) H
       refine TC_region (TLv (V_move rfl) ?_)
       refine TLv (V_lag (.o 4) Try.isAgg57 TryI.inf57) ?_
       refine TLv (V_nilCheck rfl) ?_
       refine TLv (V_fieldE rfl Try.underlying113 rfl rfl TryI.inf57 rfl (v:=ptr (some (b2,5)) 0) rfl) ?_
       refine TLn (E_sv (vs:=e64 s1.2.2.toList) 2 TryI.inf57) (fun _=>?_)
       refine TL_nil (TX.sub (m':=[(5,ptr (some (b2,0)) 0),(6,ptr (some (b3,0)) 0),(45,vi s1.1)]) ⟨rfl,rfl,rfl,trivial⟩ ?_)
       refine TX.pull (is:=[0,0,0,0,0]) (L':=[⟨some (b2,0),e64 r_1.1.toList⟩,⟨some (b2,4),[v64 (-t_1)]⟩,⟨some (b2,5),e64 s1.2.2.toList⟩,⟨some (b2,9),e64 ((replicate 4 0#64).toList)⟩,⟨some (b3,0),e64 s1.2.2.toList⟩]) rfl ?_
       obtain rfl:=Option.some.inj H
       exact hJ ()
      ·replace H:=ite_f (of_decide_eq_false hc) H
       refine TC_skip (TX.sub (m':=[(5,ptr (some (b2,0)) 0),(6,ptr (some (b3,0)) 0),(45,vi s1.1)]) ⟨rfl,rfl,rfl,trivial⟩ ?_)
       refine TX.pull (is:=[0,0,0,0,0]) (L':=[⟨some (b2,0),e64 r_1.1.toList⟩,⟨some (b2,4),[v64 (-t_1)]⟩,⟨some (b2,5),e64 s1.2.1.toList⟩,⟨some (b2,9),e64 ((replicate 4 0#64).toList)⟩,⟨some (b3,0),e64 s1.2.2.toList⟩]) rfl ?_
       obtain rfl:=Option.some.inj H
       exact hJ ()
    ·replace H:=ite_f (of_decide_eq_false hc) H
     refine TC_exit (TX_then_exit (TX_then_exit (TX.sub (m':=[(5,ptr (some (b2,0)) 0),(6,ptr (some (b3,0)) 0)]) ⟨rfl,rfl,trivial⟩ ?_)))
     refine TX.pull (is:=[0,0,0,0,0]) (L':=[⟨some (b2,0),e64 r_1.1.toList⟩,⟨some (b2,4),[v64 (-t_1)]⟩,⟨some (b2,5),e64 s1.2.1.toList⟩,⟨some (b2,9),e64 ((replicate 4 0#64).toList)⟩,⟨some (b3,0),e64 s1.2.2.toList⟩]) rfl ?_
     obtain rfl:=Option.some.inj H
     exact hE (s1.2.1,s1.2.2) rfl ()
   ·intro g
    refine TX_block_exit (TX_next (TC_seq (TC_region (TLv (V_move rfl) ?_))))
    refine TLv (V_lag (.o 4) Try.isAgg57 TryI.inf57) ?_
    refine TLv (V_nilCheck rfl) ?_
    refine TLv (V_fieldE rfl Try.underlying113 rfl rfl TryI.inf57 rfl (v:=ptr (some (b2,9)) 0) rfl) ?_
    refine TLn (E_sv (vs:=e64 t_2.2.toList) 3 TryI.inf57) (fun _=>?_)
    refine TL_nil (TX_next (TC_seq (TC_region (TLv (V_move rfl) ?_))))
    refine TLv (V_assign rfl) ?_
    refine TL_nil (TX_next (TC_ret ?_))
    have hrv:=Option.some.inj H
    subst hrv
    exact TX_ret (rs:=[.tmp 2]) (vs:=[ptr (some (b2,0)) 0]) rfl ⟨rfl,trivial⟩ (fun w' hs'=>⟨((),b2),rfl,Step.left (Step.pulled (is:=[0,0,0,0]) (A:=[⟨some (b2,0),e64 r_1.1.toList⟩,⟨some (b2,4),[v64 (-t_1)]⟩,⟨some (b2,5),e64 t_2.1.toList⟩,⟨some (b2,9),e64 t_2.2.toList⟩]) hs' rfl)⟩)
end Go.Proofs
end

section
namespace Go.Proofs
open Go Go.Kx
open Vector (replicate)
def num_Load.b0 (s_:Str) (s0:Int × Vx 64 4):Option ((Int × Vx 64 4) ⊕ (Vx 64 4)) :=
 if s0.1<32 then (ltt (w64 (3 - (w64 (s0.1.tdiv 8)))) fun (k_1:Int)=>(if 0≤k_1∧k_1<(4:Int) then (if 0≤s0.1∧s0.1<((s_).length:Int) then (if 0≤k_1∧k_1<(4:Int) then (ltt (vp s0.2 ((k_1).toNat) (((vg s0.2 ((k_1).toNat)) <<< 8) ||| ((sg s_ s0.1).setWidth 64))) fun (m_1:Vx 64 4)=>(some (.inl (w64 (s0.1+1),m_1)))) else none) else none) else none)) else (some (.inr s0.2))
def num_Load (s_:Str):Option (Vx 64 4) :=
 (loop (num_Load.b0 s_) BIG (0,replicate 4 0#64)).bind fun (t_1:Vx 64 4)=>(some t_1)
set_option maxHeartbeats 4000000 in
set_option maxRecDepth 20000 in
theorem F55_calls (s_:Str) (r:Vx 64 4) (H:num_Load s_=some r) :
  Does Try.prog 55 [vs s_] [] [] (Γ:=Unit) (fun g=>aG [(4,e64 r.toList)]) (fun g=>[]):=by
 intro w hmem hro hd
 refine calls_of (N:=25) (m0:=[(0,vs s_)]) Try.func55 rfl Try.ntmps55 (argM_ok [vs s_]) rfl hmem hro hd ?_
 unfold num_Load at H
 refine TC_seq (TC_region (TLe (E_al64 4 TryI.inf57 TryI.zer57) (fun b1=>?_)))
 refine TL_nil (TX_next (TC_seq (TC_region (TLe (E_al64 4 TryI.inf57 TryI.zer57) (fun b2=>?_)))))
 refine TL_nil (TX_next (TC_seq (TC_seq (TC_region (TLv (V_move rfl) ?_)))))
 refine TL_nil (TX_next (TC_block ?_))
 obtain ⟨t_1,Hl,H⟩:=bind_elim H
 refine TC.sub (m':=[(0,vs s_),(2,ptr (some (b1,0)) 0),(3,ptr (some (b2,0)) 0),(6,vi 0)]) ⟨rfl,rfl,rfl,rfl,trivial⟩ ?_
 refine TC.pull (is:=[1,0]) (L':=[⟨some (b1,0),e64 ((replicate 4 0#64).toList)⟩,⟨some (b2,0),e64 ((replicate 4 0#64).toList)⟩]) rfl ?_
 refine TC_loopL (id:=0) (body:=(num_Load.b0 s_)) (σ:=Int × Vx 64 4) (Γ:=Unit) (Γx:=Unit) (fun s0 g0_=>[(0,vs s_),(2,ptr (some (b1,0)) 0),(3,ptr (some (b2,0)) 0),(6,vi s0.1)]) (fun s0 g0_=>[⟨some (b1,0),e64 ((replicate 4 0#64).toList)⟩,⟨some (b2,0),e64 s0.2.toList⟩]) (fun t g=>[(2,ptr (some (b1,0)) 0),(3,ptr (some (b2,0)) 0)]) (fun t g=>[⟨some (b1,0),e64 ((replicate 4 0#64).toList)⟩,⟨some (b2,0),e64 t.toList⟩]) ?_ BIG (0,replicate 4 0#64) () t_1 Hl ?_
 ·intro s0 g0_ r1 H K hK hE
  unfold num_Load.b0 at H
  refine TC_seq (TC_region (TLv (V_bin rfl rfl (fun w=>lssI w s0.1 32)) ?_))
  refine TL_nil (TX_next (TC_seq (TC_cond (b:=(decide (s0.1<32))) rfl (fun hc=>?_) (fun hc=>?_))))
  ·replace H:=ite_t (of_decide_eq_true hc) H
   refine TC_skip (TX_next (TC_seq (TC_block (TC_seq (TC_region (TLv (V_move rfl) ?_))))))
   refine TLv (V_assign rfl) ?_
   refine TL_nil (TX_next (TC_seq (TC_region (TLv (V_move rfl) ?_))))
   refine TLv (V_bin rfl rfl (fun w=>quoI w s0.1 8 (by decide))) ?_
   refine TLv (V_bin rfl rfl (fun w=>subI w 3 (w64 (s0.1.tdiv 8)))) ?_
   refine TLv (V_assign rfl) ?_
   obtain ⟨k_1,hk_1,H⟩:=ltt_elim H
   refine TL_re (d:=5) (v:=vi (w64 (3 - (w64 (s0.1.tdiv 8))))) (v':=vi k_1) rfl (congrArg vi hk_1) ?_
   refine TL_nil (TX_next ?_)
   obtain ⟨h1,H⟩:=if_elim H
   obtain ⟨h2,H⟩:=if_elim H
   obtain ⟨h3,H⟩:=if_elim H
   obtain ⟨m_1,hm_1,H⟩:=ltt_elim H
   refine TA_begin [] 12 (by kernel_rfl) (N:=12) rfl ?_
   refine TA_mix (is:=[]) (done':=dn 12 2047) [itV 0 12 (vi k_1) [],itV 1 13 (vi k_1) [],itV 2 14 (ptr (some (b2,0)) ((k_1).toNat)) [1],itV 3 15 (v64 (vg s0.2 ((k_1).toNat))) [2],itV 4 16 (v64 ((vg s0.2 ((k_1).toNat)) <<< 8)) [3],itV 5 17 (vs s_) [],itV 6 18 (vi s0.1) [],itV 7 19 (v8 (sg s_ s0.1)) [5,6],itV 8 20 (v64 ((sg s_ s0.1).setWidth 64)) [7],itV 9 21 (v64 (((vg s0.2 ((k_1).toNat)) <<< 8) ||| ((sg s_ s0.1).setWidth 64))) [4,8],itV 10 22 (ptr (some (b2,0)) ((k_1).toNat)) [0]] [] 1 (by kernel_rfl) (QP.block (QP.then (QP.then (QP.block (QP.then QP.body))))) (by kernel_rfl) rfl (.v rfl (V_move rfl) (.v rfl (V_move rfl) (.v rfl (V_idxArr (i:=k_1) rfl rfl Try.underlying57 TryI.inf55 rfl h1.1 h1.2 (k:=(k_1).toNat) (k01 _)) (.v rfl (V_load rfl (.o 1) (get_vec (f:=v64) (V:=s0.2) (toNat_lt h1.1 h1.2)) Try.isAgg55) (.v rfl (V_bin rfl rfl (fun w=>shl64 w (vg s0.2 ((k_1).toNat)) .u64 8 (by decide))) (.v rfl (V_move rfl) (.v rfl (V_move rfl) (.v rfl (V_idxStr rfl rfl (i:=s0.1) Try.underlying9 h2.1 h2.2) (.v rfl (V_conv rfl (fun w=>cv8to64 w _ _ Try.underlying55 (TryI.und5) (sg s_ s0.1))) (.v rfl (V_bin rfl rfl (fun w=>or64 w ((vg s0.2 ((k_1).toNat)) <<< 8) ((sg s_ s0.1).setWidth 64))) (.v rfl (V_idxArr (i:=k_1) rfl rfl Try.underlying57 TryI.inf55 rfl h3.1 h3.2 (k:=(k_1).toNat) (k01 _)) .nil))))))))))) .nil (by kernel_rfl) rfl (fun γ=>?_)
   refine TA_cut [(22,ptr (some (b2,0)) ((k_1).toNat)),(21,v64 (((vg s0.2 ((k_1).toNat)) <<< 8) ||| ((sg s_ s0.1).setWidth 64))),(0,vs s_),(2,ptr (some (b1,0)) 0),(3,ptr (some (b2,0)) 0),(6,vi s0.1)] [⟨some (b1,0),e64 ((replicate 4 0#64).toList)⟩,⟨some (b2,0),e64 s0.2.toList⟩] ⟨rfl,rfl,rfl,rfl,rfl,rfl,trivial⟩ rfl ?_
   refine TA_all (rs:=[11]) (by kernel_rfl) rfl ?_
   refine ⟨?_,trivial⟩
   refine TO_n (is:=[]) (done':=dn 12 4095) rfl rfl rfl (by kernel_rfl) (E_store (j:=1) rfl rfl TryI.inf55 rfl rfl rfl (by simpa using (toNat_lt h3.1 h3.2)) (cs':=e64 ((vp s0.2 ((k_1).toNat) (((vg s0.2 ((k_1).toNat)) <<< 8) ||| ((sg s_ s0.1).setWidth 64))).toList)) set_vec) (fun _ _=>rfl) (fun _=>?_)
   refine TA_reE (j:=1) (A:=some (b2,0)) (cs:=e64 ((vp s0.2 ((k_1).toNat) (((vg s0.2 ((k_1).toNat)) <<< 8) ||| ((sg s_ s0.1).setWidth 64))).toList)) (cs':=e64 m_1.toList) rfl (congrArg (fun z:Vx 64 4=>e64 (Vector.toList z)) hm_1) ?_
   refine TA_done (by kernel_rfl) ?_ 0
   refine TX_block_normal (TX_next (TC_region (TLv (V_bin rfl rfl (fun w=>addI w s0.1 1)) ?_)))
   refine TLv (V_move rfl) ?_
   refine TL_nil (TX.sub (m':=[(0,vs s_),(2,ptr (some (b1,0)) 0),(3,ptr (some (b2,0)) 0),(6,vi (w64 (s0.1+1)))]) ⟨rfl,rfl,rfl,rfl,trivial⟩ ?_)
   refine TX.pull (is:=[0,0]) (L':=[⟨some (b1,0),e64 ((replicate 4 0#64).toList)⟩,⟨some (b2,0),e64 m_1.toList⟩]) rfl ?_
   obtain rfl:=Option.some.inj H
   exact fun a w hs=>hK (w64 (s0.1+1),m_1) rfl () a w hs
  ·replace H:=ite_f (of_decide_eq_false hc) H
   refine TC_exit (TX_then_exit (TX_then_exit (TX.sub (m':=[(2,ptr (some (b1,0)) 0),(3,ptr (some (b2,0)) 0)]) ⟨rfl,rfl,trivial⟩ ?_)))
   refine TX.pull (is:=[0,0]) (L':=[⟨some (b1,0),e64 ((replicate 4 0#64).toList)⟩,⟨some (b2,0),e64 s0.2.toList⟩]) rfl ?_
   obtain rfl:=Option.some.inj H
   exact hE s0.2 rfl ()
 ·intro g
  refine TX_block_exit (TX_next (TC_seq (TC_region (TLv (V_lag (.o 1) Try.isAgg57 TryI.inf57) ?_))))
  refine TLn (E_sv (vs:=e64 t_1.toList) 0 TryI.inf57) (fun _=>?_)
  refine TL_nil (TX_next (TC_ret ?_))
  have hrv:=Option.some.inj H
  subst hrv
  exact TX_ret (rs:=[.cell 2 57]) (vs:=[aG [(4,e64 t_1.toList)]]) rfl ⟨(Res_agg (n:=4) rfl (by simp) (.o 0) Try.isAgg57 TryI.inf57 rfl (lenV (f:=v64) t_1)),trivial⟩ (fun w' hs'=>⟨(),rfl,Step.left (Step.pulled (is:=[]) (A:=[]) hs' rfl)⟩)
end Go.Proofs
end

section
namespace Go.Proofs
open Go Go.Kx
def num_Nat_Bytes.b0 (x:Vx 64 4) (s0:Int × List (BitVec 8)):Option ((Int × List (BitVec 8)) ⊕ (List (BitVec 8))) :=
 if s0.1<32 then (if 0≤w64 (3 - (w64 (s0.1.tdiv 8)))∧w64 (3 - (w64 (s0.1.tdiv 8)))<(4:Int) then (if 0≤w64 (56 - (w64 (8 * (s0.1.tmod 8)))) then (if 0≤s0.1∧s0.1<(32:Int) then (if (s0.1).toNat<(s0.2).length then (ltt (s0.2.set ((s0.1).toNat) (((vg x ((w64 (3 - (w64 (s0.1.tdiv 8)))).toNat)) >>> (w64 (56 - (w64 (8 * (s0.1.tmod 8))))).toNat).setWidth 8)) fun (m_1:List (BitVec 8))=>(some (.inl (w64 (s0.1+1),m_1)))) else none) else none) else none) else none) else (some (.inr s0.2))
def num_Nat_Bytes (x:Vx 64 4):Option (Str) :=
 (loop (num_Nat_Bytes.b0 x) BIG (0,List.replicate 32 0#8)).bind fun (t_1:List (BitVec 8))=>(if (t_1).length=32 then (some t_1) else none)
set_option maxHeartbeats 4000000 in
set_option maxRecDepth 20000 in
theorem F62_calls (x:Vx 64 4) (r:Str) (H:num_Nat_Bytes x=some r) :
  Does Try.prog 62 [aG [(4,e64 x.toList)]] [] [] (Γ:=Unit) (fun g=>vs r) (fun g=>[]):=by
 intro w hmem hro hd
 refine calls_of (N:=28) (m0:=[(0,aG [(4,e64 x.toList)])]) Try.func62 rfl Try.ntmps62 (argM_ok [aG [(4,e64 x.toList)]]) rfl hmem hro hd ?_
 unfold num_Nat_Bytes at H
 refine TC_seq (TC_region (TLe (E_boxP [(4,e64 x.toList)] rfl rfl ⟨(lenV (f:=v64) x),trivial⟩) (fun b1=>?_)))
 refine TLv (V_assign rfl) ?_
 refine TL_nil (TX_next (TC_seq (TC_region (TLe (E_mk1 rfl rfl Try.underlying42 TryI.inf5 (z:=v8 0#8) rfl rfl rfl (B:=1) rfl (by decide) (Int.le_refl _) (by decide) (by decide) (n':=32) (c':=32) rfl rfl (cs:=e8 (List.replicate 32 0#8)) (rep_map (f:=v8))) (fun b2=>?_)))))
 refine TLv (V_assign rfl) ?_
 refine TL_nil (TX_next (TC_seq (TC_seq (TC_region (TLv (V_move rfl) ?_)))))
 refine TLv (V_len_slice rfl Try.underlying42) ?_
 refine TLv (V_move rfl) ?_
 refine TL_nil (TX_next (TC_block ?_))
 obtain ⟨t_1,Hl,H⟩:=bind_elim H
 refine TC.sub (m':=[(1,ptr (some (b1,0)) 0),(3,sl (some (b2,0)) 32 32),(7,vi 32),(8,vi 0)]) ⟨rfl,rfl,rfl,rfl,trivial⟩ ?_
 refine TC.pull (is:=[1,0]) (L':=[⟨some (b1,0),e64 x.toList⟩,⟨some (b2,0),e8 (List.replicate 32 0#8)⟩]) rfl ?_
 refine TC_loopL (id:=0) (body:=(num_Nat_Bytes.b0 x)) (σ:=Int × List (BitVec 8)) (Γ:=Unit) (Γx:=Unit) (fun s0 g0_=>[(1,ptr (some (b1,0)) 0),(3,sl (some (b2,0)) 32 32),(7,vi 32),(8,vi s0.1)]) (fun s0 g0_=>[⟨some (b1,0),e64 x.toList⟩,⟨some (b2,0),e8 s0.2⟩]) (fun t g=>[(3,sl (some (b2,0)) 32 32)]) (fun t g=>[⟨some (b2,0),e8 t⟩]) ?_ BIG (0,List.replicate 32 0#8) () t_1 Hl ?_
 ·intro s0 g0_ r1 H K hK hE
  unfold num_Nat_Bytes.b0 at H
  refine TC_seq (TC_region (TLv (V_bin rfl rfl (fun w=>lssI w s0.1 32)) ?_))
  refine TL_nil (TX_next (TC_seq (TC_cond (b:=(decide (s0.1<32))) rfl (fun hc=>?_) (fun hc=>?_))))
  ·replace H:=ite_t (of_decide_eq_true hc) H
   refine TC_skip (TX_next (TC_seq (TC_block (TC_seq (TC_region (TLv (V_move rfl) ?_))))))
   refine TLv (V_assign rfl) ?_
   refine TL_nil (TX_next (TC_region (TLv (V_move rfl) ?_)))
   refine TLv (V_move rfl) ?_
   refine TLv (V_move rfl) ?_
   refine TLv (V_bin rfl rfl (fun w=>quoI w s0.1 8 (by decide))) ?_
   refine TLv (V_bin rfl rfl (fun w=>subI w 3 (w64 (s0.1.tdiv 8)))) ?_
   obtain ⟨h1,H⟩:=if_elim H
   refine TLv (V_idxArr (i:=w64 (3 - (w64 (s0.1.tdiv 8)))) rfl rfl Try.underlying57 TryI.inf55 rfl h1.1 h1.2 (k:=(w64 (3 - (w64 (s0.1.tdiv 8)))).toNat) (k01 _)) ?_
   refine TLv (V_load rfl (.o 0) (get_vec (f:=v64) (V:=x) (toNat_lt h1.1 h1.2)) Try.isAgg55) ?_
   refine TLv (V_move rfl) ?_
   refine TLv (V_bin rfl rfl (fun w=>remI w s0.1 8 (by decide))) ?_
   refine TLv (V_bin rfl rfl (fun w=>mulI w 8 (s0.1.tmod 8))) ?_
   refine TLv (V_bin rfl rfl (fun w=>subI w 56 (w64 (8 * (s0.1.tmod 8))))) ?_
   obtain ⟨h2,H⟩:=if_elim H
   refine TLv (V_bin rfl rfl (fun w=>shr64 w (vg x ((w64 (3 - (w64 (s0.1.tdiv 8)))).toNat)) .i64 (w64 (56 - (w64 (8 * (s0.1.tmod 8))))) h2)) ?_
   refine TLv (V_conv rfl (fun w=>cv64to8 w _ _ Try.underlying5 (TryI.und55) ((vg x ((w64 (3 - (w64 (s0.1.tdiv 8)))).toNat)) >>> (w64 (56 - (w64 (8 * (s0.1.tmod 8))))).toNat))) ?_
   obtain ⟨h3,H⟩:=if_elim H
   obtain ⟨h4,H⟩:=if_elim H
   refine TLv (V_idxSl (i:=s0.1) rfl rfl Try.underlying42 TryI.inf5 rfl (fun _ h=>by cases h) h3.1 h3.2 (k:=(s0.1).toNat) (km1 _)) ?_
   refine TLn (E_store (j:=1) rfl rfl TryI.inf5 rfl rfl rfl (by simpa using h4) (cs':=e8 (s0.2.set ((s0.1).toNat) (((vg x ((w64 (3 - (w64 (s0.1.tdiv 8)))).toNat)) >>> (w64 (56 - (w64 (8 * (s0.1.tmod 8))))).toNat).setWidth 8))) (set_map (f:=v8) (l:=s0.2) (k:=((s0.1).toNat)) (x:=(((vg x ((w64 (3 - (w64 (s0.1.tdiv 8)))).toNat)) >>> (w64 (56 - (w64 (8 * (s0.1.tmod 8))))).toNat).setWidth 8)))) (fun _=>?_)
   obtain ⟨m_1,hm_1,H⟩:=ltt_elim H
   refine TL_reE (j:=1) (A:=some (b2,0)) (cs:=e8 (s0.2.set ((s0.1).toNat) (((vg x ((w64 (3 - (w64 (s0.1.tdiv 8)))).toNat)) >>> (w64 (56 - (w64 (8 * (s0.1.tmod 8))))).toNat).setWidth 8))) (cs':=e8 m_1) rfl (congrArg (e8) hm_1) ?_
   refine TL_nil (TX_block_normal (TX_next (TC_region (TLv (V_bin rfl rfl (fun w=>addI w s0.1 1)) ?_))))
   refine TLv (V_move rfl) ?_
   refine TL_nil (TX.sub (m':=[(1,ptr (some (b1,0)) 0),(3,sl (some (b2,0)) 32 32),(7,vi 32),(8,vi (w64 (s0.1+1)))]) ⟨rfl,rfl,rfl,rfl,trivial⟩ ?_)
   refine TX.pull (is:=[0,0]) (L':=[⟨some (b1,0),e64 x.toList⟩,⟨some (b2,0),e8 m_1⟩]) rfl ?_
   obtain rfl:=Option.some.inj H
   exact fun a w hs=>hK (w64 (s0.1+1),m_1) rfl () a w hs
  ·replace H:=ite_f (of_decide_eq_false hc) H
   refine TC_exit (TX_then_exit (TX_then_exit (TX.sub (m':=[(3,sl (some (b2,0)) 32 32)]) ⟨rfl,trivial⟩ ?_)))
   refine TX.pull (is:=[1]) (L':=[⟨some (b2,0),e8 s0.2⟩]) rfl ?_
   obtain rfl:=Option.some.inj H
   exact hE s0.2 rfl ()
 ·intro g
  refine TX_block_exit (TX_next (TC_seq (TC_region (TLv (V_move rfl) ?_))))
  obtain ⟨h5,H⟩:=if_elim H
  refine TLv (V_b2s rfl Try.underlying42 Try.underlying5 Try.underlying9 (.o 0) h5) ?_
  refine TLv (V_assign rfl) ?_
  refine TL_nil (TX_next (TC_ret ?_))
  have hrv:=Option.some.inj H
  subst hrv
  exact TX_ret (rs:=[.tmp 2]) (vs:=[vs t_1]) rfl ⟨rfl,trivial⟩ (fun w' hs'=>⟨(),rfl,Step.left (Step.pulled (is:=[]) (A:=[]) hs' rfl)⟩)
end Go.Proofs
end

section
namespace Go.Proofs
open Go Go.Kx
def halberdref9_put.b0 (a_:Vx 32 8) (s0:Int × List (BitVec 8)):Option ((Int × List (BitVec 8)) ⊕ (List (BitVec 8))) :=
 if s0.1<32 then (if 0≤w64 (7 - (w64 (s0.1.tdiv 4)))∧w64 (7 - (w64 (s0.1.tdiv 4)))<(8:Int) then (if 0≤w64 (24 - (w64 (8 * (s0.1.tmod 4)))) then (if 0≤s0.1∧s0.1<(32:Int) then (if (s0.1).toNat<(s0.2).length then (ltt (s0.2.set ((s0.1).toNat) ((((vg a_ ((w64 (7 - (w64 (s0.1.tdiv 4)))).toNat)) >>> (w64 (24 - (w64 (8 * (s0.1.tmod 4))))).toNat) &&& 255#32).setWidth 8)) fun (m_1:List (BitVec 8))=>(ltt (w64 (s0.1+1)) fun (i1:Int)=>(some (.inl (i1,m_1))))) else none) else none) else none) else none) else (some (.inr s0.2))
def halberdref9_put (a_:Vx 32 8):Option (Str) :=
 (loop (halberdref9_put.b0 a_) BIG (0,List.replicate 32 0#8)).bind fun (t_1:List (BitVec 8))=>(if (t_1).length=32 then (some t_1) else none)
set_option maxHeartbeats 4000000 in
set_option maxRecDepth 20000 in
theorem F51_calls (a_:Vx 32 8) (r:Str) (H:halberdref9_put a_=some r) :
  Does Try.prog 51 [aG [(8,e32 a_.toList)]] [] [] (Γ:=Unit) (fun g=>vs r) (fun g=>[]):=by
 intro w hmem hro hd
 refine calls_of (N:=27) (m0:=[(0,aG [(8,e32 a_.toList)])]) Try.func51 rfl Try.ntmps51 (argM_ok [aG [(8,e32 a_.toList)]]) rfl hmem hro hd ?_
 unfold halberdref9_put at H
 refine TC_seq (TC_region (TLe (E_boxP [(8,e32 a_.toList)] rfl rfl ⟨(lenV (f:=v32) a_),trivial⟩) (fun b1=>?_)))
 refine TLv (V_assign rfl) ?_
 refine TL_nil (TX_next (TC_seq (TC_region (TLe (E_mk1 rfl rfl Try.underlying42 TryI.inf5 (z:=v8 0#8) rfl rfl rfl (B:=1) rfl (by decide) (Int.le_refl _) (by decide) (by decide) (n':=32) (c':=32) rfl rfl (cs:=e8 (List.replicate 32 0#8)) (rep_map (f:=v8))) (fun b2=>?_)))))
 refine TLv (V_assign rfl) ?_
 refine TL_nil (TX_next (TC_seq (TC_seq (TC_region (TLv (V_assign rfl) ?_)))))
 refine TL_nil (TX_next (TC_block ?_))
 obtain ⟨t_1,Hl,H⟩:=bind_elim H
 refine TC.sub (m':=[(1,ptr (some (b1,0)) 0),(3,sl (some (b2,0)) 32 32),(4,vi 0)]) ⟨rfl,rfl,rfl,trivial⟩ ?_
 refine TC.pull (is:=[1,0]) (L':=[⟨some (b1,0),e32 a_.toList⟩,⟨some (b2,0),e8 (List.replicate 32 0#8)⟩]) rfl ?_
 refine TC_loopL (id:=0) (body:=(halberdref9_put.b0 a_)) (σ:=Int × List (BitVec 8)) (Γ:=Unit) (Γx:=Unit) (fun s0 g0_=>[(1,ptr (some (b1,0)) 0),(3,sl (some (b2,0)) 32 32),(4,vi s0.1)]) (fun s0 g0_=>[⟨some (b1,0),e32 a_.toList⟩,⟨some (b2,0),e8 s0.2⟩]) (fun t g=>[(3,sl (some (b2,0)) 32 32)]) (fun t g=>[⟨some (b2,0),e8 t⟩]) ?_ BIG (0,List.replicate 32 0#8) () t_1 Hl ?_
 ·intro s0 g0_ r1 H K hK hE
  unfold halberdref9_put.b0 at H
  refine TC_seq (TC_seq (TC_region (TLv (V_move rfl) ?_)))
  refine TLv (V_bin rfl rfl (fun w=>lssI w s0.1 32)) ?_
  refine TL_nil (TX_next (TC_cond (b:=(decide (s0.1<32))) rfl (fun hc=>?_) (fun hc=>?_)))
  ·replace H:=ite_t (of_decide_eq_true hc) H
   refine TC_skip (TX_next (TC_seq (TC_block (TC_region (TLv (V_move rfl) ?_)))))
   refine TLv (V_move rfl) ?_
   refine TLv (V_move rfl) ?_
   refine TLv (V_bin rfl rfl (fun w=>quoI w s0.1 4 (by decide))) ?_
   refine TLv (V_bin rfl rfl (fun w=>subI w 7 (w64 (s0.1.tdiv 4)))) ?_
   obtain ⟨h1,H⟩:=if_elim H
   refine TLv (V_idxArr (i:=w64 (7 - (w64 (s0.1.tdiv 4)))) rfl rfl Try.underlying31 TryI.inf29 rfl h1.1 h1.2 (k:=(w64 (7 - (w64 (s0.1.tdiv 4)))).toNat) (k01 _)) ?_
   refine TLv (V_load rfl (.o 0) (get_vec (f:=v32) (V:=a_) (toNat_lt h1.1 h1.2)) Try.isAgg29) ?_
   refine TLv (V_move rfl) ?_
   refine TLv (V_bin rfl rfl (fun w=>remI w s0.1 4 (by decide))) ?_
   refine TLv (V_bin rfl rfl (fun w=>mulI w 8 (s0.1.tmod 4))) ?_
   refine TLv (V_bin rfl rfl (fun w=>subI w 24 (w64 (8 * (s0.1.tmod 4))))) ?_
   obtain ⟨h2,H⟩:=if_elim H
   refine TLv (V_bin rfl rfl (fun w=>shr32 w (vg a_ ((w64 (7 - (w64 (s0.1.tdiv 4)))).toNat)) .i64 (w64 (24 - (w64 (8 * (s0.1.tmod 4))))) h2)) ?_
   refine TLv (V_bin rfl rfl (fun w=>and32 w ((vg a_ ((w64 (7 - (w64 (s0.1.tdiv 4)))).toNat)) >>> (w64 (24 - (w64 (8 * (s0.1.tmod 4))))).toNat) 255#32)) ?_
   refine TLv (V_conv rfl (fun w=>cv32to8 w _ _ Try.underlying5 (TryI.und29) (((vg a_ ((w64 (7 - (w64 (s0.1.tdiv 4)))).toNat)) >>> (w64 (24 - (w64 (8 * (s0.1.tmod 4))))).toNat) &&& 255#32))) ?_
   obtain ⟨h3,H⟩:=if_elim H
   obtain ⟨h4,H⟩:=if_elim H
   refine TLv (V_idxSl (i:=s0.1) rfl rfl Try.underlying42 TryI.inf5 rfl (fun _ h=>by cases h) h3.1 h3.2 (k:=(s0.1).toNat) (km1 _)) ?_
   refine TLn (E_store (j:=1) rfl rfl TryI.inf5 rfl rfl rfl (by simpa using h4) (cs':=e8 (s0.2.set ((s0.1).toNat) ((((vg a_ ((w64 (7 - (w64 (s0.1.tdiv 4)))).toNat)) >>> (w64 (24 - (w64 (8 * (s0.1.tmod 4))))).toNat) &&& 255#32).setWidth 8))) (set_map (f:=v8) (l:=s0.2) (k:=((s0.1).toNat)) (x:=((((vg a_ ((w64 (7 - (w64 (s0.1.tdiv 4)))).toNat)) >>> (w64 (24 - (w64 (8 * (s0.1.tmod 4))))).toNat) &&& 255#32).setWidth 8)))) (fun _=>?_)
   obtain ⟨m_1,hm_1,H⟩:=ltt_elim H
   refine TL_reE (j:=1) (A:=some (b2,0)) (cs:=e8 (s0.2.set ((s0.1).toNat) ((((vg a_ ((w64 (7 - (w64 (s0.1.tdiv 4)))).toNat)) >>> (w64 (24 - (w64 (8 * (s0.1.tmod 4))))).toNat) &&& 255#32).setWidth 8))) (cs':=e8 m_1) rfl (congrArg (e8) hm_1) ?_
   refine TL_nil (TX_block_normal (TX_next (TC_region (TLv (V_move rfl) ?_))))
   refine TLv (V_bin rfl rfl (fun w=>addI w s0.1 1)) ?_
   refine TLv (V_assign rfl) ?_
   obtain ⟨i1,hi1,H⟩:=ltt_elim H
   refine TL_re (d:=4) (v:=vi (w64 (s0.1+1))) (v':=vi i1) rfl (congrArg vi hi1) ?_
   refine TL_nil (TX.sub (m':=[(1,ptr (some (b1,0)) 0),(3,sl (some (b2,0)) 32 32),(4,vi i1)]) ⟨rfl,rfl,rfl,trivial⟩ ?_)
   refine TX.pull (is:=[0,0]) (L':=[⟨some (b1,0),e32 a_.toList⟩,⟨some (b2,0),e8 m_1⟩]) rfl ?_
   obtain rfl:=Option.some.inj H
   exact fun a w hs=>hK (i1,m_1) rfl () a w hs
  ·replace H:=ite_f (of_decide_eq_false hc) H
   refine TC_exit (TX_then_exit (TX_then_exit (TX.sub (m':=[(3,sl (some (b2,0)) 32 32)]) ⟨rfl,trivial⟩ ?_)))
   refine TX.pull (is:=[1]) (L':=[⟨some (b2,0),e8 s0.2⟩]) rfl ?_
   obtain rfl:=Option.some.inj H
   exact hE s0.2 rfl ()
 ·intro g
  refine TX_block_exit (TX_next (TC_seq (TC_region (TLv (V_move rfl) ?_))))
  obtain ⟨h5,H⟩:=if_elim H
  refine TLv (V_b2s rfl Try.underlying42 Try.underlying5 Try.underlying9 (.o 0) h5) ?_
  refine TLv (V_assign rfl) ?_
  refine TL_nil (TX_next (TC_ret ?_))
  have hrv:=Option.some.inj H
  subst hrv
  exact TX_ret (rs:=[.tmp 2]) (vs:=[vs t_1]) rfl ⟨rfl,trivial⟩ (fun w' hs'=>⟨(),rfl,Step.left (Step.pulled (is:=[]) (A:=[]) hs' rfl)⟩)
end Go.Proofs
end

section
namespace Go.Proofs
open Go Go.Kx
open Vector (replicate)
def halberdref9_get.b0 (s_:Str) (s0:Int × Vx 32 8):Option ((Int × Vx 32 8) ⊕ (Vx 32 8)) :=
 if s0.1<32 then (if 0≤w64 (7 - (w64 (s0.1.tdiv 4)))∧w64 (7 - (w64 (s0.1.tdiv 4)))<(8:Int) then (if 0≤s0.1∧s0.1<((s_).length:Int) then (if 0≤w64 (7 - (w64 (s0.1.tdiv 4)))∧w64 (7 - (w64 (s0.1.tdiv 4)))<(8:Int) then (ltt (vp s0.2 ((w64 (7 - (w64 (s0.1.tdiv 4)))).toNat) (((vg s0.2 ((w64 (7 - (w64 (s0.1.tdiv 4)))).toNat)) <<< 8) ||| ((sg s_ s0.1).setWidth 32))) fun (m_1:Vx 32 8)=>(ltt (w64 (s0.1+1)) fun (i1:Int)=>(some (.inl (i1,m_1))))) else none) else none) else none) else (some (.inr s0.2))
def halberdref9_get (s_:Str):Option (Vx 32 8) :=
 (loop (halberdref9_get.b0 s_) BIG (0,replicate 8 0#32)).bind fun (t_1:Vx 32 8)=>(some t_1)
set_option maxHeartbeats 4000000 in
set_option maxRecDepth 20000 in
theorem F67_calls (s_:Str) (r:Vx 32 8) (H:halberdref9_get s_=some r) :
  Does Try.prog 67 [vs s_] [] [] (Γ:=Unit) (fun g=>aG [(8,e32 r.toList)]) (fun g=>[]):=by
 intro w hmem hro hd
 refine calls_of (N:=25) (m0:=[(0,vs s_)]) Try.func67 rfl Try.ntmps67 (argM_ok [vs s_]) rfl hmem hro hd ?_
 unfold halberdref9_get at H
 refine TC_seq (TC_region (TLe (E_al32 8 TryI.inf31 TryI.zer31) (fun b1=>?_)))
 refine TL_nil (TX_next (TC_seq (TC_region (TLe (E_al32 8 TryI.inf31 TryI.zer31) (fun b2=>?_)))))
 refine TL_nil (TX_next (TC_seq (TC_seq (TC_region (TLv (V_assign rfl) ?_)))))
 refine TL_nil (TX_next (TC_block ?_))
 obtain ⟨t_1,Hl,H⟩:=bind_elim H
 refine TC.sub (m':=[(0,vs s_),(2,ptr (some (b1,0)) 0),(3,ptr (some (b2,0)) 0),(4,vi 0)]) ⟨rfl,rfl,rfl,rfl,trivial⟩ ?_
 refine TC.pull (is:=[1,0]) (L':=[⟨some (b1,0),e32 ((replicate 8 0#32).toList)⟩,⟨some (b2,0),e32 ((replicate 8 0#32).toList)⟩]) rfl ?_
 refine TC_loopL (id:=0) (body:=(halberdref9_get.b0 s_)) (σ:=Int × Vx 32 8) (Γ:=Unit) (Γx:=Unit) (fun s0 g0_=>[(0,vs s_),(2,ptr (some (b1,0)) 0),(3,ptr (some (b2,0)) 0),(4,vi s0.1)]) (fun s0 g0_=>[⟨some (b1,0),e32 ((replicate 8 0#32).toList)⟩,⟨some (b2,0),e32 s0.2.toList⟩]) (fun t g=>[(2,ptr (some (b1,0)) 0),(3,ptr (some (b2,0)) 0)]) (fun t g=>[⟨some (b1,0),e32 ((replicate 8 0#32).toList)⟩,⟨some (b2,0),e32 t.toList⟩]) ?_ BIG (0,replicate 8 0#32) () t_1 Hl ?_
 ·intro s0 g0_ r1 H K hK hE
  unfold halberdref9_get.b0 at H
  refine TC_seq (TC_seq (TC_region (TLv (V_move rfl) ?_)))
  refine TLv (V_bin rfl rfl (fun w=>lssI w s0.1 32)) ?_
  refine TL_nil (TX_next (TC_cond (b:=(decide (s0.1<32))) rfl (fun hc=>?_) (fun hc=>?_)))
  ·replace H:=ite_t (of_decide_eq_true hc) H
   refine TC_skip (TX_next (TC_seq (TC_block ?_)))
   obtain ⟨h1,H⟩:=if_elim H
   obtain ⟨h2,H⟩:=if_elim H
   obtain ⟨h3,H⟩:=if_elim H
   obtain ⟨m_1,hm_1,H⟩:=ltt_elim H
   refine TA_begin [] 16 (by kernel_rfl) (N:=16) rfl ?_
   refine TA_mix (is:=[]) (done':=dn 16 32767) [itV 0 9 (vi s0.1) [],itV 1 10 (vi (w64 (s0.1.tdiv 4))) [0],itV 2 11 (vi (w64 (7 - (w64 (s0.1.tdiv 4))))) [1],itV 3 12 (vi s0.1) [],itV 4 13 (vi (w64 (s0.1.tdiv 4))) [3],itV 5 14 (vi (w64 (7 - (w64 (s0.1.tdiv 4))))) [4],itV 6 15 (ptr (some (b2,0)) ((w64 (7 - (w64 (s0.1.tdiv 4)))).toNat)) [5],itV 7 16 (v32 (vg s0.2 ((w64 (7 - (w64 (s0.1.tdiv 4)))).toNat))) [6],itV 8 17 (v32 ((vg s0.2 ((w64 (7 - (w64 (s0.1.tdiv 4)))).toNat)) <<< 8)) [7],itV 9 18 (vs s_) [],itV 10 19 (vi s0.1) [],itV 11 20 (v8 (sg s_ s0.1)) [9,10],itV 12 21 (v32 ((sg s_ s0.1).setWidth 32)) [11],itV 13 22 (v32 (((vg s0.2 ((w64 (7 - (w64 (s0.1.tdiv 4)))).toNat)) <<< 8) ||| ((sg s_ s0.1).setWidth 32))) [8,12],itV 14 23 (ptr (some (b2,0)) ((w64 (7 - (w64 (s0.1.tdiv 4)))).toNat)) [2]] [] 1 (by kernel_rfl) (QP.block (QP.then (QP.then (QP.block (QP.then QP.body))))) (by kernel_rfl) rfl (.v rfl (V_move rfl) (.v rfl (V_bin rfl rfl (fun w=>quoI w s0.1 4 (by decide))) (.v rfl (V_bin rfl rfl (fun w=>subI w 7 (w64 (s0.1.tdiv 4)))) (.v rfl (V_move rfl) (.v rfl (V_bin rfl rfl (fun w=>quoI w s0.1 4 (by decide))) (.v rfl (V_bin rfl rfl (fun w=>subI w 7 (w64 (s0.1.tdiv 4)))) (.v rfl (V_idxArr (i:=w64 (7 - (w64 (s0.1.tdiv 4)))) rfl rfl Try.underlying31 TryI.inf29 rfl h1.1 h1.2 (k:=(w64 (7 - (w64 (s0.1.tdiv 4)))).toNat) (k01 _)) (.v rfl (V_load rfl (.o 1) (get_vec (f:=v32) (V:=s0.2) (toNat_lt h1.1 h1.2)) Try.isAgg29) (.v rfl (V_bin rfl rfl (fun w=>shl32 w (vg s0.2 ((w64 (7 - (w64 (s0.1.tdiv 4)))).toNat)) .u64 8 (by decide))) (.v rfl (V_move rfl) (.v rfl (V_move rfl) (.v rfl (V_idxStr rfl rfl (i:=s0.1) Try.underlying9 h2.1 h2.2) (.v rfl (V_conv rfl (fun w=>cv8to32 w _ _ Try.underlying29 (TryI.und5) (sg s_ s0.1))) (.v rfl (V_bin rfl rfl (fun w=>or32 w ((vg s0.2 ((w64 (7 - (w64 (s0.1.tdiv 4)))).toNat)) <<< 8) ((sg s_ s0.1).setWidth 32))) (.v rfl (V_idxArr (i:=w64 (7 - (w64 (s0.1.tdiv 4)))) rfl rfl Try.underlying31 TryI.inf29 rfl h3.1 h3.2 (k:=(w64 (7 - (w64 (s0.1.tdiv 4)))).toNat) (k01 _)) .nil))))))))))))))) .nil (by kernel_rfl) rfl (fun γ=>?_)
   refine TA_cut [(23,ptr (some (b2,0)) ((w64 (7 - (w64 (s0.1.tdiv 4)))).toNat)),(22,v32 (((vg s0.2 ((w64 (7 - (w64 (s0.1.tdiv 4)))).toNat)) <<< 8) ||| ((sg s_ s0.1).setWidth 32))),(0,vs s_),(2,ptr (some (b1,0)) 0),(3,ptr (some (b2,0)) 0),(4,vi s0.1)] [⟨some (b1,0),e32 ((replicate 8 0#32).toList)⟩,⟨some (b2,0),e32 s0.2.toList⟩] ⟨rfl,rfl,rfl,rfl,rfl,rfl,trivial⟩ rfl ?_
   refine TA_all (rs:=[15]) (by kernel_rfl) rfl ?_
   refine ⟨?_,trivial⟩
   refine TO_n (is:=[]) (done':=dn 16 65535) rfl rfl rfl (by kernel_rfl) (E_store (j:=1) rfl rfl TryI.inf29 rfl rfl rfl (by simpa using (toNat_lt h3.1 h3.2)) (cs':=e32 ((vp s0.2 ((w64 (7 - (w64 (s0.1.tdiv 4)))).toNat) (((vg s0.2 ((w64 (7 - (w64 (s0.1.tdiv 4)))).toNat)) <<< 8) ||| ((sg s_ s0.1).setWidth 32))).toList)) set_vec) (fun _ _=>rfl) (fun _=>?_)
   refine TA_reE (j:=1) (A:=some (b2,0)) (cs:=e32 ((vp s0.2 ((w64 (7 - (w64 (s0.1.tdiv 4)))).toNat) (((vg s0.2 ((w64 (7 - (w64 (s0.1.tdiv 4)))).toNat)) <<< 8) ||| ((sg s_ s0.1).setWidth 32))).toList)) (cs':=e32 m_1.toList) rfl (congrArg (fun z:Vx 32 8=>e32 (Vector.toList z)) hm_1) ?_
   refine TA_done (by kernel_rfl) ?_ 0
   refine TX_block_normal (TX_next (TC_region (TLv (V_move rfl) ?_)))
   refine TLv (V_bin rfl rfl (fun w=>addI w s0.1 1)) ?_
   refine TLv (V_assign rfl) ?_
   obtain ⟨i1,hi1,H⟩:=ltt_elim H
   refine TL_re (d:=4) (v:=vi (w64 (s0.1+1))) (v':=vi i1) rfl (congrArg vi hi1) ?_
   refine TL_nil (TX.sub (m':=[(0,vs s_),(2,ptr (some (b1,0)) 0),(3,ptr (some (b2,0)) 0),(4,vi i1)]) ⟨rfl,rfl,rfl,rfl,trivial⟩ ?_)
   refine TX.pull (is:=[0,0]) (L':=[⟨some (b1,0),e32 ((replicate 8 0#32).toList)⟩,⟨some (b2,0),e32 m_1.toList⟩]) rfl ?_
   obtain rfl:=Option.some.inj H
   exact fun a w hs=>hK (i1,m_1) rfl () a w hs
  ·replace H:=ite_f (of_decide_eq_false hc) H
   refine TC_exit (TX_then_exit (TX_then_exit (TX.sub (m':=[(2,ptr (some (b1,0)) 0),(3,ptr (some (b2,0)) 0)]) ⟨rfl,rfl,trivial⟩ ?_)))
   refine TX.pull (is:=[0,0]) (L':=[⟨some (b1,0),e32 ((replicate 8 0#32).toList)⟩,⟨some (b2,0),e32 s0.2.toList⟩]) rfl ?_
   obtain rfl:=Option.some.inj H
   exact hE s0.2 rfl ()
 ·intro g
  refine TX_block_exit (TX_next (TC_seq (TC_region (TLv (V_lag (.o 1) Try.isAgg31 TryI.inf31) ?_))))
  refine TLn (E_sv (vs:=e32 t_1.toList) 0 TryI.inf31) (fun _=>?_)
  refine TL_nil (TX_next (TC_ret ?_))
  have hrv:=Option.some.inj H
  subst hrv
  exact TX_ret (rs:=[.cell 2 31]) (vs:=[aG [(8,e32 t_1.toList)]]) rfl ⟨(Res_agg (n:=8) rfl (by simp) (.o 0) Try.isAgg31 TryI.inf31 rfl (lenV (f:=v32) t_1)),trivial⟩ (fun w' hs'=>⟨(),rfl,Step.left (Step.pulled (is:=[]) (A:=[]) hs' rfl)⟩)
end Go.Proofs
end

section
namespace Go.Proofs
open Go Go.Kx
open Vector (replicate)
def halberdref9_Number (which:Int) (s_:Str):Option (Vx 32 8 × Bool) :=
 (if which<0 then (some true) else (if 2<which then (some true) else (some (decide (((s_).length:Int) ≠ 32))))).bind fun (j1:Bool)=>(if j1=true then (ltt ((replicate 8 0#32:Vx 32 8)) fun (m_1:Vx 32 8)=>(some (m_1,false))) else ((halberdref9_get s_).bind fun (r_1:Vx 32 8)=>((halberdref9_modulus which).bind fun (r_2:Vx 32 8)=>((halberdref9_less r_1 r_2).bind fun (r_3:Bool)=>(some (r_1,r_3))))))
set_option maxHeartbeats 4000000 in
set_option maxRecDepth 20000 in
theorem F45_calls (which:Int) (s_:Str) (r:Vx 32 8 × Bool) (H:halberdref9_Number which s_=some r) :
  Does Try.prog 45 [vi which,vs s_] [] [] (Γ:=Unit) (fun g=>Value.tuple [aG [(8,e32 r.1.toList)],vb r.2].toArray) (fun g=>[]):=by
 intro w hmem hro hd
 refine calls_of (N:=26) (m0:=[(0,vi which),(1,vs s_)]) Try.func45 rfl Try.ntmps45 (argM_ok [vi which,vs s_]) rfl hmem hro hd ?_
 unfold halberdref9_Number at H
 refine TC_seq (TC_region (TLe (E_al32 8 TryI.inf31 TryI.zer31) (fun b1=>?_)))
 refine TLv (V_assign rfl) ?_
 refine TL_nil (TX_next (TC_seq (TC_seq (TC_region (TLv (V_move rfl) ?_)))))
 refine TLv (V_bin rfl rfl (fun w=>lssI w which 0)) ?_
 refine TLv (V_move rfl) ?_
 obtain ⟨j1,Hj,H⟩:=bind_elim H
 refine TL_join (Γ:=Unit) (fun gj1=>[(0,vi which),(1,vs s_),(4,ptr (some (b1,0)) 0),(17,vb j1)]) (fun gj1=>[⟨some (b1,0),e32 ((replicate 8 0#32).toList)⟩]) ?_ ?_
 ·intro gj1
  refine TX_next (TC_cond (b:=j1) rfl (fun hc=>?_) (fun hc=>?_))
  ·replace H:=ite_t hc H
   refine TC_seq (TC_region (TLv (V_buildArr (pv:=[]) rfl rfl Try.underlying31 TryI.inf31 TryI.inf29 rfl TryI.zer31 (cs:=e32 ((replicate 8 0#32:Vx 32 8).toList)) (by kernel_rfl)) ?_))
   refine TLn (E_sv 0 TryI.inf31) (fun _=>?_)
   obtain ⟨m_1,hm_1,H⟩:=ltt_elim H
   refine TL_reE (j:=0) (A:=some (b1,0)) (cs:=e32 ((replicate 8 0#32:Vx 32 8).toList)) (cs':=e32 m_1.toList) rfl (congrArg (fun z:Vx 32 8=>e32 (Vector.toList z)) hm_1) ?_
   refine TLv (V_assign rfl) ?_
   refine TL_nil (TX_next (TC_ret (TX_then_ret ?_)))
   have hrv:=Option.some.inj H
   subst hrv
   exact TX_ret (rs:=[.cell 4 31, .tmp 5]) (vs:=[aG [(8,e32 m_1.toList)],vb false]) rfl ⟨(Res_agg (n:=8) rfl (by simp) (.o 0) Try.isAgg31 TryI.inf31 rfl (lenV (f:=v32) m_1)),rfl,trivial⟩ (fun w' hs'=>⟨(),rfl,Step.left (Step.pulled (is:=[]) (A:=[]) hs' rfl)⟩)
  ·replace H:=ite_f (Bool.eq_false_iff.1 hc) H
   refine TC_skip (TX_next (TC_seq (TC_region (TLv (V_move rfl) ?_))))
   obtain ⟨r_1,hr_1,H⟩:=bind_elim H
   refine TLe (E_c0 (F67_calls s_ r_1 hr_1) Try.call67 .z) (fun g_1=>?_)
   refine TLe (E_al32 8 TryI.inf31 TryI.zer31) (fun b2=>?_)
   refine TLn (E_sv (vs:=e32 r_1.toList) 0 TryI.inf31) (fun _=>?_)
   refine TL_nil (TX_next (TC_seq ?_))
   obtain ⟨r_2,hr_2,H⟩:=bind_elim H
   obtain ⟨r_3,hr_3,H⟩:=bind_elim H
   refine TA_begin [] 7 (by kernel_rfl) (N:=7) rfl ?_
   refine TA_mix (is:=[]) (done':=dn 7 31) [itV 0 21 (aG [(8,e32 r_1.toList)]) [],itV 1 22 (aG [(8,e32 r_1.toList)]) [],itV 2 23 (vi which) [],itV 3 24 (aG [(8,e32 r_2.toList)]) [2],itV 4 25 (vb r_3) [3,1]] [] 2 (by kernel_rfl) (QP.then QP.body) (by kernel_rfl) rfl (.v rfl (V_lag (.o 0) Try.isAgg31 TryI.inf31) (.v rfl (V_lag (.o 0) Try.isAgg31 TryI.inf31) (.v rfl (V_move rfl) (.e rfl (E_cu (F79_calls which r_2 hr_2) Try.call79 .z) (.e rfl (E_cu (F78_calls r_1 r_2 r_3 hr_3) Try.call78 .z) .nil))))) .nil (by kernel_rfl) rfl (fun γ=>?_)
   refine TA_cut [(25,vb r_3),(21,aG [(8,e32 r_1.toList)]),(4,ptr (some (b1,0)) 0)] [⟨some (b2,0),e32 r_1.toList⟩,⟨some (b1,0),e32 ((replicate 8 0#32).toList)⟩] ⟨rfl,rfl,rfl,trivial⟩ rfl ?_
   refine TA_all (rs:=[5]) (by kernel_rfl) rfl ?_
   refine ⟨?_,trivial⟩
   refine TO_n (is:=[]) (done':=dn 7 63) rfl rfl rfl (by kernel_rfl) (E_sv (vs:=e32 r_1.toList) 1 TryI.inf31) (fun _ _=>rfl) (fun _=>?_)
   refine TA_all (rs:=[6]) (by kernel_rfl) rfl ?_
   refine ⟨?_,trivial⟩
   refine TO_v (is:=[]) (done':=dn 7 127) rfl rfl rfl rfl (by kernel_rfl) (V_assign rfl) (fun _=>rfl) ?_
   refine TA_done (by kernel_rfl) ?_ 0
   refine TX_next (TC_ret ?_)
   have hrv:=Option.some.inj H
   subst hrv
   exact TX_ret (rs:=[.cell 4 31, .tmp 5]) (vs:=[aG [(8,e32 r_1.toList)],vb r_3]) rfl ⟨(Res_agg (n:=8) rfl (by simp) (.o 1) Try.isAgg31 TryI.inf31 rfl (lenV (f:=v32) r_1)),rfl,trivial⟩ (fun w' hs'=>⟨(),rfl,Step.left (Step.pulled (is:=[]) (A:=[]) hs' rfl)⟩)
 ·intro hJ
  replace H:=Hj
  refine TL_fork (d:=9) (b:=(decide (which<0))) rfl (fun hc=>?_) (fun hc=>?_)
  ·replace H:=ite_t (of_decide_eq_true hc) H
   refine TL_skip rfl rfl rfl rfl rfl rfl rfl ?_
   refine TL_skip rfl rfl rfl rfl rfl rfl rfl ?_
   refine TLv (V_pick (b:=true) rfl rfl) ?_
   refine TLv (V_move rfl) ?_
   refine TL_skip rfl rfl rfl rfl rfl rfl rfl ?_
   refine TL_skip rfl rfl rfl rfl rfl rfl rfl ?_
   refine TL_skip rfl rfl rfl rfl rfl rfl rfl ?_
   refine TLv (V_pick (b:=true) rfl rfl) ?_
   refine TL_nil (TX.sub (m':=[(0,vi which),(1,vs s_),(4,ptr (some (b1,0)) 0),(17,vb true)]) ⟨rfl,rfl,rfl,rfl,trivial⟩ ?_)
   refine TX.pull (is:=[0]) (L':=[⟨some (b1,0),e32 ((replicate 8 0#32).toList)⟩]) rfl ?_
   obtain rfl:=Option.some.inj H
   exact hJ ()
  ·replace H:=ite_f (of_decide_eq_false hc) H
   refine TL_want rfl rfl rfl rfl rfl rfl (V_move rfl) ?_
   refine TL_want rfl rfl rfl rfl rfl rfl (V_bin rfl rfl (fun w=>gtrI w which 2)) ?_
   refine TLv (V_pick (b:=false) rfl rfl) ?_
   refine TLv (V_move rfl) ?_
   refine TL_fork (d:=13) (b:=(decide (2<which))) rfl (fun hc=>?_) (fun hc=>?_)
   ·replace H:=ite_t (of_decide_eq_true hc) H
    refine TL_skip rfl rfl rfl rfl rfl rfl rfl ?_
    refine TL_skip rfl rfl rfl rfl rfl rfl rfl ?_
    refine TL_skip rfl rfl rfl rfl rfl rfl rfl ?_
    refine TLv (V_pick (b:=true) rfl rfl) ?_
    refine TL_nil (TX.sub (m':=[(0,vi which),(1,vs s_),(4,ptr (some (b1,0)) 0),(17,vb true)]) ⟨rfl,rfl,rfl,rfl,trivial⟩ ?_)
    refine TX.pull (is:=[0]) (L':=[⟨some (b1,0),e32 ((replicate 8 0#32).toList)⟩]) rfl ?_
    obtain rfl:=Option.some.inj H
    exact hJ ()
   ·replace H:=ite_f (of_decide_eq_false hc) H
    refine TL_want rfl rfl rfl rfl rfl rfl (V_move rfl) ?_
    refine TL_want rfl rfl rfl rfl rfl rfl (V_len_str rfl Try.underlying9) ?_
    refine TL_want rfl rfl rfl rfl rfl rfl (V_bin rfl rfl (fun w=>neqI w ((s_).length:Int) 32)) ?_
    refine TLv (V_pick (b:=false) rfl rfl) ?_
    refine TL_nil (TX.sub (m':=[(0,vi which),(1,vs s_),(4,ptr (some (b1,0)) 0),(17,vb (decide (((s_).length:Int) ≠ 32)))]) ⟨rfl,rfl,rfl,rfl,trivial⟩ ?_)
    refine TX.pull (is:=[0]) (L':=[⟨some (b1,0),e32 ((replicate 8 0#32).toList)⟩]) rfl ?_
    obtain rfl:=Option.some.inj H
    exact hJ ()
end Go.Proofs
end

section
namespace Go.Proofs
open Go Go.Kx
open Vector (replicate)
def num_Field_Read (f_M:Vx 64 4) (f_inv:BitVec 64) (f_one:Vx 64 4) (f_two:Vx 64 4) (s_:Str):Option (Vx 64 4 × Bool) :=
 if ((s_).length:Int) ≠ 32 then (ltt ((replicate 4 0#64:Vx 64 4)) fun (m_1:Vx 64 4)=>(some (m_1,false))) else ((num_Load s_).bind fun (r_1:Vx 64 4)=>((num_Nat_Less r_1 f_M).bind fun (r_2:Bool)=>(some (r_1,r_2))))
def num_Field_Read_nil0 (s_:Str):Option (Vx 64 4) :=
 if ((s_).length:Int) ≠ 32 then (ltt ((replicate 4 0#64:Vx 64 4)) fun (m_1:Vx 64 4)=>(some m_1)) else ((num_Load s_).bind fun (r_1:Vx 64 4)=>(none))
set_option maxHeartbeats 4000000 in
set_option maxRecDepth 20000 in
theorem F73_calls (bf:Nat) (obf:Nat) (f_M:Vx 64 4) (f_inv:BitVec 64) (f_one:Vx 64 4) (f_two:Vx 64 4) (s_:Str) (r:Vx 64 4 × Bool) (H:num_Field_Read f_M f_inv f_one f_two s_=some r) :
  Does Try.prog 73 [ptr (some (bf,obf)) 0,vs s_] [] [⟨some (bf,obf),e64 f_M.toList⟩,⟨some (bf,obf+4),[v64 f_inv]⟩,⟨some (bf,obf+5),e64 f_one.toList⟩,⟨some (bf,obf+9),e64 f_two.toList⟩] (Γ:=Unit) (fun g=>Value.tuple [aG [(4,e64 r.1.toList)],vb r.2].toArray) (fun g=>[]):=by
 intro w hmem hro hd
 refine calls_of (N:=20) (m0:=[(0,ptr (some (bf,obf)) 0),(1,vs s_)]) Try.func73 rfl Try.ntmps73 (argM_ok [ptr (some (bf,obf)) 0,vs s_]) rfl hmem hro hd ?_
 unfold num_Field_Read at H
 refine TC_seq (TC_region (TLe (E_al64 4 TryI.inf57 TryI.zer57) (fun b1=>?_)))
 refine TLv (V_assign rfl) ?_
 refine TL_nil (TX_next (TC_seq (TC_seq (TC_region (TLv (V_move rfl) ?_)))))
 refine TLv (V_len_str rfl Try.underlying9) ?_
 refine TLv (V_bin rfl rfl (fun w=>neqI w ((s_).length:Int) 32)) ?_
 refine TL_nil (TX_next (TC_cond (b:=(decide (((s_).length:Int) ≠ 32))) rfl (fun hc=>?_) (fun hc=>?_)))
 ·replace H:=ite_t (of_decide_eq_true hc) H
  refine TC_seq (TC_region (TLv (V_buildArr (pv:=[]) rfl rfl Try.underlying57 TryI.inf57 TryI.inf55 rfl TryI.zer57 (cs:=e64 ((replicate 4 0#64:Vx 64 4).toList)) (by kernel_rfl)) ?_))
  refine TLn (E_sv 0 TryI.inf57) (fun _=>?_)
  obtain ⟨m_1,hm_1,H⟩:=ltt_elim H
  refine TL_reE (j:=0) (A:=some (b1,0)) (cs:=e64 ((replicate 4 0#64:Vx 64 4).toList)) (cs':=e64 m_1.toList) rfl (congrArg (fun z:Vx 64 4=>e64 (Vector.toList z)) hm_1) ?_
  refine TLv (V_assign rfl) ?_
  refine TL_nil (TX_next (TC_ret (TX_then_ret ?_)))
  have hrv:=Option.some.inj H
  subst hrv
  exact TX_ret (rs:=[.cell 4 57, .tmp 5]) (vs:=[aG [(4,e64 m_1.toList)],vb false]) rfl ⟨(Res_agg (n:=4) rfl (by simp) (.o 0) Try.isAgg57 TryI.inf57 rfl (lenV (f:=v64) m_1)),rfl,trivial⟩ (fun w' hs'=>⟨(),rfl,Step.left (Step.pulled (is:=[]) (A:=[]) hs' rfl)⟩)
 ·replace H:=ite_f (of_decide_eq_false hc) H
  refine TC_skip (TX_next (TC_seq (TC_region (TLv (V_move rfl) ?_))))
  obtain ⟨r_1,hr_1,H⟩:=bind_elim H
  refine TLe (E_c0 (F55_calls s_ r_1 hr_1) Try.call55 .z) (fun g_1=>?_)
  refine TLe (E_al64 4 TryI.inf57 TryI.zer57) (fun b2=>?_)
  refine TLn (E_sv (vs:=e64 r_1.toList) 0 TryI.inf57) (fun _=>?_)
  refine TL_nil (TX_next (TC_seq ?_))
  obtain ⟨r_2,hr_2,H⟩:=bind_elim H
  refine TA_begin [] 9 (by kernel_rfl) (N:=9) rfl ?_
  refine TA_mix (is:=[]) (done':=dn 9 127) [itV 0 13 (aG [(4,e64 r_1.toList)]) [],itV 1 14 (aG [(4,e64 r_1.toList)]) [],itV 2 15 (ptr (some (bf,obf)) 0) [],itV 3 16 (ptr (some (bf,obf)) 0) [2],itV 4 17 (ptr (some (bf,obf)) 0) [3],itV 5 18 (aG [(4,e64 f_M.toList)]) [4],itV 6 19 (vb r_2) [5,1]] [] 2 (by kernel_rfl) (QP.then QP.body) (by kernel_rfl) rfl (.v rfl (V_lag (.o 0) Try.isAgg57 TryI.inf57) (.v rfl (V_lag (.o 0) Try.isAgg57 TryI.inf57) (.v rfl (V_move rfl) (.v rfl (V_nilCheck rfl) (.v rfl (V_fe Try.underlying113 TryI.inf57) (.v rfl (V_lag (.r 0) Try.isAgg57 TryI.inf57) (.e rfl (E_cu (F100_calls r_1 f_M r_2 hr_2) Try.call100 .z) .nil))))))) .nil (by kernel_rfl) rfl (fun γ=>?_)
  refine TA_cut [(19,vb r_2),(13,aG [(4,e64 r_1.toList)]),(5,vb false),(4,ptr (some (b1,0)) 0)] [⟨some (b2,0),e64 r_1.toList⟩,⟨some (b1,0),e64 ((replicate 4 0#64).toList)⟩] ⟨rfl,rfl,rfl,rfl,trivial⟩ rfl ?_
  refine TA_all (rs:=[7]) (by kernel_rfl) rfl ?_
  refine ⟨?_,trivial⟩
  refine TO_n (is:=[]) (done':=dn 9 255) rfl rfl rfl (by kernel_rfl) (E_sv (vs:=e64 r_1.toList) 1 TryI.inf57) (fun _ _=>rfl) (fun _=>?_)
  refine TA_all (rs:=[8]) (by kernel_rfl) rfl ?_
  refine ⟨?_,trivial⟩
  refine TO_v (is:=[]) (done':=dn 9 511) rfl rfl rfl rfl (by kernel_rfl) (V_assign rfl) (fun _=>rfl) ?_
  refine TA_done (by kernel_rfl) ?_ 0
  refine TX_next (TC_ret ?_)
  have hrv:=Option.some.inj H
  subst hrv
  exact TX_ret (rs:=[.cell 4 57, .tmp 5]) (vs:=[aG [(4,e64 r_1.toList)],vb r_2]) rfl ⟨(Res_agg (n:=4) rfl (by simp) (.o 1) Try.isAgg57 TryI.inf57 rfl (lenV (f:=v64) r_1)),rfl,trivial⟩ (fun w' hs'=>⟨(),rfl,Step.left (Step.pulled (is:=[]) (A:=[]) hs' rfl)⟩)
set_option maxHeartbeats 4000000 in
set_option maxRecDepth 20000 in
theorem F73_nil0_calls (s_:Str) (r:Vx 64 4) (H:num_Field_Read_nil0 s_=some r) :
  Does Try.prog 73 [Value.pointer none,vs s_] [] [] (Γ:=Unit) (fun g=>Value.tuple [aG [(4,e64 r.toList)],vb false].toArray) (fun g=>[]):=by
 intro w hmem hro hd
 refine calls_of (N:=20) (m0:=[(0,Value.pointer none),(1,vs s_)]) Try.func73 rfl Try.ntmps73 (argM_ok [Value.pointer none,vs s_]) rfl hmem hro hd ?_
 unfold num_Field_Read_nil0 at H
 refine TC_seq (TC_region (TLe (E_al64 4 TryI.inf57 TryI.zer57) (fun b1=>?_)))
 refine TLv (V_assign rfl) ?_
 refine TL_nil (TX_next (TC_seq (TC_seq (TC_region (TLv (V_move rfl) ?_)))))
 refine TLv (V_len_str rfl Try.underlying9) ?_
 refine TLv (V_bin rfl rfl (fun w=>neqI w ((s_).length:Int) 32)) ?_
 refine TL_nil (TX_next (TC_cond (b:=(decide (((s_).length:Int) ≠ 32))) rfl (fun hc=>?_) (fun hc=>?_)))
 ·replace H:=ite_t (of_decide_eq_true hc) H
  refine TC_seq (TC_region (TLv (V_buildArr (pv:=[]) rfl rfl Try.underlying57 TryI.inf57 TryI.inf55 rfl TryI.zer57 (cs:=e64 ((replicate 4 0#64:Vx 64 4).toList)) (by kernel_rfl)) ?_))
  refine TLn (E_sv 0 TryI.inf57) (fun _=>?_)
  obtain ⟨m_1,hm_1,H⟩:=ltt_elim H
  refine TL_reE (j:=0) (A:=some (b1,0)) (cs:=e64 ((replicate 4 0#64:Vx 64 4).toList)) (cs':=e64 m_1.toList) rfl (congrArg (fun z:Vx 64 4=>e64 (Vector.toList z)) hm_1) ?_
  refine TLv (V_assign rfl) ?_
  refine TL_nil (TX_next (TC_ret (TX_then_ret ?_)))
  have hrv:=Option.some.inj H
  subst hrv
  exact TX_ret (rs:=[.cell 4 57, .tmp 5]) (vs:=[aG [(4,e64 m_1.toList)],vb false]) rfl ⟨(Res_agg (n:=4) rfl (by simp) (.o 0) Try.isAgg57 TryI.inf57 rfl (lenV (f:=v64) m_1)),rfl,trivial⟩ (fun w' hs'=>⟨(),rfl,Step.left (Step.pulled (is:=[]) (A:=[]) hs' rfl)⟩)
 ·replace H:=ite_f (of_decide_eq_false hc) H
  refine TC_skip (TX_next (TC_seq (TC_region (TLv (V_move rfl) ?_))))
  obtain ⟨r_1,hr_1,H⟩:=bind_elim H
  refine TLe (E_c0 (F55_calls s_ r_1 hr_1) Try.call55 .z) (fun g_1=>?_)
  refine TLe (E_al64 4 TryI.inf57 TryI.zer57) (fun b2=>?_)
  refine TLn (E_sv (vs:=e64 r_1.toList) 0 TryI.inf57) (fun _=>?_)
  refine TL_nil (TX_next (TC_seq ?_))
  exact absurd (show (none:Option _)=some _ from H) (fun h=>by cases h)
end Go.Proofs
end

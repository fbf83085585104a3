/-
  Part 9 of the proof of what several laws share.
-/
import Derived.Test.YtkgeoekcnlgfnaaGreatDoorKc1
import Derived.Test.YtkgeoekcnlgfnaaGreatDoorKc2
import Derived.Test.YtkgeoekcnlgfnaaGreatDoorKc3
import Derived.Test.YtkgeoekcnlgfnaaGreatDoorKc4
import Derived.Test.YtkgeoekcnlgfnaaGreatDoorKc5
import Derived.Test.YtkgeoekcnlgfnaaGreatDoorKc6
import Derived.Test.YtkgeoekcnlgfnaaGreatDoorKc7
import Derived.Test.YtkgeoekcnlgfnaaGreatDoorKc8
set_option linter.unusedVariables false
set_option linter.unusedSimpArgs false
section
namespace Go.Proofs
open Go Go.Kx
open TryzI Tryz
def pcurve_Scalar (k:Str):Option (Vx 64 4 × Bool) :=
 (num_New 1).bind fun (r_1:(Unit) ⊕ (Vx 64 4 × BitVec 64 × Vx 64 4 × Vx 64 4))=>(match r_1 with | .inl r_1=>((num_Field_Read_nil0 k).bind fun (r_2:Vx 64 4)=>(some (r_2,false))) | .inr r_1=>((num_Field_Read r_1.1 r_1.2.1 r_1.2.2.1 r_1.2.2.2 k).bind fun (r_3:Vx 64 4 × Bool)=>(if r_3.2=true then ((num_Nat_Zero r_3.1).bind fun (r_4:Bool)=>(some (r_3.1, !r_4))) else (some (r_3.1,false)))))
set_option maxHeartbeats 4000000 in
set_option maxRecDepth 20000 in
theorem F71_calls (k:Str) (r:Vx 64 4 × Bool) (H:pcurve_Scalar k=some r) :
  Does Tryz.prog 71 [vs k] [] [] (Γ:=Unit) (fun g=>Value.tuple [aG [(4,e64 r.1.toList)],vb r.2].toArray) (fun g=>[]):=by
 intro w hmem hro hd
 refine calls_of (N:=19) (m0:=[(0,vs k)]) func71 rfl ntmps71 (argM_ok [vs k]) rfl hmem hro hd ?_
 unfold pcurve_Scalar at H
 refine TC_seq (TC_region (TLe (E_al64 4 inf117 zer117) (fun b1=>?_)))
 refine TVa ?_
 refine TL_nil (TX_next (TC_seq (TC_region ?_)))
 obtain ⟨r_1,hr_1,H⟩:=bind_elim H
 rcases r_1 with r_1 | r_1
 ·dsimp only at H
  refine TL_e rfl rfl rfl (E_call (Γ:=Unit × Nat) (val:=fun g=>Value.pointer none) (mem:=fun g=>[]) (vs:=[vi 1]) (Lin:=[]) (Ro:=[]) (is:=[]) rfl call87 (F87_calls 1 (.inl r_1) hr_1) rfl trivial) (fun g_1=>?_)
  refine TVm ?_
  obtain ⟨r_2,hr_2,H⟩:=bind_elim H
  refine TLe (E_c0 (F88_nil0_calls k r_2 hr_2) call88 .z) (fun g_2=>?_)
  refine TVm ?_
  refine TLv V_ex ?_
  refine TLv V_ex ?_
  refine TLe (E_al64 4 inf117 zer117) (fun b2=>?_)
  refine TLn (E_sv (vs:=e64 r_2.toList) 0 inf117) (fun _=>?_)
  refine TVa ?_
  refine TL_nil (TX_next (TC_seq (TA_begin [⟨some (b2,0),e64 r_2.toList⟩] 8 (by kernel_rfl) (N:=9) rfl ?_)))
  refine TA_tk 0 [0] (dn 9 1) rfl rfl (V_lag (.o 0) isAgg117 inf117) ?_
  refine TA_tk 1 [0] (dn 9 3) rfl rfl (V_move rfl) ?_
  refine TA_tk 2 [0] (dn 9 7) rfl rfl (V_move rfl) ?_
  refine TA_ts 3 [0] (dn 9 15) rfl rfl ?_
  refine TA_ts 4 [0] (dn 9 31) rfl rfl ?_
  refine TA_ts 5 [0] (dn 9 63) rfl rfl ?_
  refine TA_tk 6 [0] (dn 9 127) rfl rfl (V_pick (b:=false) rfl rfl) ?_
  refine TA_all (rs:=[7]) (by kernel_rfl) rfl ?_
  refine ⟨?_,trivial⟩
  refine TO_n (is:=[0]) (done':=dn 9 255) rfl rfl rfl (by kernel_rfl) (E_sv (vs:=e64 r_2.toList) 1 inf117) (fun _ _=>rfl) (fun _=>?_)
  refine TA_all (rs:=[8]) (by kernel_rfl) rfl ?_
  refine ⟨?_,trivial⟩
  refine TO_v (is:=[]) (R:=[]) (done':=dn 9 511) rfl rfl rfl rfl (by kernel_rfl) (V_assign rfl) (fun h=>by cases h) ?_
  refine TA_done (by kernel_rfl) ?_ 0
  refine TX_next (TC_ret ?_)
  obtain rfl:=sj H
  exact TXr (vs:=[_,_]) rfl ⟨(Res_agg (n:=4) rfl (by simp) (.o 1) isAgg117 inf117 rfl (lenV (f:=v64) r_2)),rfl,trivial⟩
 ·dsimp only at H
  refine TL_e rfl rfl rfl (E_call (Γ:=Unit × Nat) (val:=fun g=>ptr (some (g.2,0)) 0) (mem:=fun g=>[⟨some (g.2,0),e64 r_1.1.toList⟩,⟨some (g.2,4),[v64 r_1.2.1]⟩,⟨some (g.2,5),e64 r_1.2.2.1.toList⟩,⟨some (g.2,9),e64 r_1.2.2.2.toList⟩]) (vs:=[vi 1]) (Lin:=[]) (Ro:=[]) (is:=[]) rfl call87 (F87_calls 1 (.inr r_1) hr_1) rfl trivial) (fun g_3=>?_)
  refine TVm ?_
  obtain ⟨r_3,hr_3,H⟩:=bind_elim H
  refine TLe (E_c0 (F88_calls g_3.2 0 r_1.1 r_1.2.1 r_1.2.2.1 r_1.2.2.2 k r_3 hr_3) call88 ⟨.o 0, .o 1, .o 2, .o 3,trivial⟩) (fun g_4=>?_)
  refine TVm ?_
  refine TLv V_ex ?_
  refine TLv V_ex ?_
  refine TLe (E_al64 4 inf117 zer117) (fun b3=>?_)
  refine TLn (E_sv (vs:=e64 r_3.1.toList) 0 inf117) (fun _=>?_)
  refine TVa ?_
  refine TL_nil (TX_next (TC_seq (TC.sub (m':=[(2,_),(4,_),(5,_)]) ⟨rfl,rfl,rfl,trivial⟩ ?_)))
  refine TC.pull (is:=[5,0]) (L':=[_,_]) rfl ?_
  refine TC_em r_3.2 (fun hg2_3=>?_) (fun hg2_3=>?_)
  ·replace H:=ite_t hg2_3 H
   obtain ⟨r_4,hr_4,H⟩:=bind_elim H
   refine TA_begin [⟨some (b3,0),e64 r_3.1.toList⟩] 8 (by kernel_rfl) (N:=9) rfl ?_
   refine TA_tk 0 [1] (dn 9 1) rfl rfl (V_lag (.o 0) isAgg117 inf117) ?_
   refine TA_tk 1 [1] (dn 9 3) rfl rfl (V_move rfl) ?_
   refine TA_tk 2 [1] (dn 9 7) rfl rfl (V_move rfl) ?_
   refine TA_re (d:=14) (v:=vb r_3.2) (v':=vb true) rfl (congrArg vb hg2_3) ?_
   refine TA_tw 3 [1] (dn 9 15) rfl rfl (V_lag (.o 0) isAgg117 inf117) ?_
   refine TA_all (rs:=[4]) (by kernel_rfl) rfl ?_
   refine ⟨?_,trivial⟩
   refine TO_eW (is:=[1]) (done':=dn 9 31) rfl rfl rfl rfl rfl rfl rfl (by kernel_rfl) (E_c0 (F89_calls r_3.1 r_4 hr_4) call89 .z) (fun _ _=>rfl) (fun g_5=>?_)
   refine TA_tw 5 [1] (dn 9 63) rfl rfl (V_un rfl (fun w=>notB w r_4)) ?_
   refine TA_tk 6 [1] (dn 9 127) rfl rfl (V_pick (b:=true) rfl rfl) ?_
   refine TA_all (rs:=[7]) (by kernel_rfl) rfl ?_
   refine ⟨?_,trivial⟩
   refine TO_n (is:=[1]) (done':=dn 9 255) rfl rfl rfl (by kernel_rfl) (E_sv (vs:=e64 r_3.1.toList) 0 inf117) (fun _ _=>rfl) (fun _=>?_)
   refine TA_all (rs:=[8]) (by kernel_rfl) rfl ?_
   refine ⟨?_,trivial⟩
   refine TO_v (is:=[]) (R:=[]) (done':=dn 9 511) rfl rfl rfl rfl (by kernel_rfl) (V_assign rfl) (fun h=>by cases h) ?_
   refine TA_done (by kernel_rfl) ?_ 0
   refine TX_next (TC_ret ?_)
   obtain rfl:=sj H
   exact TXr (vs:=[_,_]) rfl ⟨(Res_agg (n:=4) rfl (by simp) (.o 0) isAgg117 inf117 rfl (lenV (f:=v64) r_3.1)),rfl,trivial⟩
  ·replace H:=ite_f (Bool.eq_false_iff.1 hg2_3) H
   refine TA_begin [⟨some (b3,0),e64 r_3.1.toList⟩] 8 (by kernel_rfl) (N:=9) rfl ?_
   refine TA_tk 0 [1] (dn 9 1) rfl rfl (V_lag (.o 0) isAgg117 inf117) ?_
   refine TA_tk 1 [1] (dn 9 3) rfl rfl (V_move rfl) ?_
   refine TA_tk 2 [1] (dn 9 7) rfl rfl (V_move rfl) ?_
   refine TA_re (d:=14) (v:=vb r_3.2) (v':=vb false) rfl (congrArg vb hg2_3) ?_
   refine TA_ts 3 [1] (dn 9 15) rfl rfl ?_
   refine TA_ts 4 [1] (dn 9 31) rfl rfl ?_
   refine TA_ts 5 [1] (dn 9 63) rfl rfl ?_
   refine TA_tk 6 [1] (dn 9 127) rfl rfl (V_pick (b:=false) rfl rfl) ?_
   refine TA_all (rs:=[7]) (by kernel_rfl) rfl ?_
   refine ⟨?_,trivial⟩
   refine TO_n (is:=[1]) (done':=dn 9 255) rfl rfl rfl (by kernel_rfl) (E_sv (vs:=e64 r_3.1.toList) 0 inf117) (fun _ _=>rfl) (fun _=>?_)
   refine TA_all (rs:=[8]) (by kernel_rfl) rfl ?_
   refine ⟨?_,trivial⟩
   refine TO_v (is:=[]) (R:=[]) (done':=dn 9 511) rfl rfl rfl rfl (by kernel_rfl) (V_assign rfl) (fun h=>by cases h) ?_
   refine TA_done (by kernel_rfl) ?_ 0
   refine TX_next (TC_ret ?_)
   obtain rfl:=sj H
   exact TXr (vs:=[_,_]) rfl ⟨(Res_agg (n:=4) rfl (by simp) (.o 0) isAgg117 inf117 rfl (lenV (f:=v64) r_3.1)),rfl,trivial⟩
end Go.Proofs
end

section
namespace Go.Proofs
open Go Go.Kx
open TryzI Tryz
def hello_certs_1 (s_:Str):Option (Bool) :=
 (hello_in ((s_).length:Int) 1 16384).bind fun (r_1:Bool)=>(some (!r_1))
set_option maxHeartbeats 4000000 in
set_option maxRecDepth 20000 in
theorem F91_calls (s_:Str) (r:Bool) (H:hello_certs_1 s_=some r) :
  Does Tryz.prog 91 [vs s_] [] [] (Γ:=Unit) (fun g=>vb r) (fun g=>[]):=by
 intro w hmem hro hd
 refine calls_of (N:=7) (m0:=[(0,vs s_)]) func91 rfl ntmps91 (argM_ok [vs s_]) rfl hmem hro hd ?_
 unfold hello_certs_1 at H
 refine TC_seq (TC_region (TVa ?_))
 refine TL_nil (TX_next (TC_seq (TC_region (TVm ?_))))
 refine TLv (V_len_str rfl underlying9) ?_
 obtain ⟨r_1,hr_1,H⟩:=bind_elim H
 refine TLe (E_c0 (F46_calls ((s_).length:Int) 1 16384 r_1 hr_1) call46 .z) (fun g_1=>?_)
 refine TLv (V_un rfl (fun w=>notB w r_1)) ?_
 refine TVa ?_
 refine TL_nil (TX_next (TC_ret ?_))
 obtain rfl:=sj H
 exact TX1
end Go.Proofs
end

section
namespace Go.Proofs
open Go Go.Kx
open TryzI Tryz
def slices_IndexFunc___string_string__fn1_91.b0 (s_:List (Str)) (s0:Int):Option ((Int) ⊕ ((Unit) ⊕ (Int))) :=
 if s0<((s_).length:Int) then (if 0≤s0∧s0<((s_).length:Int) then ((hello_certs_1 (lg s_ ((s0).toNat))).bind fun (r_1:Bool)=>(if r_1=true then (some (.inr (.inr s0))) else (some (.inl (w64 (s0+1)))))) else none) else (some (.inr (.inl ())))
def slices_IndexFunc___string_string__fn1_91 (s_:List (Str)):Option (Int) :=
 (loop (slices_IndexFunc___string_string__fn1_91.b0 s_) BIG 0).bind fun (t_1:(Unit) ⊕ (Int))=>(match t_1 with | .inl t_1=>(some (-1)) | .inr rv=>some rv)
set_option maxHeartbeats 4000000 in
set_option maxRecDepth 20000 in
theorem F108_fn1_91_calls (As_:Adr) (cs_:Nat) (s_:List (Str)) (hcs_:(s_).length≤cs_) (r:Int) (H:slices_IndexFunc___string_string__fn1_91 s_=some r) :
  Does Tryz.prog 108 [sl As_ ((s_).length) cs_,Value.func (.func 91) #[] #[]] [] [⟨As_,eS s_⟩] (Γ:=Unit) (fun g=>vi r) (fun g=>[]):=by
 intro w hmem hro hd
 refine calls_of (N:=19) (m0:=[(0,sl As_ ((s_).length) cs_),(1,Value.func (.func 91) #[] #[])]) func108 rfl ntmps108 (argM_ok [sl As_ ((s_).length) cs_,Value.func (.func 91) #[] #[]]) rfl hmem hro hd ?_
 unfold slices_IndexFunc___string_string__fn1_91 at H
 refine TC_seq (TC_region (TVa ?_))
 refine TL_nil (TX_next (TC_seq (TC_seq (TC_region (TVm ?_)))))
 refine TLv (V_len_slice rfl underlying23) ?_
 refine TVm ?_
 refine TL_nil (TX_next (TC_block ?_))
 obtain ⟨t_1,Hl,H⟩:=bind_elim H
 refine TC.sub (m':=[(0,_),(1,_),(7,_),(8,_)]) ⟨rfl,rfl,rfl,rfl,trivial⟩ ?_
 refine TC.pull (is:=[]) (L':=[]) rfl ?_
 refine TC_loopR (id:=0) (body:=(slices_IndexFunc___string_string__fn1_91.b0 s_)) (σ:=Int) (Γ:=Unit) (Γx:=Unit) (fun s0 g0_=>[(0,sl As_ ((s_).length) cs_),(1,Value.func (.func 91) #[] #[]),(7,vi ((s_).length:Int)),(8,vi s0)]) (fun s0 g0_=>[]) (fun t g=>[]) (fun t g=>[]) r ?_ BIG 0 () t_1 Hl ?_
 ·intro s0 g0_ r1 H K hK hE hR1
  unfold slices_IndexFunc___string_string__fn1_91.b0 at H
  refine TC_seq (TC_region (TLv (V_bin rfl rfl (fun w=>lssI w s0 ((s_).length:Int))) ?_))
  refine TL_nil (TX_next (TC_seq (TCd H (fun hc H=>?_) (fun hc H=>?_))))
  ·refine TC_skip (TX_next (TC_seq (TC_block (TC_seq (TC_region (TVm ?_))))))
   refine TVa ?_
   refine TL_nil (TX_next (TC_seq (TC_region (TVm ?_))))
   refine TVm ?_
   refine TVm ?_
   obtain ⟨h1,H⟩:=if_elim H
   refine TLv (V_idxSlS (i:=s0) rfl rfl underlying23 inf9 rfl (.r 0) (map_ne (toNat_lt h1.1 h1.2)) h1.1 h1.2 (k:=(s0).toNat) (km1 _)) ?_
   refine TLv (V_load rfl (.r 0) (get_map (f:=vs) (l:=s_) (toNat_lt h1.1 h1.2)) isAgg9) ?_
   obtain ⟨r_1,hr_1,H⟩:=bind_elim H
   refine TLe (E_c0V (vs:=[vs (lg s_ ((s0).toNat))]) (cap:=[]) (F91_calls (lg s_ ((s0).toNat)) r_1 hr_1) call91 .z) (fun g_1=>?_)
   refine TL_nil (TX_next (TCb H (fun hc H=>?_) (fun hc H=>?_)))
   ·refine TC_seq (TC_region (TVm ?_))
    refine TVa ?_
    refine TL_nil (TX_next (TC_ret (TX_block_ret (TX_then_ret (TX_then_ret (TX_block_ret (TX_then_ret ?_)))))))
    have hrv:=(hR1 _ (Option.some.inj H).symm)
    subst hrv
    exact TX1
   ·refine TC_skip (TX_block_normal (TX_next (TC_region (TLv (V_bin rfl rfl (fun w=>addI w s0 1)) ?_))))
    refine TVm ?_
    refine TL_nil ?_
    obtain rfl:=sj H
    exact TXk [] (hK (w64 (s0+1)) rfl ())
  ·refine TC_exit (TX_then_exit (TX_then_exit ?_))
   obtain rfl:=sj H
   exact TXj [] (hE () rfl ())
 ·rcases t_1 with t_1 | rv
  ·intro gx1
   dsimp only at H
   refine TX_block_exit (TX_next (TC_seq (TC_region (TVa ?_))))
   refine TL_nil (TX_next (TC_ret ?_))
   obtain rfl:=sj H
   exact TX1
  ·exact (Option.some.inj H)
end Go.Proofs
end

section
namespace Go.Proofs
open Go Go.Kx
open TryzI Tryz
def slices_ContainsFunc___string_string__fn1_91 (s_:List (Str)):Option (Bool) :=
 (slices_IndexFunc___string_string__fn1_91 s_).bind fun (r_1:Int)=>(ltt (decide (0≤r_1)) fun (x1:Bool)=>(some x1))
set_option maxHeartbeats 4000000 in
set_option maxRecDepth 20000 in
theorem F90_fn1_91_calls (As_:Adr) (cs_:Nat) (s_:List (Str)) (hcs_:(s_).length≤cs_) (r:Bool) (H:slices_ContainsFunc___string_string__fn1_91 s_=some r) :
  Does Tryz.prog 90 [sl As_ ((s_).length) cs_,Value.func (.func 91) #[] #[]] [] [⟨As_,eS s_⟩] (Γ:=Unit) (fun g=>vb r) (fun g=>[]):=by
 intro w hmem hro hd
 refine calls_of (N:=9) (m0:=[(0,sl As_ ((s_).length) cs_),(1,Value.func (.func 91) #[] #[])]) func90 rfl ntmps90 (argM_ok [sl As_ ((s_).length) cs_,Value.func (.func 91) #[] #[]]) rfl hmem hro hd ?_
 unfold slices_ContainsFunc___string_string__fn1_91 at H
 refine TC_seq (TC_region (TVa ?_))
 refine TL_nil (TX_next (TC_seq (TC_region (TVm ?_))))
 refine TVm ?_
 obtain ⟨r_1,hr_1,H⟩:=bind_elim H
 refine TLe (E_c0 (F108_fn1_91_calls As_ cs_ s_ hcs_ r_1 hr_1) call108 ⟨.r 0,trivial⟩) (fun g_1=>?_)
 refine TLv (V_bin rfl rfl (fun w=>geqI w r_1 0)) ?_
 refine TVa ?_
 obtain ⟨x1,hx1,H⟩:=ltt_elim H
 refine TLr 4 (congrArg vb hx1) ?_
 refine TL_nil (TX_next (TC_ret ?_))
 obtain rfl:=sj H
 exact TX1
end Go.Proofs
end

section
namespace Go.Proofs
open Go Go.Kx
open TryzI Tryz
def hello_certs (ss:List (Str)) (least:Int):Option (Bool) :=
 (hello_in ((ss).length:Int) least 8).bind fun (r_1:Bool)=>(if r_1=true then ((slices_ContainsFunc___string_string__fn1_91 ss).bind fun (r_2:Bool)=>(some (!r_2))) else (some false))
set_option maxHeartbeats 4000000 in
set_option maxRecDepth 20000 in
theorem F72_calls (Ass:Adr) (css:Nat) (ss:List (Str)) (least:Int) (hcss:(ss).length≤css) (r:Bool) (H:hello_certs ss least=some r) :
  Does Tryz.prog 72 [sl Ass ((ss).length) css,vi least] [] [⟨Ass,eS ss⟩] (Γ:=Unit) (fun g=>vb r) (fun g=>[]):=by
 intro w hmem hro hd
 refine calls_of (N:=14) (m0:=[(0,sl Ass ((ss).length) css),(1,vi least)]) func72 rfl ntmps72 (argM_ok [sl Ass ((ss).length) css,vi least]) rfl hmem hro hd ?_
 unfold hello_certs at H
 refine TC_seq (TC_region (TVa ?_))
 refine TL_nil (TX_next (TC_seq (TC_region (TVm ?_))))
 refine TLv (V_len_slice rfl underlying23) ?_
 refine TVm ?_
 obtain ⟨r_1,hr_1,H⟩:=bind_elim H
 refine TLe (E_c0 (F46_calls ((ss).length:Int) least 8 r_1 hr_1) call46 .z) (fun g_1=>?_)
 refine TVm ?_
 refine TFb (d:=9) H (fun hc H=>?_) (fun hc H=>?_)
 ·refine TLw (V_move rfl) ?_
  obtain ⟨r_2,hr_2,H⟩:=bind_elim H
  refine TLu (E_c0 (F90_fn1_91_calls Ass css ss hcss r_2 hr_2) call90 ⟨.r 0,trivial⟩) (fun g_2=>?_)
  refine TLw (V_un rfl (fun w=>notB w r_2)) ?_
  refine TVt ?_
  refine TVa ?_
  refine TL_nil (TX_next (TC_ret ?_))
  obtain rfl:=sj H
  exact TX1
 ·refine TLs ?_
  refine TLs ?_
  refine TLs ?_
  refine TVf ?_
  refine TVa ?_
  refine TL_nil (TX_next (TC_ret ?_))
  obtain rfl:=sj H
  exact TX1
end Go.Proofs
end

section
namespace Go.Proofs
open Go Go.Kx
open TryzI Tryz
def hello_fits.b0 (chain:List (Str)) (s0:Int × Int):Option ((Int × Int) ⊕ (Int)) :=
 if s0.2<((chain).length:Int) then (if 0≤s0.2∧s0.2<((chain).length:Int) then (ltt (lg chain ((s0.2).toNat)) fun (s_1:Str)=>(ltt (w64 (s0.1+(w64 (((s_1).length:Int)+5)))) fun (n1:Int)=>(some (.inl (n1,w64 (s0.2+1)))))) else none) else (some (.inr s0.1))
def hello_fits (chain:List (Str)):Option (Bool) :=
 (loop (hello_fits.b0 chain) BIG (8,0)).bind fun (t_1:Int)=>(ltt (decide (t_1≤65536)) fun (x1:Bool)=>(some x1))
set_option maxHeartbeats 4000000 in
set_option maxRecDepth 20000 in
theorem F73_calls (Achain:Adr) (cchain:Nat) (chain:List (Str)) (hcchain:(chain).length≤cchain) (r:Bool) (H:hello_fits chain=some r) :
  Does Tryz.prog 73 [sl Achain ((chain).length) cchain] [] [⟨Achain,eS chain⟩] (Γ:=Unit) (fun g=>vb r) (fun g=>[]):=by
 intro w hmem hro hd
 refine calls_of (N:=20) (m0:=[(0,sl Achain ((chain).length) cchain)]) func73 rfl ntmps73 (argM_ok [sl Achain ((chain).length) cchain]) rfl hmem hro hd ?_
 unfold hello_fits at H
 refine TC_seq (TC_region (TVa ?_))
 refine TL_nil (TX_next (TC_seq (TC_region (TVa ?_))))
 refine TL_nil (TX_next (TC_seq (TC_seq (TC_region (TVm ?_)))))
 refine TLv (V_len_slice rfl underlying23) ?_
 refine TVm ?_
 refine TL_nil (TX_next (TC_block ?_))
 obtain ⟨t_1,Hl,H⟩:=bind_elim H
 refine TC.sub (m':=[(3,_),(6,_),(7,_),(8,_)]) ⟨rfl,rfl,rfl,rfl,trivial⟩ ?_
 refine TC.pull (is:=[]) (L':=[]) rfl ?_
 refine TC_loopL (id:=0) (body:=(hello_fits.b0 chain)) (σ:=Int × Int) (Γ:=Unit) (Γx:=Unit) (fun s0 g0_=>[(3,vi s0.1),(6,sl Achain ((chain).length) cchain),(7,vi ((chain).length:Int)),(8,vi s0.2)]) (fun s0 g0_=>[]) (fun t g=>[(3,vi t)]) (fun t g=>[]) ?_ BIG (8,0) () t_1 Hl ?_
 ·intro s0 g0_ r1 H K hK hE
  unfold hello_fits.b0 at H
  refine TC_seq (TC_region (TLv (V_bin rfl rfl (fun w=>lssI w s0.2 ((chain).length:Int))) ?_))
  refine TL_nil (TX_next (TC_seq (TCd H (fun hc H=>?_) (fun hc H=>?_))))
  ·refine TC_skip (TX_next (TC_seq (TC_block (TC_seq (TC_region ?_)))))
   obtain ⟨h1,H⟩:=if_elim H
   refine TLv (V_idxSlS (i:=s0.2) rfl rfl underlying23 inf9 rfl (.r 0) (map_ne (toNat_lt h1.1 h1.2)) h1.1 h1.2 (k:=(s0.2).toNat) (km1 _)) ?_
   refine TLv (V_load rfl (.r 0) (get_map (f:=vs) (l:=chain) (toNat_lt h1.1 h1.2)) isAgg9) ?_
   refine TVa ?_
   obtain ⟨s_1,hs_1,H⟩:=ltt_elim H
   refine TLr 5 (congrArg vs hs_1) ?_
   refine TL_nil (TX_next (TC_region (TVm ?_)))
   refine TVm ?_
   refine TLv (V_len_str rfl underlying9) ?_
   refine TLv (V_bin rfl rfl (fun w=>addI w ((s_1).length:Int) 5)) ?_
   refine TLv (V_bin rfl rfl (fun w=>addI w s0.1 (w64 (((s_1).length:Int)+5)))) ?_
   refine TVa ?_
   obtain ⟨n1,hn1,H⟩:=ltt_elim H
   refine TLr 3 (congrArg vi hn1) ?_
   refine TL_nil (TX_block_normal (TX_next (TC_region (TLv (V_bin rfl rfl (fun w=>addI w s0.2 1)) ?_))))
   refine TVm ?_
   refine TL_nil ?_
   obtain rfl:=sj H
   exact TXk [] (hK (n1,w64 (s0.2+1)) rfl ())
  ·refine TC_exit (TX_then_exit (TX_then_exit ?_))
   obtain rfl:=sj H
   exact TXj [] (hE s0.1 rfl ())
 ·intro g
  refine TX_block_exit (TX_next (TC_seq (TC_region (TVm ?_))))
  refine TLv (V_bin rfl rfl (fun w=>leqI w t_1 65536)) ?_
  refine TVa ?_
  obtain ⟨x1,hx1,H⟩:=ltt_elim H
  refine TLr 2 (congrArg vb hx1) ?_
  refine TL_nil (TX_next (TC_ret ?_))
  obtain rfl:=sj H
  exact TX1
end Go.Proofs
end

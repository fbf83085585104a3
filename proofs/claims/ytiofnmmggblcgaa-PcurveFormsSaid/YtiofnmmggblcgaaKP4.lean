/-
  Part KP4 of the proofs of this seat: F24, F23, F22, PcD.
-/
import Derived.Test.YtiofnmmggblcgaaK2
import Derived.Test.YtiofnmmggblcgaaKN2
import Derived.Test.YtiofnmmggblcgaaKP1
import Derived.Test.YtiofnmmggblcgaaKP3
set_option linter.unusedVariables false
set_option linter.unusedSimpArgs false
section
namespace Go.Proofs
open Go Go.Kx
def halberdref9_Calc (how:Int) (which:Int) (a_:Str) (b:Str):Option (Str × Int) :=
 (halberdref9_Number which a_).bind fun (r_1:Vx 32 8 × Bool)=>((halberdref9_Number which b).bind fun (r_2:Vx 32 8 × Bool)=>((if (!r_1.2)=true then (some true) else (some (!r_2.2))).bind fun (j1:Bool)=>(if j1=true then (some (([]:Str),900)) else (ltt (decide (how=0)) fun (x1:Bool)=>(if x1=true then ((halberdref9_add which r_1.1 r_2.1).bind fun (r_3:Vx 32 8)=>((halberdref9_put r_3).bind fun (r_4:Str)=>(some (r_4,0)))) else (ltt (decide (how=1)) fun (x2:Bool)=>(if x2=true then ((halberdref9_sub which r_1.1 r_2.1).bind fun (r_5:Vx 32 8)=>((halberdref9_put r_5).bind fun (r_6:Str)=>(some (r_6,0)))) else ((halberdref9_mul which r_1.1 r_2.1).bind fun (r_7:Vx 32 8)=>((halberdref9_put r_7).bind fun (r_8:Str)=>(some (r_8,0)))))))))))
set_option maxHeartbeats 4000000 in
set_option maxRecDepth 20000 in
theorem F24_calls (how:Int) (which:Int) (a_:Str) (b:Str) (r:Str × Int) (H:halberdref9_Calc how which a_ b=some r) :
  Does Try.prog 24 [vi how,vi which,vs a_,vs b] [] [] (Γ:=Unit) (fun g=>Value.tuple [vs r.1,vi r.2].toArray) (fun g=>[]):=by
 intro w hmem hro hd
 refine calls_of (N:=52) (m0:=[(0,vi how),(1,vi which),(2,vs a_),(3,vs b)]) Try.func24 rfl Try.ntmps24 (argM_ok [vi how,vi which,vs a_,vs b]) rfl hmem hro hd ?_
 unfold halberdref9_Calc at H
 refine TC_seq (TC_region (TLv (V_assign rfl) ?_))
 refine TLv (V_assign rfl) ?_
 refine TL_nil (TX_next (TC_seq (TC_region (TLv (V_move rfl) ?_))))
 refine TLv (V_move rfl) ?_
 obtain ⟨r_1,hr_1,H⟩:=bind_elim H
 refine TLe (E_c0 (F45_calls which a_ r_1 hr_1) Try.call45 .z) (fun g_1=>?_)
 refine TLv (V_move rfl) ?_
 refine TLv V_ex ?_
 refine TLv V_ex ?_
 refine TLe (E_al32 8 TryI.inf31 TryI.zer31) (fun b1=>?_)
 refine TLn (E_sv (vs:=e32 r_1.1.toList) 0 TryI.inf31) (fun _=>?_)
 refine TLv (V_assign rfl) ?_
 refine TL_nil (TX_next (TC_seq (TC_region (TLv (V_move rfl) ?_))))
 refine TLv (V_move rfl) ?_
 obtain ⟨r_2,hr_2,H⟩:=bind_elim H
 refine TLe (E_c0 (F45_calls which b r_2 hr_2) Try.call45 .z) (fun g_2=>?_)
 refine TLv (V_move rfl) ?_
 refine TLv V_ex ?_
 refine TLv V_ex ?_
 refine TLe (E_al32 8 TryI.inf31 TryI.zer31) (fun b2=>?_)
 refine TLn (E_sv (vs:=e32 r_2.1.toList) 0 TryI.inf31) (fun _=>?_)
 refine TLv (V_assign rfl) ?_
 refine TL_nil (TX_next (TC_seq (TC_seq (TC_region (TLv (V_move rfl) ?_)))))
 refine TLv (V_un rfl (fun w=>notB w r_1.2)) ?_
 refine TLv (V_move rfl) ?_
 obtain ⟨j1,Hj,H⟩:=bind_elim H
 refine TL_join (Γ:=Unit) (fun gj1=>[(0,vi how),(1,vi which),(10,ptr (some (b1,0)) 0),(12,ptr (some (b2,0)) 0),(31,vb j1)]) (fun gj1=>[⟨some (b1,0),e32 r_1.1.toList⟩,⟨some (b2,0),e32 r_2.1.toList⟩]) ?_ ?_
 ·intro gj1
  refine TX_next (TC_cond (b:=j1) rfl (fun hc=>?_) (fun hc=>?_))
  ·replace H:=ite_t hc H
   refine TC_seq (TC_region (TLv (V_assign rfl) ?_))
   refine TLv (V_assign rfl) ?_
   refine TL_nil (TX_next (TC_ret (TX_then_ret ?_)))
   have hrv:=Option.some.inj H
   subst hrv
   exact TX_ret (rs:=[.tmp 8,.tmp 9]) (vs:=[vs ([]:Str),vi 900]) rfl ⟨rfl,rfl,trivial⟩ (fun w' hs'=>⟨(),rfl,Step.left (Step.pulled (is:=[]) (A:=[]) hs' rfl)⟩)
  ·replace H:=ite_f (Bool.eq_false_iff.1 hc) H
   refine TC_skip (TX_next (TC_seq (TC_seq (TC_region (TLv (V_move rfl) ?_)))))
   refine TL_nil (TX_next (TC_block (TC_seq (TC_region (TLv (V_bin rfl rfl (fun w=>eqlI w how 0)) ?_)))))
   refine TLv (V_assign rfl) ?_
   obtain ⟨x1,hx1,H⟩:=ltt_elim H
   refine TL_re (d:=33) (v:=vb (decide (how=0))) (v':=vb x1) rfl (congrArg vb hx1) ?_
   refine TL_nil (TX_next (TC_cond (b:=x1) rfl (fun hc=>?_) (fun hc=>?_)))
   ·replace H:=ite_t hc H
    refine TC_seq (TC_region (TLv (V_move rfl) ?_))
    refine TLv (V_lag (.o 0) Try.isAgg31 TryI.inf31) ?_
    refine TLv (V_lag (.o 1) Try.isAgg31 TryI.inf31) ?_
    obtain ⟨r_3,hr_3,H⟩:=bind_elim H
    refine TLe (E_c0 (F48_calls which r_1.1 r_2.1 r_3 hr_3) Try.call48 .z) (fun g_3=>?_)
    obtain ⟨r_4,hr_4,H⟩:=bind_elim H
    refine TLe (E_c0 (F51_calls r_3 r_4 hr_4) Try.call51 .z) (fun g_4=>?_)
    refine TLv (V_assign rfl) ?_
    refine TLv (V_assign rfl) ?_
    refine TL_nil (TX_next (TC_ret (TX_block_ret (TX_then_ret ?_))))
    have hrv:=Option.some.inj H
    subst hrv
    exact TX_ret (rs:=[.tmp 8,.tmp 9]) (vs:=[vs r_4,vi 0]) rfl ⟨rfl,rfl,trivial⟩ (fun w' hs'=>⟨(),rfl,Step.left (Step.pulled (is:=[]) (A:=[]) hs' rfl)⟩)
   ·replace H:=ite_f (Bool.eq_false_iff.1 hc) H
    refine TC_seq (TC_region (TLv (V_bin rfl rfl (fun w=>eqlI w how 1)) ?_))
    refine TLv (V_assign rfl) ?_
    obtain ⟨x2,hx2,H⟩:=ltt_elim H
    refine TL_re (d:=40) (v:=vb (decide (how=1))) (v':=vb x2) rfl (congrArg vb hx2) ?_
    refine TL_nil (TX_next (TC_cond (b:=x2) rfl (fun hc=>?_) (fun hc=>?_)))
    ·replace H:=ite_t hc H
     refine TC_seq (TC_region (TLv (V_move rfl) ?_))
     refine TLv (V_lag (.o 0) Try.isAgg31 TryI.inf31) ?_
     refine TLv (V_lag (.o 1) Try.isAgg31 TryI.inf31) ?_
     obtain ⟨r_5,hr_5,H⟩:=bind_elim H
     refine TLe (E_c0 (F49_calls which r_1.1 r_2.1 r_5 hr_5) Try.call49 .z) (fun g_5=>?_)
     obtain ⟨r_6,hr_6,H⟩:=bind_elim H
     refine TLe (E_c0 (F51_calls r_5 r_6 hr_6) Try.call51 .z) (fun g_6=>?_)
     refine TLv (V_assign rfl) ?_
     refine TLv (V_assign rfl) ?_
     refine TL_nil (TX_next (TC_ret (TX_block_ret (TX_then_ret ?_))))
     have hrv:=Option.some.inj H
     subst hrv
     exact TX_ret (rs:=[.tmp 8,.tmp 9]) (vs:=[vs r_6,vi 0]) rfl ⟨rfl,rfl,trivial⟩ (fun w' hs'=>⟨(),rfl,Step.left (Step.pulled (is:=[]) (A:=[]) hs' rfl)⟩)
    ·replace H:=ite_f (Bool.eq_false_iff.1 hc) H
     refine TC_skip (TX_block_normal (TX_next (TC_seq (TC_region (TLv (V_move rfl) ?_)))))
     refine TLv (V_lag (.o 0) Try.isAgg31 TryI.inf31) ?_
     refine TLv (V_lag (.o 1) Try.isAgg31 TryI.inf31) ?_
     obtain ⟨r_7,hr_7,H⟩:=bind_elim H
     refine TLe (E_c0 (F52_calls which r_1.1 r_2.1 r_7 hr_7) Try.call52 .z) (fun g_7=>?_)
     obtain ⟨r_8,hr_8,H⟩:=bind_elim H
     refine TLe (E_c0 (F51_calls r_7 r_8 hr_8) Try.call51 .z) (fun g_8=>?_)
     refine TLv (V_assign rfl) ?_
     refine TLv (V_assign rfl) ?_
     refine TL_nil (TX_next (TC_ret ?_))
     have hrv:=Option.some.inj H
     subst hrv
     exact TX_ret (rs:=[.tmp 8,.tmp 9]) (vs:=[vs r_8,vi 0]) rfl ⟨rfl,rfl,trivial⟩ (fun w' hs'=>⟨(),rfl,Step.left (Step.pulled (is:=[]) (A:=[]) hs' rfl)⟩)
 ·intro hJ
  replace H:=Hj
  refine TL_fork (d:=28) (b:=(!r_1.2)) rfl (fun hc=>?_) (fun hc=>?_)
  ·replace H:=ite_t hc H
   refine TL_skip rfl rfl rfl rfl rfl rfl rfl ?_
   refine TL_skip rfl rfl rfl rfl rfl rfl rfl ?_
   refine TLv (V_pick (b:=true) rfl rfl) ?_
   refine TL_nil (TX.sub (m':=[(0,vi how),(1,vi which),(10,ptr (some (b1,0)) 0),(12,ptr (some (b2,0)) 0),(31,vb true)]) ⟨rfl,rfl,rfl,rfl,rfl,trivial⟩ ?_)
   refine TX.pull (is:=[1,0]) (L':=[⟨some (b1,0),e32 r_1.1.toList⟩,⟨some (b2,0),e32 r_2.1.toList⟩]) rfl ?_
   obtain rfl:=Option.some.inj H
   exact hJ ()
  ·replace H:=ite_f (Bool.eq_false_iff.1 hc) H
   refine TL_want rfl rfl rfl rfl rfl rfl (V_move rfl) ?_
   refine TL_want rfl rfl rfl rfl rfl rfl (V_un rfl (fun w=>notB w r_2.2)) ?_
   refine TLv (V_pick (b:=false) rfl rfl) ?_
   refine TL_nil (TX.sub (m':=[(0,vi how),(1,vi which),(10,ptr (some (b1,0)) 0),(12,ptr (some (b2,0)) 0),(31,vb (!r_2.2))]) ⟨rfl,rfl,rfl,rfl,rfl,trivial⟩ ?_)
   refine TX.pull (is:=[1,0]) (L':=[⟨some (b1,0),e32 r_1.1.toList⟩,⟨some (b2,0),e32 r_2.1.toList⟩]) rfl ?_
   obtain rfl:=Option.some.inj H
   exact hJ ()
end Go.Proofs
end

section
namespace Go.Proofs
open Go Go.Kx
def halberdlaw11_Scalar.b0 (k_1:Int) (s0:Int × List (BitVec 8)):Option ((Int × List (BitVec 8)) ⊕ (List (BitVec 8))) :=
 if s0.1<4 then (if 0≤w64 (8 * s0.1) then (if 0≤w64 (31 - s0.1)∧w64 (31 - s0.1)<(32:Int) then (if (w64 (31 - s0.1)).toNat<(s0.2).length then (ltt (s0.2.set ((w64 (31 - s0.1)).toNat) (BitVec.ofInt 8 (iop (· &&& ·) (shrI' k_1 (w64 (8 * s0.1))) 255))) fun (m_1:List (BitVec 8))=>(ltt (w64 (s0.1+1)) fun (i1:Int)=>(some (.inl (i1,m_1))))) else none) else none) else none) else (some (.inr s0.2))
def halberdlaw11_Scalar (x:Int):Option (Str) :=
 ltt (w64 (1+(iop (· &&& ·) x 1048575))) fun (k_1:Int)=>((loop (halberdlaw11_Scalar.b0 k_1) BIG (0,List.replicate 32 0#8)).bind fun (t_1:List (BitVec 8))=>(if x<0 then (if (List.replicate 32 0#8).length=32 then (if (t_1).length=32 then ((halberdref9_Calc 1 1 (List.replicate 32 0#8) t_1).bind fun (r_1:Str × Int)=>(some r_1.1)) else none) else none) else (if (t_1).length=32 then (some t_1) else none)))
set_option maxHeartbeats 4000000 in
set_option maxRecDepth 20000 in
theorem F23_calls (x:Int) (r:Str) (H:halberdlaw11_Scalar x=some r) :
  Does Try.prog 23 [vi x] [] [] (Γ:=Unit) (fun g=>vs r) (fun g=>[]):=by
 intro w hmem hro hd
 refine calls_of (N:=39) (m0:=[(0,vi x)]) Try.func23 rfl Try.ntmps23 (argM_ok [vi x]) rfl hmem hro hd ?_
 unfold halberdlaw11_Scalar at H
 refine TC_seq (TC_region (TLv (V_assign rfl) ?_))
 refine TL_nil (TX_next (TC_seq (TC_region (TLe (E_mk1 rfl rfl Try.underlying42 TryI.inf5 (z:=v8 0#8) rfl rfl rfl (B:=1) rfl (by decide) (Int.le_refl _) (by decide) (by decide) (n':=32) (c':=32) rfl rfl (cs:=e8 (List.replicate 32 0#8)) (rep_map (f:=v8))) (fun b1=>?_)))))
 refine TLv (V_assign rfl) ?_
 refine TL_nil (TX_next (TC_seq (TC_region (TLv (V_move rfl) ?_))))
 refine TLv (V_bin rfl rfl (fun w=>andI w x 1048575)) ?_
 refine TLv (V_bin rfl rfl (fun w=>addI w 1 (iop (· &&& ·) x 1048575))) ?_
 refine TLv (V_assign rfl) ?_
 obtain ⟨k_1,hk_1,H⟩:=ltt_elim H
 refine TL_re (d:=4) (v:=vi (w64 (1+(iop (· &&& ·) x 1048575)))) (v':=vi k_1) rfl (congrArg vi hk_1) ?_
 refine TL_nil (TX_next (TC_seq (TC_seq (TC_region (TLv (V_assign rfl) ?_)))))
 refine TL_nil (TX_next (TC_block ?_))
 obtain ⟨t_1,Hl,H⟩:=bind_elim H
 refine TC.sub (m':=[(0,vi x),(3,sl (some (b1,0)) 32 32),(4,vi k_1),(5,vi 0)]) ⟨rfl,rfl,rfl,rfl,trivial⟩ ?_
 refine TC.pull (is:=[0]) (L':=[⟨some (b1,0),e8 (List.replicate 32 0#8)⟩]) rfl ?_
 refine TC_loopL (id:=0) (body:=(halberdlaw11_Scalar.b0 k_1)) (σ:=Int × List (BitVec 8)) (Γ:=Unit) (Γx:=Unit) (fun s0 g0_=>[(0,vi x),(3,sl (some (b1,0)) 32 32),(4,vi k_1),(5,vi s0.1)]) (fun s0 g0_=>[⟨some (b1,0),e8 s0.2⟩]) (fun t g=>[(0,vi x),(3,sl (some (b1,0)) 32 32)]) (fun t g=>[⟨some (b1,0),e8 t⟩]) ?_ BIG (0,List.replicate 32 0#8) () t_1 Hl ?_
 ·intro s0 g0_ r1 H K hK hE
  unfold halberdlaw11_Scalar.b0 at H
  refine TC_seq (TC_seq (TC_region (TLv (V_move rfl) ?_)))
  refine TLv (V_bin rfl rfl (fun w=>lssI w s0.1 4)) ?_
  refine TL_nil (TX_next (TC_cond (b:=(decide (s0.1<4))) rfl (fun hc=>?_) (fun hc=>?_)))
  ·replace H:=ite_t (of_decide_eq_true hc) H
   refine TC_skip (TX_next (TC_seq (TC_block (TC_region (TLv (V_move rfl) ?_)))))
   refine TLv (V_move rfl) ?_
   refine TLv (V_bin rfl rfl (fun w=>subI w 31 s0.1)) ?_
   refine TLv (V_move rfl) ?_
   refine TLv (V_move rfl) ?_
   refine TLv (V_bin rfl rfl (fun w=>mulI w 8 s0.1)) ?_
   obtain ⟨h1,H⟩:=if_elim H
   refine TLv (V_bin rfl rfl (fun w=>shrI w k_1 .i64 (w64 (8 * s0.1)) h1)) ?_
   refine TLv (V_bin rfl rfl (fun w=>andI w (shrI' k_1 (w64 (8 * s0.1))) 255)) ?_
   refine TLv (V_conv rfl (fun w=>cvI8 w _ _ Try.underlying5 (TryI.und3) .i64 (iop (· &&& ·) (shrI' k_1 (w64 (8 * s0.1))) 255))) ?_
   obtain ⟨h2,H⟩:=if_elim H
   obtain ⟨h3,H⟩:=if_elim H
   refine TLv (V_idxSl (i:=w64 (31 - s0.1)) rfl rfl Try.underlying42 TryI.inf5 rfl (fun _ h=>by cases h) h2.1 h2.2 (k:=(w64 (31 - s0.1)).toNat) (km1 _)) ?_
   refine TLn (E_store (j:=0) rfl rfl TryI.inf5 rfl rfl rfl (by simpa using h3) (cs':=e8 (s0.2.set ((w64 (31 - s0.1)).toNat) (BitVec.ofInt 8 (iop (· &&& ·) (shrI' k_1 (w64 (8 * s0.1))) 255)))) (set_map (f:=v8) (l:=s0.2) (k:=((w64 (31 - s0.1)).toNat)) (x:=(BitVec.ofInt 8 (iop (· &&& ·) (shrI' k_1 (w64 (8 * s0.1))) 255))))) (fun _=>?_)
   obtain ⟨m_1,hm_1,H⟩:=ltt_elim H
   refine TL_reE (j:=0) (A:=some (b1,0)) (cs:=e8 (s0.2.set ((w64 (31 - s0.1)).toNat) (BitVec.ofInt 8 (iop (· &&& ·) (shrI' k_1 (w64 (8 * s0.1))) 255)))) (cs':=e8 m_1) rfl (congrArg (e8) hm_1) ?_
   refine TL_nil (TX_block_normal (TX_next (TC_region (TLv (V_move rfl) ?_))))
   refine TLv (V_bin rfl rfl (fun w=>addI w s0.1 1)) ?_
   refine TLv (V_assign rfl) ?_
   obtain ⟨i1,hi1,H⟩:=ltt_elim H
   refine TL_re (d:=5) (v:=vi (w64 (s0.1+1))) (v':=vi i1) rfl (congrArg vi hi1) ?_
   refine TL_nil (TX.sub (m':=[(0,vi x),(3,sl (some (b1,0)) 32 32),(4,vi k_1),(5,vi i1)]) ⟨rfl,rfl,rfl,rfl,trivial⟩ ?_)
   refine TX.pull (is:=[0]) (L':=[⟨some (b1,0),e8 m_1⟩]) rfl ?_
   obtain rfl:=Option.some.inj H
   exact fun a w hs=>hK (i1,m_1) rfl () a w hs
  ·replace H:=ite_f (of_decide_eq_false hc) H
   refine TC_exit (TX_then_exit (TX_then_exit (TX.sub (m':=[(0,vi x),(3,sl (some (b1,0)) 32 32)]) ⟨rfl,rfl,trivial⟩ ?_)))
   refine TX.pull (is:=[0]) (L':=[⟨some (b1,0),e8 s0.2⟩]) rfl ?_
   obtain rfl:=Option.some.inj H
   exact hE s0.2 rfl ()
 ·intro g
  refine TX_block_exit (TX_next (TC_seq (TC_seq (TC_region (TLv (V_move rfl) ?_)))))
  refine TLv (V_bin rfl rfl (fun w=>lssI w x 0)) ?_
  refine TL_nil (TX_next (TC_cond (b:=(decide (x<0))) rfl (fun hc=>?_) (fun hc=>?_)))
  ·replace H:=ite_t (of_decide_eq_true hc) H
   refine TC_seq ?_
   obtain ⟨h4,H⟩:=if_elim H
   obtain ⟨h5,H⟩:=if_elim H
   obtain ⟨r_1,hr_1,H⟩:=bind_elim H
   refine TA_begin [] 10 (by kernel_rfl) (N:=10) rfl ?_
   refine TA_mix (is:=[]) (done':=dn 10 1023) [⟨0,29,fun b2=>sl (some (b2,0)) 32 32,fun b2=>[⟨some (b2,0),e8 (List.replicate 32 0#8)⟩],[],none⟩,⟨1,30,fun _=>vs (List.replicate 32 0#8),fun _=>[],[0],some 0⟩,itV 2 31 (sl (some (b1,0)) 32 32) [],itV 3 32 (vs t_1) [2],itV 4 33 (Value.tuple [vs r_1.1,vi r_1.2].toArray) [3,1],itV 5 28 (Value.tuple [vs r_1.1,vi r_1.2].toArray) [4],itV 6 34 (vs r_1.1) [5],itV 7 35 (vi r_1.2) [5],itV 8 6 (vs r_1.1) [6],itV 9 7 (vi r_1.2) [7]] [] 0 (by kernel_rfl) (QP.then (QP.then QP.body)) (by kernel_rfl) rfl (.c rfl (fun _ _=>(E_mk1 rfl rfl Try.underlying42 TryI.inf5 (z:=v8 0#8) rfl rfl rfl (B:=1) rfl (by decide) (Int.le_refl _) (by decide) (by decide) (n':=32) (c':=32) rfl rfl (cs:=e8 (List.replicate 32 0#8)) (rep_map (f:=v8)))) (.c rfl (fun _ _=>OpE_v (V_b2s rfl Try.underlying42 Try.underlying5 Try.underlying9 (.o 0) h4)) (.v rfl (V_move rfl) (.v rfl (V_b2s rfl Try.underlying42 Try.underlying5 Try.underlying9 (.o 0) h5) (.e rfl (E_cu (F24_calls 1 1 (List.replicate 32 0#8) t_1 r_1 hr_1) Try.call24 .z) (.v rfl (V_move rfl) (.v rfl V_ex (.v rfl V_ex (.v rfl (V_assign rfl) (.v rfl (V_assign rfl) .nil)))))))))) .nil (by kernel_rfl) rfl (fun γ=>?_)
   refine TA_cut [(6,vs r_1.1)] [⟨some ((γ 0),0),e8 (List.replicate 32 0#8)⟩,⟨some (b1,0),e8 t_1⟩] ⟨rfl,trivial⟩ rfl ?_
   generalize γ 0=b2
   refine TA_done (by kernel_rfl) ?_ 0
   refine TX_next (TC_seq (TC_region (TLv (V_move rfl) ?_)))
   refine TLv (V_assign rfl) ?_
   refine TL_nil (TX_next (TC_ret (TX_then_ret ?_)))
   have hrv:=Option.some.inj H
   subst hrv
   exact TX_ret (rs:=[.tmp 2]) (vs:=[vs r_1.1]) rfl ⟨rfl,trivial⟩ (fun w' hs'=>⟨(),rfl,Step.left (Step.pulled (is:=[]) (A:=[]) hs' rfl)⟩)
  ·replace H:=ite_f (of_decide_eq_false hc) H
   refine TC_skip (TX_next (TC_seq (TC_region (TLv (V_move rfl) ?_))))
   obtain ⟨h6,H⟩:=if_elim H
   refine TLv (V_b2s rfl Try.underlying42 Try.underlying5 Try.underlying9 (.o 0) h6) ?_
   refine TLv (V_assign rfl) ?_
   refine TL_nil (TX_next (TC_ret ?_))
   have hrv:=Option.some.inj H
   subst hrv
   exact TX_ret (rs:=[.tmp 2]) (vs:=[vs t_1]) rfl ⟨rfl,trivial⟩ (fun w' hs'=>⟨(),rfl,Step.left (Step.pulled (is:=[]) (A:=[]) hs' rfl)⟩)
end Go.Proofs
end

section
namespace Go.Proofs
open Go Go.Kx
def halberdlaw11_awake:Option (Bool) :=
 (halberdlaw11_Scalar 0).bind fun (r_1:Str)=>((pcurve_Public r_1).bind fun (r_2:Str × Int)=>((halberdlaw11_Scalar 1).bind fun (r_3:Str)=>((pcurve_Public r_3).bind fun (r_4:Str × Int)=>((pcurve_Add r_2.1 r_2.1).bind fun (r_5:Str × Int)=>((halberdlaw11_Scalar 1).bind fun (r_6:Str)=>((pcurve_Mul r_6 r_2.1).bind fun (r_7:Str × Int)=>(if (List.replicate 32 0#8).length=32 then ((pcurve_Public (List.replicate 32 0#8)).bind fun (r_8:Str × Int)=>(if ((r_2.1).length:Int)=65 then (if 0≤(1:Int)∧(1:Int)<((r_2.1).length:Int) then (if (sg r_2.1 1)=107#8 then ((halberdlaw0_Num r_2.2).bind fun (r_9:Int)=>(if r_9=0 then ((halberdlaw0_Num r_4.2).bind fun (r_10:Int)=>(if r_10=0 then (if r_5.1=r_4.1 then ((halberdlaw0_Num r_5.2).bind fun (r_11:Int)=>(if r_11=0 then (if r_7.1=r_4.1 then ((halberdlaw0_Num r_7.2).bind fun (r_12:Int)=>(if r_12=0 then ((halberdlaw0_Num r_8.2).bind fun (r_13:Int)=>(if r_13=1100 then ((pcurve_On r_2.1).bind fun (r_14:Bool)=>(if r_14=true then ((pcurve_On ([]:Str)).bind fun (r_15:Bool)=>(some (!r_15))) else (some false))) else (some false))) else (some false))) else (some false)) else (some false))) else (some false)) else (some false))) else (some false))) else (some false)) else none) else (some false))) else none)))))))
set_option maxHeartbeats 4000000 in
set_option maxRecDepth 20000 in
theorem F22_calls (r:Bool) (H:halberdlaw11_awake=some r) :
  Does Try.prog 22 [] [] [] (Γ:=Unit) (fun g=>vb r) (fun g=>[]):=by
 intro w hmem hro hd
 refine calls_of (N:=90) (m0:=[]) Try.func22 rfl Try.ntmps22 (argM_ok []) rfl hmem hro hd ?_
 unfold halberdlaw11_awake at H
 refine TC_seq (TC_region (TLv (V_assign rfl) ?_))
 refine TL_nil (TX_next (TC_seq (TC_region ?_)))
 obtain ⟨r_1,hr_1,H⟩:=bind_elim H
 refine TLe (E_c0 (F23_calls 0 r_1 hr_1) Try.call23 .z) (fun g_1=>?_)
 obtain ⟨r_2,hr_2,H⟩:=bind_elim H
 refine TLe (E_c0 (F13_calls r_1 r_2 hr_2) Try.call13 .z) (fun g_2=>?_)
 refine TLv (V_move rfl) ?_
 refine TLv V_ex ?_
 refine TLv V_ex ?_
 refine TLv (V_assign rfl) ?_
 refine TLv (V_assign rfl) ?_
 refine TL_nil (TX_next (TC_seq (TC_region ?_)))
 obtain ⟨r_3,hr_3,H⟩:=bind_elim H
 refine TLe (E_c0 (F23_calls 1 r_3 hr_3) Try.call23 .z) (fun g_3=>?_)
 obtain ⟨r_4,hr_4,H⟩:=bind_elim H
 refine TLe (E_c0 (F13_calls r_3 r_4 hr_4) Try.call13 .z) (fun g_4=>?_)
 refine TLv (V_move rfl) ?_
 refine TLv V_ex ?_
 refine TLv V_ex ?_
 refine TLv (V_assign rfl) ?_
 refine TLv (V_assign rfl) ?_
 refine TL_nil (TX_next (TC_seq (TC_region (TLv (V_move rfl) ?_))))
 refine TLv (V_move rfl) ?_
 obtain ⟨r_5,hr_5,H⟩:=bind_elim H
 refine TLe (E_c0 (F17_calls r_2.1 r_2.1 r_5 hr_5) Try.call17 .z) (fun g_5=>?_)
 refine TLv (V_move rfl) ?_
 refine TLv V_ex ?_
 refine TLv V_ex ?_
 refine TLv (V_assign rfl) ?_
 refine TLv (V_assign rfl) ?_
 refine TL_nil (TX_next (TC_seq (TC_region ?_)))
 obtain ⟨r_6,hr_6,H⟩:=bind_elim H
 refine TLe (E_c0 (F23_calls 1 r_6 hr_6) Try.call23 .z) (fun g_6=>?_)
 refine TLv (V_move rfl) ?_
 obtain ⟨r_7,hr_7,H⟩:=bind_elim H
 refine TLe (E_c0 (F15_calls r_6 r_2.1 r_7 hr_7) Try.call15 .z) (fun g_7=>?_)
 refine TLv (V_move rfl) ?_
 refine TLv V_ex ?_
 refine TLv V_ex ?_
 refine TLv (V_assign rfl) ?_
 refine TLv (V_assign rfl) ?_
 refine TL_nil (TX_next (TC.sub (m':=[(1,vs r_2.1),(2,vi r_2.2),(3,vs r_4.1),(4,vi r_4.2),(5,vs r_5.1),(6,vi r_5.2),(7,vs r_7.1),(8,vi r_7.2)]) ⟨rfl,rfl,rfl,rfl,rfl,rfl,rfl,rfl,trivial⟩ ?_))
 refine TC.pull (is:=[]) (L':=[]) rfl ?_
 refine TC_seq (TC_region (TLe (E_mk1 rfl rfl Try.underlying42 TryI.inf5 (z:=v8 0#8) rfl rfl rfl (B:=1) rfl (by decide) (Int.le_refl _) (by decide) (by decide) (n':=32) (c':=32) rfl rfl (cs:=e8 (List.replicate 32 0#8)) (rep_map (f:=v8))) (fun b1=>?_)))
 obtain ⟨h1,H⟩:=if_elim H
 refine TLv (V_b2s rfl Try.underlying42 Try.underlying5 Try.underlying9 (.o 0) h1) ?_
 obtain ⟨r_8,hr_8,H⟩:=bind_elim H
 refine TLe (E_c0 (F13_calls (List.replicate 32 0#8) r_8 hr_8) Try.call13 .z) (fun g_8=>?_)
 refine TLv (V_move rfl) ?_
 refine TLv V_ex ?_
 refine TLv V_ex ?_
 refine TLv (V_assign rfl) ?_
 refine TLv (V_assign rfl) ?_
 refine TL_nil (TX_next (TC_seq (TC_region (TLv (V_move rfl) ?_))))
 refine TLv (V_len_str rfl Try.underlying9) ?_
 refine TLv (V_bin rfl rfl (fun w=>eqlI w ((r_2.1).length:Int) 65)) ?_
 refine TLv (V_move rfl) ?_
 refine TL_fork (d:=42) (b:=(decide (((r_2.1).length:Int)=65))) rfl (fun hc=>?_) (fun hc=>?_)
 ·replace H:=ite_t (of_decide_eq_true hc) H
  refine TL_want rfl rfl rfl rfl rfl rfl (V_move rfl) ?_
  obtain ⟨h2,H⟩:=if_elim H
  refine TL_want rfl rfl rfl rfl rfl rfl (V_idxStr rfl rfl (i:=1) Try.underlying9 h2.1 h2.2) ?_
  refine TL_want rfl rfl rfl rfl rfl rfl (V_bin rfl rfl (fun w=>eql8 w (sg r_2.1 1) 107#8)) ?_
  refine TLv (V_pick (b:=true) rfl rfl) ?_
  refine TLv (V_move rfl) ?_
  refine TL_fork (d:=47) (b:=(decide ((sg r_2.1 1)=107#8))) rfl (fun hc=>?_) (fun hc=>?_)
  ·replace H:=ite_t (of_decide_eq_true hc) H
   refine TL_want rfl rfl rfl rfl rfl rfl (V_move rfl) ?_
   obtain ⟨r_9,hr_9,H⟩:=bind_elim H
   refine TL_wantE rfl rfl rfl rfl rfl rfl (E_c0 (F20_calls r_2.2 r_9 hr_9) Try.call20 .z) (fun g_9=>?_)
   refine TL_want rfl rfl rfl rfl rfl rfl (V_bin rfl rfl (fun w=>eqlI w r_9 0)) ?_
   refine TLv (V_pick (b:=true) rfl rfl) ?_
   refine TLv (V_move rfl) ?_
   refine TL_fork (d:=52) (b:=(decide (r_9=0))) rfl (fun hc=>?_) (fun hc=>?_)
   ·replace H:=ite_t (of_decide_eq_true hc) H
    refine TL_want rfl rfl rfl rfl rfl rfl (V_move rfl) ?_
    obtain ⟨r_10,hr_10,H⟩:=bind_elim H
    refine TL_wantE rfl rfl rfl rfl rfl rfl (E_c0 (F20_calls r_4.2 r_10 hr_10) Try.call20 .z) (fun g_10=>?_)
    refine TL_want rfl rfl rfl rfl rfl rfl (V_bin rfl rfl (fun w=>eqlI w r_10 0)) ?_
    refine TLv (V_pick (b:=true) rfl rfl) ?_
    refine TLv (V_move rfl) ?_
    refine TL_fork (d:=57) (b:=(decide (r_10=0))) rfl (fun hc=>?_) (fun hc=>?_)
    ·replace H:=ite_t (of_decide_eq_true hc) H
     refine TL_want rfl rfl rfl rfl rfl rfl (V_move rfl) ?_
     refine TL_want rfl rfl rfl rfl rfl rfl (V_move rfl) ?_
     refine TL_want rfl rfl rfl rfl rfl rfl (V_bin rfl rfl (fun w=>eqlS w r_5.1 r_4.1)) ?_
     refine TLv (V_pick (b:=true) rfl rfl) ?_
     refine TLv (V_move rfl) ?_
     refine TL_fork (d:=62) (b:=(decide (r_5.1=r_4.1))) rfl (fun hc=>?_) (fun hc=>?_)
     ·replace H:=ite_t (of_decide_eq_true hc) H
      refine TL_want rfl rfl rfl rfl rfl rfl (V_move rfl) ?_
      obtain ⟨r_11,hr_11,H⟩:=bind_elim H
      refine TL_wantE rfl rfl rfl rfl rfl rfl (E_c0 (F20_calls r_5.2 r_11 hr_11) Try.call20 .z) (fun g_11=>?_)
      refine TL_want rfl rfl rfl rfl rfl rfl (V_bin rfl rfl (fun w=>eqlI w r_11 0)) ?_
      refine TLv (V_pick (b:=true) rfl rfl) ?_
      refine TLv (V_move rfl) ?_
      refine TL_fork (d:=67) (b:=(decide (r_11=0))) rfl (fun hc=>?_) (fun hc=>?_)
      ·replace H:=ite_t (of_decide_eq_true hc) H
       refine TL_want rfl rfl rfl rfl rfl rfl (V_move rfl) ?_
       refine TL_want rfl rfl rfl rfl rfl rfl (V_move rfl) ?_
       refine TL_want rfl rfl rfl rfl rfl rfl (V_bin rfl rfl (fun w=>eqlS w r_7.1 r_4.1)) ?_
       refine TLv (V_pick (b:=true) rfl rfl) ?_
       refine TLv (V_move rfl) ?_
       refine TL_fork (d:=72) (b:=(decide (r_7.1=r_4.1))) rfl (fun hc=>?_) (fun hc=>?_)
       ·replace H:=ite_t (of_decide_eq_true hc) H
        refine TL_want rfl rfl rfl rfl rfl rfl (V_move rfl) ?_
        obtain ⟨r_12,hr_12,H⟩:=bind_elim H
        refine TL_wantE rfl rfl rfl rfl rfl rfl (E_c0 (F20_calls r_7.2 r_12 hr_12) Try.call20 .z) (fun g_12=>?_)
        refine TL_want rfl rfl rfl rfl rfl rfl (V_bin rfl rfl (fun w=>eqlI w r_12 0)) ?_
        refine TLv (V_pick (b:=true) rfl rfl) ?_
        refine TLv (V_move rfl) ?_
        refine TL_fork (d:=77) (b:=(decide (r_12=0))) rfl (fun hc=>?_) (fun hc=>?_)
        ·replace H:=ite_t (of_decide_eq_true hc) H
         refine TL_want rfl rfl rfl rfl rfl rfl (V_move rfl) ?_
         obtain ⟨r_13,hr_13,H⟩:=bind_elim H
         refine TL_wantE rfl rfl rfl rfl rfl rfl (E_c0 (F20_calls r_8.2 r_13 hr_13) Try.call20 .z) (fun g_13=>?_)
         refine TL_want rfl rfl rfl rfl rfl rfl (V_bin rfl rfl (fun w=>eqlI w r_13 1100)) ?_
         refine TLv (V_pick (b:=true) rfl rfl) ?_
         refine TLv (V_move rfl) ?_
         refine TL_fork (d:=82) (b:=(decide (r_13=1100))) rfl (fun hc=>?_) (fun hc=>?_)
         ·replace H:=ite_t (of_decide_eq_true hc) H
          refine TL_want rfl rfl rfl rfl rfl rfl (V_move rfl) ?_
          obtain ⟨r_14,hr_14,H⟩:=bind_elim H
          refine TL_wantE rfl rfl rfl rfl rfl rfl (E_c0 (F21_calls r_2.1 r_14 hr_14) Try.call21 .z) (fun g_14=>?_)
          refine TLv (V_pick (b:=true) rfl rfl) ?_
          refine TLv (V_move rfl) ?_
          refine TL_fork (d:=86) (b:=r_14) rfl (fun hc=>?_) (fun hc=>?_)
          ·replace H:=ite_t hc H
           obtain ⟨r_15,hr_15,H⟩:=bind_elim H
           refine TL_wantE rfl rfl rfl rfl rfl rfl (E_c0 (F21_calls ([]:Str) r_15 hr_15) Try.call21 .z) (fun g_15=>?_)
           refine TL_want rfl rfl rfl rfl rfl rfl (V_un rfl (fun w=>notB w r_15)) ?_
           refine TLv (V_pick (b:=true) rfl rfl) ?_
           refine TLv (V_assign rfl) ?_
           refine TL_nil (TX_next (TC.sub (m':=[(0,vb (!r_15))]) ⟨rfl,trivial⟩ ?_))
           refine TC.pull (is:=[]) (L':=[]) rfl ?_
           refine TC_ret ?_
           have hrv:=Option.some.inj H
           subst hrv
           exact TX_ret (rs:=[.tmp 0]) (vs:=[vb (!r_15)]) rfl ⟨rfl,trivial⟩ (fun w' hs'=>⟨(),rfl,Step.left (Step.pulled (is:=[]) (A:=[]) hs' rfl)⟩)
          ·replace H:=ite_f (Bool.eq_false_iff.1 hc) H
           refine TL_skip rfl rfl rfl rfl rfl rfl rfl ?_
           refine TL_skip rfl rfl rfl rfl rfl rfl rfl ?_
           refine TLv (V_pick (b:=false) rfl rfl) ?_
           refine TLv (V_assign rfl) ?_
           refine TL_nil (TX_next (TC.sub (m':=[(0,vb false)]) ⟨rfl,trivial⟩ ?_))
           refine TC.pull (is:=[]) (L':=[]) rfl ?_
           refine TC_ret ?_
           have hrv:=Option.some.inj H
           subst hrv
           exact TX_ret (rs:=[.tmp 0]) (vs:=[vb false]) rfl ⟨rfl,trivial⟩ (fun w' hs'=>⟨(),rfl,Step.left (Step.pulled (is:=[]) (A:=[]) hs' rfl)⟩)
         ·replace H:=ite_f (of_decide_eq_false hc) H
          refine TL_skip rfl rfl rfl rfl rfl rfl rfl ?_
          refine TL_skip rfl rfl rfl rfl rfl rfl rfl ?_
          refine TLv (V_pick (b:=false) rfl rfl) ?_
          refine TLv (V_move rfl) ?_
          refine TL_skip rfl rfl rfl rfl rfl rfl rfl ?_
          refine TL_skip rfl rfl rfl rfl rfl rfl rfl ?_
          refine TLv (V_pick (b:=false) rfl rfl) ?_
          refine TLv (V_assign rfl) ?_
          refine TL_nil (TX_next (TC.sub (m':=[(0,vb false)]) ⟨rfl,trivial⟩ ?_))
          refine TC.pull (is:=[]) (L':=[]) rfl ?_
          refine TC_ret ?_
          have hrv:=Option.some.inj H
          subst hrv
          exact TX_ret (rs:=[.tmp 0]) (vs:=[vb false]) rfl ⟨rfl,trivial⟩ (fun w' hs'=>⟨(),rfl,Step.left (Step.pulled (is:=[]) (A:=[]) hs' rfl)⟩)
        ·replace H:=ite_f (of_decide_eq_false hc) H
         refine TL_skip rfl rfl rfl rfl rfl rfl rfl ?_
         refine TL_skip rfl rfl rfl rfl rfl rfl rfl ?_
         refine TL_skip rfl rfl rfl rfl rfl rfl rfl ?_
         refine TLv (V_pick (b:=false) rfl rfl) ?_
         refine TLv (V_move rfl) ?_
         refine TL_skip rfl rfl rfl rfl rfl rfl rfl ?_
         refine TL_skip rfl rfl rfl rfl rfl rfl rfl ?_
         refine TLv (V_pick (b:=false) rfl rfl) ?_
         refine TLv (V_move rfl) ?_
         refine TL_skip rfl rfl rfl rfl rfl rfl rfl ?_
         refine TL_skip rfl rfl rfl rfl rfl rfl rfl ?_
         refine TLv (V_pick (b:=false) rfl rfl) ?_
         refine TLv (V_assign rfl) ?_
         refine TL_nil (TX_next (TC.sub (m':=[(0,vb false)]) ⟨rfl,trivial⟩ ?_))
         refine TC.pull (is:=[]) (L':=[]) rfl ?_
         refine TC_ret ?_
         have hrv:=Option.some.inj H
         subst hrv
         exact TX_ret (rs:=[.tmp 0]) (vs:=[vb false]) rfl ⟨rfl,trivial⟩ (fun w' hs'=>⟨(),rfl,Step.left (Step.pulled (is:=[]) (A:=[]) hs' rfl)⟩)
       ·replace H:=ite_f (of_decide_eq_false hc) H
        refine TL_skip rfl rfl rfl rfl rfl rfl rfl ?_
        refine TL_skip rfl rfl rfl rfl rfl rfl rfl ?_
        refine TL_skip rfl rfl rfl rfl rfl rfl rfl ?_
        refine TLv (V_pick (b:=false) rfl rfl) ?_
        refine TLv (V_move rfl) ?_
        refine TL_skip rfl rfl rfl rfl rfl rfl rfl ?_
        refine TL_skip rfl rfl rfl rfl rfl rfl rfl ?_
        refine TL_skip rfl rfl rfl rfl rfl rfl rfl ?_
        refine TLv (V_pick (b:=false) rfl rfl) ?_
        refine TLv (V_move rfl) ?_
        refine TL_skip rfl rfl rfl rfl rfl rfl rfl ?_
        refine TL_skip rfl rfl rfl rfl rfl rfl rfl ?_
        refine TLv (V_pick (b:=false) rfl rfl) ?_
        refine TLv (V_move rfl) ?_
        refine TL_skip rfl rfl rfl rfl rfl rfl rfl ?_
        refine TL_skip rfl rfl rfl rfl rfl rfl rfl ?_
        refine TLv (V_pick (b:=false) rfl rfl) ?_
        refine TLv (V_assign rfl) ?_
        refine TL_nil (TX_next (TC.sub (m':=[(0,vb false)]) ⟨rfl,trivial⟩ ?_))
        refine TC.pull (is:=[]) (L':=[]) rfl ?_
        refine TC_ret ?_
        have hrv:=Option.some.inj H
        subst hrv
        exact TX_ret (rs:=[.tmp 0]) (vs:=[vb false]) rfl ⟨rfl,trivial⟩ (fun w' hs'=>⟨(),rfl,Step.left (Step.pulled (is:=[]) (A:=[]) hs' rfl)⟩)
      ·replace H:=ite_f (of_decide_eq_false hc) H
       refine TL_skip rfl rfl rfl rfl rfl rfl rfl ?_
       refine TL_skip rfl rfl rfl rfl rfl rfl rfl ?_
       refine TL_skip rfl rfl rfl rfl rfl rfl rfl ?_
       refine TLv (V_pick (b:=false) rfl rfl) ?_
       refine TLv (V_move rfl) ?_
       refine TL_skip rfl rfl rfl rfl rfl rfl rfl ?_
       refine TL_skip rfl rfl rfl rfl rfl rfl rfl ?_
       refine TL_skip rfl rfl rfl rfl rfl rfl rfl ?_
       refine TLv (V_pick (b:=false) rfl rfl) ?_
       refine TLv (V_move rfl) ?_
       refine TL_skip rfl rfl rfl rfl rfl rfl rfl ?_
       refine TL_skip rfl rfl rfl rfl rfl rfl rfl ?_
       refine TL_skip rfl rfl rfl rfl rfl rfl rfl ?_
       refine TLv (V_pick (b:=false) rfl rfl) ?_
       refine TLv (V_move rfl) ?_
       refine TL_skip rfl rfl rfl rfl rfl rfl rfl ?_
       refine TL_skip rfl rfl rfl rfl rfl rfl rfl ?_
       refine TLv (V_pick (b:=false) rfl rfl) ?_
       refine TLv (V_move rfl) ?_
       refine TL_skip rfl rfl rfl rfl rfl rfl rfl ?_
       refine TL_skip rfl rfl rfl rfl rfl rfl rfl ?_
       refine TLv (V_pick (b:=false) rfl rfl) ?_
       refine TLv (V_assign rfl) ?_
       refine TL_nil (TX_next (TC.sub (m':=[(0,vb false)]) ⟨rfl,trivial⟩ ?_))
       refine TC.pull (is:=[]) (L':=[]) rfl ?_
       refine TC_ret ?_
       have hrv:=Option.some.inj H
       subst hrv
       exact TX_ret (rs:=[.tmp 0]) (vs:=[vb false]) rfl ⟨rfl,trivial⟩ (fun w' hs'=>⟨(),rfl,Step.left (Step.pulled (is:=[]) (A:=[]) hs' rfl)⟩)
     ·replace H:=ite_f (of_decide_eq_false hc) H
      refine TL_skip rfl rfl rfl rfl rfl rfl rfl ?_
      refine TL_skip rfl rfl rfl rfl rfl rfl rfl ?_
      refine TL_skip rfl rfl rfl rfl rfl rfl rfl ?_
      refine TLv (V_pick (b:=false) rfl rfl) ?_
      refine TLv (V_move rfl) ?_
      refine TL_skip rfl rfl rfl rfl rfl rfl rfl ?_
      refine TL_skip rfl rfl rfl rfl rfl rfl rfl ?_
      refine TL_skip rfl rfl rfl rfl rfl rfl rfl ?_
      refine TLv (V_pick (b:=false) rfl rfl) ?_
      refine TLv (V_move rfl) ?_
      refine TL_skip rfl rfl rfl rfl rfl rfl rfl ?_
      refine TL_skip rfl rfl rfl rfl rfl rfl rfl ?_
      refine TL_skip rfl rfl rfl rfl rfl rfl rfl ?_
      refine TLv (V_pick (b:=false) rfl rfl) ?_
      refine TLv (V_move rfl) ?_
      refine TL_skip rfl rfl rfl rfl rfl rfl rfl ?_
      refine TL_skip rfl rfl rfl rfl rfl rfl rfl ?_
      refine TL_skip rfl rfl rfl rfl rfl rfl rfl ?_
      refine TLv (V_pick (b:=false) rfl rfl) ?_
      refine TLv (V_move rfl) ?_
      refine TL_skip rfl rfl rfl rfl rfl rfl rfl ?_
      refine TL_skip rfl rfl rfl rfl rfl rfl rfl ?_
      refine TLv (V_pick (b:=false) rfl rfl) ?_
      refine TLv (V_move rfl) ?_
      refine TL_skip rfl rfl rfl rfl rfl rfl rfl ?_
      refine TL_skip rfl rfl rfl rfl rfl rfl rfl ?_
      refine TLv (V_pick (b:=false) rfl rfl) ?_
      refine TLv (V_assign rfl) ?_
      refine TL_nil (TX_next (TC.sub (m':=[(0,vb false)]) ⟨rfl,trivial⟩ ?_))
      refine TC.pull (is:=[]) (L':=[]) rfl ?_
      refine TC_ret ?_
      have hrv:=Option.some.inj H
      subst hrv
      exact TX_ret (rs:=[.tmp 0]) (vs:=[vb false]) rfl ⟨rfl,trivial⟩ (fun w' hs'=>⟨(),rfl,Step.left (Step.pulled (is:=[]) (A:=[]) hs' rfl)⟩)
    ·replace H:=ite_f (of_decide_eq_false hc) H
     refine TL_skip rfl rfl rfl rfl rfl rfl rfl ?_
     refine TL_skip rfl rfl rfl rfl rfl rfl rfl ?_
     refine TL_skip rfl rfl rfl rfl rfl rfl rfl ?_
     refine TLv (V_pick (b:=false) rfl rfl) ?_
     refine TLv (V_move rfl) ?_
     refine TL_skip rfl rfl rfl rfl rfl rfl rfl ?_
     refine TL_skip rfl rfl rfl rfl rfl rfl rfl ?_
     refine TL_skip rfl rfl rfl rfl rfl rfl rfl ?_
     refine TLv (V_pick (b:=false) rfl rfl) ?_
     refine TLv (V_move rfl) ?_
     refine TL_skip rfl rfl rfl rfl rfl rfl rfl ?_
     refine TL_skip rfl rfl rfl rfl rfl rfl rfl ?_
     refine TL_skip rfl rfl rfl rfl rfl rfl rfl ?_
     refine TLv (V_pick (b:=false) rfl rfl) ?_
     refine TLv (V_move rfl) ?_
     refine TL_skip rfl rfl rfl rfl rfl rfl rfl ?_
     refine TL_skip rfl rfl rfl rfl rfl rfl rfl ?_
     refine TL_skip rfl rfl rfl rfl rfl rfl rfl ?_
     refine TLv (V_pick (b:=false) rfl rfl) ?_
     refine TLv (V_move rfl) ?_
     refine TL_skip rfl rfl rfl rfl rfl rfl rfl ?_
     refine TL_skip rfl rfl rfl rfl rfl rfl rfl ?_
     refine TL_skip rfl rfl rfl rfl rfl rfl rfl ?_
     refine TLv (V_pick (b:=false) rfl rfl) ?_
     refine TLv (V_move rfl) ?_
     refine TL_skip rfl rfl rfl rfl rfl rfl rfl ?_
     refine TL_skip rfl rfl rfl rfl rfl rfl rfl ?_
     refine TLv (V_pick (b:=false) rfl rfl) ?_
     refine TLv (V_move rfl) ?_
     refine TL_skip rfl rfl rfl rfl rfl rfl rfl ?_
     refine TL_skip rfl rfl rfl rfl rfl rfl rfl ?_
     refine TLv (V_pick (b:=false) rfl rfl) ?_
     refine TLv (V_assign rfl) ?_
     refine TL_nil (TX_next (TC.sub (m':=[(0,vb false)]) ⟨rfl,trivial⟩ ?_))
     refine TC.pull (is:=[]) (L':=[]) rfl ?_
     refine TC_ret ?_
     have hrv:=Option.some.inj H
     subst hrv
     exact TX_ret (rs:=[.tmp 0]) (vs:=[vb false]) rfl ⟨rfl,trivial⟩ (fun w' hs'=>⟨(),rfl,Step.left (Step.pulled (is:=[]) (A:=[]) hs' rfl)⟩)
   ·replace H:=ite_f (of_decide_eq_false hc) H
    refine TL_skip rfl rfl rfl rfl rfl rfl rfl ?_
    refine TL_skip rfl rfl rfl rfl rfl rfl rfl ?_
    refine TL_skip rfl rfl rfl rfl rfl rfl rfl ?_
    refine TLv (V_pick (b:=false) rfl rfl) ?_
    refine TLv (V_move rfl) ?_
    refine TL_skip rfl rfl rfl rfl rfl rfl rfl ?_
    refine TL_skip rfl rfl rfl rfl rfl rfl rfl ?_
    refine TL_skip rfl rfl rfl rfl rfl rfl rfl ?_
    refine TLv (V_pick (b:=false) rfl rfl) ?_
    refine TLv (V_move rfl) ?_
    refine TL_skip rfl rfl rfl rfl rfl rfl rfl ?_
    refine TL_skip rfl rfl rfl rfl rfl rfl rfl ?_
    refine TL_skip rfl rfl rfl rfl rfl rfl rfl ?_
    refine TLv (V_pick (b:=false) rfl rfl) ?_
    refine TLv (V_move rfl) ?_
    refine TL_skip rfl rfl rfl rfl rfl rfl rfl ?_
    refine TL_skip rfl rfl rfl rfl rfl rfl rfl ?_
    refine TL_skip rfl rfl rfl rfl rfl rfl rfl ?_
    refine TLv (V_pick (b:=false) rfl rfl) ?_
    refine TLv (V_move rfl) ?_
    refine TL_skip rfl rfl rfl rfl rfl rfl rfl ?_
    refine TL_skip rfl rfl rfl rfl rfl rfl rfl ?_
    refine TL_skip rfl rfl rfl rfl rfl rfl rfl ?_
    refine TLv (V_pick (b:=false) rfl rfl) ?_
    refine TLv (V_move rfl) ?_
    refine TL_skip rfl rfl rfl rfl rfl rfl rfl ?_
    refine TL_skip rfl rfl rfl rfl rfl rfl rfl ?_
    refine TL_skip rfl rfl rfl rfl rfl rfl rfl ?_
    refine TLv (V_pick (b:=false) rfl rfl) ?_
    refine TLv (V_move rfl) ?_
    refine TL_skip rfl rfl rfl rfl rfl rfl rfl ?_
    refine TL_skip rfl rfl rfl rfl rfl rfl rfl ?_
    refine TLv (V_pick (b:=false) rfl rfl) ?_
    refine TLv (V_move rfl) ?_
    refine TL_skip rfl rfl rfl rfl rfl rfl rfl ?_
    refine TL_skip rfl rfl rfl rfl rfl rfl rfl ?_
    refine TLv (V_pick (b:=false) rfl rfl) ?_
    refine TLv (V_assign rfl) ?_
    refine TL_nil (TX_next (TC.sub (m':=[(0,vb false)]) ⟨rfl,trivial⟩ ?_))
    refine TC.pull (is:=[]) (L':=[]) rfl ?_
    refine TC_ret ?_
    have hrv:=Option.some.inj H
    subst hrv
    exact TX_ret (rs:=[.tmp 0]) (vs:=[vb false]) rfl ⟨rfl,trivial⟩ (fun w' hs'=>⟨(),rfl,Step.left (Step.pulled (is:=[]) (A:=[]) hs' rfl)⟩)
  ·replace H:=ite_f (of_decide_eq_false hc) H
   refine TL_skip rfl rfl rfl rfl rfl rfl rfl ?_
   refine TL_skip rfl rfl rfl rfl rfl rfl rfl ?_
   refine TL_skip rfl rfl rfl rfl rfl rfl rfl ?_
   refine TLv (V_pick (b:=false) rfl rfl) ?_
   refine TLv (V_move rfl) ?_
   refine TL_skip rfl rfl rfl rfl rfl rfl rfl ?_
   refine TL_skip rfl rfl rfl rfl rfl rfl rfl ?_
   refine TL_skip rfl rfl rfl rfl rfl rfl rfl ?_
   refine TLv (V_pick (b:=false) rfl rfl) ?_
   refine TLv (V_move rfl) ?_
   refine TL_skip rfl rfl rfl rfl rfl rfl rfl ?_
   refine TL_skip rfl rfl rfl rfl rfl rfl rfl ?_
   refine TL_skip rfl rfl rfl rfl rfl rfl rfl ?_
   refine TLv (V_pick (b:=false) rfl rfl) ?_
   refine TLv (V_move rfl) ?_
   refine TL_skip rfl rfl rfl rfl rfl rfl rfl ?_
   refine TL_skip rfl rfl rfl rfl rfl rfl rfl ?_
   refine TL_skip rfl rfl rfl rfl rfl rfl rfl ?_
   refine TLv (V_pick (b:=false) rfl rfl) ?_
   refine TLv (V_move rfl) ?_
   refine TL_skip rfl rfl rfl rfl rfl rfl rfl ?_
   refine TL_skip rfl rfl rfl rfl rfl rfl rfl ?_
   refine TL_skip rfl rfl rfl rfl rfl rfl rfl ?_
   refine TLv (V_pick (b:=false) rfl rfl) ?_
   refine TLv (V_move rfl) ?_
   refine TL_skip rfl rfl rfl rfl rfl rfl rfl ?_
   refine TL_skip rfl rfl rfl rfl rfl rfl rfl ?_
   refine TL_skip rfl rfl rfl rfl rfl rfl rfl ?_
   refine TLv (V_pick (b:=false) rfl rfl) ?_
   refine TLv (V_move rfl) ?_
   refine TL_skip rfl rfl rfl rfl rfl rfl rfl ?_
   refine TL_skip rfl rfl rfl rfl rfl rfl rfl ?_
   refine TL_skip rfl rfl rfl rfl rfl rfl rfl ?_
   refine TLv (V_pick (b:=false) rfl rfl) ?_
   refine TLv (V_move rfl) ?_
   refine TL_skip rfl rfl rfl rfl rfl rfl rfl ?_
   refine TL_skip rfl rfl rfl rfl rfl rfl rfl ?_
   refine TLv (V_pick (b:=false) rfl rfl) ?_
   refine TLv (V_move rfl) ?_
   refine TL_skip rfl rfl rfl rfl rfl rfl rfl ?_
   refine TL_skip rfl rfl rfl rfl rfl rfl rfl ?_
   refine TLv (V_pick (b:=false) rfl rfl) ?_
   refine TLv (V_assign rfl) ?_
   refine TL_nil (TX_next (TC.sub (m':=[(0,vb false)]) ⟨rfl,trivial⟩ ?_))
   refine TC.pull (is:=[]) (L':=[]) rfl ?_
   refine TC_ret ?_
   have hrv:=Option.some.inj H
   subst hrv
   exact TX_ret (rs:=[.tmp 0]) (vs:=[vb false]) rfl ⟨rfl,trivial⟩ (fun w' hs'=>⟨(),rfl,Step.left (Step.pulled (is:=[]) (A:=[]) hs' rfl)⟩)
 ·replace H:=ite_f (of_decide_eq_false hc) H
  refine TL_skip rfl rfl rfl rfl rfl rfl rfl ?_
  refine TL_skip rfl rfl rfl rfl rfl rfl rfl ?_
  refine TL_skip rfl rfl rfl rfl rfl rfl rfl ?_
  refine TLv (V_pick (b:=false) rfl rfl) ?_
  refine TLv (V_move rfl) ?_
  refine TL_skip rfl rfl rfl rfl rfl rfl rfl ?_
  refine TL_skip rfl rfl rfl rfl rfl rfl rfl ?_
  refine TL_skip rfl rfl rfl rfl rfl rfl rfl ?_
  refine TLv (V_pick (b:=false) rfl rfl) ?_
  refine TLv (V_move rfl) ?_
  refine TL_skip rfl rfl rfl rfl rfl rfl rfl ?_
  refine TL_skip rfl rfl rfl rfl rfl rfl rfl ?_
  refine TL_skip rfl rfl rfl rfl rfl rfl rfl ?_
  refine TLv (V_pick (b:=false) rfl rfl) ?_
  refine TLv (V_move rfl) ?_
  refine TL_skip rfl rfl rfl rfl rfl rfl rfl ?_
  refine TL_skip rfl rfl rfl rfl rfl rfl rfl ?_
  refine TL_skip rfl rfl rfl rfl rfl rfl rfl ?_
  refine TLv (V_pick (b:=false) rfl rfl) ?_
  refine TLv (V_move rfl) ?_
  refine TL_skip rfl rfl rfl rfl rfl rfl rfl ?_
  refine TL_skip rfl rfl rfl rfl rfl rfl rfl ?_
  refine TL_skip rfl rfl rfl rfl rfl rfl rfl ?_
  refine TLv (V_pick (b:=false) rfl rfl) ?_
  refine TLv (V_move rfl) ?_
  refine TL_skip rfl rfl rfl rfl rfl rfl rfl ?_
  refine TL_skip rfl rfl rfl rfl rfl rfl rfl ?_
  refine TL_skip rfl rfl rfl rfl rfl rfl rfl ?_
  refine TLv (V_pick (b:=false) rfl rfl) ?_
  refine TLv (V_move rfl) ?_
  refine TL_skip rfl rfl rfl rfl rfl rfl rfl ?_
  refine TL_skip rfl rfl rfl rfl rfl rfl rfl ?_
  refine TL_skip rfl rfl rfl rfl rfl rfl rfl ?_
  refine TLv (V_pick (b:=false) rfl rfl) ?_
  refine TLv (V_move rfl) ?_
  refine TL_skip rfl rfl rfl rfl rfl rfl rfl ?_
  refine TL_skip rfl rfl rfl rfl rfl rfl rfl ?_
  refine TL_skip rfl rfl rfl rfl rfl rfl rfl ?_
  refine TLv (V_pick (b:=false) rfl rfl) ?_
  refine TLv (V_move rfl) ?_
  refine TL_skip rfl rfl rfl rfl rfl rfl rfl ?_
  refine TL_skip rfl rfl rfl rfl rfl rfl rfl ?_
  refine TLv (V_pick (b:=false) rfl rfl) ?_
  refine TLv (V_move rfl) ?_
  refine TL_skip rfl rfl rfl rfl rfl rfl rfl ?_
  refine TL_skip rfl rfl rfl rfl rfl rfl rfl ?_
  refine TLv (V_pick (b:=false) rfl rfl) ?_
  refine TLv (V_assign rfl) ?_
  refine TL_nil (TX_next (TC.sub (m':=[(0,vb false)]) ⟨rfl,trivial⟩ ?_))
  refine TC.pull (is:=[]) (L':=[]) rfl ?_
  refine TC_ret ?_
  have hrv:=Option.some.inj H
  subst hrv
  exact TX_ret (rs:=[.tmp 0]) (vs:=[vb false]) rfl ⟨rfl,trivial⟩ (fun w' hs'=>⟨(),rfl,Step.left (Step.pulled (is:=[]) (A:=[]) hs' rfl)⟩)
end Go.Proofs
end

section
namespace Go.Kx
open Go Go.Proofs
open Go.Nt hiding n4
theorem iop_natP (f:BitVec 64 → BitVec 64 → BitVec 64) (a b:Int) (h:(f (BitVec.ofInt 64 a) (BitVec.ofInt 64 b)).toNat<9223372036854775808):iop f a b=((f (BitVec.ofInt 64 a) (BitVec.ofInt 64 b)).toNat:Int):=by
 unfold iop
 exact w64_nat h
theorem and_maskP (x:Int) (n:Nat) (hn:n<63):iop (· &&& ·) x ((2 ^ n - 1:Nat):Int)=x % ((2 ^ n:Nat):Int):=by
 have hp:2 ^ n<2 ^ 63:=Nat.pow_lt_pow_right (by omega) (by omega)
 have hp0:0<2 ^ n:=Nat.two_pow_pos n
 have e:((BitVec.ofInt 64 x) &&& (BitVec.ofInt 64 ((2 ^ n - 1:Nat):Int))).toNat=(x % ((2 ^ n:Nat):Int)).toNat:=by
  have e1:(BitVec.ofInt 64 ((2 ^ n - 1:Nat):Int)).toNat=2 ^ n - 1:=by
   rw [BitVec.ofInt_natCast,BitVec.toNat_ofNat,Nat.mod_eq_of_lt (by omega)]
  rw [BitVec.toNat_and,e1,Nat.and_two_pow_sub_one_eq_mod,BitVec.toNat_ofInt]
  have h1:((x % ((2 ^ 64:Nat):Int)).toNat:Int)=x % ((2 ^ 64:Nat):Int):=Int.toNat_of_nonneg (Int.emod_nonneg _ (by decide))
  have h2:((x % ((2 ^ n:Nat):Int)).toNat:Int)=x % ((2 ^ n:Nat):Int):=Int.toNat_of_nonneg (Int.emod_nonneg _ (by omega))
  apply Int.ofNat.inj
  show (((x % ((2 ^ 64:Nat):Int)).toNat % 2 ^ n:Nat):Int)=_
  rw [Int.natCast_emod,h1]
  show x % ((2 ^ 64:Nat):Int) % ((2 ^ n:Nat):Int)=((x % ((2 ^ n:Nat):Int)).toNat:Int)
  rw [h2]
  refine Int.emod_emod_of_dvd x ?_
  rw [Int.natCast_dvd_natCast]
  exact Nat.pow_dvd_pow 2 (by omega)
 have hlt:(x % ((2 ^ n:Nat):Int)).toNat<2 ^ n:=by
  have:=Int.emod_lt_of_pos x (show (0:Int)<((2 ^ n:Nat):Int) by omega)
  omega
 have:=iop_natP (· &&& ·) x ((2 ^ n - 1:Nat):Int) (by show BitVec.toNat (_ &&& _)<_; rw [e]; omega)
 rw [this]
 show ((BitVec.toNat (_ &&& _):Nat):Int)=_
 rw [e]
 exact Int.toNat_of_nonneg (Int.emod_nonneg _ (by omega))
theorem num0 (e:Int):halberdlaw0_Num e=some e:=rfl
theorem nb32_zero:List.replicate 32 0#8=nb32 0:=by decide
theorem Calc_ex (how:Nat) (which:Int) {m:Nat} (F:Rd m which) (hw:0≤which∧which≤2) {u v:Nat} (hu:u<m) (hv:v<m) (hh:how=0 ∨ how=1) :
  halberdref9_Calc (how:Int) which (nb32 u) (nb32 v)=some (nb32 (if how=0 then (u+v) % m else (u+(m - v)) % m),0):=by
 have lm:=F.md.lt
 obtain ⟨x,hx,ex⟩:=F.number hw (nb32 u) (nb32_len u)
 obtain ⟨y,hy,ey⟩:=F.number hw (nb32 v) (nb32_len v)
 rw [bnum_nb32 _ (by omega)] at hx ex
 rw [bnum_nb32 _ (by omega)] at hy ey
 unfold halberdref9_Calc
 refine bind_i hx (bind_i hy (bind_i (v:=false) (by rw [if_neg (by simp [hu])]; simp [hv]) (if_n (by decide) ?_)))
 dsimp only
 rcases hh with rfl | rfl
 ·obtain ⟨r,h1,e1⟩:=F.add0 (x:=x) (y:=y) (by omega) (by omega)
  refine ltt_i fun b hb=>?_
  rw [hb]
  refine if_i (by decide) (bind_i h1 (bind_i (put_eq r) ?_))
  rw [e1,ex,ey]; rfl
 ·obtain ⟨r,h1,e1⟩:=F.sub0 (x:=x) (y:=y) (by omega) (by omega)
  refine ltt_i fun b hb=>?_
  rw [hb]
  refine if_n (by decide) (ltt_i fun b2 hb2=>?_)
  rw [hb2]
  refine if_i (by decide) (bind_i h1 (bind_i (put_eq r) ?_))
  rw [e1,ex,ey]; rfl
def scC (x:Int):Nat:=(1+x % 1048576).toNat
theorem scC_b (x:Int):1≤scC x∧scC x≤1048576:=by unfold scC; omega
def scN (x:Int):Nat:=if x<0 then N256 - scC x else scC x
theorem N_big:4194304<N256:=by decide
theorem scN_b (x:Int):0<scN x∧scN x<N256:=by
 have:=scC_b x
 have:=N_big
 unfold scN
 split <;> omega
theorem low_bytes (c:Nat) (hc:c<4294967296) (k_1:Int) (hk:k_1=(c:Int)):loop (halberdlaw11_Scalar.b0 k_1) BIG (0,List.replicate 32 0#8)=some (nb32 c):=by
 obtain ⟨t,h1,h2⟩:=loop_inv (body:=halberdlaw11_Scalar.b0 k_1) (s0:=(0,List.replicate 32 0#8)) 4
  (fun i s=>s.1=(i:Int)∧s.2.length=32∧∀ j,j<32 → s.2[j]?=some (if 31 - j<i then BitVec.ofNat 8 (c / 2 ^ (8 * (31 - j))) else 0#8)) (fun t=>t=nb32 c) (by decide)
  ⟨rfl,by simp,fun j hj=>by
   rw [if_neg (by omega)]
   rw [List.getElem?_replicate,if_pos hj]⟩
  (fun i s hi hI=>by
   obtain ⟨i',l⟩:=s
   obtain ⟨hi',hl,hv⟩:=hI
   dsimp only at hi' hl hv
   subst hi'
   have w1:w64 (8 * (i:Int))=((8 * i:Nat):Int):=by rw [w64_id (by omega) (by omega)]; omega
   have w2:w64 (31 - (i:Int))=((31 - i:Nat):Int):=by rw [w64_id (by omega) (by omega)]; omega
   have hby:BitVec.ofInt 8 (iop (· &&& ·) (shrI' k_1 ((8 * i:Nat):Int)) 255)=BitVec.ofNat 8 (c / 2 ^ (8 * i)):=by
    rw [hk,show iop (· &&& ·) (shrI' (c:Int) ((8 * i:Nat):Int)) 255=shrI' (c:Int) ((8 * i:Nat):Int) % 256 from and_maskP _ 8 (by decide)]
    unfold shrI'
    rw [Int.toNat_natCast,show min (8 * i) 64=8 * i by omega]
    have e:((c:Int) / 2 ^ (8 * i))=((c / 2 ^ (8 * i):Nat):Int):=by rw [Int.natCast_ediv,Int.natCast_pow]; rfl
    rw [e]
    apply BitVec.eq_of_toNat_eq
    rw [BitVec.toNat_ofInt,BitVec.toNat_ofNat]
    generalize c / 2 ^ (8 * i)=z
    omega
   refine ⟨(((i+1:Nat):Int),l.set (31 - i) (BitVec.ofNat 8 (c / 2 ^ (8 * i)))),?_,rfl,by simpa using hl,fun j hj=>?_⟩
   ·unfold halberdlaw11_Scalar.b0
    dsimp only
    rw [w1,w2]
    simp only [Int.toNat_natCast]
    refine if_i (by omega) (if_i (by omega) (if_i (by omega) (if_i (by omega) (ltt_i fun v hv=>ltt_i fun v2 hv2=>?_))))
    rw [hv2,hv,hby,w64_s (by omega)]
   ·dsimp only
    by_cases hj2:j=31 - i
    ·subst hj2
     rw [List.getElem?_set_self (by omega),if_pos (by omega),show 31 - (31 - i)=i by omega]
    ·rw [List.getElem?_set_ne (Ne.symm hj2),hv j hj]
     by_cases h3:31 - j<i
     ·rw [if_pos h3,if_pos (by omega)]
     ·rw [if_neg h3,if_neg (by omega)])
  (fun s hI=>by
   obtain ⟨i',l⟩:=s
   obtain ⟨hi',hl,hv⟩:=hI
   dsimp only at hi' hl hv
   subst hi'
   refine ⟨l,by unfold halberdlaw11_Scalar.b0; exact if_n (by dsimp only; omega) rfl,?_⟩
   apply List.ext_getElem?
   intro j
   by_cases hj:j<32
   ·rw [hv j hj,nb32_get c j hj]
    by_cases h3:31 - j<4
    ·rw [if_pos h3]
    ·rw [if_neg h3,Nat.div_eq_of_lt]
     have:(2:Nat) ^ 32≤2 ^ (8 * (31 - j)):=Nat.pow_le_pow_right (by decide) (by omega)
     omega
   ·rw [List.getElem?_eq_none (by omega),List.getElem?_eq_none (by rw [nb32_len]; omega)])
 rw [h1,h2]
theorem ScalarL_eq (x:Int):halberdlaw11_Scalar x=some (nb32 (scN x)):=by
 have hc:=scC_b x
 have hN:=N_big
 have ek:w64 (1+iop (· &&& ·) x 1048575)=(scC x:Int):=by
  rw [show iop (· &&& ·) x 1048575=x % 1048576 from and_maskP x 20 (by decide),w64_id (by omega) (by omega)]
  unfold scC; omega
 unfold halberdlaw11_Scalar
 refine ltt_i fun v hv=>bind_i (low_bytes (scC x) (by omega) v (by rw [hv,ek])) ?_
 unfold scN
 by_cases hx:x<0
 ·rw [if_pos hx,if_pos hx,if_pos (by simp),if_pos (nb32_len _),nb32_zero]
  have:=Calc_ex 1 1 Rd_N (by decide) (u:=0) (v:=scC x) (by omega) (by omega) (.inr rfl)
  refine bind_i this ?_
  rw [if_neg (by decide),Nat.zero_add,Nat.mod_eq_of_lt (by omega)]
 ·rw [if_neg hx,if_neg hx,if_pos (nb32_len _)]
theorem sc_is {c:Nat} (h0:0<c) (h1:c<N256):isSc (nb32 c):=⟨nb32_len c,by rw [bnum_nb32 _ (by have:=md_N.lt; omega)]; exact h1,by rw [bnum_nb32 _ (by have:=md_N.lt; omega)]; omega⟩
theorem Public_nb {c:Nat} (h0:0<c) (h1:c<N256):pcurve_Public (nb32 c)=some (encP (sG c),0):=by
 have:=Public_is (nb32 c) (sc_is h0 h1)
 rwa [bnum_nb32 _ (by have:=md_N.lt; omega)] at this
theorem Mul_nb {c a:Nat} (h0:0<c) (h1:c<N256) (ha:a % N256 ≠ 0):pcurve_Mul (nb32 c) (encP (sG a))=some (encP (sG (c * a)),0):=by
 obtain ⟨q,hq⟩:=sG_ne ha
 have:=Mul_is (nb32 c) (sc_is h0 h1) hq
 rw [bnum_nb32 _ (by have:=md_N.lt; omega)] at this
 rw [hq]; exact this
theorem Add_nb {a b:Nat} (ha:a % N256 ≠ 0) (hb:b % N256 ≠ 0) (hab:(a+b) % N256 ≠ 0):pcurve_Add (encP (sG a)) (encP (sG b))=some (encP (sG (a+b)),0):=by
 obtain ⟨p,hp⟩:=sG_ne ha
 obtain ⟨q,hq⟩:=sG_ne hb
 obtain ⟨r,hr⟩:=sG_ne hab
 have:=Add_is hp hq
 rw [hr] at this
 rw [hp,hq,hr]; exact this
theorem Add_nb0 {a b:Nat} (ha:a % N256 ≠ 0) (hb:b % N256 ≠ 0) (hab:(a+b) % N256=0):pcurve_Add (encP (sG a)) (encP (sG b))=some ([],1100):=by
 obtain ⟨p,hp⟩:=sG_ne ha
 obtain ⟨q,hq⟩:=sG_ne hb
 have hr:sG (a+b)=none:=by rw [sG_mod,hab]; rfl
 have:=Add_is hp hq
 rw [hr] at this
 rw [hp,hq]; exact this
theorem On_nb {a:Nat} (ha:a % N256 ≠ 0):pcurve_On (encP (sG a))=some true:=by
 obtain ⟨p,hp⟩:=sG_ne ha
 rw [On_eq,hp]
 have:isPt (encP (some p)):=⟨p,hp ▸ sG_ok a,rfl⟩
 simp [this]
theorem encP_len {a:Nat} (ha:a % N256 ≠ 0):(encP (sG a)).length=65:=by
 obtain ⟨p,hp⟩:=sG_ne ha
 rw [hp]; exact encQ_len p
theorem mod_ne {c:Nat} (h0:0<c) (h1:c<N256):c % N256 ≠ 0:=by rw [Nat.mod_eq_of_lt h1]; omega
theorem nb0_no:¬ isSc (nb32 0):=fun h=>h.2.2 (bnum_nb32 0 (by decide))
theorem awake11:halberdlaw11_awake=some true:=by
 have hN:=N_big
 have s0:halberdlaw11_Scalar 0=some (nb32 1):=ScalarL_eq 0
 have s1:halberdlaw11_Scalar 1=some (nb32 2):=ScalarL_eq 1
 have m1:1 % N256 ≠ 0:=mod_ne (by omega) (by omega)
 have m2:(1+1) % N256 ≠ 0:=mod_ne (by omega) (by omega)
 have p1:=Public_nb (c:=1) (by omega) (by omega)
 have p2:=Public_nb (c:=2) (by omega) (by omega)
 have a1:=Add_nb m1 m1 m2
 have u1:=Mul_nb (c:=2) (a:=1) (by omega) (by omega) m1
 have hb:sg (encP (sG 1)) 1=107#8:=by
  show sg (encQ (mk (GX:Int),mk (GY:Int))) 1=107#8
  show (nb32 (toN (mk (GX:Int)))++nb32 (toN (mk (GY:Int)))).getD 0 0#8=107#8
  rw [toN_id (by decide)]
  rw [List.getD_eq_getElem?_getD,List.getElem?_append_left (by rw [nb32_len]; omega),nb32_get _ 0 (by decide)]
  decide
 have o1:=On_nb m1
 have o0:pcurve_On []=some false:=by
  rw [On_eq]
  have:¬ isPt []:=fun h=>by have:=((isPt_iff []).1 h).1; simp at this
  simp [this]
 unfold halberdlaw11_awake
 refine bind_i s0 (bind_i p1 (bind_i s1 (bind_i p2 (bind_i a1 (bind_i s1 (bind_i u1 (if_i (by simp) (bind_i (by rw [nb32_zero]; exact Public_no _ nb0_no) (if_i (by rw [encP_len m1]; rfl) (if_i (by rw [encP_len m1]; decide) (if_i hb ?_)))))))))))
 exact bind_i (num0 _) (if_i rfl (bind_i (num0 _) (if_i rfl (if_i rfl (bind_i (num0 _) (if_i rfl (if_i rfl (bind_i (num0 _) (if_i rfl (bind_i (num0 _) (if_i rfl (bind_i o1 (if_i rfl (bind_i o0 rfl))))))))))))))
end Go.Kx
end

/-
  Part 1 of the proof of EcdsaForms.
-/
import Derived.Test.YtiofnmmggblcgaaEsC1
import Derived.Test.YtiofnmmggblcgaaEsC2
import Derived.Test.YtiofnmmggblcgaaEsC3
import Derived.Test.YtiofnmmggblcgaaEsC4
import Derived.Test.YtiofnmmggblcgaaEsC5
import Derived.Test.YtiofnmmggblcgaaEsC6
import Derived.Test.YtiofnmmggblcgaaEsC7
import Derived.Test.YtiofnmmggblcgaaEsC8
import Derived.Test.YtiofnmmggblcgaaEsC9
import Derived.Test.YtiofnmmggblcgaaEsC10
import Derived.Test.YtiofnmmggblcgaaEsC11
import Derived.Test.YtiofnmmggblcgaaEsC12
import Derived.Test.YtiofnmmggblcgaaEsC13
import Derived.Test.YtiofnmmggblcgaaEsC14
import Derived.Test.YtiofnmmggblcgaaEsC15
import Derived.Test.YtiofnmmggblcgaaEsC16
import Derived.Test.YtiofnmmggblcgaaEsC17
import Derived.Test.YtiofnmmggblcgaaEsC18
import Derived.Test.YtiofnmmggblcgaaEsC19
import Derived.Test.YtiofnmmggblcgaaEsC20
import Derived.Test.YtiofnmmggblcgaaEsC21
import Derived.Test.YtiofnmmggblcgaaEsC22
import Derived.Test.YtiofnmmggblcgaaEsC23
import Derived.Test.YtiofnmmggblcgaaEsC24
import Derived.Test.YtiofnmmggblcgaaEsC25
import Derived.Test.YtiofnmmggblcgaaEsC26
import Derived.Test.YtiofnmmggblcgaaEsC27
import Derived.Test.YtiofnmmggblcgaaEsC28
import Derived.Test.YtiofnmmggblcgaaEsC29
import Derived.Test.YtiofnmmggblcgaaEsC30
import Derived.Test.YtiofnmmggblcgaaEsC31
import Derived.Test.YtiofnmmggblcgaaEsC32
set_option linter.unusedVariables false
set_option linter.unusedSimpArgs false
section
namespace Go.Proofs
open Go Go.Kx
open TryI Try
def halberdref9_Calc (how:Int) (which:Int) (a_:Str) (b:Str):Option (Str × Int) :=
 (halberdref9_Number which a_).bind fun (r_1:Vx 32 8 × Bool)=>((halberdref9_Number which b).bind fun (r_2:Vx 32 8 × Bool)=>((if (!r_1.2)=true then (some true) else (some (!r_2.2))).bind fun (j1:Bool)=>(if j1=true then (some (([]:Str),900)) else (ltt (decide (how=0)) fun (x1:Bool)=>(if x1=true then ((halberdref9_add which r_1.1 r_2.1).bind fun (r_3:Vx 32 8)=>((halberdref9_put r_3).bind fun (r_4:Str)=>(some (r_4,0)))) else (ltt (decide (how=1)) fun (x2:Bool)=>(if x2=true then ((halberdref9_sub which r_1.1 r_2.1).bind fun (r_5:Vx 32 8)=>((halberdref9_put r_5).bind fun (r_6:Str)=>(some (r_6,0)))) else ((halberdref9_mul which r_1.1 r_2.1).bind fun (r_7:Vx 32 8)=>((halberdref9_put r_7).bind fun (r_8:Str)=>(some (r_8,0)))))))))))
set_option maxHeartbeats 4000000 in
set_option maxRecDepth 20000 in
theorem F24_calls (how:Int) (which:Int) (a_:Str) (b:Str) (r:Str × Int) (H:halberdref9_Calc how which a_ b=some r) :
  Does Try.prog 24 [vi how,vi which,vs a_,vs b] [] [] (Γ:=Unit) (fun g=>Value.tuple [vs r.1,vi r.2].toArray) (fun g=>[]):=by
 intro w hmem hro hd
 refine calls_of (N:=52) (m0:=[(0,vi how),(1,vi which),(2,vs a_),(3,vs b)]) func24 rfl ntmps24 (argM_ok [vi how,vi which,vs a_,vs b]) rfl hmem hro hd ?_
 unfold halberdref9_Calc at H
 refine TC_seq (TC_region (TVa ?_))
 refine TVa ?_
 refine TL_nil (TX_next (TC_seq (TC_region (TVm ?_))))
 refine TVm ?_
 obtain ⟨r_1,hr_1,H⟩:=bind_elim H
 refine TLe (E_c0 (F45_calls which a_ r_1 hr_1) call45 .z) (fun g_1=>?_)
 refine TVm ?_
 refine TLv V_ex ?_
 refine TLv V_ex ?_
 refine TLe (E_al32 8 inf31 zer31) (fun b1=>?_)
 refine TLn (E_sv (vs:=e32 r_1.1.toList) 0 inf31) (fun _=>?_)
 refine TVa ?_
 refine TL_nil (TX_next (TC_seq (TC_region (TVm ?_))))
 refine TVm ?_
 obtain ⟨r_2,hr_2,H⟩:=bind_elim H
 refine TLe (E_c0 (F45_calls which b r_2 hr_2) call45 .z) (fun g_2=>?_)
 refine TVm ?_
 refine TLv V_ex ?_
 refine TLv V_ex ?_
 refine TLe (E_al32 8 inf31 zer31) (fun b2=>?_)
 refine TLn (E_sv (vs:=e32 r_2.1.toList) 0 inf31) (fun _=>?_)
 refine TVa ?_
 refine TL_nil (TX_next (TC_seq (TC_seq (TC_region (TVm ?_)))))
 refine TLv (V_un rfl (fun w=>notB w r_1.2)) ?_
 refine TVm ?_
 obtain ⟨j1,Hj,H⟩:=bind_elim H
 refine TL_join (Γ:=Unit) (fun gj1=>[(0,vi how),(1,vi which),(10,ptr (some (b1,0)) 0),(12,ptr (some (b2,0)) 0),(31,vb j1)]) (fun gj1=>[⟨some (b1,0),e32 r_1.1.toList⟩,⟨some (b2,0),e32 r_2.1.toList⟩]) ?_ ?_
 ·intro gj1
  refine TX_next (TCb H (fun hc H=>?_) (fun hc H=>?_))
  ·refine TC_seq (TC_region (TVa ?_))
   refine TVa ?_
   refine TL_nil (TX_next (TC_ret (TX_then_ret ?_)))
   obtain rfl:=sj H
   exact TX2
  ·refine TC_skip (TX_next (TC_seq (TC_seq (TC_region (TVm ?_)))))
   refine TL_nil (TX_next (TC_block (TC_seq (TC_region (TLv (V_bin rfl rfl (fun w=>eqlI w how 0)) ?_)))))
   refine TVa ?_
   obtain ⟨x1,hx1,H⟩:=ltt_elim H
   refine TLr 33 (congrArg vb hx1) ?_
   refine TL_nil (TX_next (TCb H (fun hc H=>?_) (fun hc H=>?_)))
   ·refine TC_seq (TC_region (TVm ?_))
    refine TLv (V_lag (.o 0) isAgg31 inf31) ?_
    refine TLv (V_lag (.o 1) isAgg31 inf31) ?_
    obtain ⟨r_3,hr_3,H⟩:=bind_elim H
    refine TLe (E_c0 (F48_calls which r_1.1 r_2.1 r_3 hr_3) call48 .z) (fun g_3=>?_)
    obtain ⟨r_4,hr_4,H⟩:=bind_elim H
    refine TLe (E_c0 (F51_calls r_3 r_4 hr_4) call51 .z) (fun g_4=>?_)
    refine TVa ?_
    refine TVa ?_
    refine TL_nil (TX_next (TC_ret (TX_block_ret (TX_then_ret ?_))))
    obtain rfl:=sj H
    exact TX2
   ·refine TC_seq (TC_region (TLv (V_bin rfl rfl (fun w=>eqlI w how 1)) ?_))
    refine TVa ?_
    obtain ⟨x2,hx2,H⟩:=ltt_elim H
    refine TLr 40 (congrArg vb hx2) ?_
    refine TL_nil (TX_next (TCb H (fun hc H=>?_) (fun hc H=>?_)))
    ·refine TC_seq (TC_region (TVm ?_))
     refine TLv (V_lag (.o 0) isAgg31 inf31) ?_
     refine TLv (V_lag (.o 1) isAgg31 inf31) ?_
     obtain ⟨r_5,hr_5,H⟩:=bind_elim H
     refine TLe (E_c0 (F49_calls which r_1.1 r_2.1 r_5 hr_5) call49 .z) (fun g_5=>?_)
     obtain ⟨r_6,hr_6,H⟩:=bind_elim H
     refine TLe (E_c0 (F51_calls r_5 r_6 hr_6) call51 .z) (fun g_6=>?_)
     refine TVa ?_
     refine TVa ?_
     refine TL_nil (TX_next (TC_ret (TX_block_ret (TX_then_ret ?_))))
     obtain rfl:=sj H
     exact TX2
    ·refine TC_skip (TX_block_normal (TX_next (TC_seq (TC_region (TVm ?_)))))
     refine TLv (V_lag (.o 0) isAgg31 inf31) ?_
     refine TLv (V_lag (.o 1) isAgg31 inf31) ?_
     obtain ⟨r_7,hr_7,H⟩:=bind_elim H
     refine TLe (E_c0 (F52_calls which r_1.1 r_2.1 r_7 hr_7) call52 .z) (fun g_7=>?_)
     obtain ⟨r_8,hr_8,H⟩:=bind_elim H
     refine TLe (E_c0 (F51_calls r_7 r_8 hr_8) call51 .z) (fun g_8=>?_)
     refine TVa ?_
     refine TVa ?_
     refine TL_nil (TX_next (TC_ret ?_))
     obtain rfl:=sj H
     exact TX2
 ·intro hJ
  replace H:=Hj
  refine TFb (d:=28) H (fun hc H=>?_) (fun hc H=>?_)
  ·refine TLs ?_
   refine TLs ?_
   refine TVt ?_
   refine TL_nil ?_
   obtain rfl:=sj H
   exact TXj [1,0] (hJ ())
  ·refine TLw (V_move rfl) ?_
   refine TLw (V_un rfl (fun w=>notB w r_2.2)) ?_
   refine TVf ?_
   refine TL_nil ?_
   obtain rfl:=sj H
   exact TXj [1,0] (hJ ())
end Go.Proofs
end

section
namespace Go.Kx
open Go Go.Proofs
open Go.Nt hiding n4
theorem nb32_z12:List.replicate 32 0#8=nb32 0:=by decide
theorem calc12 (how:Nat) (which:Int) {m:Nat} (F:Rd m which) (hw:0≤which∧which≤2) {u v:Nat} (hu:u<m) (hv:v<m) (hh:how=0 ∨ how=1) :
  halberdref9_Calc (how:Int) which (nb32 u) (nb32 v)=some (nb32 (if how=0 then (u+v) % m else (u+(m - v)) % m),0):=by
 have lm:=F.md.lt
 obtain ⟨x,hx,ex⟩:=F.number hw (nb32 u) (nb32_len u)
 obtain ⟨y,hy,ey⟩:=F.number hw (nb32 v) (nb32_len v)
 rw [bnum_nb32 _ (by omega)] at hx ex
 rw [bnum_nb32 _ (by omega)] at hy ey
 unfold halberdref9_Calc
 refine bind_i hx (bind_i hy (bind_i (v:=false) (by rw [if_neg (by simp [hu])]; simp [hv]) (if_n (by decide) ?_)))
 dsimp only
 rcases hh with rfl | rfl
 ·obtain ⟨r,h1,e1⟩:=F.add0 (x:=x) (y:=y) (by omega) (by omega)
  refine ltt_i fun b hb=>?_
  rw [hb]
  refine if_i (by decide) (bind_i h1 (bind_i (put_eq r) ?_))
  rw [e1,ex,ey]; rfl
 ·obtain ⟨r,h1,e1⟩:=F.sub0 (x:=x) (y:=y) (by omega) (by omega)
  refine ltt_i fun b hb=>?_
  rw [hb]
  refine if_n (by decide) (ltt_i fun b2 hb2=>?_)
  rw [hb2]
  refine if_i (by decide) (bind_i h1 (bind_i (put_eq r) ?_))
  rw [e1,ex,ey]; rfl
end Go.Kx
end

section
namespace Go.Proofs
open Go Go.Kx
open TryI Try
def halberdlaw12_EcdsaForms (which:Int) (size:Int) (x:Int):Option (Bool) :=
 (halberdlaw12_awake).bind fun (r_1:Bool)=>(if (!r_1)=true then (some false) else ((halberdref1_Hash 256 ([109#8]:Str)).bind fun (r_2:Str)=>((halberdlaw12_scalar x).bind fun (r_3:Str)=>((halberdref9_Public r_3).bind fun (r_4:Str × Int)=>((halberdlaw12_scalar x).bind fun (r_5:Str)=>((halberdlaw12_scalar 3).bind fun (r_6:Str)=>((ecdsa_Sign r_5 r_6 r_2).bind fun (r_7:Str × Int)=>(if (List.replicate 32 0#8).length=32 then (ltt (List.replicate 32 0#8) fun (zero1:Str)=>((halberdlaw12_scalar 0).bind fun (r_8:Str)=>((halberdref9_Calc 1 1 zero1 r_8).bind fun (r_9:Str × Int)=>(if 0≤(31:Int)∧(31:Int)<((r_9.1).length:Int) then (if 0≤(31:Int)∧(31:Int)<((r_9.1).length:Int) then (ltt (r_9.1.set 31 ((lg r_9.1 31)+1#8)) fun (m_1:List (BitVec 8))=>(if (r_9.1).length+(([120#8]:Str)).length≤4611686018427387904 then (if 31≤(r_9.1).length then (if 0≤w64 (((BitVec.ofInt 64 which) % 5#64).toNat:Int)∧w64 (((BitVec.ofInt 64 which) % 5#64).toNat:Int)<(5:Int) then (if (w64 (((BitVec.ofInt 64 which) % 5#64).toNat:Int)).toNat<(([zero1,m_1,r_9.1++([120#8]:Str),([]:Str),sub r_9.1 0 31]:List (Str))).length then (ltt (lg ([zero1,m_1,r_9.1++([120#8]:Str),([]:Str),sub r_9.1 0 31]:List (Str)) ((w64 (((BitVec.ofInt 64 which) % 5#64).toNat:Int)).toNat)) fun (bad1:Str)=>((halberdlaw12_scalar 3).bind fun (r_10:Str)=>((ecdsa_Sign bad1 r_10 r_2).bind fun (r_11:Str × Int)=>((halberdlaw12_scalar x).bind fun (r_12:Str)=>((ecdsa_Sign r_12 bad1 r_2).bind fun (r_13:Str × Int)=>((halberdlaw12_scalar x).bind fun (r_14:Str)=>((halberdlaw12_scalar 3).bind fun (r_15:Str)=>(if 0≤w64 (30+(iop (· &&& ·) size 1))∧w64 (30+(iop (· &&& ·) size 1))≤17592186044416 then (if (List.replicate ((w64 (30+(iop (· &&& ·) size 1))).toNat) 0#8).length=(w64 (30+(iop (· &&& ·) size 1))).toNat then ((ecdsa_Sign r_14 r_15 (List.replicate ((w64 (30+(iop (· &&& ·) size 1))).toNat) 0#8)).bind fun (r_16:Str × Int)=>(if 64≤(r_4.1).length then ((ecdsa_Verify (sub r_4.1 0 64) r_2 r_7.1).bind fun (r_17:Int)=>(if 31≤(r_2).length then ((ecdsa_Verify r_4.1 (sub r_2 0 31) r_7.1).bind fun (r_18:Int)=>((ecdsa_Verify r_4.1 r_2 ([48#8,6#8,2#8,1#8,0#8,2#8,1#8,1#8]:Str)).bind fun (r_19:Int)=>((ecdsa_Verify r_4.1 r_2 ([48#8,7#8,2#8,2#8,0#8,1#8,2#8,1#8,1#8]:Str)).bind fun (r_20:Int)=>((halberdlaw12_scalar 3).bind fun (r_21:Str)=>((ecdsa_Sign r_9.1 r_21 r_2).bind fun (r_22:Str × Int)=>((halberdlaw0_Num r_7.2).bind fun (r_23:Int)=>(if r_23=0 then ((halberdlaw0_Num r_11.2).bind fun (r_24:Int)=>(if r_24=1200 then ((halberdlaw0_Num r_13.2).bind fun (r_25:Int)=>(if r_25=1200 then ((halberdlaw0_Num r_16.2).bind fun (r_26:Int)=>(if r_26=1200 then ((halberdlaw0_Num r_17).bind fun (r_27:Int)=>(if r_27=1200 then ((halberdlaw0_Num r_18).bind fun (r_28:Int)=>(if r_28=1200 then ((halberdlaw0_Num r_19).bind fun (r_29:Int)=>(if r_29=1200 then ((halberdlaw0_Num r_20).bind fun (r_30:Int)=>(if r_30=1200 then ((halberdlaw0_Num r_22.2).bind fun (r_31:Int)=>(ltt (decide (r_31=0)) fun (x1:Bool)=>(some x1))) else (some false))) else (some false))) else (some false))) else (some false))) else (some false))) else (some false))) else (some false))) else (some false)))))))) else none)) else none)) else none) else none)))))))) else none) else none) else none) else none)) else none) else none)))) else none))))))))
set_option maxHeartbeats 4000000 in
set_option maxRecDepth 20000 in
theorem F11_calls (which:Int) (size:Int) (x:Int) (r:Bool) (H:halberdlaw12_EcdsaForms which size x=some r) :
  Does Try.prog 11 [vi which,vi size,vi x] [] [] (Γ:=Unit) (fun g=>vb r) (fun g=>[]):=by
 intro w hmem hro hd
 refine calls_of (N:=168) (m0:=[(0,vi which),(1,vi size),(2,vi x)]) func11 rfl ntmps11 (argM_ok [vi which,vi size,vi x]) rfl hmem hro hd ?_
 unfold halberdlaw12_EcdsaForms at H
 refine TC_seq (TC_region (TVa ?_))
 refine TL_nil (TX_next (TC_seq (TC_seq (TC_region ?_))))
 obtain ⟨r_1,hr_1,H⟩:=bind_elim H
 refine TLe (E_c0 (F29_calls r_1 hr_1) call29 .z) (fun g_1=>?_)
 refine TLv (V_un rfl (fun w=>notB w r_1)) ?_
 refine TL_nil (TX_next (TCb H (fun hc H=>?_) (fun hc H=>?_)))
 ·refine TC_seq (TC_region (TVa ?_))
  refine TL_nil (TX_next (TC_ret (TX_then_ret ?_)))
  obtain rfl:=sj H
  exact TX1
 ·refine TC_skip (TX_next (TC_seq (TC_region ?_)))
  obtain ⟨r_2,hr_2,H⟩:=bind_elim H
  refine TLe (E_c0 (F31_calls 256 ([109#8]:Str) r_2 hr_2) call31 .z) (fun g_2=>?_)
  refine TVa ?_
  refine TL_nil (TX_next (TC_seq (TC_region (TVm ?_))))
  obtain ⟨r_3,hr_3,H⟩:=bind_elim H
  refine TLe (E_c0 (F30_calls x r_3 hr_3) call30 .z) (fun g_3=>?_)
  obtain ⟨r_4,hr_4,H⟩:=bind_elim H
  refine TLe (E_c0 (F14_calls r_3 r_4 hr_4) call14 .z) (fun g_4=>?_)
  refine TVm ?_
  refine TLv V_ex ?_
  refine TLv V_ex ?_
  refine TVa ?_
  refine TVa ?_
  refine TL_nil (TX_next (TC_seq (TC_region (TVm ?_))))
  obtain ⟨r_5,hr_5,H⟩:=bind_elim H
  refine TLe (E_c0 (F30_calls x r_5 hr_5) call30 .z) (fun g_5=>?_)
  obtain ⟨r_6,hr_6,H⟩:=bind_elim H
  refine TLe (E_c0 (F30_calls 3 r_6 hr_6) call30 .z) (fun g_6=>?_)
  refine TVm ?_
  obtain ⟨r_7,hr_7,H⟩:=bind_elim H
  refine TLe (E_c0 (F25_calls r_5 r_6 r_2 r_7 hr_7) call25 .z) (fun g_7=>?_)
  refine TVm ?_
  refine TLv V_ex ?_
  refine TLv V_ex ?_
  refine TVa ?_
  refine TVa ?_
  refine TL_nil (TX_next (TC_seq (TC_region (TLe (E_mk1 rfl rfl underlying42 inf5 (z:=v8 0#8) rfl rfl rfl (B:=1) rfl (by decide) (Int.le_refl _) (by decide) (by decide) (n':=32) (c':=32) rfl rfl (cs:=e8 (List.replicate 32 0#8)) (rep_map (f:=v8))) (fun b1=>?_)))))
  obtain ⟨h1,H⟩:=if_elim H
  refine TLv (V_b2s rfl underlying42 underlying5 underlying9 (.o 0) h1) ?_
  refine TVa ?_
  obtain ⟨zero1,hzero1,H⟩:=ltt_elim H
  refine TLr 12 (congrArg vs hzero1) ?_
  refine TL_nil (TX_next (TC_seq (TC_region (TVm ?_))))
  obtain ⟨r_8,hr_8,H⟩:=bind_elim H
  refine TLe (E_c0 (F30_calls 0 r_8 hr_8) call30 .z) (fun g_8=>?_)
  obtain ⟨r_9,hr_9,H⟩:=bind_elim H
  refine TLe (E_c0 (F24_calls 1 1 zero1 r_8 r_9 hr_9) call24 .z) (fun g_9=>?_)
  refine TVm ?_
  refine TLv V_ex ?_
  refine TLv V_ex ?_
  refine TVa ?_
  refine TVa ?_
  refine TL_nil (TX_next (TC.sub (m':=[(0,_),(1,_),(2,_),(7,_),(8,_),(10,_),(11,_),(12,_),(13,_)]) ⟨rfl,rfl,rfl,rfl,rfl,rfl,rfl,rfl,rfl,trivial⟩ ?_))
  refine TC.pull (is:=[]) (L':=[]) rfl ?_
  refine TC_seq (TC_region (TVm ?_))
  refine TLe (E_s2bR rfl underlying9 underlying42 underlying5) (fun g_10=>?_)
  refine TVa ?_
  refine TL_nil (TX_next (TC_seq (TC_region (TVm ?_))))
  obtain ⟨h2,H⟩:=if_elim H
  refine TLv (V_idxSl (i:=31) rfl rfl underlying42 inf5 rfl (fun _ h=>by cases h) h2.1 h2.2 (k:=31) (km1 _)) ?_
  refine TLv (V_load rfl (.o 0) (get_row (f:=v8) (l:=r_9.1) (sp:=g_10.2) (toNat_lt h2.1 h2.2)) isAgg5) ?_
  refine TLv (V_bin rfl rfl (fun w=>add8 w (lg r_9.1 31) 1#8)) ?_
  obtain ⟨h3,H⟩:=if_elim H
  refine TLv (V_idxSl (i:=31) rfl rfl underlying42 inf5 rfl (fun _ h=>by cases h) h3.1 h3.2 (k:=31) (km1 _)) ?_
  refine TLn (E_store (j:=0) rfl rfl inf5 rfl rfl rfl (by rw [List.length_map]; exact lt_app (toNat_lt h3.1 h3.2)) (cs':=e8 ((r_9.1.set 31 ((lg r_9.1 31)+1#8))++g_10.2)) (set_row (toNat_lt h3.1 h3.2))) (fun _=>?_)
  obtain ⟨m_1,hm_1,H⟩:=ltt_elim H
  refine TL_reE (j:=0) (A:=some (g_10.1,0)) (cs:=e8 ((r_9.1.set 31 ((lg r_9.1 31)+1#8))++g_10.2)) (cs':=e8 (m_1++g_10.2)) rfl (congrArg (fun z=>e8 (z++g_10.2)) hm_1) ?_
  refine TL_re (d:=55) rfl (row_set hm_1) ?_
  refine TL_re (d:=15) rfl (row_set hm_1) ?_
  refine TL_re (d:=56) rfl (row_set hm_1) ?_
  refine TL_nil (TX_next (TC_seq ?_))
  obtain ⟨h4,H⟩:=if_elim H
  obtain ⟨h5,H⟩:=if_elim H
  obtain ⟨h6,H⟩:=if_elim H
  obtain ⟨h7,H⟩:=if_elim H
  obtain ⟨bad1,hbad1,H⟩:=ltt_elim H
  refine TA_begin [⟨some (g_10.1,0),e8 (m_1++g_10.2)⟩] 15 (by kernel_rfl) (N:=15) rfl ?_
  refine TA_tk 0 [0] (dn 15 1) rfl rfl (V_move rfl) ?_
  refine TA_tk 1 [0] (dn 15 3) rfl rfl (V_move rfl) ?_
  refine TA_tk 2 [0] (dn 15 7) rfl rfl (V_b2s rfl underlying42 underlying5 underlying9 (srcRow (.o 0)) rfl) ?_
  refine TA_tk 3 [0] (dn 15 15) rfl rfl (V_move rfl) ?_
  refine TA_tk 4 [0] (dn 15 31) rfl rfl (V_bin rfl rfl (fun w=>addS w r_9.1 ([120#8]:Str) h4)) ?_
  refine TA_tk 5 [0] (dn 15 63) rfl rfl (V_move rfl) ?_
  refine TA_tk 6 [0] (dn 15 127) rfl rfl (V_sliceStr (l:=0) (h:=31) rfl underlying9 Bnd.none' (Bnd.some' (i:=31) rfl (by decide)) (Nat.zero_le _) h5) ?_
  refine TA_tk 8 [0] (dn 15 383) rfl rfl (V_move rfl) ?_
  refine TA_tk 9 [0] (dn 15 895) rfl rfl (V_conv rfl (fun w=>cvI64 w _ _ underlying44 (und3) .i64 which)) ?_
  refine TA_tk 10 [0] (dn 15 1919) rfl rfl (V_bin rfl rfl (fun w=>rem64 w (BitVec.ofInt 64 which) 5#64 (by decide))) ?_
  refine TA_tk 11 [0] (dn 15 3967) rfl rfl (V_conv rfl (fun w=>cv64toI w _ _ underlying3 (und44) ((BitVec.ofInt 64 which) % 5#64))) ?_
  refine TA_all (rs:=[7]) (by kernel_rfl) rfl ?_
  refine ⟨?_,trivial⟩
  refine TO_e (is:=[1]) (done':=dn 15 4095) rfl rfl rfl rfl (by kernel_rfl) (E_buildSlice (pv:=[(0,vs zero1),(1,vs m_1),(2,vs (r_9.1++([120#8]:Str))),(3,vs ([]:Str)),(4,vs (sub r_9.1 0 31))]) rfl rfl underlying46 inf9 (s:=1) rfl zer9 rfl rfl rfl (cs:=eS ([zero1,m_1,r_9.1++([120#8]:Str),([]:Str),sub r_9.1 0 31]:List (Str))) (by kernel_rfl)) (fun _ _=>rfl) (fun b2=>?_)
  refine TA_more (Lr2:=[⟨some (b2,0),eS ([zero1,m_1,r_9.1++([120#8]:Str),([]:Str),sub r_9.1 0 31]:List (Str))⟩,⟨some (g_10.1,0),e8 (m_1++g_10.2)⟩]) (is:=[1]) (is2:=[0,0]) rfl rfl ?_
  refine TA_tk 12 [0,0] (dn 15 8191) rfl rfl (V_idxSl (i:=w64 (((BitVec.ofInt 64 which) % 5#64).toNat:Int)) rfl rfl underlying46 inf9 rfl (fun _ h=>by cases h) h6.1 h6.2 (k:=(w64 (((BitVec.ofInt 64 which) % 5#64).toNat:Int)).toNat) (km1 _)) ?_
  refine TA_tk 13 [0,0] (dn 15 16383) rfl rfl (V_load rfl (.o 0) (get_map (f:=vs) (l:=([zero1,m_1,r_9.1++([120#8]:Str),([]:Str),sub r_9.1 0 31]:List (Str))) h7) isAgg9) ?_
  refine TA_tk 14 [0,0] (dn 15 32767) rfl rfl (V_assign rfl) ?_
  refine TA_re (d:=16) (v:=vs (lg ([zero1,m_1,r_9.1++([120#8]:Str),([]:Str),sub r_9.1 0 31]:List (Str)) ((w64 (((BitVec.ofInt 64 which) % 5#64).toNat:Int)).toNat))) (v':=vs bad1) rfl (congrArg vs hbad1) ?_
  refine TA_done (by kernel_rfl) ?_ 0
  refine TX_next (TC.sub (m':=[(1,_),(2,_),(7,_),(8,_),(10,_),(11,_),(13,_),(16,_)]) ⟨rfl,rfl,rfl,rfl,rfl,rfl,rfl,rfl,trivial⟩ ?_)
  refine TC.pull (is:=[]) (L':=[]) rfl ?_
  refine TC_seq (TC_region (TVm ?_))
  obtain ⟨r_10,hr_10,H⟩:=bind_elim H
  refine TLe (E_c0 (F30_calls 3 r_10 hr_10) call30 .z) (fun g_11=>?_)
  refine TVm ?_
  obtain ⟨r_11,hr_11,H⟩:=bind_elim H
  refine TLe (E_c0 (F25_calls bad1 r_10 r_2 r_11 hr_11) call25 .z) (fun g_12=>?_)
  refine TVm ?_
  refine TLv V_ex ?_
  refine TLv V_ex ?_
  refine TVa ?_
  refine TVa ?_
  refine TL_nil (TX_next (TC_seq (TC_region (TVm ?_))))
  obtain ⟨r_12,hr_12,H⟩:=bind_elim H
  refine TLe (E_c0 (F30_calls x r_12 hr_12) call30 .z) (fun g_13=>?_)
  refine TVm ?_
  refine TVm ?_
  obtain ⟨r_13,hr_13,H⟩:=bind_elim H
  refine TLe (E_c0 (F25_calls r_12 bad1 r_2 r_13 hr_13) call25 .z) (fun g_14=>?_)
  refine TVm ?_
  refine TLv V_ex ?_
  refine TLv V_ex ?_
  refine TVa ?_
  refine TVa ?_
  refine TL_nil (TX_next (TC_seq ?_))
  obtain ⟨r_14,hr_14,H⟩:=bind_elim H
  obtain ⟨r_15,hr_15,H⟩:=bind_elim H
  obtain ⟨h8,H⟩:=if_elim H
  obtain ⟨h9,H⟩:=if_elim H
  obtain ⟨r_16,hr_16,H⟩:=bind_elim H
  refine TA_begin [] 14 (by kernel_rfl) (N:=14) rfl ?_
  refine TA_mix (is:=[]) (done':=dn 14 16383) [itV 0 91 (vi x) [],itV 1 92 (vs r_14) [0],itV 2 93 (vs r_15) [],itV 3 94 (vi size) [],itV 4 95 (vi (iop (· &&& ·) size 1)) [3],itV 5 96 (vi (w64 (30+(iop (· &&& ·) size 1)))) [4],⟨6,97,fun b3=>sl (some (b3,0)) ((w64 (30+(iop (· &&& ·) size 1))).toNat) ((w64 (30+(iop (· &&& ·) size 1))).toNat),fun b3=>[⟨some (b3,0),e8 (List.replicate ((w64 (30+(iop (· &&& ·) size 1))).toNat) 0#8)⟩],[5],none⟩,⟨7,98,fun _=>vs (List.replicate ((w64 (30+(iop (· &&& ·) size 1))).toNat) 0#8),fun _=>[],[6],some 6⟩,itV 8 99 (Value.tuple [vs r_16.1,vi r_16.2].toArray) [7,1,2],itV 9 90 (Value.tuple [vs r_16.1,vi r_16.2].toArray) [8],itV 10 100 (vs r_16.1) [9],itV 11 101 (vi r_16.2) [9],itV 12 21 (vs r_16.1) [10],itV 13 22 (vi r_16.2) [11]] [] 0 (by kernel_rfl) (QP.then QP.body) (by kernel_rfl) rfl (.v rfl (V_move rfl) (.e rfl (E_cu (F30_calls x r_14 hr_14) call30 .z) (.e rfl (E_cu (F30_calls 3 r_15 hr_15) call30 .z) (.v rfl (V_move rfl) (.v rfl (V_bin rfl rfl (fun w=>andI w size 1)) (.v rfl (V_bin rfl rfl (fun w=>addI w 30 (iop (· &&& ·) size 1))) (.c rfl (fun _ _=>(E_mk1 rfl rfl underlying42 inf5 (z:=v8 0#8) rfl rfl rfl (B:=1) rfl h8.1 (Int.le_refl _) (by have:=h8; omega) (by have:=h8; omega) (n':=(w64 (30+(iop (· &&& ·) size 1))).toNat) (c':=(w64 (30+(iop (· &&& ·) size 1))).toNat) rfl rfl (cs:=e8 (List.replicate ((w64 (30+(iop (· &&& ·) size 1))).toNat) 0#8)) (rep_map (f:=v8)))) (.c rfl (fun _ _=>OpE_v (V_b2s rfl underlying42 underlying5 underlying9 (.o 0) h9)) (.e rfl (E_cu (F25_calls r_14 r_15 (List.replicate ((w64 (30+(iop (· &&& ·) size 1))).toNat) 0#8) r_16 hr_16) call25 .z) (.v rfl (V_move rfl) (.v rfl V_ex (.v rfl V_ex (.v rfl (V_assign rfl) (.v rfl (V_assign rfl) .nil)))))))))))))) .nil (by kernel_rfl) rfl (fun γ=>?_)
  refine TA_cut [(22,vi r_16.2),(20,vi r_13.2),(18,vi r_11.2),(7,vs r_2),(8,vs r_4.1),(10,vs r_7.1),(11,vi r_7.2),(13,vs r_9.1)] [⟨some ((γ 6),0),e8 (List.replicate ((w64 (30+(iop (· &&& ·) size 1))).toNat) 0#8)⟩] ⟨rfl,rfl,rfl,rfl,rfl,rfl,rfl,rfl,trivial⟩ rfl ?_
  generalize γ 6=b3
  refine TA_done (by kernel_rfl) ?_ 0
  refine TX_next (TC_seq (TC_region (TVm ?_)))
  obtain ⟨h10,H⟩:=if_elim H
  refine TLv (V_sliceStr (l:=0) (h:=64) rfl underlying9 Bnd.none' (Bnd.some' (i:=64) rfl (by decide)) (Nat.zero_le _) h10) ?_
  refine TVm ?_
  refine TVm ?_
  obtain ⟨r_17,hr_17,H⟩:=bind_elim H
  refine TLe (E_c0 (F27_calls (sub r_4.1 0 64) r_2 r_7.1 r_17 hr_17) call27 .z) (fun g_18=>?_)
  refine TVa ?_
  refine TL_nil (TX_next (TC_seq (TC_region (TVm ?_))))
  refine TVm ?_
  obtain ⟨h11,H⟩:=if_elim H
  refine TLv (V_sliceStr (l:=0) (h:=31) rfl underlying9 Bnd.none' (Bnd.some' (i:=31) rfl (by decide)) (Nat.zero_le _) h11) ?_
  refine TVm ?_
  obtain ⟨r_18,hr_18,H⟩:=bind_elim H
  refine TLe (E_c0 (F27_calls r_4.1 (sub r_2 0 31) r_7.1 r_18 hr_18) call27 .z) (fun g_19=>?_)
  refine TVa ?_
  refine TL_nil (TX_next (TC_seq (TC_region (TVm ?_))))
  refine TVm ?_
  obtain ⟨r_19,hr_19,H⟩:=bind_elim H
  refine TLe (E_c0 (F27_calls r_4.1 r_2 ([48#8,6#8,2#8,1#8,0#8,2#8,1#8,1#8]:Str) r_19 hr_19) call27 .z) (fun g_20=>?_)
  refine TVa ?_
  refine TL_nil (TX_next (TC_seq (TC_region (TVm ?_))))
  refine TVm ?_
  obtain ⟨r_20,hr_20,H⟩:=bind_elim H
  refine TLe (E_c0 (F27_calls r_4.1 r_2 ([48#8,7#8,2#8,2#8,0#8,1#8,2#8,1#8,1#8]:Str) r_20 hr_20) call27 .z) (fun g_21=>?_)
  refine TVa ?_
  refine TL_nil (TX_next (TC_seq (TC_region (TVm ?_))))
  obtain ⟨r_21,hr_21,H⟩:=bind_elim H
  refine TLe (E_c0 (F30_calls 3 r_21 hr_21) call30 .z) (fun g_22=>?_)
  refine TVm ?_
  obtain ⟨r_22,hr_22,H⟩:=bind_elim H
  refine TLe (E_c0 (F25_calls r_9.1 r_21 r_2 r_22 hr_22) call25 .z) (fun g_23=>?_)
  refine TVm ?_
  refine TLv V_ex ?_
  refine TLv V_ex ?_
  refine TVa ?_
  refine TVa ?_
  refine TL_nil (TX_next (TC.sub (m':=[(11,_),(18,_),(20,_),(22,_),(23,_),(24,_),(25,_),(26,_),(28,_)]) ⟨rfl,rfl,rfl,rfl,rfl,rfl,rfl,rfl,rfl,trivial⟩ ?_))
  refine TC.pull (is:=[]) (L':=[]) rfl ?_
  refine TC_seq (TC_region (TVm ?_))
  obtain ⟨r_23,hr_23,H⟩:=bind_elim H
  refine TLe (E_c0 (F20_calls r_7.2 r_23 hr_23) call20 .z) (fun g_24=>?_)
  refine TLv (V_bin rfl rfl (fun w=>eqlI w r_23 0)) ?_
  refine TVm ?_
  refine TFd (d:=128) H (fun hc H=>?_) (fun hc H=>?_)
  ·refine TLw (V_move rfl) ?_
   obtain ⟨r_24,hr_24,H⟩:=bind_elim H
   refine TLu (E_c0 (F20_calls r_11.2 r_24 hr_24) call20 .z) (fun g_25=>?_)
   refine TLw (V_bin rfl rfl (fun w=>eqlI w r_24 1200)) ?_
   refine TVt ?_
   refine TVm ?_
   refine TFd (d:=133) H (fun hc H=>?_) (fun hc H=>?_)
   ·refine TLw (V_move rfl) ?_
    obtain ⟨r_25,hr_25,H⟩:=bind_elim H
    refine TLu (E_c0 (F20_calls r_13.2 r_25 hr_25) call20 .z) (fun g_26=>?_)
    refine TLw (V_bin rfl rfl (fun w=>eqlI w r_25 1200)) ?_
    refine TVt ?_
    refine TVm ?_
    refine TFd (d:=138) H (fun hc H=>?_) (fun hc H=>?_)
    ·refine TLw (V_move rfl) ?_
     obtain ⟨r_26,hr_26,H⟩:=bind_elim H
     refine TLu (E_c0 (F20_calls r_16.2 r_26 hr_26) call20 .z) (fun g_27=>?_)
     refine TLw (V_bin rfl rfl (fun w=>eqlI w r_26 1200)) ?_
     refine TVt ?_
     refine TVm ?_
     refine TFd (d:=143) H (fun hc H=>?_) (fun hc H=>?_)
     ·refine TLw (V_move rfl) ?_
      obtain ⟨r_27,hr_27,H⟩:=bind_elim H
      refine TLu (E_c0 (F20_calls r_17 r_27 hr_27) call20 .z) (fun g_28=>?_)
      refine TLw (V_bin rfl rfl (fun w=>eqlI w r_27 1200)) ?_
      refine TVt ?_
      refine TVm ?_
      refine TFd (d:=148) H (fun hc H=>?_) (fun hc H=>?_)
      ·refine TLw (V_move rfl) ?_
       obtain ⟨r_28,hr_28,H⟩:=bind_elim H
       refine TLu (E_c0 (F20_calls r_18 r_28 hr_28) call20 .z) (fun g_29=>?_)
       refine TLw (V_bin rfl rfl (fun w=>eqlI w r_28 1200)) ?_
       refine TVt ?_
       refine TVm ?_
       refine TFd (d:=153) H (fun hc H=>?_) (fun hc H=>?_)
       ·refine TLw (V_move rfl) ?_
        obtain ⟨r_29,hr_29,H⟩:=bind_elim H
        refine TLu (E_c0 (F20_calls r_19 r_29 hr_29) call20 .z) (fun g_30=>?_)
        refine TLw (V_bin rfl rfl (fun w=>eqlI w r_29 1200)) ?_
        refine TVt ?_
        refine TVm ?_
        refine TFd (d:=158) H (fun hc H=>?_) (fun hc H=>?_)
        ·refine TLw (V_move rfl) ?_
         obtain ⟨r_30,hr_30,H⟩:=bind_elim H
         refine TLu (E_c0 (F20_calls r_20 r_30 hr_30) call20 .z) (fun g_31=>?_)
         refine TLw (V_bin rfl rfl (fun w=>eqlI w r_30 1200)) ?_
         refine TVt ?_
         refine TVm ?_
         refine TFd (d:=163) H (fun hc H=>?_) (fun hc H=>?_)
         ·refine TLw (V_move rfl) ?_
          obtain ⟨r_31,hr_31,H⟩:=bind_elim H
          refine TLu (E_c0 (F20_calls r_22.2 r_31 hr_31) call20 .z) (fun g_32=>?_)
          refine TLw (V_bin rfl rfl (fun w=>eqlI w r_31 0)) ?_
          refine TVt ?_
          refine TVa ?_
          obtain ⟨x1,hx1,H⟩:=ltt_elim H
          refine TLr 6 (congrArg vb hx1) ?_
          refine TL_nil (TX_next (TC.sub (m':=[(6,_)]) ⟨rfl,trivial⟩ ?_))
          refine TC.pull (is:=[]) (L':=[]) rfl ?_
          refine TC_ret ?_
          obtain rfl:=sj H
          exact TX1
         ·refine TLs ?_
          refine TLs ?_
          refine TLs ?_
          refine TVf ?_
          refine TVa ?_
          refine TL_nil (TX_next (TC.sub (m':=[(6,_)]) ⟨rfl,trivial⟩ ?_))
          refine TC.pull (is:=[]) (L':=[]) rfl ?_
          refine TC_ret ?_
          obtain rfl:=sj H
          exact TX1
        ·refine TLs ?_
         refine TLs ?_
         refine TLs ?_
         refine TVf ?_
         refine TVm ?_
         refine TLs ?_
         refine TLs ?_
         refine TLs ?_
         refine TVf ?_
         refine TVa ?_
         refine TL_nil (TX_next (TC.sub (m':=[(6,_)]) ⟨rfl,trivial⟩ ?_))
         refine TC.pull (is:=[]) (L':=[]) rfl ?_
         refine TC_ret ?_
         obtain rfl:=sj H
         exact TX1
       ·refine TLs ?_
        refine TLs ?_
        refine TLs ?_
        refine TVf ?_
        refine TVm ?_
        refine TLs ?_
        refine TLs ?_
        refine TLs ?_
        refine TVf ?_
        refine TVm ?_
        refine TLs ?_
        refine TLs ?_
        refine TLs ?_
        refine TVf ?_
        refine TVa ?_
        refine TL_nil (TX_next (TC.sub (m':=[(6,_)]) ⟨rfl,trivial⟩ ?_))
        refine TC.pull (is:=[]) (L':=[]) rfl ?_
        refine TC_ret ?_
        obtain rfl:=sj H
        exact TX1
      ·refine TLs ?_
       refine TLs ?_
       refine TLs ?_
       refine TVf ?_
       refine TVm ?_
       refine TLs ?_
       refine TLs ?_
       refine TLs ?_
       refine TVf ?_
       refine TVm ?_
       refine TLs ?_
       refine TLs ?_
       refine TLs ?_
       refine TVf ?_
       refine TVm ?_
       refine TLs ?_
       refine TLs ?_
       refine TLs ?_
       refine TVf ?_
       refine TVa ?_
       refine TL_nil (TX_next (TC.sub (m':=[(6,_)]) ⟨rfl,trivial⟩ ?_))
       refine TC.pull (is:=[]) (L':=[]) rfl ?_
       refine TC_ret ?_
       obtain rfl:=sj H
       exact TX1
     ·refine TLs ?_
      refine TLs ?_
      refine TLs ?_
      refine TVf ?_
      refine TVm ?_
      refine TLs ?_
      refine TLs ?_
      refine TLs ?_
      refine TVf ?_
      refine TVm ?_
      refine TLs ?_
      refine TLs ?_
      refine TLs ?_
      refine TVf ?_
      refine TVm ?_
      refine TLs ?_
      refine TLs ?_
      refine TLs ?_
      refine TVf ?_
      refine TVm ?_
      refine TLs ?_
      refine TLs ?_
      refine TLs ?_
      refine TVf ?_
      refine TVa ?_
      refine TL_nil (TX_next (TC.sub (m':=[(6,_)]) ⟨rfl,trivial⟩ ?_))
      refine TC.pull (is:=[]) (L':=[]) rfl ?_
      refine TC_ret ?_
      obtain rfl:=sj H
      exact TX1
    ·refine TLs ?_
     refine TLs ?_
     refine TLs ?_
     refine TVf ?_
     refine TVm ?_
     refine TLs ?_
     refine TLs ?_
     refine TLs ?_
     refine TVf ?_
     refine TVm ?_
     refine TLs ?_
     refine TLs ?_
     refine TLs ?_
     refine TVf ?_
     refine TVm ?_
     refine TLs ?_
     refine TLs ?_
     refine TLs ?_
     refine TVf ?_
     refine TVm ?_
     refine TLs ?_
     refine TLs ?_
     refine TLs ?_
     refine TVf ?_
     refine TVm ?_
     refine TLs ?_
     refine TLs ?_
     refine TLs ?_
     refine TVf ?_
     refine TVa ?_
     refine TL_nil (TX_next (TC.sub (m':=[(6,_)]) ⟨rfl,trivial⟩ ?_))
     refine TC.pull (is:=[]) (L':=[]) rfl ?_
     refine TC_ret ?_
     obtain rfl:=sj H
     exact TX1
   ·refine TLs ?_
    refine TLs ?_
    refine TLs ?_
    refine TVf ?_
    refine TVm ?_
    refine TLs ?_
    refine TLs ?_
    refine TLs ?_
    refine TVf ?_
    refine TVm ?_
    refine TLs ?_
    refine TLs ?_
    refine TLs ?_
    refine TVf ?_
    refine TVm ?_
    refine TLs ?_
    refine TLs ?_
    refine TLs ?_
    refine TVf ?_
    refine TVm ?_
    refine TLs ?_
    refine TLs ?_
    refine TLs ?_
    refine TVf ?_
    refine TVm ?_
    refine TLs ?_
    refine TLs ?_
    refine TLs ?_
    refine TVf ?_
    refine TVm ?_
    refine TLs ?_
    refine TLs ?_
    refine TLs ?_
    refine TVf ?_
    refine TVa ?_
    refine TL_nil (TX_next (TC.sub (m':=[(6,_)]) ⟨rfl,trivial⟩ ?_))
    refine TC.pull (is:=[]) (L':=[]) rfl ?_
    refine TC_ret ?_
    obtain rfl:=sj H
    exact TX1
  ·refine TLs ?_
   refine TLs ?_
   refine TLs ?_
   refine TVf ?_
   refine TVm ?_
   refine TLs ?_
   refine TLs ?_
   refine TLs ?_
   refine TVf ?_
   refine TVm ?_
   refine TLs ?_
   refine TLs ?_
   refine TLs ?_
   refine TVf ?_
   refine TVm ?_
   refine TLs ?_
   refine TLs ?_
   refine TLs ?_
   refine TVf ?_
   refine TVm ?_
   refine TLs ?_
   refine TLs ?_
   refine TLs ?_
   refine TVf ?_
   refine TVm ?_
   refine TLs ?_
   refine TLs ?_
   refine TLs ?_
   refine TVf ?_
   refine TVm ?_
   refine TLs ?_
   refine TLs ?_
   refine TLs ?_
   refine TVf ?_
   refine TVm ?_
   refine TLs ?_
   refine TLs ?_
   refine TLs ?_
   refine TVf ?_
   refine TVa ?_
   refine TL_nil (TX_next (TC.sub (m':=[(6,_)]) ⟨rfl,trivial⟩ ?_))
   refine TC.pull (is:=[]) (L':=[]) rfl ?_
   refine TC_ret ?_
   obtain rfl:=sj H
   exact TX1
end Go.Proofs
end

section
namespace Go.Kx
open Go Go.Proofs
open Go.Nt hiding n4
theorem sg3f (r s:Nat):4+(sg (SG r s) 3).toNat=2+(DI r).length:=by
 have h:sg (SG r s) 3=BitVec.ofNat 8 (DB r).length:=rfl
 have h2:=DB_len r
 rw [h,ofNat8 _ (by omega),DI_len]
 omega
theorem DB_val {r:Nat} (h:r<N256):bnum (DB r)=r:=by
 unfold DB
 rw [bnum_derB,bnum_nb32 _ (by have:=md_N.lt; omega)]
theorem DB_of {s:Str} {r z:Nat} (h:isSg s r z):DB r=(sub s 2 (4+(sg s 3).toNat)).drop 2:=by
 have e:=sg3f r z
 have b:=(SG_stands r z ⟨h.1,h.2.1⟩ ⟨h.2.2.1,h.2.2.2.1⟩).1.2.2.2
 rw [← e, ← h.2.2.2.2] at b
 rw [b]; rfl
theorem not_a : ¬ ∃ r z,isSg [48#8,6#8,2#8,1#8,0#8,2#8,1#8,1#8] r z:=by
 rintro ⟨r,z,h⟩
 have e:DB r=[0#8]:=DB_of h
 have v:=DB_val h.2.1
 rw [e] at v
 have:bnum [0#8]=0:=by decide
 have:=h.1
 omega
theorem not_b : ¬ ∃ r z,isSg [48#8,7#8,2#8,2#8,0#8,1#8,2#8,1#8,1#8] r z:=by
 rintro ⟨r,z,h⟩
 have e:DB r=[0#8,1#8]:=DB_of h
 have v:=DB_val h.2.1
 rw [e] at v
 have w:bnum [0#8,1#8]=1:=by decide
 have:r=1:=by omega
 subst this
 revert e
 decide
def R4k:Nat:=102369864249653057322725350723741461599905180004905897298779971437827381725266
def I4k:Nat:=2511911263573502872582438471303856331532193826735858311673161666535549301123
theorem r4k:sigR 4=R4k:=by
 obtain ⟨q,h,e⟩:=x_of 4 R4k (by decide +kernel) (by decide +kernel) (by decide +kernel) (by decide +kernel)
 unfold sigR
 rw [h]
 show toN q.1 % N256=R4k
 rw [e]; decide +kernel
theorem s4_ne {d:Nat} (h0:1≤d∧d≤1048576):sigS d 4 zM ≠ 0:=by
 intro h
 rw [sigS_p,r4k] at h
 have hk : ¬ N256 ∣ powm N256 256 4 (N256 - 2):=fun c=>absurd (Nat.mod_eq_zero_of_dvd c) (by decide +kernel)
 generalize powm N256 256 4 (N256 - 2)=ki at h hk
 have hd:=(pr_N.dvd_mul (Nat.dvd_of_mod_eq_zero h)).resolve_right hk
 have c1:cg N256 ((zM % N256+R4k * d % N256) % N256) 0:=(Nat.mod_eq_zero_of_dvd hd).trans (Nat.zero_mod _).symm
 have c2:cg N256 (zM+R4k * d) 0:=Eq.trans ((cg.rf.md.add cg.rf.md).md).symm c1
 have c3:cg N256 ((zM+R4k * d) * I4k) (0 * I4k):=c2.mul cg.rf
 rw [Nat.zero_mul,Nat.add_mul,Nat.mul_right_comm] at c3
 have ci:cg N256 (R4k * I4k * d) (1 * d):=cg.mul (show (R4k * I4k) % N256=1 % N256 by decide +kernel) cg.rf
 have cz:cg N256 (zM * I4k) (zM * I4k % N256):=cg.rf.md.symm
 have c4:=Eq.trans (cz.add ci).symm c3
 have hb:0<zM * I4k % N256∧zM * I4k % N256+1048576<N256:=by decide +kernel
 rw [Nat.one_mul] at c4
 generalize zM * I4k % N256=c at c4 hb
 rw [Nat.mod_eq_of_lt (by omega),Nat.zero_mod] at c4
 omega
theorem so_ne:sigS (N256 - 1) 4 zM ≠ 0:=by
 rw [sigS_p,r4k]
 decide +kernel
theorem r4_ne:sigR 4 ≠ 0:=by rw [r4k]; decide +kernel
theorem sign_ok {d:Nat} (h:sigS d 4 zM ≠ 0):signRes d 4 zM=(SG (sigR 4) (sigS d 4 zM),0):=sgn_1 r4_ne h
theorem ord_up:(nb32 (N256 - 1)).set 31 ((lg (nb32 (N256 - 1)) 31)+1#8)=nb32 N256:=by decide +kernel
theorem EcdsaForms_true (which size x:Int):halberdlaw12_EcdsaForms which size x=some true:=by
 have s3:halberdlaw12_scalar 3=some (nb32 4):=scalar_eq 3
 have s0:halberdlaw12_scalar 0=some (nb32 1):=scalar_eq 0
 obtain ⟨q,hq,hp⟩:=pub_of x
 have sx:=scalar_eq x
 have hN:=N_big12
 have hL:=md_N.lt
 have dm:dM.length=32:=rfl
 have hb:=sc12_b x
 have k4:isSc (nb32 4)∧bnum (nb32 4)=4:=sc_is12 (by omega) (by omega)
 have g1:ecdsa_Sign (nb32 (sc12 x)) (nb32 4) dM=some (SG (sigR 4) (sigS (sc12 x) 4 zM),0):=by
  have h:ecdsa_Sign (nb32 (sc12 x)) (nb32 4) dM=some (signRes (sc12 x) 4 (bnum dM)):=Sign_sc x 3 dM dm
  rw [h,zM_eq,sign_ok (s4_ne hb)]
 have ho:=sc_is12 (c:=N256 - 1) (by omega) (by omega)
 have g2:ecdsa_Sign (nb32 (N256 - 1)) (nb32 4) dM=some (SG (sigR 4) (sigS (N256 - 1) 4 zM),0):=by
  rw [Sign_is _ _ _ ho.1 k4.1 dm,ho.2,k4.2,zM_eq,sign_ok so_ne]
 have hc:halberdref9_Calc 1 1 (nb32 0) (nb32 1)=some (nb32 (N256 - 1),0):=by
  have h:=calc12 1 1 Rd_N (by decide) (u:=0) (v:=1) (by omega) (by omega) (.inr rfl)
  rw [if_neg (by decide),Nat.zero_add,Nat.mod_eq_of_lt (by omega)] at h
  exact h
 have ol:=nb32_len (N256 - 1)
 unfold halberdlaw12_EcdsaForms
 refine bind_i awake12 (if_n (by decide) (bind_i hash_m (bind_i sx (bind_i hp (bind_i sx (bind_i s3 (bind_i g1 (if_i (by simp) (ltt_i fun zero hz=>bind_i s0 ?_)))))))))
 rw [nb32_z12] at hz
 subst hz
 refine bind_i hc ?_
 dsimp only
 generalize hord:nb32 (N256 - 1)=ord at *
 refine if_i (by omega) (if_i (by omega) (ltt_i fun m hm=>if_i (by simp; omega) (if_i (by omega) ?_)))
 have hm2:m=nb32 N256:=by rw [hm, ← hord,ord_up]
 clear hm
 subst hm2
 have h5:(BitVec.ofInt 64 which % 5#64).toNat<5:=by
  rw [BitVec.toNat_umod]
  exact Nat.mod_lt _ (by decide)
 generalize (BitVec.ofInt 64 which % 5#64).toNat=j at h5
 rw [w64_id (x:=(j:Int)) (by omega) (by omega)]
 simp only [Int.toNat_natCast]
 refine if_i (by omega) (if_i (by show j<5; exact h5) (ltt_i fun bad hbad=>?_))
 have nb : ¬ isSc bad:=by
  rw [hbad]
  have hcs:j=0 ∨ j=1 ∨ j=2 ∨ j=3 ∨ j=4:=by omega
  rcases hcs with rfl | rfl | rfl | rfl | rfl
  ·exact fun h=>h.2.2 (bnum_nb32 0 (by decide))
  ·exact fun h=>by
    have h1:bnum (nb32 N256)<N256:=h.2.1
    rw [bnum_nb32 _ (by omega)] at h1
    omega
  ·exact fun h=>by
    have h1:(ord++[120#8]).length=32:=h.1
    rw [List.length_append,ol] at h1
    exact absurd h1 (by decide)
  ·exact fun h=>absurd (show (0:Nat)=32 from h.1) (by decide)
  ·exact fun h=>by
    have h1:(sub ord 0 31).length=32:=h.1
    rw [sub_length (by omega)] at h1
    omega
 have b1:ecdsa_Sign bad (nb32 4) dM=some ([],1200):=Sign_no _ _ _ (fun h=>nb h.1)
 have b2:ecdsa_Sign (nb32 (sc12 x)) bad dM=some ([],1200):=Sign_no _ _ _ (fun h=>nb h.2.1)
 refine bind_i s3 (bind_i b1 (bind_i sx (bind_i b2 (bind_i sx (bind_i s3 ?_)))))
 have hi:iop (· &&& ·) size 1=size % 2:=and_mask12 size 1 (by decide)
 rw [hi,w64_id (x:=30+size % 2) (by omega) (by omega)]
 have b3:ecdsa_Sign (nb32 (sc12 x)) (nb32 4) (List.replicate (30+size % 2).toNat 0#8)=some ([],1200):=Sign_no _ _ _ (fun h=>by
  have h1:=h.2.2
  rw [List.length_replicate] at h1
  omega)
 have hsl:=SG_short (sigR 4) (sigS (sc12 x) 4 zM)
 have el:=encQ_len q
 have v1:ecdsa_Verify (sub (encQ q) 0 64) dM (SG (sigR 4) (sigS (sc12 x) 4 zM))=some 1200:=Verify_no _ _ _ hsl (fun h=>by
  have h1:=((isPt_iff _).1 h.2.2).1
  rw [sub_length (by omega)] at h1
  omega)
 have v2:ecdsa_Verify (encQ q) (sub dM 0 31) (SG (sigR 4) (sigS (sc12 x) 4 zM))=some 1200:=Verify_no _ _ _ hsl (fun h=>absurd h.2.1 (by decide))
 have v3:ecdsa_Verify (encQ q) dM [48#8,6#8,2#8,1#8,0#8,2#8,1#8,1#8]=some 1200:=Verify_no _ _ _ (by decide) (fun h=>not_a h.1)
 have v4:ecdsa_Verify (encQ q) dM [48#8,7#8,2#8,2#8,0#8,1#8,2#8,1#8,1#8]=some 1200:=Verify_no _ _ _ (by decide) (fun h=>not_b h.1)
 refine if_i (by omega) (if_i (by simp) (bind_i b3 (if_i (by omega) (bind_i v1 (if_i (by decide) (bind_i v2 (bind_i v3 (bind_i v4 (bind_i s3 (bind_i g2 ?_))))))))))
 exact bind_i (num12 _) (if_i rfl (bind_i (num12 _) (if_i rfl (bind_i (num12 _) (if_i rfl (bind_i (num12 _) (if_i rfl (bind_i (num12 _) (if_i rfl (bind_i (num12 _) (if_i rfl (bind_i (num12 _) (if_i rfl (bind_i (num12 _) (if_i rfl (bind_i (num12 _) rfl))))))))))))))))
end Go.Kx
end

/-
  Part 26 of the proof of what several laws share.
-/
import Derived.Test.YtiofnmmggblcgaaEsC1
import Derived.Test.YtiofnmmggblcgaaEsC2
import Derived.Test.YtiofnmmggblcgaaEsC3
import Derived.Test.YtiofnmmggblcgaaEsC4
import Derived.Test.YtiofnmmggblcgaaEsC5
import Derived.Test.YtiofnmmggblcgaaEsC6
import Derived.Test.YtiofnmmggblcgaaEsC7
import Derived.Test.YtiofnmmggblcgaaEsC8
import Derived.Test.YtiofnmmggblcgaaEsC9
import Derived.Test.YtiofnmmggblcgaaEsC10
import Derived.Test.YtiofnmmggblcgaaEsC11
import Derived.Test.YtiofnmmggblcgaaEsC12
import Derived.Test.YtiofnmmggblcgaaEsC13
import Derived.Test.YtiofnmmggblcgaaEsC14
import Derived.Test.YtiofnmmggblcgaaEsC15
import Derived.Test.YtiofnmmggblcgaaEsC16
import Derived.Test.YtiofnmmggblcgaaEsC17
import Derived.Test.YtiofnmmggblcgaaEsC18
import Derived.Test.YtiofnmmggblcgaaEsC19
import Derived.Test.YtiofnmmggblcgaaEsC20
import Derived.Test.YtiofnmmggblcgaaEsC21
import Derived.Test.YtiofnmmggblcgaaEsC22
import Derived.Test.YtiofnmmggblcgaaEsC23
import Derived.Test.YtiofnmmggblcgaaEsC24
import Derived.Test.YtiofnmmggblcgaaEsC25
set_option linter.unusedVariables false
set_option linter.unusedSimpArgs false
section
namespace Go.Proofs
open Go Go.Kx
open Vector (replicate)
open TryI Try
def ecdsa_integer (t_Tag:Int) (t_Body:Str):Option (Vx 64 4 × Bool) :=
 if 33<((t_Body).length:Int) then (ltt ((replicate 4 0#64:Vx 64 4)) fun (m_1:Vx 64 4)=>(some (m_1,false))) else ((if 32<((t_Body).length:Int) then (if 1≤(t_Body).length then (ltt (sub t_Body 1 ((t_Body).length)) fun (b6:Str)=>(some b6)) else none) else (some t_Body)).bind fun (j1:Str)=>(if 0≤w64 (32 - ((j1).length:Int))∧w64 (32 - ((j1).length:Int))≤17592186044416 then (if (List.replicate ((w64 (32 - ((j1).length:Int))).toNat) 0#8).length=(w64 (32 - ((j1).length:Int))).toNat then (if (List.replicate ((w64 (32 - ((j1).length:Int))).toNat) 0#8).length+(j1).length≤4611686018427387904 then ((pcurve_Scalar ((List.replicate ((w64 (32 - ((j1).length:Int))).toNat) 0#8)++j1)).bind fun (r_1:Vx 64 4 × Bool)=>((der_Integer j1).bind fun (r_2:Str × Int)=>(if (([t_Body]:List (Str))).length=1 then ((der_Put t_Tag ([t_Body]:List (Str))).bind fun (r_3:Str × Int)=>(if r_1.2=true then (ltt (decide (r_2.1=r_3.1)) fun (x1:Bool)=>(some (r_1.1,x1))) else (some (r_1.1,false)))) else none))) else none) else none) else none))
set_option maxHeartbeats 4000000 in
set_option maxRecDepth 20000 in
theorem F95_calls (t_Tag:Int) (t_Body:Str) (r:Vx 64 4 × Bool) (H:ecdsa_integer t_Tag t_Body=some r) :
  Does Try.prog 95 [aG [(1,[vi t_Tag]),(1,[vs t_Body])]] [] [] (Γ:=Unit) (fun g=>Value.tuple [aG [(4,e64 r.1.toList)],vb r.2].toArray) (fun g=>[]):=by
 intro w hmem hro hd
 refine calls_of (N:=55) (m0:=[(0,aG [(1,[vi t_Tag]),(1,[vs t_Body])])]) func95 rfl ntmps95 (argM_ok [aG [(1,[vi t_Tag]),(1,[vs t_Body])]]) rfl hmem hro hd ?_
 unfold ecdsa_integer at H
 refine TC_seq (TC_region (TLe (E_boxP [(1,[vi t_Tag]),(1,[vs t_Body])] rfl rfl ⟨rfl,rfl,trivial⟩) (fun b1=>?_)))
 refine TLe (E_al64 4 inf57 zer57) (fun b2=>?_)
 refine TVa ?_
 refine TL_nil (TX_next (TC_seq (TC_seq (TC_region (TLv (V_fieldE rfl underlying123 rfl rfl inf9 rfl (v:=ptr (some (b1,1)) 0) rfl) ?_)))))
 refine TLv (V_load rfl (.o 2) rfl isAgg9) ?_
 refine TLv (V_len_str rfl underlying9) ?_
 refine TLv (V_bin rfl rfl (fun w=>gtrI w ((t_Body).length:Int) 33)) ?_
 refine TL_nil (TX_next (TCd H (fun hc H=>?_) (fun hc H=>?_)))
 ·refine TC_seq (TC_region (TLv (V_buildArr (pv:=[]) rfl rfl underlying57 inf57 inf55 rfl zer57 (cs:=e64 ((replicate 4 0#64:Vx 64 4).toList)) (by kernel_rfl)) ?_))
  refine TLn (E_sv 0 inf57) (fun _=>?_)
  obtain ⟨m_1,hm_1,H⟩:=ltt_elim H
  refine TL_reE (j:=0) (A:=some (b2,0)) (cs:=e64 ((replicate 4 0#64:Vx 64 4).toList)) (cs':=e64 m_1.toList) rfl (congrArg (fun z:Vx 64 4=>e64 (Vector.toList z)) hm_1) ?_
  refine TVa ?_
  refine TL_nil (TX_next (TC_ret (TX_then_ret ?_)))
  obtain rfl:=sj H
  exact TXr (vs:=[_,_]) rfl ⟨(Res_agg (n:=4) rfl (by simp) (.o 0) isAgg57 inf57 rfl (lenV (f:=v64) m_1)),rfl,trivial⟩
 ·refine TC_skip (TX_next (TC_seq (TC_region (TLv (V_fieldE rfl underlying123 rfl rfl inf9 rfl (v:=ptr (some (b1,1)) 0) rfl) ?_))))
  refine TLv (V_load rfl (.o 2) rfl isAgg9) ?_
  refine TVa ?_
  refine TL_nil (TX_next (TC_seq (TC_seq (TC_region (TVm ?_)))))
  refine TLv (V_len_str rfl underlying9) ?_
  refine TLv (V_bin rfl rfl (fun w=>gtrI w ((t_Body).length:Int) 32)) ?_
  refine TL_nil (TX_next ?_)
  obtain ⟨j1,Hj,H⟩:=bind_elim H
  refine TC_join (Γ:=Unit) (fun gj1=>[(1,ptr (some (b1,0)) 0),(2,ptr (some (b2,0)) 0),(4,vs j1)]) (fun gj1=>[⟨some (b1,0),[vi t_Tag]⟩,⟨some (b1,1),[vs t_Body]⟩,⟨some (b2,0),e64 ((replicate 4 0#64).toList)⟩]) ?_ ?_
  ·intro gj1
   refine TX_next (TC_seq (TC_region (TVm ?_)))
   refine TLv (V_len_str rfl underlying9) ?_
   refine TLv (V_bin rfl rfl (fun w=>subI w 32 ((j1).length:Int))) ?_
   obtain ⟨h1,H⟩:=if_elim H
   refine TLe (E_mk1 rfl rfl underlying42 inf5 (z:=v8 0#8) rfl rfl rfl (B:=1) rfl h1.1 (Int.le_refl _) (by have:=h1; omega) (by have:=h1; omega) (n':=(w64 (32 - ((j1).length:Int))).toNat) (c':=(w64 (32 - ((j1).length:Int))).toNat) rfl rfl (cs:=e8 (List.replicate ((w64 (32 - ((j1).length:Int))).toNat) 0#8)) (rep_map (f:=v8))) (fun b3=>?_)
   obtain ⟨h2,H⟩:=if_elim H
   refine TLv (V_b2s rfl underlying42 underlying5 underlying9 (.o 0) h2) ?_
   refine TVm ?_
   obtain ⟨h3,H⟩:=if_elim H
   refine TLv (V_bin rfl rfl (fun w=>addS w (List.replicate ((w64 (32 - ((j1).length:Int))).toNat) 0#8) j1 h3)) ?_
   obtain ⟨r_1,hr_1,H⟩:=bind_elim H
   refine TLe (E_c0 (F32_calls ((List.replicate ((w64 (32 - ((j1).length:Int))).toNat) 0#8)++j1) r_1 hr_1) call32 .z) (fun g_1=>?_)
   refine TVm ?_
   refine TLv V_ex ?_
   refine TLv V_ex ?_
   refine TLe (E_al64 4 inf57 zer57) (fun b4=>?_)
   refine TLn (E_sv (vs:=e64 r_1.1.toList) 0 inf57) (fun _=>?_)
   refine TVa ?_
   refine TL_nil (TX_next (TC_seq (TC_region (TVm ?_))))
   obtain ⟨r_2,hr_2,H⟩:=bind_elim H
   refine TLe (E_c0 (F61_calls j1 r_2 hr_2) call61 .z) (fun g_2=>?_)
   refine TVm ?_
   refine TLv V_ex ?_
   refine TLv V_ex ?_
   refine TVa ?_
   refine TVa ?_
   refine TL_nil (TX_next (TC_seq (TC_region (TLv (V_fieldE rfl underlying123 rfl rfl inf3 rfl (v:=ptr (some (b1,0)) 0) rfl) ?_))))
   refine TLv (V_load rfl (.o 2) rfl isAgg3) ?_
   refine TLv (V_fieldE rfl underlying123 rfl rfl inf9 rfl (v:=ptr (some (b1,1)) 0) rfl) ?_
   refine TLv (V_load rfl (.o 3) rfl isAgg9) ?_
   refine TLe (E_buildSlice (pv:=[(0,vs t_Body)]) rfl rfl underlying46 inf9 (s:=1) rfl zer9 rfl rfl rfl (cs:=eS ([t_Body]:List (Str))) (by kernel_rfl)) (fun b5=>?_)
   obtain ⟨h4,H⟩:=if_elim H
   refine TL_re (d:=44) (v:=sl (some (b5,0)) 1 1) (v':=sl (some (b5,0)) ((([t_Body]:List (Str))).length) ((([t_Body]:List (Str))).length)) rfl (congrArg (fun n=>sl (some (b5,0)) n n) h4.symm) ?_
   obtain ⟨r_3,hr_3,H⟩:=bind_elim H
   refine TLe (E_c0 (F63_calls (some (b5,0)) ((([t_Body]:List (Str))).length) t_Tag ([t_Body]:List (Str)) (Nat.le_refl _) r_3 hr_3) call63 ⟨.o 0,trivial⟩) (fun g_3=>?_)
   refine TVm ?_
   refine TLv V_ex ?_
   refine TLv V_ex ?_
   refine TVa ?_
   refine TVa ?_
   refine TL_nil (TX_next (TC.sub (m':=[(2,_),(5,_),(6,_),(7,_),(9,_)]) ⟨rfl,rfl,rfl,rfl,rfl,trivial⟩ ?_))
   refine TC.pull (is:=[5,1]) (L':=[_,_]) rfl ?_
   refine TC_seq (TC_region (TLv (V_lag (.o 1) isAgg57 inf57) ?_))
   refine TVm ?_
   refine TVm ?_
   refine TFb (d:=50) H (fun hc H=>?_) (fun hc H=>?_)
   ·refine TLw (V_move rfl) ?_
    refine TLw (V_move rfl) ?_
    refine TLw (V_bin rfl rfl (fun w=>eqlS w r_2.1 r_3.1)) ?_
    refine TVt ?_
    refine TLn (E_sv (vs:=e64 r_1.1.toList) 0 inf57) (fun _=>?_)
    refine TVa ?_
    obtain ⟨x1,hx1,H⟩:=ltt_elim H
    refine TLr 3 (congrArg vb hx1) ?_
    refine TL_nil (TX_next (TC_ret ?_))
    obtain rfl:=sj H
    exact TXr (vs:=[_,_]) rfl ⟨(Res_agg (n:=4) rfl (by simp) (.o 0) isAgg57 inf57 rfl (lenV (f:=v64) r_1.1)),rfl,trivial⟩
   ·refine TLs ?_
    refine TLs ?_
    refine TLs ?_
    refine TVf ?_
    refine TLn (E_sv (vs:=e64 r_1.1.toList) 0 inf57) (fun _=>?_)
    refine TVa ?_
    refine TL_nil (TX_next (TC_ret ?_))
    obtain rfl:=sj H
    exact TXr (vs:=[_,_]) rfl ⟨(Res_agg (n:=4) rfl (by simp) (.o 0) isAgg57 inf57 rfl (lenV (f:=v64) r_1.1)),rfl,trivial⟩
  ·intro hJ
   replace H:=Hj
   refine TCd H (fun hc H=>?_) (fun hc H=>?_)
   ·refine TC_region (TVm ?_)
    obtain ⟨h5,H⟩:=if_elim H
    refine TLv (V_sliceStr (l:=1) (h:=(t_Body).length) rfl underlying9 (Bnd.some' (i:=1) rfl (by decide)) Bnd.none' h5 (Nat.le_refl _)) ?_
    refine TVa ?_
    obtain ⟨b6,hb6,H⟩:=ltt_elim H
    refine TLr 4 (congrArg vs hb6) ?_
    refine TL_nil ?_
    obtain rfl:=sj H
    exact TXj [1,1,0] (hJ ())
   ·refine TC_skip ?_
    obtain rfl:=sj H
    exact TXj [1,1,0] (hJ ())
end Go.Proofs
end

section
namespace Go.Proofs
open Go Go.Kx
open Vector (replicate)
open TryI Try
def ecdsa_read (sig:Str):Option (Vx 64 4 × Vx 64 4 × Bool) :=
 (der_Get sig 0).bind fun (r_1:Int × Str × Int × Int)=>((if r_1.2.2.2 ≠ 0 then (some true) else (if r_1.2.2.1 ≠ ((sig).length:Int) then (some true) else (some (decide (r_1.1 ≠ 48))))).bind fun (j1:Bool)=>(if j1=true then (ltt ((replicate 4 0#64:Vx 64 4)) fun (m_1:Vx 64 4)=>(ltt ((replicate 4 0#64:Vx 64 4)) fun (m_2:Vx 64 4)=>(some (m_1,m_2,false)))) else ((der_All r_1.2.1).bind fun (r_2:Int × (List (Int × Str)))=>((if r_2.1 ≠ 0 then (some true) else (some (decide (((r_2.2).length:Int) ≠ 2)))).bind fun (j2:Bool)=>(if j2=true then (ltt ((replicate 4 0#64:Vx 64 4)) fun (m_3:Vx 64 4)=>(ltt ((replicate 4 0#64:Vx 64 4)) fun (m_4:Vx 64 4)=>(some (m_3,m_4,false)))) else (if 0≤(0:Int)∧(0:Int)<((r_2.2).length:Int) then ((ecdsa_integer ((lg r_2.2 0).1) ((lg r_2.2 0).2)).bind fun (r_3:Vx 64 4 × Bool)=>(if 0≤(1:Int)∧(1:Int)<((r_2.2).length:Int) then ((ecdsa_integer ((lg r_2.2 1).1) ((lg r_2.2 1).2)).bind fun (r_4:Vx 64 4 × Bool)=>(if r_3.2=true then (some (r_3.1,r_4.1,r_4.2)) else (some (r_3.1,r_4.1,false)))) else none)) else none))))))
set_option maxHeartbeats 4000000 in
set_option maxRecDepth 20000 in
theorem F69_calls (sig:Str) (r:Vx 64 4 × Vx 64 4 × Bool) (H:ecdsa_read sig=some r) :
  Does Try.prog 69 [vs sig] [] [] (Γ:=Unit) (fun g=>Value.tuple [aG [(4,e64 r.1.toList)],aG [(4,e64 r.2.1.toList)],vb r.2.2].toArray) (fun g=>[]):=by
 intro w hmem hro hd
 refine calls_of (N:=69) (m0:=[(0,vs sig)]) func69 rfl ntmps69 (argM_ok [vs sig]) rfl hmem hro hd ?_
 unfold ecdsa_read at H
 refine TC_seq (TC_region (TLe (E_al64 4 inf57 zer57) (fun b1=>?_)))
 refine TLe (E_al64 4 inf57 zer57) (fun b2=>?_)
 refine TVa ?_
 refine TL_nil (TX_next (TC_seq (TC_region (TVm ?_))))
 obtain ⟨r_1,hr_1,H⟩:=bind_elim H
 refine TLe (E_c0 (F93_calls sig 0 r_1 hr_1) call93 .z) (fun g_1=>?_)
 refine TVm ?_
 refine TLv V_ex ?_
 refine TLv V_ex ?_
 refine TLv V_ex ?_
 refine TLe (E_allocP [(1,[vi 0]),(1,[vs ([]:Str)])] inf123 zer123 ⟨rfl,rfl,trivial⟩) (fun b3=>?_)
 refine TLn (E_sp (b:=b3) (o:=0) [0,0] [(1,[vi 0]),(1,[vs ([]:Str)])] [(1,[vi r_1.1]),(1,[vs r_1.2.1])] rfl inf123 ⟨rfl,rfl,trivial⟩ ⟨rfl,rfl,trivial⟩ ⟨(OneC.cons rfl OneC.nil),(OneC.cons rfl OneC.nil),trivial⟩) (fun _=>?_)
 refine TVa ?_
 refine TVa ?_
 refine TL_nil (TX_next (TC_seq (TC_seq (TC_region (TVm ?_)))))
 refine TLv (V_bin rfl rfl (fun w=>neqI w r_1.2.2.2 0)) ?_
 refine TVm ?_
 obtain ⟨j1,Hj,H⟩:=bind_elim H
 refine TL_join (Γ:=Unit) (fun gj1=>[(2,ptr (some (b1,0)) 0),(3,ptr (some (b2,0)) 0),(5,ptr (some (b3,0)) 0),(31,vb j1)]) (fun gj1=>[⟨some (b1,0),e64 ((replicate 4 0#64).toList)⟩,⟨some (b2,0),e64 ((replicate 4 0#64).toList)⟩,⟨some (b3,0),[vi r_1.1]⟩,⟨some (b3,1),[vs r_1.2.1]⟩]) ?_ ?_
 ·intro gj1
  refine TX_next (TCb H (fun hc H=>?_) (fun hc H=>?_))
  ·refine TC_seq (TC_region (TLv (V_buildArr (pv:=[]) rfl rfl underlying57 inf57 inf55 rfl zer57 (cs:=e64 ((replicate 4 0#64:Vx 64 4).toList)) (by kernel_rfl)) ?_))
   refine TLv (V_buildArr (pv:=[]) rfl rfl underlying57 inf57 inf55 rfl zer57 (cs:=e64 ((replicate 4 0#64:Vx 64 4).toList)) (by kernel_rfl)) ?_
   refine TLn (E_sv 0 inf57) (fun _=>?_)
   obtain ⟨m_1,hm_1,H⟩:=ltt_elim H
   refine TL_reE (j:=0) (A:=some (b1,0)) (cs:=e64 ((replicate 4 0#64:Vx 64 4).toList)) (cs':=e64 m_1.toList) rfl (congrArg (fun z:Vx 64 4=>e64 (Vector.toList z)) hm_1) ?_
   refine TLn (E_sv 1 inf57) (fun _=>?_)
   obtain ⟨m_2,hm_2,H⟩:=ltt_elim H
   refine TL_reE (j:=1) (A:=some (b2,0)) (cs:=e64 ((replicate 4 0#64:Vx 64 4).toList)) (cs':=e64 m_2.toList) rfl (congrArg (fun z:Vx 64 4=>e64 (Vector.toList z)) hm_2) ?_
   refine TVa ?_
   refine TL_nil (TX_next (TC_ret (TX_then_ret ?_)))
   obtain rfl:=sj H
   exact TXr (vs:=[_,_,_]) rfl ⟨(Res_agg (n:=4) rfl (by simp) (.o 0) isAgg57 inf57 rfl (lenV (f:=v64) m_1)),(Res_agg (n:=4) rfl (by simp) (.o 1) isAgg57 inf57 rfl (lenV (f:=v64) m_2)),rfl,trivial⟩
  ·refine TC_skip (TX_next (TC_seq (TC_region (TLv (V_fieldE rfl underlying123 rfl rfl inf9 rfl (v:=ptr (some (b3,1)) 0) rfl) ?_))))
   refine TLv (V_load rfl (.o 3) rfl isAgg9) ?_
   obtain ⟨r_2,hr_2,H⟩:=bind_elim H
   refine TLe (E_call (Γ:=Adr × (List (Int × Str))) (val:=fun g=>Value.tuple [sl g.1 ((r_2.2).length) ((r_2.2++g.2).length),vi r_2.1].toArray) (mem:=fun g=>[⟨g.1,eF (fun p:Int × Str=>[vi p.1,vs p.2]) (r_2.2++g.2)⟩]) (vs:=[vs r_1.2.1]) (Lin:=[]) (Ro:=[]) (is:=[]) rfl call94 (F94_calls r_1.2.1 r_2 hr_2) rfl trivial) (fun g_2=>?_)
   refine TVm ?_
   refine TLv V_ex ?_
   refine TLv V_ex ?_
   refine TVa ?_
   refine TVa ?_
   refine TL_nil (TX_next (TC_seq (TC_seq (TC_region (TVm ?_)))))
   refine TLv (V_bin rfl rfl (fun w=>neqI w r_2.1 0)) ?_
   refine TVm ?_
   obtain ⟨j2,Hj,H⟩:=bind_elim H
   refine TL_join (Γ:=Unit) (fun gj2=>[(2,ptr (some (b1,0)) 0),(3,ptr (some (b2,0)) 0),(8,sl g_2.1 ((r_2.2).length) ((r_2.2++g_2.2).length)),(46,vb j2)]) (fun gj2=>[⟨some (b1,0),e64 ((replicate 4 0#64).toList)⟩,⟨some (b2,0),e64 ((replicate 4 0#64).toList)⟩,⟨g_2.1,eF (fun p:Int × Str=>[vi p.1,vs p.2]) (r_2.2++g_2.2)⟩]) ?_ ?_
   ·intro gj2
    refine TX_next (TCb H (fun hc H=>?_) (fun hc H=>?_))
    ·refine TC_seq (TC_region (TLv (V_buildArr (pv:=[]) rfl rfl underlying57 inf57 inf55 rfl zer57 (cs:=e64 ((replicate 4 0#64:Vx 64 4).toList)) (by kernel_rfl)) ?_))
     refine TLv (V_buildArr (pv:=[]) rfl rfl underlying57 inf57 inf55 rfl zer57 (cs:=e64 ((replicate 4 0#64:Vx 64 4).toList)) (by kernel_rfl)) ?_
     refine TLn (E_sv 0 inf57) (fun _=>?_)
     obtain ⟨m_3,hm_3,H⟩:=ltt_elim H
     refine TL_reE (j:=0) (A:=some (b1,0)) (cs:=e64 ((replicate 4 0#64:Vx 64 4).toList)) (cs':=e64 m_3.toList) rfl (congrArg (fun z:Vx 64 4=>e64 (Vector.toList z)) hm_3) ?_
     refine TLn (E_sv 1 inf57) (fun _=>?_)
     obtain ⟨m_4,hm_4,H⟩:=ltt_elim H
     refine TL_reE (j:=1) (A:=some (b2,0)) (cs:=e64 ((replicate 4 0#64:Vx 64 4).toList)) (cs':=e64 m_4.toList) rfl (congrArg (fun z:Vx 64 4=>e64 (Vector.toList z)) hm_4) ?_
     refine TVa ?_
     refine TL_nil (TX_next (TC_ret (TX_then_ret ?_)))
     obtain rfl:=sj H
     exact TXr (vs:=[_,_,_]) rfl ⟨(Res_agg (n:=4) rfl (by simp) (.o 0) isAgg57 inf57 rfl (lenV (f:=v64) m_3)),(Res_agg (n:=4) rfl (by simp) (.o 1) isAgg57 inf57 rfl (lenV (f:=v64) m_4)),rfl,trivial⟩
    ·refine TC_skip (TX_next (TC_seq (TC_region (TVm ?_))))
     obtain ⟨h1,H⟩:=if_elim H
     refine TLv (V_idxSlS (i:=0) rfl rfl underlying126 inf123 rfl (.o 2) (eF_ne2 (s:=2) (fun _=>rfl) rfl (lt_app (toNat_lt h1.1 h1.2))) h1.1 h1.2 (k:=0 * 2) rfl) ?_
     refine TLv (V_loadPart (n:=2) (ds:=[vi ((lg r_2.2 0).1),vs ((lg r_2.2 0).2)]) rfl (.o 2) ((part_eF (g:=fun p:Int × Str=>[vi p.1,vs p.2]) (s:=2) (fun _=>rfl) (r_2.2++g_2.2) 0 (lt_app (toNat_lt h1.1 h1.2))).trans (congrArg (fun p:Int × Str=>[vi p.1,vs p.2]) (lg_app (toNat_lt h1.1 h1.2)))) rfl rfl isAgg123 inf123 rfl) ?_
     obtain ⟨r_3,hr_3,H⟩:=bind_elim H
     refine TLe (E_c0 (F95_calls ((lg r_2.2 0).1) ((lg r_2.2 0).2) r_3 hr_3) call95 .z) (fun g_3=>?_)
     refine TVm ?_
     refine TLv V_ex ?_
     refine TLv V_ex ?_
     refine TLe (E_al64 4 inf57 zer57) (fun b4=>?_)
     refine TLn (E_sv (vs:=e64 r_3.1.toList) 0 inf57) (fun _=>?_)
     refine TVa ?_
     refine TL_nil (TX_next (TC_seq (TC_region (TVm ?_))))
     obtain ⟨h2,H⟩:=if_elim H
     refine TLv (V_idxSlS (i:=1) rfl rfl underlying126 inf123 rfl (.o 3) (eF_ne2 (s:=2) (fun _=>rfl) rfl (lt_app (toNat_lt h2.1 h2.2))) h2.1 h2.2 (k:=1 * 2) rfl) ?_
     refine TLv (V_loadPart (n:=2) (ds:=[vi ((lg r_2.2 1).1),vs ((lg r_2.2 1).2)]) rfl (.o 3) ((part_eF (g:=fun p:Int × Str=>[vi p.1,vs p.2]) (s:=2) (fun _=>rfl) (r_2.2++g_2.2) 1 (lt_app (toNat_lt h2.1 h2.2))).trans (congrArg (fun p:Int × Str=>[vi p.1,vs p.2]) (lg_app (toNat_lt h2.1 h2.2)))) rfl rfl isAgg123 inf123 rfl) ?_
     obtain ⟨r_4,hr_4,H⟩:=bind_elim H
     refine TLe (E_c0 (F95_calls ((lg r_2.2 1).1) ((lg r_2.2 1).2) r_4 hr_4) call95 .z) (fun g_4=>?_)
     refine TVm ?_
     refine TLv V_ex ?_
     refine TLv V_ex ?_
     refine TLe (E_al64 4 inf57 zer57) (fun b5=>?_)
     refine TLn (E_sv (vs:=e64 r_4.1.toList) 0 inf57) (fun _=>?_)
     refine TVa ?_
     refine TL_nil (TX_next (TC_seq (TC_em r_3.2 (fun hg9_4=>?_) (fun hg9_4=>?_))))
     ·replace H:=ite_t hg9_4 H
      refine TA_begin [⟨some (b5,0),e64 r_4.1.toList⟩,⟨some (b4,0),e64 r_3.1.toList⟩,⟨g_2.1,eF (fun p:Int × Str=>[vi p.1,vs p.2]) (r_2.2++g_2.2)⟩] 8 (by kernel_rfl) (N:=9) rfl ?_
      refine TA_tk 0 [0,0,2] (dn 9 1) rfl rfl (V_lag (.o 1) isAgg57 inf57) ?_
      refine TA_tk 1 [0,0,2] (dn 9 3) rfl rfl (V_lag (.o 0) isAgg57 inf57) ?_
      refine TA_tk 2 [0,0,2] (dn 9 7) rfl rfl (V_move rfl) ?_
      refine TA_tk 3 [0,0,2] (dn 9 15) rfl rfl (V_move rfl) ?_
      refine TA_re (d:=66) (v:=vb r_3.2) (v':=vb true) rfl (congrArg vb hg9_4) ?_
      refine TA_tw 4 [0,0,2] (dn 9 31) rfl rfl (V_move rfl) ?_
      refine TA_tk 5 [0,0,2] (dn 9 63) rfl rfl (V_pick (b:=true) rfl rfl) ?_
      refine TA_all (rs:=[6]) (by kernel_rfl) rfl ?_
      refine ⟨?_,trivial⟩
      refine TO_n (is:=[0,0,2]) (done':=dn 9 127) rfl rfl rfl (by kernel_rfl) (E_sv (vs:=e64 r_3.1.toList) 2 inf57) (fun _ _=>rfl) (fun _=>?_)
      refine TA_all (rs:=[7]) (by kernel_rfl) rfl ?_
      refine ⟨?_,trivial⟩
      refine TO_n (is:=[0,0,2]) (done':=dn 9 255) rfl rfl rfl (by kernel_rfl) (E_sv (vs:=e64 r_4.1.toList) 3 inf57) (fun _ _=>rfl) (fun _=>?_)
      refine TA_all (rs:=[8]) (by kernel_rfl) rfl ?_
      refine ⟨?_,trivial⟩
      refine TO_v (is:=[]) (R:=[]) (done':=dn 9 511) rfl rfl rfl rfl (by kernel_rfl) (V_assign rfl) (fun h=>by cases h) ?_
      refine TA_done (by kernel_rfl) ?_ 0
      refine TX_next (TC_ret ?_)
      obtain rfl:=sj H
      exact TXr (vs:=[_,_,_]) rfl ⟨(Res_agg (n:=4) rfl (by simp) (.o 2) isAgg57 inf57 rfl (lenV (f:=v64) r_3.1)),(Res_agg (n:=4) rfl (by simp) (.o 3) isAgg57 inf57 rfl (lenV (f:=v64) r_4.1)),rfl,trivial⟩
     ·replace H:=ite_f (Bool.eq_false_iff.1 hg9_4) H
      refine TA_begin [⟨some (b5,0),e64 r_4.1.toList⟩,⟨some (b4,0),e64 r_3.1.toList⟩,⟨g_2.1,eF (fun p:Int × Str=>[vi p.1,vs p.2]) (r_2.2++g_2.2)⟩] 8 (by kernel_rfl) (N:=9) rfl ?_
      refine TA_tk 0 [0,0,2] (dn 9 1) rfl rfl (V_lag (.o 1) isAgg57 inf57) ?_
      refine TA_tk 1 [0,0,2] (dn 9 3) rfl rfl (V_lag (.o 0) isAgg57 inf57) ?_
      refine TA_tk 2 [0,0,2] (dn 9 7) rfl rfl (V_move rfl) ?_
      refine TA_tk 3 [0,0,2] (dn 9 15) rfl rfl (V_move rfl) ?_
      refine TA_re (d:=66) (v:=vb r_3.2) (v':=vb false) rfl (congrArg vb hg9_4) ?_
      refine TA_ts 4 [0,0,2] (dn 9 31) rfl rfl ?_
      refine TA_tk 5 [0,0,2] (dn 9 63) rfl rfl (V_pick (b:=false) rfl rfl) ?_
      refine TA_all (rs:=[6]) (by kernel_rfl) rfl ?_
      refine ⟨?_,trivial⟩
      refine TO_n (is:=[0,0,2]) (done':=dn 9 127) rfl rfl rfl (by kernel_rfl) (E_sv (vs:=e64 r_3.1.toList) 2 inf57) (fun _ _=>rfl) (fun _=>?_)
      refine TA_all (rs:=[7]) (by kernel_rfl) rfl ?_
      refine ⟨?_,trivial⟩
      refine TO_n (is:=[0,0,2]) (done':=dn 9 255) rfl rfl rfl (by kernel_rfl) (E_sv (vs:=e64 r_4.1.toList) 3 inf57) (fun _ _=>rfl) (fun _=>?_)
      refine TA_all (rs:=[8]) (by kernel_rfl) rfl ?_
      refine ⟨?_,trivial⟩
      refine TO_v (is:=[]) (R:=[]) (done':=dn 9 511) rfl rfl rfl rfl (by kernel_rfl) (V_assign rfl) (fun h=>by cases h) ?_
      refine TA_done (by kernel_rfl) ?_ 0
      refine TX_next (TC_ret ?_)
      obtain rfl:=sj H
      exact TXr (vs:=[_,_,_]) rfl ⟨(Res_agg (n:=4) rfl (by simp) (.o 2) isAgg57 inf57 rfl (lenV (f:=v64) r_3.1)),(Res_agg (n:=4) rfl (by simp) (.o 3) isAgg57 inf57 rfl (lenV (f:=v64) r_4.1)),rfl,trivial⟩
   ·intro hJ
    replace H:=Hj
    refine TFd (d:=42) H (fun hc H=>?_) (fun hc H=>?_)
    ·refine TLs ?_
     refine TLs ?_
     refine TLs ?_
     refine TVt ?_
     refine TL_nil ?_
     obtain rfl:=sj H
     exact TXj [1,1,0] (hJ ())
    ·refine TLw (V_move rfl) ?_
     refine TLw (V_len_slice rfl underlying126) ?_
     refine TLw (V_bin rfl rfl (fun w=>neqI w ((r_2.2).length:Int) 2)) ?_
     refine TVf ?_
     refine TL_nil ?_
     obtain rfl:=sj H
     exact TXj [1,1,0] (hJ ())
 ·intro hJ
  replace H:=Hj
  refine TFd (d:=21) H (fun hc H=>?_) (fun hc H=>?_)
  ·refine TLs ?_
   refine TLs ?_
   refine TLs ?_
   refine TLs ?_
   refine TVt ?_
   refine TVm ?_
   refine TLs ?_
   refine TLs ?_
   refine TLs ?_
   refine TVt ?_
   refine TL_nil ?_
   obtain rfl:=sj H
   exact TXj [3,2,0,0] (hJ ())
  ·refine TLw (V_move rfl) ?_
   refine TLw (V_move rfl) ?_
   refine TLw (V_len_str rfl underlying9) ?_
   refine TLw (V_bin rfl rfl (fun w=>neqI w r_1.2.2.1 ((sig).length:Int))) ?_
   refine TVf ?_
   refine TVm ?_
   refine TFd (d:=27) H (fun hc H=>?_) (fun hc H=>?_)
   ·refine TLs ?_
    refine TLs ?_
    refine TLs ?_
    refine TVt ?_
    refine TL_nil ?_
    obtain rfl:=sj H
    exact TXj [3,2,0,0] (hJ ())
   ·refine TLw (V_fieldE rfl underlying123 rfl rfl inf3 rfl (v:=ptr (some (b3,0)) 0) rfl) ?_
    refine TLw (V_load rfl (.o 0) rfl isAgg3) ?_
    refine TLw (V_bin rfl rfl (fun w=>neqI w r_1.1 48)) ?_
    refine TVf ?_
    refine TL_nil ?_
    obtain rfl:=sj H
    exact TXj [3,2,0,0] (hJ ())
end Go.Proofs
end

section
namespace Go.Kx
open Go Go.Proofs
open Go.Nt hiding n4
theorem sg_lt (s:Str) (i:Int):(sg s i).toNat<256:=(sg s i).isLt
theorem or_bytes (a b:Nat) (ha:a<256) (hb:b<256):iop (· ||| ·) (shlI' (a:Int) 8) (b:Int)=((a * 256+b:Nat):Int):=by
 unfold iop shlI'
 have e0:w64 ((a:Int) * 2 ^ (min (8:Int).toNat 64))=((a * 256:Nat):Int):=by
  have:(2:Int) ^ (min (8:Int).toNat 64)=256:=by decide
  rw [this,w64_id (by omega) (by omega)]; omega
 rw [e0]
 have e1:((BitVec.ofInt 64 ((a * 256:Nat):Int)) ||| (BitVec.ofInt 64 (b:Int))).toNat=a * 256+b:=by
  rw [BitVec.toNat_or,BitVec.ofInt_natCast,BitVec.ofInt_natCast,BitVec.toNat_ofNat,BitVec.toNat_ofNat,Nat.mod_eq_of_lt (by omega),Nat.mod_eq_of_lt (by omega)]
  have:=Nat.shiftLeft_add_eq_or_of_lt (i:=8) (b:=b) (by omega) a
  rw [Nat.shiftLeft_eq] at this
  exact this.symm
 show w64 (((BitVec.ofInt 64 ((a * 256:Nat):Int)) ||| (BitVec.ofInt 64 (b:Int))).toNat:Int)=_
 rw [e1,w64_id (by omega) (by omega)]
theorem length_ex (s:Str) (at_:Nat) (hs:s.length<4611686018427387904) (ha:at_≤s.length) :
  ∃ n p,der_length s (at_:Int)=some (n,p)∧(p = -1 ∨ (0≤n∧n<65536∧(at_:Int)<p∧p≤s.length∧(n<128 → p=at_+1∧at_<s.length∧n=((sg s (at_:Int)).toNat:Int)))):=by
 have w1:w64 ((at_:Int)+1)=((at_+1:Nat):Int):=w64_add (b:=1) (by omega)
 have w2:w64 ((at_:Int)+2)=((at_+2:Nat):Int):=w64_add (b:=2) (by omega)
 have w3:w64 (((at_+1:Nat):Int)+1)=((at_+2:Nat):Int):=w64_add (b:=1) (by omega)
 have w4:w64 (((at_+1:Nat):Int)+2)=((at_+3:Nat):Int):=w64_add (b:=2) (by omega)
 unfold der_length
 by_cases h0:s.length≤at_
 ·exact ⟨_,_,if_i (by omega) rfl, .inl rfl⟩
 have hc:=sg_lt s (at_:Int)
 generalize (sg s (at_:Int)).toNat=c at hc
 by_cases h1:c<128
 ·refine ⟨(c:Int),((at_+1:Nat):Int),if_n (by omega) (if_i (by omega) (ltt_i fun c' hc'=>ltt_i fun x hx=>?_)), .inr ⟨by omega,by omega,by omega,by omega,fun _=>⟨by omega,by omega,rfl⟩⟩⟩
  subst hc'
  refine if_i (by rw [hx]; simp; omega) (ltt_i fun y hy=>?_)
  rw [hy,w1]
 have go : ∀ r:Option (Int × Int),(∀ c':Int,c'=(c:Int) → (ltt (decide (c'=130)) fun (x3:Bool)=>(if x3=true then (if ((s).length:Int)≤(w64 ((at_:Int)+2)) then (some (0,(-1))) else (ltt (w64 ((at_:Int)+1)) fun (at_1:Int)=>(if 0≤at_1∧at_1<((s).length:Int) then (ltt (((sg s at_1).toNat:Int)) fun (n1:Int)=>(if ((s).length:Int)≤(w64 (at_1+1)) then (some (0,(-1))) else (if 0≤w64 (at_1+1)∧w64 (at_1+1)<((s).length:Int) then (ltt (iop (· ||| ·) (shlI' n1 8) ((sg s (w64 (at_1+1))).toNat:Int)) fun (n2:Int)=>(ltt (w64 (128+128)) fun (least1:Int)=>(if n2<least1 then (some (0,(-1))) else (ltt (w64 (at_1+2)) fun (x4:Int)=>(some (n2,x4)))))) else none))) else none))) else (ltt (decide (c'=129)) fun (x5:Bool)=>(if x5=true then (if ((s).length:Int)≤(w64 ((at_:Int)+1)) then (some (0,(-1))) else (if 0≤w64 ((at_:Int)+1)∧w64 ((at_:Int)+1)<((s).length:Int) then (ltt (iop (· ||| ·) (shlI' 0 8) ((sg s (w64 ((at_:Int)+1))).toNat:Int)) fun (n3:Int)=>(ltt (w64 (0+128)) fun (least2:Int)=>(if n3<least2 then (some (0,(-1))) else (ltt (w64 ((at_:Int)+2)) fun (x6:Int)=>(some (n3,x6)))))) else none)) else (some (0,(-1)))))))=r) →
   (if ((s).length:Int)≤(at_:Int) then (some (0,(-1))) else (if 0≤(at_:Int)∧(at_:Int)<((s).length:Int) then (ltt ((c:Int)) fun (c1:Int)=>(ltt (decide (c1<128)) fun (x1:Bool)=>(if x1=true then (ltt (w64 ((at_:Int)+1)) fun (x2:Int)=>(some (c1,x2))) else (ltt (decide (c1=130)) fun (x3:Bool)=>(if x3=true then (if ((s).length:Int)≤(w64 ((at_:Int)+2)) then (some (0,(-1))) else (ltt (w64 ((at_:Int)+1)) fun (at_1:Int)=>(if 0≤at_1∧at_1<((s).length:Int) then (ltt (((sg s at_1).toNat:Int)) fun (n1:Int)=>(if ((s).length:Int)≤(w64 (at_1+1)) then (some (0,(-1))) else (if 0≤w64 (at_1+1)∧w64 (at_1+1)<((s).length:Int) then (ltt (iop (· ||| ·) (shlI' n1 8) ((sg s (w64 (at_1+1))).toNat:Int)) fun (n2:Int)=>(ltt (w64 (128+128)) fun (least1:Int)=>(if n2<least1 then (some (0,(-1))) else (ltt (w64 (at_1+2)) fun (x4:Int)=>(some (n2,x4)))))) else none))) else none))) else (ltt (decide (c1=129)) fun (x5:Bool)=>(if x5=true then (if ((s).length:Int)≤(w64 ((at_:Int)+1)) then (some (0,(-1))) else (if 0≤w64 ((at_:Int)+1)∧w64 ((at_:Int)+1)<((s).length:Int) then (ltt (iop (· ||| ·) (shlI' 0 8) ((sg s (w64 ((at_:Int)+1))).toNat:Int)) fun (n3:Int)=>(ltt (w64 (0+128)) fun (least2:Int)=>(if n3<least2 then (some (0,(-1))) else (ltt (w64 ((at_:Int)+2)) fun (x6:Int)=>(some (n3,x6)))))) else none)) else (some (0,(-1)))))))))) else none))=r:=fun r h =>
  if_n (by omega) (if_i (by omega) (ltt_i fun c' hc'=>ltt_i fun x hx=>if_n (by rw [hx,hc']; simp; omega) (h c' hc')))
 have hd:=sg_lt s ((at_+1:Nat):Int)
 have he:=sg_lt s ((at_+2:Nat):Int)
 by_cases h2:c=130
 ·by_cases h3:s.length≤at_+2
  ·exact ⟨_,_,go _ fun c' hc'=>ltt_i fun x hx=>if_i (by rw [hx,hc']; simp; omega) (if_i (by rw [w2]; omega) rfl), .inl rfl⟩
  ·have key : ∀ r,(if ((((sg s ((at_+1:Nat):Int)).toNat * 256+(sg s ((at_+2:Nat):Int)).toNat:Nat)):Int)<w64 (128+128) then some ((0:Int),(-1:Int)) else some ((((sg s ((at_+1:Nat):Int)).toNat * 256+(sg s ((at_+2:Nat):Int)).toNat:Nat):Int),((at_+3:Nat):Int)))=r → _=r:=fun r hr =>
    go r fun c' hc'=>ltt_i fun x hx=>if_i (by rw [hx,hc']; simp; omega) (if_n (by rw [w2]; omega) (ltt_i fun a1 ha1=>by
     rw [w1] at ha1
     subst ha1
     refine if_i (by omega) (ltt_i fun n1 hn1=>if_n (by rw [w3]; omega) (if_i (by rw [w3]; omega) (ltt_i fun n2 hn2=>ltt_i fun l hl=>?_)))
     rw [w3,hn1,or_bytes _ _ hd he] at hn2
     subst hn2 hl
     unfold ltt
     rw [w4]; exact hr))
   by_cases h4:(sg s ((at_+1:Nat):Int)).toNat * 256+(sg s ((at_+2:Nat):Int)).toNat<256
   ·exact ⟨_,_,key _ (if_i (by rw [show w64 (128+128)=256 by decide]; omega) rfl), .inl rfl⟩
   ·exact ⟨_,_,key _ (if_n (by rw [show w64 (128+128)=256 by decide]; omega) rfl), .inr ⟨by omega,by omega,by omega,by omega,fun h=>by omega⟩⟩
 ·by_cases h3:c=129
  ·by_cases h4:s.length≤at_+1
   ·exact ⟨_,_,go _ fun c' hc'=>ltt_i fun x hx=>if_n (by rw [hx,hc']; simp; omega) (ltt_i fun y hy=>if_i (by rw [hy,hc']; simp; omega) (if_i (by rw [w1]; omega) rfl)), .inl rfl⟩
   ·have key : ∀ r,(if ((((sg s ((at_+1:Nat):Int)).toNat:Nat)):Int)<w64 (0+128) then some ((0:Int),(-1:Int)) else some ((((sg s ((at_+1:Nat):Int)).toNat:Nat):Int),((at_+2:Nat):Int)))=r → _=r:=fun r hr =>
     go r fun c' hc'=>ltt_i fun x hx=>if_n (by rw [hx,hc']; simp; omega) (ltt_i fun y hy=>if_i (by rw [hy,hc']; simp; omega) (if_n (by rw [w1]; omega) (if_i (by rw [w1]; omega) (ltt_i fun n2 hn2=>ltt_i fun l hl=>by
      have e0:=or_bytes 0 _ (by omega) hd
      rw [Nat.zero_mul,Nat.zero_add] at e0
      rw [w1] at hn2
      have hn3:n2=(((sg s ((at_+1:Nat):Int)).toNat:Nat):Int):=hn2.trans e0
      subst hn3 hl
      unfold ltt
      rw [w2]; exact hr))))
    by_cases h5:(sg s ((at_+1:Nat):Int)).toNat<128
    ·exact ⟨_,_,key _ (if_i (by rw [show w64 (0+128)=128 by decide]; omega) rfl), .inl rfl⟩
    ·exact ⟨_,_,key _ (if_n (by rw [show w64 (0+128)=128 by decide]; omega) rfl), .inr ⟨by omega,by omega,by omega,by omega,fun h=>by omega⟩⟩
  ·exact ⟨_,_,go _ fun c' hc'=>ltt_i fun x hx=>if_n (by rw [hx,hc']; simp; omega) (ltt_i fun y hy=>if_n (by rw [hy,hc']; simp; omega) rfl), .inl rfl⟩
theorem Get_ex (s:Str) (at_:Nat) (hs:s.length<4611686018427387904) (ha:at_≤s.length) :
  ∃ v,der_Get s (at_:Int)=some v∧(v.2.2.2 ≠ 0 ∨ ∃ h c:Nat,v=(((sg s (at_:Int)).toNat:Int),sub s (at_+h) (at_+h+c),((at_+h+c:Nat):Int),0)∧2≤h∧at_+h+c≤s.length∧c<65536∧(sg s (at_:Int)).toNat % 32 ≠ 31 ∧
   (c<128 → h=2∧(sg s ((at_+1:Nat):Int)).toNat=c)):=by
 unfold der_Get
 by_cases h0:s.length≤at_
 ·refine ⟨_,bind_i (v:=true) (if_n (by omega) (if_i (by omega) rfl)) (if_i rfl rfl), .inl (by simp)⟩
 by_cases ht:(sg s (at_:Int)).toNat % 32=31
 ·refine ⟨_,bind_i (v:=true) (if_n (by omega) (if_n (by omega) (if_i (by omega) (bind_i (tag_eq _ (sg_lt s _)) (by simp [ht]))))) (if_i rfl rfl), .inl (by simp)⟩
 have w1:w64 ((at_:Int)+1)=((at_+1:Nat):Int):=w64_add (b:=1) (by omega)
 obtain ⟨n,p,hl,hp⟩:=length_ex s (at_+1) hs (by omega)
 have h1:(if (at_:Int)<0 then some true else if (s.length:Int)≤at_ then some true else if 0≤(at_:Int)∧(at_:Int)<(s.length:Int) then (der_tag ((sg s (at_:Int)).toNat:Int)).bind fun r_2=>some (!r_2) else none)=some false :=
  if_n (by omega) (if_n (by omega) (if_i (by omega) (bind_i (tag_eq _ (sg_lt s _)) (by simp [ht]))))
 rcases hp with hp | ⟨n0,n1,p0,p1,hsh⟩
 ·subst hp
  exact ⟨_,bind_i h1 (if_n (by decide) (bind_i (by rw [w1]; exact hl) (bind_i (v:=true) (if_i (by dsimp only; omega) rfl) (if_i rfl rfl)))), .inl (by simp)⟩
 obtain ⟨c,rfl⟩ : ∃ c:Nat,n=(c:Int):=⟨n.toNat,by omega⟩
 obtain ⟨q,rfl⟩ : ∃ q:Nat,p=(q:Int):=⟨p.toNat,by omega⟩
 have w2:w64 ((s.length:Int) - (q:Int))=((s.length - q:Nat):Int):=by rw [w64_id (by omega) (by omega)]; omega
 have w3:w64 ((q:Int)+(c:Int))=((q+c:Nat):Int):=w64_add (by omega)
 by_cases hbig:s.length - q<c
 ·refine ⟨_,bind_i h1 (if_n (by decide) (bind_i (by rw [w1]; exact hl) (bind_i (v:=true) (if_n (by dsimp only; omega) ?_) (if_i rfl rfl)))), .inl (by simp)⟩
  dsimp only; rw [w2]; simp; omega
 ·refine ⟨_,bind_i h1 (if_n (by decide) (bind_i (by rw [w1]; exact hl) (bind_i (v:=false) (if_n (by dsimp only; omega) ?_) (if_n (by decide) (if_i (by omega) (if_i ?_ (if_i (by dsimp only; omega) (if_i ?_ (if_i ?_ rfl))))))))), .inr ⟨q - at_,c,?_,by omega,by omega,by omega,ht,fun hc=>?_⟩⟩
  ·dsimp only; rw [w2]; simp; omega
  ·dsimp only; rw [w3]; omega
  ·dsimp only; rw [w3]; omega
  ·dsimp only; rw [w3]; omega
  ·rw [w3]
   simp only [Int.toNat_natCast]
   rw [show at_+(q - at_)=q by omega]
  ·obtain ⟨e1,e2,e3⟩:=hsh (by omega)
   refine ⟨by omega,?_⟩
   omega
theorem Get_is (s:Str) (at_ c:Nat) (hs:s.length<4611686018427387904) (ha:at_+2+c≤s.length) (hc:c<128) (ht:(sg s (at_:Int)).toNat % 32 ≠ 31) (h1:(sg s ((at_+1:Nat):Int)).toNat=c) :
  der_Get s (at_:Int)=some (((sg s (at_:Int)).toNat:Int),sub s (at_+2) (at_+2+c),((at_+2+c:Nat):Int),0):=by
 have w1:w64 ((at_:Int)+1)=((at_+1:Nat):Int):=w64_add (b:=1) (by omega)
 have w1':w64 (((at_+1:Nat):Int)+1)=((at_+2:Nat):Int):=w64_add (b:=1) (by omega)
 have hl:der_length s ((at_+1:Nat):Int)=some ((c:Int),((at_+2:Nat):Int)):=by
  have b1 : ¬ ((s.length:Int)≤((at_+1:Nat):Int)):=by omega
  have b2:0≤((at_+1:Nat):Int)∧((at_+1:Nat):Int)<(s.length:Int):=by omega
  have b3:(c:Int)<128:=by omega
  clear hs ha ht w1
  unfold der_length
  refine if_n b1 (if_i b2 (ltt_i fun c1 hc1=>ltt_i fun x hx=>?_))
  rw [h1] at hc1
  subst hc1
  refine if_i (by rw [hx]; exact decide_eq_true b3) (ltt_i fun y hy=>?_)
  rw [hy,w1']
 have w2:w64 ((s.length:Int) - ((at_+2:Nat):Int))=((s.length - (at_+2):Nat):Int):=by rw [w64_id (by omega) (by omega)]; omega
 have w3:w64 (((at_+2:Nat):Int)+(c:Int))=((at_+2+c:Nat):Int):=w64_add (by omega)
 have g1:(if (at_:Int)<0 then some true else if (s.length:Int)≤at_ then some true else if 0≤(at_:Int)∧(at_:Int)<(s.length:Int) then (der_tag ((sg s (at_:Int)).toNat:Int)).bind fun r_2=>some (!r_2) else none)=some false :=
  if_n (by omega) (if_n (by omega) (if_i (by omega) (bind_i (tag_eq _ (sg_lt s _)) (by simp [ht]))))
 have a1 : ¬ (((at_+2:Nat):Int)<0):=by omega
 have a2 : ¬ (w64 ((s.length:Int) - ((at_+2:Nat):Int))<(c:Int)):=by rw [w2]; omega
 have a3:0≤(at_:Int)∧(at_:Int)<(s.length:Int):=by omega
 have a4:0≤w64 (((at_+2:Nat):Int)+(c:Int)):=by rw [w3]; omega
 have a5:(0:Int)≤((at_+2:Nat):Int):=by omega
 have a6:(w64 (((at_+2:Nat):Int)+(c:Int))).toNat≤s.length:=by rw [w3]; omega
 have a7:(((at_+2:Nat):Int)).toNat≤(w64 (((at_+2:Nat):Int)+(c:Int))).toNat:=by rw [w3]; omega
 unfold der_Get
 refine bind_i g1 (if_n Bool.false_ne_true ?_)
 refine bind_i (v:=((c:Int),((at_+2:Nat):Int))) (by rw [w1]; exact hl) ?_
 dsimp only
 refine bind_i (v:=false) ((if_neg a1).trans (congrArg some (decide_eq_false a2))) (if_n Bool.false_ne_true ?_)
 refine if_i a3 (if_i a4 (if_i a5 (if_i a6 (if_i a7 (ltt_i fun x hx=>?_)))))
 clear g1 hl a2 a4 a6 a7
 rw [hx]
 rw [w3]
 simp only [Int.toNat_natCast]
inductive Par (s:Str):Nat → List (Int × Str) → Prop where
 | nil:Par s 0 []
 | snoc {a b:Nat} {l:List (Int × Str)} {t:Int} {x:Str} (h:Par s a l) (g:der_Get s (a:Int)=some (t,x,(b:Int),0)) (hb:b≤s.length) (ha:a<s.length):Par s b (l++[(t,x)])
theorem All_ex (s:Str) (hs:s.length<2930000000000) : ∃ v,der_All s=some v∧(v.1 ≠ 0 ∨ (v.1=0∧Par s s.length v.2)):=by
 have key : ∃ t,loop (der_All.b0 s) BIG (0,[])=some t∧(match t with | .inl l=>Par s s.length l | .inr r=>r.1 ≠ 0):=by
  refine loop_ex (body:=der_All.b0 s) (fun r => ∃ t,r=some t∧(match t with | .inl l=>Par s s.length l | .inr r=>r.1 ≠ 0)) s.length BIG
   (fun d st => ∃ a:Nat,st.1=(a:Int)∧s.length - a≤d∧a≤s.length∧st.2.length≤a∧Par s a st.2) (0,[]) ⟨0,rfl,by omega,by omega,by simp, .nil⟩ (by unfold BIG; omega) ?_ ?_
  ·rintro k ⟨i,l⟩ ⟨a,hi,hd,ha,hll,hp⟩
   dsimp only at hi hll hp
   subst hi
   unfold der_All.b0
   dsimp only
   by_cases hend:s.length≤a
   ·have:a=s.length:=by omega
    subst this
    exact .inr ⟨_,if_n (by omega) rfl,_,rfl,hp⟩
   obtain ⟨v,hv,hc⟩:=Get_ex s a (by omega) ha
   rcases hc with hc | ⟨h,c,rfl,h2,hle,hcl,ht,hsh⟩
   ·exact .inr ⟨_,if_i (by omega) (bind_i hv (if_i hc rfl)),_,rfl,hc⟩
   ·refine .inl ⟨(((a+h+c:Nat):Int),l++[(((sg s (a:Int)).toNat:Int),sub s (a+h) (a+h+c))]),if_i (by omega) (bind_i hv (if_n (by simp) (if_i ?_ rfl))),a+h+c,rfl,by omega,hle,?_,?_⟩
    ·simp; omega
    ·simp; omega
    ·exact .snoc hp hv hle (by omega)
  ·rintro ⟨i,l⟩ ⟨a,hi,hd,ha,hll,hp⟩
   dsimp only at hi hll hp
   subst hi
   have:a=s.length:=by omega
   subst this
   refine ⟨.inl l,?_,_,rfl,hp⟩
   unfold der_All.b0
   exact if_n (by dsimp only; omega) rfl
 obtain ⟨t,h1,h2⟩:=key
 unfold der_All
 cases t with
 | inl l=>exact ⟨_,bind_i h1 rfl, .inr ⟨rfl,h2⟩⟩
 | inr r=>exact ⟨_,bind_i h1 rfl, .inl h2⟩
theorem Par.two {s:Str} {x y:Int × Str} {n:Nat} (h:Par s n [x,y]) : ∃ a:Nat,der_Get s 0=some (x.1,x.2,(a:Int),0)∧der_Get s (a:Int)=some (y.1,y.2,(n:Int),0)∧a≤s.length∧0<s.length∧a<s.length:=by
 generalize hl:[x,y]=l at h
 cases h with
 | nil=>cases hl
 | @snoc a b l' t z h g hb ha =>
  have e:l'=[x]∧y=(t,z):=by
   have h1:=congrArg List.reverse hl
   simp at h1
   obtain ⟨h2,h3⟩:=h1
   refine ⟨?_,h2⟩
   have:=congrArg List.reverse h3
   simpa using this.symm
  obtain ⟨rfl,rfl⟩:=e
  generalize hl2:[x]=l2 at h
  cases h with
  | nil=>cases hl2
  | @snoc a' b' l'' t' z' h g' hb' ha' =>
   have e:l''=[]∧x=(t',z'):=by
    have h1:=congrArg List.reverse hl2
    simp at h1
    exact ⟨h1.2,h1.1⟩
   obtain ⟨rfl,rfl⟩:=e
   generalize hl3:([]:List (Int × Str))=l3 at h
   cases h with
   | nil=>exact ⟨a,g',g,hb',by omega,ha⟩
   | snoc _ _ _ _=>simp at hl3
theorem All_two (s:Str) (a:Nat) (x y:Int × Str) (h0:0<s.length) (ha:a<s.length) (g1:der_Get s 0=some (x.1,x.2,(a:Int),0)) (g2:der_Get s (a:Int)=some (y.1,y.2,(s.length:Int),0)):der_All s=some (0,[x,y]):=by
 have key:loop (der_All.b0 s) BIG ((0:Int),([]:List (Int × Str)))=some (.inl [x,y]):=by
  refine loop_fn (s0:=((0:Int),([]:List (Int × Str)))) (fun k=>match k with | 0=>(0,[]) | 1=>((a:Int),[x]) | _=>((s.length:Int),[x,y])) 2 _ (by decide) rfl (fun k hk=>?_) ?_
  ·have:k=0 ∨ k=1:=by omega
   rcases this with rfl | rfl
   ·unfold der_All.b0
    refine if_i (by simp; omega) (bind_i g1 (if_n (by simp) (if_i (by simp) ?_)))
    unfold ltt; simp
   ·unfold der_All.b0
    refine if_i (by simp; omega) (bind_i g2 (if_n (by simp) (if_i (by simp) ?_)))
    unfold ltt; simp
  ·unfold der_All.b0
   exact if_n (by simp) rfl
 unfold der_All
 exact bind_i key rfl
end Go.Kx
end

section
namespace Go.Kx
open Go Go.Proofs
open Vector (replicate)
open Go.Nt hiding n4
theorem ofNat8 (n:Nat) (h:n<256):(BitVec.ofNat 8 n).toNat=n:=by rw [BitVec.toNat_ofNat]; omega
theorem sub_all' (s:Str) (n:Nat) (h:s.length=n):sub s 0 n=s:=by rw [← h]; exact sub_all s
def isInt (t:Nat) (x:Str) (n:Nat):Prop:=t=2∧0<n∧n<N256∧x=DB n
theorem isSc_pad (b:Str) (h:b.length≤32):isSc (List.replicate (32 - b.length) 0#8++b) ↔ 0<bnum b∧bnum b<N256:=by
 unfold isSc
 rw [bnum_pad]
 constructor
 ·rintro ⟨-,h1,h2⟩; exact ⟨by omega,h1⟩
 ·rintro ⟨h1,h2⟩; exact ⟨by simp; omega,h2,by omega⟩
open Classical in
theorem integer_ex (t:Nat) (ht:t<256) (htag:t % 32 ≠ 31) (x:Str) (hx:x.length<128) :
  ∃ v:Vx 64 4, ∃ b:Bool,ecdsa_integer (t:Int) x=some (v,b)∧(b=true ↔ ∃ n,isInt t x n) ∧ ∀ n,isInt t x n → n4 v=n:=by
 have N256lt:N256<2 ^ 256:=md_N.lt
 unfold ecdsa_integer
 by_cases h33:33<x.length
 ·refine ⟨replicate 4 0#64,false,if_i (by omega) rfl,⟨fun h=>(Bool.false_ne_true h).elim,fun ⟨n,h⟩=>?_⟩,fun n h=>?_⟩
  ·have:=(DB_len n).2; rw [← h.2.2.2] at this; omega
  ·have:=(DB_len n).2; rw [← h.2.2.2] at this; omega
 obtain ⟨b,hb,hb32,hbn⟩ : ∃ b:Str,(if 32<(x.length:Int) then (if 1≤x.length then (ltt (sub x 1 x.length) fun b6:Str=>some b6) else none) else some x)=some b∧b.length≤32 ∧
   ∀ n,x=DB n → bnum b=bnum x∧True:=by
  by_cases h32:32<x.length
  ·refine ⟨sub x 1 x.length,if_i (by omega) (if_i (by omega) rfl),by rw [sub_length (by omega)]; omega,fun n h=>?_⟩
   obtain ⟨c,hc,hcl⟩:=DB_33 n (by rw [← h]; omega)
   rw [h,hc]
   have e:sub (0#8 :: c) 1 (0#8 :: c).length=c:=by
    simp only [sub,List.drop_succ_cons,List.drop_zero]
    exact List.take_of_length_le (by simp)
   rw [e,bnum_cons0]; exact ⟨rfl,trivial⟩
  ·exact ⟨x,if_n (by omega) rfl,by omega,fun n h=>⟨rfl,trivial⟩⟩
 obtain ⟨v,hv,ev⟩:=Scalar_ex (List.replicate (32 - b.length) 0#8++b)
 have w1:w64 (32 - (b.length:Int))=((32 - b.length:Nat):Int):=by rw [w64_id (by omega) (by omega)]; omega
 have hI:=Integer_eq b (by omega)
 have hP:=Put1 t ht htag x hx
 have hdl:=derB_len b
 have hiff:(decide (isSc (List.replicate (32 - b.length) 0#8++b))=true∧([2#8,BitVec.ofNat 8 (derB b).length]++derB b=[BitVec.ofNat 8 t,BitVec.ofNat 8 x.length]++x)) ↔ ∃ n,isInt t x n:=by
  rw [decide_eq_true_iff,isSc_pad b hb32]
  constructor
  ·rintro ⟨⟨h0,h1⟩,h2⟩
   have h2:2#8 :: BitVec.ofNat 8 (derB b).length :: derB b=BitVec.ofNat 8 t :: BitVec.ofNat 8 x.length :: x:=h2
   have e1:(2#8:BitVec 8)=BitVec.ofNat 8 t:=(List.cons.inj h2).1
   have e2:derB b=x:=(List.cons.inj (List.cons.inj h2).2).2
   refine ⟨bnum b,?_,h0,h1,?_⟩
   ·have:=congrArg BitVec.toNat e1
    rw [ofNat8 t ht] at this
    exact this.symm
   ·rw [← e2]; exact derB_num b hb32
  ·rintro ⟨n,rfl,h0,h1,h2⟩
   have hbx:=(hbn n h2).1
   have hn:bnum x=n:=by rw [h2]; exact bnum_DB n (by omega)
   have e:derB b=x:=by rw [derB_num b hb32,hbx,hn,h2]
   rw [hbx,hn,e]
   exact ⟨⟨h0,h1⟩,rfl⟩
 have hval : ∀ n,isInt t x n → n4 v=n:=fun n h=>by
  rw [ev (by simp; omega),bnum_pad,(hbn n h.2.2.2).1,h.2.2.2]
  exact bnum_DB n (by have:=h.2.2.1; omega)
 by_cases hsc:isSc (List.replicate (32 - b.length) 0#8++b)
 ·refine ⟨v,decide ([2#8,BitVec.ofNat 8 (derB b).length]++derB b=[BitVec.ofNat 8 t,BitVec.ofNat 8 x.length]++x),?_,?_,hval⟩
  ·refine if_n (by omega) (bind_i hb ?_)
   rw [w1]
   simp only [Int.toNat_natCast]
   refine if_i (by omega) (if_i (by simp) (if_i (by simp; omega) (bind_i hv (bind_i hI (if_i rfl (bind_i hP ?_))))))
   rw [if_pos (by simp [hsc])]; rfl
  ·rw [← hiff,decide_eq_true_iff]
   exact ⟨fun h=>⟨by simp [hsc],h⟩,fun h=>h.2⟩
 ·refine ⟨v,false,?_,?_,hval⟩
  ·refine if_n (by omega) (bind_i hb ?_)
   rw [w1]
   simp only [Int.toNat_natCast]
   refine if_i (by omega) (if_i (by simp) (if_i (by simp; omega) (bind_i hv (bind_i hI (if_i rfl (bind_i hP ?_))))))
   rw [if_neg (by simp [hsc])]
  ·rw [← hiff]
   exact ⟨fun h=>(Bool.false_ne_true h).elim,fun h=>absurd (of_decide_eq_true h.1) hsc⟩
theorem integer_any (t:Nat) (ht:t<256) (htag:t % 32 ≠ 31) (x:Str) (hlong:x.length<2930000000000) :
  ∃ v:Vx 64 4, ∃ b:Bool,ecdsa_integer (t:Int) x=some (v,b)∧(b=true ↔ ∃ n,isInt t x n) ∧ ∀ n,isInt t x n → n4 v=n:=by
 by_cases h:x.length<128
 ·exact integer_ex t ht htag x h
 ·refine ⟨replicate 4 0#64,false,?_,⟨fun h=>(Bool.false_ne_true h).elim,fun ⟨n,hn⟩=>?_⟩,fun n hn=>?_⟩
  ·unfold ecdsa_integer
   exact if_i (by omega) rfl
  ·have:=(DB_len n).2; rw [← hn.2.2.2] at this; omega
  ·have:=(DB_len n).2; rw [← hn.2.2.2] at this; omega
def isSg (sig:Str) (r s:Nat):Prop:=0<r∧r<N256∧0<s∧s<N256∧sig=SG r s
theorem app_get {a b:Str} {i:Nat} (h:a.length≤i):sg (a++b) (i:Int)=sg b ((i - a.length:Nat):Int):=by
 unfold sg
 simp only [Int.toNat_natCast,List.getD_eq_getElem?_getD]
 rw [List.getElem?_append_right h]
theorem cut_head (s:Str) (a c:Nat) (h:a+2+c≤s.length):sub s a (a+2+c)=[sg s (a:Int),sg s ((a+1:Nat):Int)]++sub s (a+2) (a+2+c):=by
 apply List.ext_getElem?
 intro i
 unfold sg
 simp only [sub,Int.toNat_natCast,List.getElem?_take,List.getElem?_drop,List.getD_eq_getElem?_getD]
 by_cases h0:i=0
 ·subst h0; rw [if_pos (by omega),Nat.add_zero,List.getElem?_eq_getElem (by omega)]; rfl
 by_cases h1:i=1
 ·subst h1; rw [if_pos (by omega),List.getElem?_eq_getElem (by omega)]; rfl
 ·rw [List.getElem?_append_right (by simp; omega)]
  simp only [List.length_cons,List.length_nil,List.getElem?_take,List.getElem?_drop]
  by_cases h2:i<2+c
  ·rw [if_pos (by omega),if_pos (by omega)]; congr 1; omega
  ·rw [if_neg (by omega),if_neg (by omega)]
theorem sub_join (s:Str) (a b c:Nat) (h1:a≤b) (h2:b≤c) (h3:c≤s.length):sub s a b++sub s b c=sub s a c:=by
 have:=List.take_append_drop (b - a) (sub s a c)
 conv=>rhs; rw [← this]
 simp only [sub,List.take_take,List.drop_take,List.drop_drop]
 congr 2
 ·omega
 ·omega
 ·congr 1; omega
end Go.Kx
end

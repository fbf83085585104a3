/-
  Part 25 of the proof of what several laws share.
-/
import Derived.Test.YtiofnmmggblcgaaEsC1
import Derived.Test.YtiofnmmggblcgaaEsC2
import Derived.Test.YtiofnmmggblcgaaEsC3
import Derived.Test.YtiofnmmggblcgaaEsC4
import Derived.Test.YtiofnmmggblcgaaEsC5
import Derived.Test.YtiofnmmggblcgaaEsC6
import Derived.Test.YtiofnmmggblcgaaEsC7
import Derived.Test.YtiofnmmggblcgaaEsC8
import Derived.Test.YtiofnmmggblcgaaEsC9
import Derived.Test.YtiofnmmggblcgaaEsC10
import Derived.Test.YtiofnmmggblcgaaEsC11
import Derived.Test.YtiofnmmggblcgaaEsC12
import Derived.Test.YtiofnmmggblcgaaEsC13
import Derived.Test.YtiofnmmggblcgaaEsC14
import Derived.Test.YtiofnmmggblcgaaEsC15
import Derived.Test.YtiofnmmggblcgaaEsC16
import Derived.Test.YtiofnmmggblcgaaEsC17
import Derived.Test.YtiofnmmggblcgaaEsC18
import Derived.Test.YtiofnmmggblcgaaEsC19
import Derived.Test.YtiofnmmggblcgaaEsC20
import Derived.Test.YtiofnmmggblcgaaEsC21
import Derived.Test.YtiofnmmggblcgaaEsC22
import Derived.Test.YtiofnmmggblcgaaEsC23
import Derived.Test.YtiofnmmggblcgaaEsC24
set_option linter.unusedVariables false
set_option linter.unusedSimpArgs false
section
namespace Go.Proofs
open Go Go.Kx
open TryI Try
def der_length (s_:Str) (at_:Int):Option (Int × Int) :=
 if ((s_).length:Int)≤at_ then (some (0,(-1))) else (if 0≤at_∧at_<((s_).length:Int) then (ltt (((sg s_ at_).toNat:Int)) fun (c1:Int)=>(ltt (decide (c1<128)) fun (x1:Bool)=>(if x1=true then (ltt (w64 (at_+1)) fun (x2:Int)=>(some (c1,x2))) else (ltt (decide (c1=130)) fun (x3:Bool)=>(if x3=true then (if ((s_).length:Int)≤(w64 (at_+2)) then (some (0,(-1))) else (ltt (w64 (at_+1)) fun (at_1:Int)=>(if 0≤at_1∧at_1<((s_).length:Int) then (ltt (((sg s_ at_1).toNat:Int)) fun (n1:Int)=>(if ((s_).length:Int)≤(w64 (at_1+1)) then (some (0,(-1))) else (if 0≤w64 (at_1+1)∧w64 (at_1+1)<((s_).length:Int) then (ltt (iop (· ||| ·) (shlI' n1 8) ((sg s_ (w64 (at_1+1))).toNat:Int)) fun (n2:Int)=>(ltt (w64 (128+128)) fun (least1:Int)=>(if n2<least1 then (some (0,(-1))) else (ltt (w64 (at_1+2)) fun (x4:Int)=>(some (n2,x4)))))) else none))) else none))) else (ltt (decide (c1=129)) fun (x5:Bool)=>(if x5=true then (if ((s_).length:Int)≤(w64 (at_+1)) then (some (0,(-1))) else (if 0≤w64 (at_+1)∧w64 (at_+1)<((s_).length:Int) then (ltt (iop (· ||| ·) (shlI' 0 8) ((sg s_ (w64 (at_+1))).toNat:Int)) fun (n3:Int)=>(ltt (w64 (0+128)) fun (least2:Int)=>(if n3<least2 then (some (0,(-1))) else (ltt (w64 (at_+2)) fun (x6:Int)=>(some (n3,x6)))))) else none)) else (some (0,(-1)))))))))) else none)
set_option maxHeartbeats 4000000 in
set_option maxRecDepth 20000 in
theorem F102_calls (s_:Str) (at_:Int) (r:Int × Int) (H:der_length s_ at_=some r) :
  Does Try.prog 102 [vs s_,vi at_] [] [] (Γ:=Unit) (fun g=>Value.tuple [vi r.1,vi r.2].toArray) (fun g=>[]):=by
 intro w hmem hro hd
 refine calls_of (N:=61) (m0:=[(0,vs s_),(1,vi at_)]) func102 rfl ntmps102 (argM_ok [vs s_,vi at_]) rfl hmem hro hd ?_
 unfold der_length at H
 refine TC_seq (TC_region (TVa ?_))
 refine TVa ?_
 refine TL_nil (TX_next (TC_seq (TC_seq (TC_region (TVm ?_)))))
 refine TVm ?_
 refine TLv (V_len_str rfl underlying9) ?_
 refine TLv (V_bin rfl rfl (fun w=>geqI w at_ ((s_).length:Int))) ?_
 refine TL_nil (TX_next (TCd H (fun hc H=>?_) (fun hc H=>?_)))
 ·refine TC_seq (TC_region (TVa ?_))
  refine TVa ?_
  refine TL_nil (TX_next (TC_ret (TX_then_ret ?_)))
  obtain rfl:=sj H
  exact TX2
 ·refine TC_skip (TX_next (TC_seq (TC_region (TVa ?_))))
  refine TL_nil (TX_next (TC_seq (TC_region (TVa ?_))))
  refine TL_nil (TX_next (TC_seq (TC_seq (TC_region (TVm ?_)))))
  refine TVm ?_
  obtain ⟨h1,H⟩:=if_elim H
  refine TLv (V_idxStr rfl rfl (i:=at_) underlying9 h1.1 h1.2) ?_
  refine TLv (V_conv rfl (fun w=>cv8toI w _ _ underlying3 (und5) (sg s_ at_))) ?_
  refine TVa ?_
  obtain ⟨c1,hc1,H⟩:=ltt_elim H
  refine TLr 8 (congrArg vi hc1) ?_
  refine TL_nil (TX_next (TC_block (TC_seq (TC_block (TC_seq (TC_block (TC_seq (TC_block (TC_seq (TC_block (TC_seq (TC_seq (TC_seq (TC_region (TVm ?_)))))))))))))))
  refine TLv (V_bin rfl rfl (fun w=>lssI w c1 128)) ?_
  refine TVa ?_
  obtain ⟨x1,hx1,H⟩:=ltt_elim H
  refine TLr 17 (congrArg vb hx1) ?_
  refine TL_nil (TX_next (TCb H (fun hc H=>?_) (fun hc H=>?_)))
  ·refine TC_exit (TX_then_exit (TX_then_exit (TX_block_exit (TX_next (TC_seq (TC_seq (TC_region (TVm ?_))))))))
   refine TVm ?_
   refine TLv (V_bin rfl rfl (fun w=>addI w at_ 1)) ?_
   refine TVa ?_
   refine TVa ?_
   obtain ⟨x2,hx2,H⟩:=ltt_elim H
   refine TLr 5 (congrArg vi hx2) ?_
   refine TL_nil (TX_next (TC_ret (TX_then_ret (TX_block_ret (TX_then_ret (TX_block_ret (TX_then_ret (TX_block_ret (TX_then_ret (TX_block_ret (TX_then_ret ?_)))))))))))
   obtain rfl:=sj H
   exact TX2
  ·refine TC_skip (TX_next (TC_seq (TC_seq (TC_region (TVm ?_)))))
   refine TLv (V_bin rfl rfl (fun w=>eqlI w c1 130)) ?_
   refine TVa ?_
   obtain ⟨x3,hx3,H⟩:=ltt_elim H
   refine TLr 20 (congrArg vb hx3) ?_
   refine TL_nil (TX_next (TCb H (fun hc H=>?_) (fun hc H=>?_)))
   ·refine TC_exit (TX_then_exit (TX_then_exit (TX_block_other rfl ?_)))
    refine TX_then_exit (TX_block_exit (TX_next (TC_seq (TC_seq (TC_region (TVm ?_))))))
    refine TLv (V_bin rfl rfl (fun w=>addI w at_ 2)) ?_
    refine TVm ?_
    refine TLv (V_len_str rfl underlying9) ?_
    refine TLv (V_bin rfl rfl (fun w=>geqI w (w64 (at_+2)) ((s_).length:Int))) ?_
    refine TL_nil (TX_next (TCd H (fun hc H=>?_) (fun hc H=>?_)))
    ·refine TC_seq (TC_region (TVa ?_))
     refine TVa ?_
     refine TL_nil (TX_next (TC.sub (m':=[(4,_),(5,_)]) ⟨rfl,rfl,trivial⟩ ?_))
     refine TC.pull (is:=[]) (L':=[]) rfl ?_
     refine TC_ret (TX_then_ret (TX_block_ret (TX_then_ret (TX_block_ret (TX_then_ret (TX_block_ret (TX_then_ret ?_)))))))
     obtain rfl:=sj H
     exact TX2
    ·refine TC_skip (TX_next (TC_seq (TC_region (TVm ?_))))
     refine TLv (V_bin rfl rfl (fun w=>addI w at_ 1)) ?_
     refine TVa ?_
     obtain ⟨at_1,hat_1,H⟩:=ltt_elim H
     refine TLr 1 (congrArg vi hat_1) ?_
     refine TL_nil (TX_next (TC.sub (m':=[(0,_),(1,_)]) ⟨rfl,rfl,trivial⟩ ?_))
     refine TC.pull (is:=[]) (L':=[]) rfl ?_
     refine TC_seq (TC_region (TVm ?_))
     refine TVm ?_
     obtain ⟨h2,H⟩:=if_elim H
     refine TLv (V_idxStr rfl rfl (i:=at_1) underlying9 h2.1 h2.2) ?_
     refine TLv (V_conv rfl (fun w=>cv8toI w _ _ underlying3 (und5) (sg s_ at_1))) ?_
     refine TVa ?_
     obtain ⟨n1,hn1,H⟩:=ltt_elim H
     refine TLr 6 (congrArg vi hn1) ?_
     refine TL_nil (TX_next (TC_region (TVa ?_)))
     refine TL_nil (TX_block_normal (TX_next (TC_seq (TC_seq (TC_seq (TC_region (TVm ?_)))))))
     refine TLv (V_bin rfl rfl (fun w=>addI w at_1 1)) ?_
     refine TVm ?_
     refine TLv (V_len_str rfl underlying9) ?_
     refine TLv (V_bin rfl rfl (fun w=>geqI w (w64 (at_1+1)) ((s_).length:Int))) ?_
     refine TL_nil (TX_next (TCd H (fun hc H=>?_) (fun hc H=>?_)))
     ·refine TC_seq (TC_region (TVa ?_))
      refine TVa ?_
      refine TL_nil (TX_next (TC_ret (TX_then_ret (TX_then_ret (TX_block_ret (TX_then_ret (TX_block_ret (TX_then_ret ?_))))))))
      obtain rfl:=sj H
      exact TX2
     ·refine TC_skip (TX_next (TC_seq (TC_region (TVm ?_))))
      refine TLv (V_bin rfl rfl (fun w=>shlI w n1 .u64 8 (by decide))) ?_
      refine TVm ?_
      refine TVm ?_
      refine TLv (V_bin rfl rfl (fun w=>addI w at_1 1)) ?_
      obtain ⟨h3,H⟩:=if_elim H
      refine TLv (V_idxStr rfl rfl (i:=w64 (at_1+1)) underlying9 h3.1 h3.2) ?_
      refine TLv (V_conv rfl (fun w=>cv8toI w _ _ underlying3 (und5) (sg s_ (w64 (at_1+1))))) ?_
      refine TLv (V_bin rfl rfl (fun w=>orI w (shlI' n1 8) ((sg s_ (w64 (at_1+1))).toNat:Int))) ?_
      refine TVa ?_
      obtain ⟨n2,hn2,H⟩:=ltt_elim H
      refine TLr 6 (congrArg vi hn2) ?_
      refine TL_nil (TX_next (TC_region (TVm ?_)))
      refine TLv (V_bin rfl rfl (fun w=>addI w 128 128)) ?_
      refine TVa ?_
      obtain ⟨least1,hleast1,H⟩:=ltt_elim H
      refine TLr 7 (congrArg vi hleast1) ?_
      refine TL_nil (TX_next (TC_exit (TX_block_other rfl ?_)))
      refine TX_then_exit (TX_block_exit (TX_next (TC_seq (TC_seq (TC_region (TVm ?_))))))
      refine TVm ?_
      refine TLv (V_bin rfl rfl (fun w=>lssI w n2 least1)) ?_
      refine TL_nil (TX_next (TC.sub (m':=[(1,_),(6,_),(57,_)]) ⟨rfl,rfl,rfl,trivial⟩ ?_))
      refine TC.pull (is:=[]) (L':=[]) rfl ?_
      refine TCd H (fun hc H=>?_) (fun hc H=>?_)
      ·refine TC_seq (TC_region (TVa ?_))
       refine TVa ?_
       refine TL_nil (TX_next (TC_ret (TX_then_ret ?_)))
       obtain rfl:=sj H
       exact TX2
      ·refine TC_skip (TX_next (TC_seq (TC_region (TVm ?_))))
       refine TVm ?_
       refine TLv (V_bin rfl rfl (fun w=>addI w at_1 2)) ?_
       refine TVa ?_
       refine TVa ?_
       obtain ⟨x4,hx4,H⟩:=ltt_elim H
       refine TLr 5 (congrArg vi hx4) ?_
       refine TL_nil (TX_next (TC_ret ?_))
       obtain rfl:=sj H
       exact TX2
   ·refine TC_skip (TX_next (TC_seq (TC_region (TVm ?_))))
    refine TLv (V_bin rfl rfl (fun w=>eqlI w c1 129)) ?_
    refine TVa ?_
    obtain ⟨x5,hx5,H⟩:=ltt_elim H
    refine TLr 23 (congrArg vb hx5) ?_
    refine TL_nil (TX_next (TCb H (fun hc H=>?_) (fun hc H=>?_)))
    ·refine TC_exit (TX_then_exit (TX_block_other rfl ?_))
     refine TX_then_exit (TX_block_other rfl ?_)
     refine TX_then_exit (TX_block_exit (TX_next (TC_seq (TC_seq (TC_seq (TC_region (TVm ?_)))))))
     refine TLv (V_bin rfl rfl (fun w=>addI w at_ 1)) ?_
     refine TVm ?_
     refine TLv (V_len_str rfl underlying9) ?_
     refine TLv (V_bin rfl rfl (fun w=>geqI w (w64 (at_+1)) ((s_).length:Int))) ?_
     refine TL_nil (TX_next (TC.sub (m':=[(0,_),(1,_),(6,_),(7,_),(44,_)]) ⟨rfl,rfl,rfl,rfl,rfl,trivial⟩ ?_))
     refine TC.pull (is:=[]) (L':=[]) rfl ?_
     refine TCd H (fun hc H=>?_) (fun hc H=>?_)
     ·refine TC_seq (TC_region (TVa ?_))
      refine TVa ?_
      refine TL_nil (TX_next (TC_ret (TX_then_ret (TX_then_ret (TX_block_ret (TX_then_ret (TX_block_ret (TX_then_ret ?_))))))))
      obtain rfl:=sj H
      exact TX2
     ·refine TC_skip (TX_next (TC_seq (TC_region (TVm ?_))))
      refine TLv (V_bin rfl rfl (fun w=>shlI w 0 .u64 8 (by decide))) ?_
      refine TVm ?_
      refine TVm ?_
      refine TLv (V_bin rfl rfl (fun w=>addI w at_ 1)) ?_
      obtain ⟨h4,H⟩:=if_elim H
      refine TLv (V_idxStr rfl rfl (i:=w64 (at_+1)) underlying9 h4.1 h4.2) ?_
      refine TLv (V_conv rfl (fun w=>cv8toI w _ _ underlying3 (und5) (sg s_ (w64 (at_+1))))) ?_
      refine TLv (V_bin rfl rfl (fun w=>orI w (shlI' 0 8) ((sg s_ (w64 (at_+1))).toNat:Int))) ?_
      refine TVa ?_
      obtain ⟨n3,hn3,H⟩:=ltt_elim H
      refine TLr 6 (congrArg vi hn3) ?_
      refine TL_nil (TX_next (TC_region (TVm ?_)))
      refine TLv (V_bin rfl rfl (fun w=>addI w 0 128)) ?_
      refine TVa ?_
      obtain ⟨least2,hleast2,H⟩:=ltt_elim H
      refine TLr 7 (congrArg vi hleast2) ?_
      refine TL_nil (TX_next (TC_exit (TX_block_other rfl ?_)))
      refine TX_then_exit (TX_block_exit (TX_next (TC_seq (TC_seq (TC_region (TVm ?_))))))
      refine TVm ?_
      refine TLv (V_bin rfl rfl (fun w=>lssI w n3 least2)) ?_
      refine TL_nil (TX_next (TCd H (fun hc H=>?_) (fun hc H=>?_)))
      ·refine TC_seq (TC_region (TVa ?_))
       refine TVa ?_
       refine TL_nil (TX_next (TC_ret (TX_then_ret ?_)))
       obtain rfl:=sj H
       exact TX2
      ·refine TC_skip (TX_next (TC_seq (TC_region (TVm ?_))))
       refine TVm ?_
       refine TLv (V_bin rfl rfl (fun w=>addI w at_ 2)) ?_
       refine TVa ?_
       refine TVa ?_
       obtain ⟨x6,hx6,H⟩:=ltt_elim H
       refine TLr 5 (congrArg vi hx6) ?_
       refine TL_nil (TX_next (TC_ret ?_))
       obtain rfl:=sj H
       exact TX2
    ·refine TC_skip (TX_next (TC_exit (TX_block_other rfl ?_)))
     refine TX_then_exit (TX_block_other rfl ?_)
     refine TX_then_exit (TX_block_other rfl ?_)
     refine TX_then_exit (TX_block_exit (TX_next (TC_seq (TC_seq (TC_region (TVa ?_))))))
     refine TVa ?_
     refine TL_nil (TX_next (TC_ret (TX_then_ret (TX_block_ret (TX_then_ret ?_)))))
     obtain rfl:=sj H
     exact TX2
end Go.Proofs
end

section
namespace Go.Proofs
open Go Go.Kx
open TryI Try
def der_Get (s_:Str) (at_:Int):Option (Int × Str × Int × Int) :=
 (if at_<0 then (some true) else (if ((s_).length:Int)≤at_ then (some true) else (if 0≤at_∧at_<((s_).length:Int) then ((der_tag ((sg s_ at_).toNat:Int)).bind fun (r_2:Bool)=>(some (!r_2))) else none))).bind fun (j1:Bool)=>(if j1=true then (some (0,([]:Str),0,1300)) else ((der_length s_ (w64 (at_+1))).bind fun (r_1:Int × Int)=>((if r_1.2<0 then (some true) else (some (decide ((w64 (((s_).length:Int) - r_1.2))<r_1.1)))).bind fun (j2:Bool)=>(if j2=true then (some (0,([]:Str),0,1300)) else (if 0≤at_∧at_<((s_).length:Int) then (if 0≤w64 (r_1.2+r_1.1) then (if 0≤r_1.2 then (if (w64 (r_1.2+r_1.1)).toNat≤(s_).length then (if (r_1.2).toNat≤(w64 (r_1.2+r_1.1)).toNat then (ltt (w64 (r_1.2+r_1.1)) fun (x1:Int)=>(some (((sg s_ at_).toNat:Int),sub s_ ((r_1.2).toNat) ((w64 (r_1.2+r_1.1)).toNat),x1,0))) else none) else none) else none) else none) else none)))))
set_option maxHeartbeats 4000000 in
set_option maxRecDepth 20000 in
theorem F93_calls (s_:Str) (at_:Int) (r:Int × Str × Int × Int) (H:der_Get s_ at_=some r) :
  Does Try.prog 93 [vs s_,vi at_] [] [] (Γ:=Unit) (fun g=>Value.tuple [aG [(1,[vi r.1]),(1,[vs r.2.1])],vi r.2.2.1,vi r.2.2.2].toArray) (fun g=>[]):=by
 intro w hmem hro hd
 refine calls_of (N:=58) (m0:=[(0,vs s_),(1,vi at_)]) func93 rfl ntmps93 (argM_ok [vs s_,vi at_]) rfl hmem hro hd ?_
 unfold der_Get at H
 refine TC_seq (TC_region (TLe (E_allocP [(1,[vi 0]),(1,[vs ([]:Str)])] inf123 zer123 ⟨rfl,rfl,trivial⟩) (fun b1=>?_)))
 refine TVa ?_
 refine TVa ?_
 refine TL_nil (TX_next (TC_seq (TC_seq (TC_region (TVm ?_)))))
 refine TLv (V_bin rfl rfl (fun w=>lssI w at_ 0)) ?_
 refine TVm ?_
 obtain ⟨j1,Hj,H⟩:=bind_elim H
 refine TL_join (Γ:=Unit) (fun gj1=>[(0,vs s_),(1,vi at_),(4,ptr (some (b1,0)) 0),(24,vb j1)]) (fun gj1=>[⟨some (b1,0),[vi 0]⟩,⟨some (b1,1),[vs ([]:Str)]⟩]) ?_ ?_
 ·intro gj1
  refine TX_next (TCb H (fun hc H=>?_) (fun hc H=>?_))
  ·refine TC_seq (TC_region (TLv (V_buildStruct (pv:=[]) (pl:=[(0,1),(1,1)]) rfl rfl underlying123 inf123 places123 zer123 (cs:=flat [(1,[vi 0]),(1,[vs ([]:Str)])]) (by kernel_rfl)) ?_))
   refine TLn (E_sp (b:=b1) (o:=0) [0,0] [(1,[vi 0]),(1,[vs ([]:Str)])] [(1,[vi 0]),(1,[vs ([]:Str)])] rfl inf123 ⟨rfl,rfl,trivial⟩ ⟨rfl,rfl,trivial⟩ ⟨(OneC.cons rfl OneC.nil),(OneC.cons rfl OneC.nil),trivial⟩) (fun _=>?_)
   refine TVa ?_
   refine TVa ?_
   refine TL_nil (TX_next (TC_ret (TX_then_ret ?_)))
   obtain rfl:=sj H
   exact TXr (vs:=[_,_,_]) rfl ⟨(Res_agg (n:=2) (cs:=flat [(1,[vi 0]),(1,[vs ([]:Str)])]) rfl (by simp) (SrcEnts (b:=b1) [(1,[vi 0]),(1,[vs ([]:Str)])] 0 ⟨rfl,rfl,trivial⟩ (AllSrc.all (M:=ents b1 0 [(1,[vi 0]),(1,[vs ([]:Str)])]) ⟨Src.own (j:=0) rfl,Src.own (j:=1) rfl,trivial⟩)) isAgg123 inf123 rfl (by simp [flat])),rfl,rfl,trivial⟩
  ·refine TC_skip (TX_next (TC_seq (TC_region (TVm ?_))))
   refine TVm ?_
   refine TLv (V_bin rfl rfl (fun w=>addI w at_ 1)) ?_
   obtain ⟨r_1,hr_1,H⟩:=bind_elim H
   refine TLe (E_c0 (F102_calls s_ (w64 (at_+1)) r_1 hr_1) call102 .z) (fun g_1=>?_)
   refine TVm ?_
   refine TLv V_ex ?_
   refine TLv V_ex ?_
   refine TVa ?_
   refine TVa ?_
   refine TL_nil (TX_next (TC_seq (TC_seq (TC_region (TVm ?_)))))
   refine TLv (V_bin rfl rfl (fun w=>lssI w r_1.2 0)) ?_
   refine TVm ?_
   obtain ⟨j2,Hj,H⟩:=bind_elim H
   refine TL_join (Γ:=Unit) (fun gj2=>[(0,vs s_),(1,vi at_),(4,ptr (some (b1,0)) 0),(7,vi r_1.1),(8,vi r_1.2),(42,vb j2)]) (fun gj2=>[⟨some (b1,0),[vi 0]⟩,⟨some (b1,1),[vs ([]:Str)]⟩]) ?_ ?_
   ·intro gj2
    refine TX_next (TCb H (fun hc H=>?_) (fun hc H=>?_))
    ·refine TC_seq (TC_region (TLv (V_buildStruct (pv:=[]) (pl:=[(0,1),(1,1)]) rfl rfl underlying123 inf123 places123 zer123 (cs:=flat [(1,[vi 0]),(1,[vs ([]:Str)])]) (by kernel_rfl)) ?_))
     refine TLn (E_sp (b:=b1) (o:=0) [0,0] [(1,[vi 0]),(1,[vs ([]:Str)])] [(1,[vi 0]),(1,[vs ([]:Str)])] rfl inf123 ⟨rfl,rfl,trivial⟩ ⟨rfl,rfl,trivial⟩ ⟨(OneC.cons rfl OneC.nil),(OneC.cons rfl OneC.nil),trivial⟩) (fun _=>?_)
     refine TVa ?_
     refine TVa ?_
     refine TL_nil (TX_next (TC_ret (TX_then_ret ?_)))
     obtain rfl:=sj H
     exact TXr (vs:=[_,_,_]) rfl ⟨(Res_agg (n:=2) (cs:=flat [(1,[vi 0]),(1,[vs ([]:Str)])]) rfl (by simp) (SrcEnts (b:=b1) [(1,[vi 0]),(1,[vs ([]:Str)])] 0 ⟨rfl,rfl,trivial⟩ (AllSrc.all (M:=ents b1 0 [(1,[vi 0]),(1,[vs ([]:Str)])]) ⟨Src.own (j:=0) rfl,Src.own (j:=1) rfl,trivial⟩)) isAgg123 inf123 rfl (by simp [flat])),rfl,rfl,trivial⟩
    ·refine TC_skip (TX_next (TC_seq ?_))
     obtain ⟨h1,H⟩:=if_elim H
     obtain ⟨h2,H⟩:=if_elim H
     obtain ⟨h3,H⟩:=if_elim H
     obtain ⟨h4,H⟩:=if_elim H
     obtain ⟨h5,H⟩:=if_elim H
     obtain ⟨x1,hx1,H⟩:=ltt_elim H
     refine TA_begin [] 15 (by kernel_rfl) (N:=17) rfl ?_
     refine TA_tk 0 [] (dn 17 1) rfl rfl (V_move rfl) ?_
     refine TA_tk 1 [] (dn 17 3) rfl rfl (V_move rfl) ?_
     refine TA_tk 2 [] (dn 17 7) rfl rfl (V_idxStr rfl rfl (i:=at_) underlying9 h1.1 h1.2) ?_
     refine TA_tk 3 [] (dn 17 15) rfl rfl (V_conv rfl (fun w=>cv8toI w _ _ underlying3 (und5) (sg s_ at_))) ?_
     refine TA_tk 4 [] (dn 17 31) rfl rfl (V_move rfl) ?_
     refine TA_tk 5 [] (dn 17 63) rfl rfl (V_move rfl) ?_
     refine TA_tk 6 [] (dn 17 127) rfl rfl (V_move rfl) ?_
     refine TA_tk 7 [] (dn 17 255) rfl rfl (V_move rfl) ?_
     refine TA_tk 8 [] (dn 17 511) rfl rfl (V_bin rfl rfl (fun w=>addI w r_1.2 r_1.1)) ?_
     refine TA_tk 9 [] (dn 17 1023) rfl rfl (V_sliceStr (l:=(r_1.2).toNat) (h:=(w64 (r_1.2+r_1.1)).toNat) rfl underlying9 (Bnd.some' (i:=r_1.2) rfl h3) (Bnd.some' (i:=w64 (r_1.2+r_1.1)) rfl h2) h5 h4) ?_
     refine TA_tk 10 [] (dn 17 2047) rfl rfl (V_buildStruct (pv:=[(0,vi ((sg s_ at_).toNat:Int)),(1,vs (sub s_ ((r_1.2).toNat) ((w64 (r_1.2+r_1.1)).toNat)))]) (pl:=[(0,1),(1,1)]) rfl rfl underlying123 inf123 places123 zer123 (cs:=flat [(1,[vi ((sg s_ at_).toNat:Int)]),(1,[vs (sub s_ ((r_1.2).toNat) ((w64 (r_1.2+r_1.1)).toNat))])]) (by kernel_rfl)) ?_
     refine TA_tk 11 [] (dn 17 4095) rfl rfl (V_move rfl) ?_
     refine TA_tk 12 [] (dn 17 8191) rfl rfl (V_move rfl) ?_
     refine TA_tk 13 [] (dn 17 16383) rfl rfl (V_bin rfl rfl (fun w=>addI w r_1.2 r_1.1)) ?_
     refine TA_all (rs:=[14]) (by kernel_rfl) rfl ?_
     refine ⟨?_,trivial⟩
     refine TO_n (is:=[]) (done':=dn 17 32767) rfl rfl rfl (by kernel_rfl) (E_sp (b:=b1) (o:=0) [0,0] [(1,[vi 0]),(1,[vs ([]:Str)])] [(1,[vi ((sg s_ at_).toNat:Int)]),(1,[vs (sub s_ ((r_1.2).toNat) ((w64 (r_1.2+r_1.1)).toNat))])] rfl inf123 ⟨rfl,rfl,trivial⟩ ⟨rfl,rfl,trivial⟩ ⟨(OneC.cons rfl OneC.nil),(OneC.cons rfl OneC.nil),trivial⟩) (fun _ _=>rfl) (fun _=>?_)
     refine TA_all (rs:=[15]) (by kernel_rfl) rfl ?_
     refine ⟨?_,trivial⟩
     refine TO_v (is:=[]) (R:=[]) (done':=dn 17 65535) rfl rfl rfl rfl (by kernel_rfl) (V_assign rfl) (fun h=>by cases h) ?_
     refine TA_re (d:=5) (v:=vi (w64 (r_1.2+r_1.1))) (v':=vi x1) rfl (congrArg vi hx1) ?_
     refine TA_all (rs:=[16]) (by kernel_rfl) rfl ?_
     refine ⟨?_,trivial⟩
     refine TO_v (is:=[]) (R:=[]) (done':=dn 17 131071) rfl rfl rfl rfl (by kernel_rfl) (V_assign rfl) (fun h=>by cases h) ?_
     refine TA_done (by kernel_rfl) ?_ 0
     refine TX_next (TC_ret ?_)
     obtain rfl:=sj H
     exact TXr (vs:=[_,_,_]) rfl ⟨(Res_agg (n:=2) (cs:=flat [(1,[vi ((sg s_ at_).toNat:Int)]),(1,[vs (sub s_ ((r_1.2).toNat) ((w64 (r_1.2+r_1.1)).toNat))])]) rfl (by simp) (SrcEnts (b:=b1) [(1,[vi ((sg s_ at_).toNat:Int)]),(1,[vs (sub s_ ((r_1.2).toNat) ((w64 (r_1.2+r_1.1)).toNat))])] 0 ⟨rfl,rfl,trivial⟩ (AllSrc.all (M:=ents b1 0 [(1,[vi ((sg s_ at_).toNat:Int)]),(1,[vs (sub s_ ((r_1.2).toNat) ((w64 (r_1.2+r_1.1)).toNat))])]) ⟨Src.own (j:=0) rfl,Src.own (j:=1) rfl,trivial⟩)) isAgg123 inf123 rfl (by simp [flat])),rfl,rfl,trivial⟩
   ·intro hJ
    replace H:=Hj
    refine TFd (d:=35) H (fun hc H=>?_) (fun hc H=>?_)
    ·refine TLs ?_
     refine TLs ?_
     refine TLs ?_
     refine TLs ?_
     refine TLs ?_
     refine TLs ?_
     refine TVt ?_
     refine TL_nil ?_
     obtain rfl:=sj H
     exact TXj [0,0] (hJ ())
    ·refine TLw (V_move rfl) ?_
     refine TLw (V_move rfl) ?_
     refine TLw (V_len_str rfl underlying9) ?_
     refine TLw (V_move rfl) ?_
     refine TLw (V_bin rfl rfl (fun w=>subI w ((s_).length:Int) r_1.2)) ?_
     refine TLw (V_bin rfl rfl (fun w=>gtrI w r_1.1 (w64 (((s_).length:Int) - r_1.2)))) ?_
     refine TVf ?_
     refine TL_nil ?_
     obtain rfl:=sj H
     exact TXj [0,0] (hJ ())
 ·intro hJ
  replace H:=Hj
  refine TFd (d:=11) H (fun hc H=>?_) (fun hc H=>?_)
  ·refine TLs ?_
   refine TLs ?_
   refine TLs ?_
   refine TLs ?_
   refine TVt ?_
   refine TVm ?_
   refine TLs ?_
   refine TLs ?_
   refine TLs ?_
   refine TLs ?_
   refine TLs ?_
   refine TLs ?_
   refine TVt ?_
   refine TL_nil ?_
   obtain rfl:=sj H
   exact TXj [0,0] (hJ ())
  ·refine TLw (V_move rfl) ?_
   refine TLw (V_move rfl) ?_
   refine TLw (V_len_str rfl underlying9) ?_
   refine TLw (V_bin rfl rfl (fun w=>geqI w at_ ((s_).length:Int))) ?_
   refine TVf ?_
   refine TVm ?_
   refine TFd (d:=17) H (fun hc H=>?_) (fun hc H=>?_)
   ·refine TLs ?_
    refine TLs ?_
    refine TLs ?_
    refine TLs ?_
    refine TLs ?_
    refine TLs ?_
    refine TVt ?_
    refine TL_nil ?_
    obtain rfl:=sj H
    exact TXj [0,0] (hJ ())
   ·refine TLw (V_move rfl) ?_
    refine TLw (V_move rfl) ?_
    obtain ⟨h6,H⟩:=if_elim H
    refine TLw (V_idxStr rfl rfl (i:=at_) underlying9 h6.1 h6.2) ?_
    refine TLw (V_conv rfl (fun w=>cv8toI w _ _ underlying3 (und5) (sg s_ at_))) ?_
    obtain ⟨r_2,hr_2,H⟩:=bind_elim H
    refine TLu (E_c0 (F89_calls ((sg s_ at_).toNat:Int) r_2 hr_2) call89 .z) (fun g_2=>?_)
    refine TLw (V_un rfl (fun w=>notB w r_2)) ?_
    refine TVf ?_
    refine TL_nil ?_
    obtain rfl:=sj H
    exact TXj [0,0] (hJ ())
end Go.Proofs
end

section
namespace Go.Proofs
open Go Go.Kx
open TryI Try
def halberdref9_integer.b0  (s0:Str):Option ((Str) ⊕ (Str)) :=
 (if 1<((s0).length:Int) then (if 0≤(0:Int)∧(0:Int)<((s0).length:Int) then (some (decide ((sg s0 0)=0#8))) else none) else (some false)).bind fun (j1:Bool)=>(if j1=true then (if 1≤(s0).length then (ltt (sub s0 1 ((s0).length)) fun (s_1:Str)=>(some (.inl s_1))) else none) else (some (.inr s0)))
def halberdref9_integer (a_:Vx 32 8):Option (Str) :=
 (halberdref9_put a_).bind fun (r_1:Str)=>((loop (halberdref9_integer.b0) BIG r_1).bind fun (t_1:Str)=>(if 0≤(0:Int)∧(0:Int)<((t_1).length:Int) then ((if (127#8).toNat<((sg t_1 0)).toNat then (if (([0#8]:Str)).length+(t_1).length≤4611686018427387904 then (ltt (([0#8]:Str)++t_1) fun (s_2:Str)=>(some s_2)) else none) else (some t_1)).bind fun (j2:Str)=>(if (([BitVec.ofInt 8 ((j2).length:Int)]:List (BitVec 8))).length=1 then (if (([2#8]:Str)).length+(([BitVec.ofInt 8 ((j2).length:Int)]:List (BitVec 8))).length≤4611686018427387904 then (if (([2#8]:Str)++([BitVec.ofInt 8 ((j2).length:Int)]:List (BitVec 8))).length+(j2).length≤4611686018427387904 then (ltt ((([2#8]:Str)++([BitVec.ofInt 8 ((j2).length:Int)]:List (BitVec 8)))++j2) fun (x1:Str)=>(some x1)) else none) else none) else none)) else none))
set_option maxHeartbeats 4000000 in
set_option maxRecDepth 20000 in
theorem F68_calls (a_:Vx 32 8) (r:Str) (H:halberdref9_integer a_=some r) :
  Does Try.prog 68 [aG [(8,e32 a_.toList)]] [] [] (Γ:=Unit) (fun g=>vs r) (fun g=>[]):=by
 intro w hmem hro hd
 refine calls_of (N:=29) (m0:=[(0,aG [(8,e32 a_.toList)])]) func68 rfl ntmps68 (argM_ok [aG [(8,e32 a_.toList)]]) rfl hmem hro hd ?_
 unfold halberdref9_integer at H
 refine TC_seq (TC_region (TLe (E_boxP [(8,e32 a_.toList)] rfl rfl ⟨(lenV (f:=v32) a_),trivial⟩) (fun b1=>?_)))
 refine TVa ?_
 refine TL_nil (TX_next (TC_seq (TC_region (TLv (V_lag (.o 0) isAgg31 inf31) ?_))))
 obtain ⟨r_1,hr_1,H⟩:=bind_elim H
 refine TLe (E_c0 (F51_calls a_ r_1 hr_1) call51 .z) (fun g_1=>?_)
 refine TVa ?_
 refine TL_nil (TX_next (TC_seq (TC_block ?_)))
 obtain ⟨t_1,Hl,H⟩:=bind_elim H
 refine TC.sub (m':=[(3,_)]) ⟨rfl,trivial⟩ ?_
 refine TC.pull (is:=[]) (L':=[]) rfl ?_
 refine TC_loopL (id:=0) (body:=(halberdref9_integer.b0)) (σ:=Str) (Γ:=Unit) (Γx:=Unit) (fun s0 g0_=>[(3,vs s0)]) (fun s0 g0_=>[]) (fun t g=>[(3,vs t)]) (fun t g=>[]) ?_ BIG r_1 () t_1 Hl ?_
 ·intro s0 g0_ r1 H K hK hE
  unfold halberdref9_integer.b0 at H
  refine TC_seq (TC_seq (TC_region (TVm ?_)))
  refine TLv (V_len_str rfl underlying9) ?_
  refine TLv (V_bin rfl rfl (fun w=>gtrI w ((s0).length:Int) 1)) ?_
  refine TVm ?_
  obtain ⟨j1,Hj,H⟩:=bind_elim H
  refine TL_join (Γ:=Unit) (fun gj1=>[(3,vs s0),(13,vb j1)]) (fun gj1=>[]) ?_ ?_
  ·intro gj1
   refine TX_next (TCb H (fun hc H=>?_) (fun hc H=>?_))
   ·refine TC_skip (TX_next (TC_block (TC_region (TVm ?_))))
    obtain ⟨h1,H⟩:=if_elim H
    refine TLv (V_sliceStr (l:=1) (h:=(s0).length) rfl underlying9 (Bnd.some' (i:=1) rfl (by decide)) Bnd.none' h1 (Nat.le_refl _)) ?_
    refine TVa ?_
    obtain ⟨s_1,hs_1,H⟩:=ltt_elim H
    refine TLr 3 (congrArg vs hs_1) ?_
    refine TL_nil (TX_block_normal ?_)
    obtain rfl:=sj H
    exact TXk [] (hK s_1 rfl ())
   ·refine TC_exit (TX_then_exit (TX_then_exit ?_))
    obtain rfl:=sj H
    exact TXj [] (hE s0 rfl ())
  ·intro hJ
   replace H:=Hj
   refine TFd (d:=9) H (fun hc H=>?_) (fun hc H=>?_)
   ·refine TLw (V_move rfl) ?_
    obtain ⟨h2,H⟩:=if_elim H
    refine TLw (V_idxStr rfl rfl (i:=0) underlying9 h2.1 h2.2) ?_
    refine TLw (V_bin rfl rfl (fun w=>eql8 w (sg s0 0) 0#8)) ?_
    refine TVt ?_
    refine TL_nil ?_
    obtain rfl:=sj H
    exact TXj [] (hJ ())
   ·refine TLs ?_
    refine TLs ?_
    refine TLs ?_
    refine TVf ?_
    refine TL_nil ?_
    obtain rfl:=sj H
    exact TXj [] (hJ ())
 ·intro g
  refine TX_block_exit (TX_next (TC_seq (TC_seq (TC_region (TVm ?_)))))
  obtain ⟨h3,H⟩:=if_elim H
  refine TLv (V_idxStr rfl rfl (i:=0) underlying9 h3.1 h3.2) ?_
  refine TLv (V_bin rfl rfl (fun w=>gtr8 w (sg t_1 0) 127#8)) ?_
  refine TL_nil (TX_next ?_)
  obtain ⟨j2,Hj,H⟩:=bind_elim H
  refine TC_join (Γ:=Unit) (fun gj2=>[(3,vs j2)]) (fun gj2=>[]) ?_ ?_
  ·intro gj2
   refine TX_next (TC_seq (TC_region (TVm ?_)))
   refine TLv (V_len_str rfl underlying9) ?_
   refine TLv (V_conv rfl (fun w=>cvI8 w _ _ underlying5 (und3) .i64 ((j2).length:Int))) ?_
   refine TLe (E_buildSlice (pv:=[(0,v8 (BitVec.ofInt 8 ((j2).length:Int)))]) rfl rfl underlying42 inf5 (s:=1) rfl zer5 rfl rfl rfl (cs:=e8 ([BitVec.ofInt 8 ((j2).length:Int)]:List (BitVec 8))) (by kernel_rfl)) (fun b2=>?_)
   obtain ⟨h4,H⟩:=if_elim H
   refine TLv (V_b2s rfl underlying42 underlying5 underlying9 (.o 0) h4) ?_
   obtain ⟨h5,H⟩:=if_elim H
   refine TLv (V_bin rfl rfl (fun w=>addS w ([2#8]:Str) ([BitVec.ofInt 8 ((j2).length:Int)]:List (BitVec 8)) h5)) ?_
   refine TVm ?_
   obtain ⟨h6,H⟩:=if_elim H
   refine TLv (V_bin rfl rfl (fun w=>addS w (([2#8]:Str)++([BitVec.ofInt 8 ((j2).length:Int)]:List (BitVec 8))) j2 h6)) ?_
   refine TVa ?_
   obtain ⟨x1,hx1,H⟩:=ltt_elim H
   refine TLr 2 (congrArg vs hx1) ?_
   refine TL_nil (TX_next (TC_ret ?_))
   obtain rfl:=sj H
   exact TX1
  ·intro hJ
   replace H:=Hj
   refine TCd H (fun hc H=>?_) (fun hc H=>?_)
   ·refine TC_region (TVm ?_)
    obtain ⟨h7,H⟩:=if_elim H
    refine TLv (V_bin rfl rfl (fun w=>addS w ([0#8]:Str) t_1 h7)) ?_
    refine TVa ?_
    obtain ⟨s_2,hs_2,H⟩:=ltt_elim H
    refine TLr 3 (congrArg vs hs_2) ?_
    refine TL_nil ?_
    obtain rfl:=sj H
    exact TXj [] (hJ ())
   ·refine TC_skip ?_
    obtain rfl:=sj H
    exact TXj [] (hJ ())
end Go.Proofs
end

section
namespace Go.Kx
open Go Go.Proofs
open Go.Nt hiding n4
def strip:Str → Str
 | []=>[]
 | x :: r=>if x=0#8 then strip r else x :: r
def derB (b:Str):Str:=match strip b with
 | []=>[0#8]
 | x :: r=>if 128≤x.toNat then 0#8 :: x :: r else x :: r
def DB (n:Nat):Str:=derB (nb32 n)
def DI (n:Nat):Str:=[2#8,BitVec.ofNat 8 (DB n).length]++DB n
def SG (r s:Nat):Str:=[48#8,BitVec.ofNat 8 (DI r++DI s).length]++(DI r++DI s)
theorem strip_len : ∀ b:Str,(strip b).length≤b.length
 | []=>Nat.le_refl _
 | x :: r=>by
  unfold strip
  split
  ·have:=strip_len r; simp; omega
  ·exact Nat.le_refl _
theorem bnum_cons0 (r:Str):bnum (0#8 :: r)=bnum r:=by
 have:=bnum_app [0#8] r
 have e:bnum [0#8]=0:=by decide
 rw [e,Nat.zero_mul,Nat.zero_add] at this
 exact this
theorem bnum_strip : ∀ b:Str,bnum (strip b)=bnum b
 | []=>rfl
 | x :: r=>by
  unfold strip
  split
  ·rename_i h; subst h; rw [bnum_strip r,bnum_cons0]
  ·rfl
theorem strip_pad (k:Nat) (b:Str):strip (List.replicate k 0#8++b)=strip b:=by
 induction k with
 | zero=>simp
 | succ k ih=>rw [List.replicate_succ,List.cons_append]; exact (if_pos rfl).trans ih
theorem bnum_pad (k:Nat) (b:Str):bnum (List.replicate k 0#8++b)=bnum b:=by
 rw [← bnum_strip,strip_pad,bnum_strip]
theorem derB_pad (k:Nat) (b:Str):derB (List.replicate k 0#8++b)=derB b:=by unfold derB; rw [strip_pad]
theorem derB_num (b:Str) (h:b.length≤32):derB b=DB (bnum b):=by
 have e:=nb32_bnum (List.replicate (32 - b.length) 0#8++b) (by simp; omega)
 rw [bnum_pad] at e
 unfold DB
 rw [e,derB_pad]
theorem derB_len (b:Str):1≤(derB b).length∧(derB b).length≤b.length+1:=by
 unfold derB
 have:=strip_len b
 split
 ·simp
 ·rename_i x r h
  rw [h] at this
  split <;> simp at * <;> omega
theorem DB_len (n:Nat):1≤(DB n).length∧(DB n).length≤33:=by
 have:=derB_len (nb32 n)
 rw [nb32_len] at this
 exact this
theorem DI_len (n:Nat):(DI n).length=(DB n).length+2:=by simp [DI]
theorem bnum_derB (b:Str):bnum (derB b)=bnum b:=by
 rw [← bnum_strip b]
 unfold derB
 split
 ·rename_i h; rw [h]; decide
 ·rename_i x r h
  rw [h]
  split
  ·exact bnum_cons0 _
  ·rfl
theorem bnum_DB (n:Nat) (h:n<2 ^ 256):bnum (DB n)=n:=by unfold DB; rw [bnum_derB,bnum_nb32 n h]
theorem DB_33 (n:Nat) (h:(DB n).length=33) : ∃ b,DB n=0#8 :: b∧b.length=32:=by
 unfold DB derB at *
 have hl:=strip_len (nb32 n)
 rw [nb32_len] at hl
 generalize strip (nb32 n)=t at *
 cases t with
 | nil=>simp at h
 | cons x r =>
  simp only at h ⊢
  split at h
  ·rename_i hx
   rw [if_pos hx]
   exact ⟨_,rfl,by simpa using h⟩
  ·exfalso; rw [h] at hl; omega
theorem Integer_loop : ∀ (b:Str) (fuel:Nat),b.length<fuel → loop der_Integer.b0 fuel b=some (strip b)
 | [],0,h=>by simp at h
 | [],f+1,_=>by simp [loop,der_Integer.b0,strip]
 | x :: r,0,h=>by simp at h
 | x :: r,f+1,h=>by
  have h1:der_Integer.b0 (x :: r)=if x=0#8 then some (.inl r) else some (.inr (x :: r)):=by
   unfold der_Integer.b0
   have hs:sg (x :: r) 0=x:=rfl
   have hsub:sub (x :: r) 1 ((x :: r).length)=r:=by
    simp only [sub,List.drop_succ_cons,List.drop_zero]
    exact List.take_of_length_le (by simp)
   rw [hs]
   rw [if_pos (show (0:Int)<((x :: r).length:Int) by rw [List.length_cons]; omega),if_pos (show (0:Int)≤0∧(0:Int)<((x :: r).length:Int) by rw [List.length_cons]; omega)]
   by_cases hx:x=0#8
   ·rw [if_pos hx]
    refine bind_i rfl (if_i (by simp [hx]) (if_i (by simp) ?_))
    unfold ltt; rw [hsub]
   ·rw [if_neg hx]
    exact bind_i rfl (if_n (by simp [hx]) rfl)
  unfold strip
  by_cases hx:x=0#8
  ·rw [if_pos hx] at h1 ⊢
   simp only [loop,h1]
   exact Integer_loop r f (by simp at h; omega)
  ·rw [if_neg hx] at h1 ⊢
   simp only [loop,h1]
theorem tag_eq (t:Nat) (h:t<256):der_tag (t:Int)=some (decide (t % 32 ≠ 31)):=by
 have e:iop (· &&& ·) (t:Int) 31=((t % 32:Nat):Int):=by
  unfold iop
  have:((BitVec.ofInt 64 (t:Int)) &&& (BitVec.ofInt 64 31)).toNat=t % 32:=by
   have e1:(BitVec.ofInt 64 (31:Int)).toNat=2 ^ 5 - 1:=by decide
   have e2:(BitVec.ofInt 64 (t:Int)).toNat=t:=by rw [BitVec.ofInt_natCast,BitVec.toNat_ofNat]; omega
   rw [BitVec.toNat_and,e1,Nat.and_two_pow_sub_one_eq_mod,e2]
  show w64 (((BitVec.ofInt 64 (t:Int)) &&& (BitVec.ofInt 64 31)).toNat:Int)=_
  rw [this,w64_id (by omega) (by omega)]
 have e2:decide (iop (· &&& ·) (t:Int) 31 ≠ 31)=decide (t % 32 ≠ 31):=by
  rw [e]
  exact decide_eq_decide.2 ⟨fun h c=>h (by rw [c]; rfl),fun h c=>h (by omega)⟩
 unfold der_tag
 refine if_i (by omega) (if_i (by omega) (ltt_i fun v hv=>?_))
 rw [hv,e2]
theorem head_short (t n:Nat) (hn:n<128):der_head (t:Int) (n:Int)=some [BitVec.ofNat 8 t,BitVec.ofNat 8 n]:=by
 unfold der_head
 have e1:BitVec.ofInt 8 (t:Int)=BitVec.ofNat 8 t:=BitVec.ofInt_natCast 8 t
 have e2:BitVec.ofInt 8 (n:Int)=BitVec.ofNat 8 n:=BitVec.ofInt_natCast 8 n
 refine ltt_i fun v hv=>?_
 rw [hv]
 refine if_i (by simp; omega) (if_i rfl ?_)
 unfold ltt
 rw [e1,e2]
theorem Put_sum (parts:List Str) (hp:parts.length<1000) (hs:(parts.map List.length).sum<65536) :
  loop (der_Put.b0 parts) BIG (0,0)=some (.inl (((parts.map List.length).sum:Nat):Int)):=by
 refine loop_fn (s0:=((0:Int),(0:Int))) (fun k=>(((((parts.take k).map List.length).sum:Nat):Int),(k:Int))) parts.length _ (by omega) (by simp) (fun k hk=>?_) ?_
 ·unfold der_Put.b0
  dsimp only
  have hg:lg parts k=parts[k]:=by unfold lg; rw [List.getD_eq_getElem?_getD,List.getElem?_eq_getElem hk]; rfl
  have hb:((parts.take (k+1)).map List.length).sum<65536:=by
   have h1:(parts.take (k+1)).flatten.length≤parts.flatten.length:=by
    conv=>rhs; rw [← List.take_append_drop (k+1) parts]
    rw [List.flatten_append,List.length_append]; omega
   rw [List.length_flatten,List.length_flatten] at h1
   omega
  have e:((parts.take (k+1)).map List.length).sum=((parts.take k).map List.length).sum+(parts[k]).length:=by
   rw [List.take_add_one,List.getElem?_eq_getElem hk,List.map_append,List.sum_append]; rfl
  rw [e] at hb
  refine if_i (by omega) (if_i (by omega) (ltt_i fun v hv=>ltt_i fun w hw=>?_))
  rw [Int.toNat_natCast,hg] at hv
  subst hv
  have ew:w=(((((parts.take (k+1)).map List.length).sum:Nat)):Int):=by
   rw [hw,e]
   rw [show w64 ((((parts.take k).map List.length).sum:Nat)+((parts[k]).length:Int))=((((parts.take k).map List.length).sum+(parts[k]).length:Nat):Int) from w64_add (by omega)]
  refine if_n (by rw [ew,e]; omega) ?_
  rw [ew,w64_s (by omega)]
 ·unfold der_Put.b0
  refine if_n (by dsimp only; omega) ?_
  dsimp only
  rw [List.take_length]
theorem Put_fill (parts:List Str) (h:Str) (hp:parts.length<1000) (hb:h.length+(parts.map List.length).sum<100000) :
  loop (der_Put.b1 parts) BIG (0,h)=some (h++parts.flatten):=by
 refine loop_fn (fun k=>((k:Int),h++(parts.take k).flatten)) parts.length _ (by omega) (by simp) (fun k hk=>?_) ?_
 ·unfold der_Put.b1
  dsimp only
  have hg:lg parts k=parts[k]:=by unfold lg; rw [List.getD_eq_getElem?_getD,List.getElem?_eq_getElem hk]; rfl
  have e:(parts.take (k+1)).flatten=(parts.take k).flatten++parts[k]:=by
   rw [List.take_add_one,List.getElem?_eq_getElem hk,List.flatten_append]; simp
  have hle:((parts.take k).flatten).length+(parts[k]).length≤(parts.map List.length).sum:=by
   have h1:(parts.take (k+1)).flatten.length≤parts.flatten.length:=by
    conv=>rhs; rw [← List.take_append_drop (k+1) parts]
    rw [List.flatten_append,List.length_append]; omega
   rw [e,List.length_append,List.length_flatten (L:=parts)] at h1
   exact h1
  refine if_i (by omega) (if_i (by omega) (ltt_i fun v hv=>?_))
  rw [Int.toNat_natCast,hg] at hv
  subst hv
  refine if_i (by rw [List.length_append]; omega) (ltt_i fun w hw=>?_)
  rw [hw,w64_s (by omega),e,List.append_assoc]
 ·unfold der_Put.b1
  refine if_n (by dsimp only; omega) ?_
  dsimp only
  rw [List.take_length]
theorem Put1 (t:Nat) (ht:t<256) (htag:t % 32 ≠ 31) (p:Str) (h:p.length<128):der_Put (t:Int) [p]=some ([BitVec.ofNat 8 t,BitVec.ofNat 8 p.length]++p,0):=by
 unfold der_Put
 have hs:=Put_sum [p] (by simp) (by simp; omega)
 have e:([p].map List.length).sum=p.length:=by simp
 rw [e] at hs
 refine bind_i hs ?_
 dsimp only
 refine bind_i (tag_eq t ht) (if_n (by simp [htag]) (bind_i (head_short t p.length h) (bind_i (Put_fill [p] _ (by simp) (by simp; omega)) ?_)))
 simp
theorem Put2 (t:Nat) (ht:t<256) (htag:t % 32 ≠ 31) (p q:Str) (h:p.length+q.length<128):der_Put (t:Int) [p,q]=some ([BitVec.ofNat 8 t,BitVec.ofNat 8 (p++q).length]++(p++q),0):=by
 unfold der_Put
 have hs:=Put_sum [p,q] (by simp) (by simp; omega)
 have e:([p,q].map List.length).sum=(p++q).length:=by simp
 rw [e] at hs
 refine bind_i hs ?_
 dsimp only
 refine bind_i (tag_eq t ht) (if_n (by simp [htag]) (bind_i (head_short t (p++q).length (by simp; omega)) (bind_i (Put_fill [p,q] _ (by simp) (by simp; omega)) ?_)))
 simp
theorem Integer_eq (b:Str) (h:b.length≤33):der_Integer b=some ([2#8,BitVec.ofNat 8 (derB b).length]++derB b,0):=by
 have hl:=derB_len b
 unfold der_Integer
 refine if_n (by omega) (bind_i (Integer_loop b BIG (by unfold BIG; omega)) ?_)
 have hP:=Put1 2 (by decide) (by decide) (derB b) (by omega)
 unfold derB at hP ⊢
 cases hs:strip b with
 | nil =>
  rw [hs] at hP
  exact bind_i (if_i rfl rfl) (bind_i (v:=[0#8]) (if_i rfl (if_i (by simp) rfl)) (if_i rfl (bind_i hP rfl)))
 | cons x r =>
  rw [hs] at hP
  have hx:sg (x :: r) 0=x:=rfl
  have hb:=strip_len b
  rw [hs] at hb
  dsimp only at hP ⊢
  by_cases h8:128≤x.toNat
  ·rw [if_pos h8] at hP ⊢
   refine bind_i (v:=true) (if_n (by simp) (if_i (by rw [List.length_cons]; omega) ?_)) (bind_i (v:=0#8 :: x :: r) (if_i rfl (if_i (by simp at hb ⊢; omega) rfl)) (if_i rfl (bind_i hP rfl)))
   rw [hx]; simp; exact h8
  ·rw [if_neg h8] at hP ⊢
   refine bind_i (v:=false) (if_n (by simp) (if_i (by rw [List.length_cons]; omega) ?_)) (bind_i (v:=x :: r) (if_n (by decide) rfl) (if_i rfl (bind_i hP rfl)))
   rw [hx]; simp; omega
theorem Integer_nb (n:Nat):der_Integer (nb32 n)=some (DI n,0):=Integer_eq (nb32 n) (by rw [nb32_len]; omega)
end Go.Kx
end

section
namespace Go.Proofs
open Go Go.Kx
open TryI Try
def der_All.b0 (s_:Str) (s0:Int × (List (Int × Str))):Option ((Int × (List (Int × Str))) ⊕ (((List (Int × Str))) ⊕ (Int × (List (Int × Str))))) :=
 if s0.1<((s_).length:Int) then ((der_Get s_ s0.1).bind fun (r_1:Int × Str × Int × Int)=>(if r_1.2.2.2 ≠ 0 then (some (.inr (.inr (r_1.2.2.2,([]:List (Int × Str)))))) else (if (s0.2).length+(([(r_1.1,r_1.2.1)]:List (Int × Str))).length≤5864062014805 then (ltt (s0.2++([(r_1.1,r_1.2.1)]:List (Int × Str))) fun (l1:List (Int × Str))=>(some (.inl (r_1.2.2.1,l1)))) else none))) else (some (.inr (.inl s0.2)))
def der_All (s_:Str):Option (Int × (List (Int × Str))) :=
 (loop (der_All.b0 s_) BIG (0,([]:List (Int × Str)))).bind fun (t_1:((List (Int × Str))) ⊕ (Int × (List (Int × Str))))=>(match t_1 with | .inl t_1=>(some (0,t_1)) | .inr rv=>some rv)
set_option maxHeartbeats 4000000 in
set_option maxRecDepth 20000 in
theorem F94_calls (s_:Str) (r:Int × (List (Int × Str))) (H:der_All s_=some r) :
  Does Try.prog 94 [vs s_] [] [] (Γ:=Adr × (List (Int × Str))) (fun g=>Value.tuple [sl g.1 ((r.2).length) ((r.2++g.2).length),vi r.1].toArray) (fun g=>[⟨g.1,eF (fun p:Int × Str=>[vi p.1,vs p.2]) (r.2++g.2)⟩]):=by
 intro w hmem hro hd
 refine calls_of (N:=29) (m0:=[(0,vs s_)]) func94 rfl ntmps94 (argM_ok [vs s_]) rfl hmem hro hd ?_
 unfold der_All at H
 refine TC_seq (TC_region (TLe (E_nilS rfl (z:=eF (fun p:Int × Str=>[vi p.1,vs p.2]) (([]:List (Int × Str))++([]:List (Int × Str)))) rfl) (fun A1=>?_)))
 refine TVa ?_
 refine TL_nil (TX_next (TC_seq (TC_region (TLe (E_nilS rfl (z:=eF (fun p:Int × Str=>[vi p.1,vs p.2]) (([]:List (Int × Str))++([]:List (Int × Str)))) rfl) (fun A2=>?_)))))
 refine TL_nil (TX_next (TC_seq (TC_seq (TC_region (TVa ?_)))))
 refine TL_nil (TX_next (TC_block ?_))
 obtain ⟨t_1,Hl,H⟩:=bind_elim H
 refine TC.sub (m':=[(0,_),(4,_),(5,_)]) ⟨rfl,rfl,rfl,trivial⟩ ?_
 refine TC.pull (is:=[0]) (L':=[_]) rfl ?_
 refine TC_loopR (id:=0) (body:=(der_All.b0 s_)) (σ:=Int × (List (Int × Str))) (Γ:=Adr × (List (Int × Str))) (Γx:=Adr × (List (Int × Str))) (fun s0 g0_=>[(0,vs s_),(4,sl g0_.1 ((s0.2).length) ((s0.2++g0_.2).length)),(5,vi s0.1)]) (fun s0 g0_=>[⟨g0_.1,eF (fun p:Int × Str=>[vi p.1,vs p.2]) (s0.2++g0_.2)⟩]) (fun t g=>[(4,sl g.1 ((t).length) ((t++g.2).length))]) (fun t g=>[⟨g.1,eF (fun p:Int × Str=>[vi p.1,vs p.2]) (t++g.2)⟩]) r ?_ BIG (0,([]:List (Int × Str))) (A2,([]:List (Int × Str))) t_1 Hl ?_
 ·intro s0 g0_ r1 H K hK hE hR1
  unfold der_All.b0 at H
  refine TC_seq (TC_seq (TC_region (TVm ?_)))
  refine TVm ?_
  refine TLv (V_len_str rfl underlying9) ?_
  refine TLv (V_bin rfl rfl (fun w=>lssI w s0.1 ((s_).length:Int))) ?_
  refine TL_nil (TX_next (TCd H (fun hc H=>?_) (fun hc H=>?_)))
  ·refine TC_skip (TX_next (TC_block (TC_seq (TC_region (TVm ?_)))))
   refine TVm ?_
   obtain ⟨r_1,hr_1,H⟩:=bind_elim H
   refine TLe (E_c0 (F93_calls s_ s0.1 r_1 hr_1) call93 .z) (fun g_1=>?_)
   refine TVm ?_
   refine TLv V_ex ?_
   refine TLv V_ex ?_
   refine TLv V_ex ?_
   refine TLe (E_allocP [(1,[vi 0]),(1,[vs ([]:Str)])] inf123 zer123 ⟨rfl,rfl,trivial⟩) (fun b1=>?_)
   refine TLn (E_sp (b:=b1) (o:=0) [0,0] [(1,[vi 0]),(1,[vs ([]:Str)])] [(1,[vi r_1.1]),(1,[vs r_1.2.1])] rfl inf123 ⟨rfl,rfl,trivial⟩ ⟨rfl,rfl,trivial⟩ ⟨(OneC.cons rfl OneC.nil),(OneC.cons rfl OneC.nil),trivial⟩) (fun _=>?_)
   refine TVa ?_
   refine TVa ?_
   refine TL_nil (TX_next (TC_seq (TC_seq (TC_region (TVm ?_)))))
   refine TLv (V_bin rfl rfl (fun w=>neqI w r_1.2.2.2 0)) ?_
   refine TL_nil (TX_next (TCd H (fun hc H=>?_) (fun hc H=>?_)))
   ·refine TC_seq (TC_region (TVm ?_))
    refine TLe (E_nilS rfl (z:=eF (fun p:Int × Str=>[vi p.1,vs p.2]) (([]:List (Int × Str))++([]:List (Int × Str)))) rfl) (fun A3=>?_)
    refine TVa ?_
    refine TL_nil (TX_next (TC_ret (TX_then_ret (TX_block_ret (TX_then_ret (TX_block_ret (TX_then_ret ?_)))))))
    have hrv:=(hR1 _ (Option.some.inj H).symm)
    subst hrv
    exact TX_ret (rs:=[.tmp 2, .tmp 3]) (vs:=[sl A3 ((([]:List (Int × Str))).length) ((([]:List (Int × Str))++([]:List (Int × Str))).length),vi r_1.2.2.2]) rfl ⟨rfl,rfl,trivial⟩ (fun w' hs'=>⟨(A3,([]:List (Int × Str))),rfl,Step.left (Step.pulled (is:=[0]) (A:=[⟨A3,eF (fun p:Int × Str=>[vi p.1,vs p.2]) (([]:List (Int × Str))++([]:List (Int × Str)))⟩]) hs' rfl)⟩)
   ·refine TC_skip (TX_next (TC_seq (TC_region (TVm ?_))))
    refine TLv (V_loadAgg (n:=2) (cs:=flat [(1,[vi r_1.1]),(1,[vs r_1.2.1])]) rfl (by simp) (SrcEnts (b:=b1) [(1,[vi r_1.1]),(1,[vs r_1.2.1])] 0 ⟨rfl,rfl,trivial⟩ (AllSrc.all (M:=ents b1 0 [(1,[vi r_1.1]),(1,[vs r_1.2.1])]) ⟨Src.own (j:=0) rfl,Src.own (j:=1) rfl,trivial⟩)) isAgg123 inf123 rfl (flat_len ⟨rfl,rfl,trivial⟩ rfl)) ?_
    refine TLe (E_buildSlice (pv:=[(0,aG [(1,[vi r_1.1]),(1,[vs r_1.2.1])])]) rfl rfl underlying126 inf123 (s:=2) rfl zer123 rfl rfl rfl (cs:=eF (fun p:Int × Str=>[vi p.1,vs p.2]) ([(r_1.1,r_1.2.1)]:List (Int × Str))) (by kernel_rfl)) (fun b2=>?_)
    refine TL_re (d:=25) (v:=sl (some (b2,0)) 1 1) (v':=sl (some (b2,0)) ((([(r_1.1,r_1.2.1)]:List (Int × Str))).length) 1) rfl (congrArg (fun n=>sl (some (b2,0)) n 1) rfl) ?_
    obtain ⟨h1,H⟩:=if_elim H
    obtain ⟨l1,hl1,H⟩:=ltt_elim H
    refine TLe (E_appSl (g:=fun p:Int × Str=>[vi p.1,vs p.2]) (s:=2) (j:=3) (l:=s0.2) (sp:=g0_.2) (ds:=([(r_1.1,r_1.2.1)]:List (Int × Str))) ((0:Int),([]:Str)) rfl rfl rfl (fun _=>rfl) rfl (fun _=>(OneC.cons rfl (OneC.cons rfl OneC.nil))) (.o 0) underlying126 underlying126 inf123 rfl (zer123.trans rfl) (bytes:=24) rfl (by have:=h1; omega) (by have:=h1; omega) hl1) (fun q1=>?_)
    refine TVa ?_
    refine TL_nil (TX_next (TC_region (TVm ?_)))
    refine TVa ?_
    refine TL_nil (TX_block_normal ?_)
    obtain rfl:=sj H
    exact TXk [3] (hK (r_1.2.2.1,l1) rfl (q1.1,q1.2))
  ·refine TC_exit (TX_then_exit (TX_then_exit ?_))
   obtain rfl:=sj H
   exact TXj [0] (hE s0.2 rfl (g0_.1,g0_.2))
 ·rcases t_1 with t_1 | rv
  ·intro gx1
   dsimp only at H
   refine TX_block_exit (TX_next (TC_seq (TC_region (TVm ?_))))
   refine TVa ?_
   refine TVa ?_
   refine TL_nil (TX_next (TC_ret ?_))
   obtain rfl:=sj H
   exact TX_ret (rs:=[.tmp 2, .tmp 3]) (vs:=[sl gx1.1 ((t_1).length) ((t_1++gx1.2).length),vi 0]) rfl ⟨rfl,rfl,trivial⟩ (fun w' hs'=>⟨(gx1.1,gx1.2),rfl,Step.left (Step.pulled (is:=[0]) (A:=[⟨gx1.1,eF (fun p:Int × Str=>[vi p.1,vs p.2]) (t_1++gx1.2)⟩]) hs' rfl)⟩)
  ·exact (Option.some.inj H)
end Go.Proofs
end

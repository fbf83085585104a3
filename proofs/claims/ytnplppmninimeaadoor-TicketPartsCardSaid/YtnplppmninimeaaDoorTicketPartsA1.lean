/-
  Part 1 of the proof of TicketParts.
-/
import Derived.Test.YtnplppmninimeaaDoorTkP1
import Derived.Test.YtnplppmninimeaaDoorTkP2
import Derived.Test.YtnplppmninimeaaDoorTkP3
import Derived.Test.YtnplppmninimeaaDoorTkP4
import Derived.Test.YtnplppmninimeaaDoorTkP5
import Derived.Test.YtnplppmninimeaaDoorTkP6
import Derived.Test.YtnplppmninimeaaDoorTkP7
import Derived.Test.YtnplppmninimeaaDoorTkP8
import Derived.Test.YtnplppmninimeaaDoorTkP9
import Derived.Test.YtnplppmninimeaaDoorTkP10
import Derived.Test.YtnplppmninimeaaDoorTkP11
import Derived.Test.YtnplppmninimeaaDoorTkP12
import Derived.Test.YtnplppmninimeaaDoorTkP13
import Derived.Test.YtnplppmninimeaaDoorTkP14
import Derived.Test.YtnplppmninimeaaDoorTkP15
import Derived.Test.YtnplppmninimeaaDoorTkP16
import Derived.Test.YtnplppmninimeaaDoorTkP17
import Derived.Test.YtnplppmninimeaaDoorTkP18
import Derived.Test.YtnplppmninimeaaDoorTkP19
import Derived.Test.YtnplppmninimeaaDoorTkP20
import Derived.Test.YtnplppmninimeaaDoorTkP21
set_option linter.unusedVariables false
set_option linter.unusedSimpArgs false
section
namespace Go.Proofs
open Go Go.Kx
open TrydI Tryd
def halberdlaw20_TicketParts (seed:Str) (text:Str) (suite:Int) (cut:Int):Option (Bool) :=
 (halberdlaw20_awake).bind fun (r_1:Bool)=>(if (!r_1)=true then (some false) else (if 300<((text).length:Int) then (some true) else ((halberdlaw20_filled seed 32).bind fun (r_2:Str)=>(if (([110#8]:Str)).length+(seed).length≤4611686018427387904 then ((halberdlaw20_filled (([110#8]:Str)++seed) 12).bind fun (r_3:Str)=>((halberdlaw20_filled text 48).bind fun (r_4:Str)=>((ticket_Seal r_2 r_3 4866 r_4 258 772).bind fun (r_5:Str × Int)=>(if (([19#8,2#8,0#8,0#8,1#8,2#8,0#8,0#8,3#8,4#8]:Str)).length+(r_4).length≤4611686018427387904 then (ltt (([19#8,2#8,0#8,0#8,1#8,2#8,0#8,0#8,3#8,4#8]:Str)++r_4) fun (p1:Str)=>((halberdref4_GcmSeal r_2 r_3 ([]:Str) p1).bind fun (r_6:Str × Int)=>(ltt (iop (· &&& ·) suite 65535) fun (w_1:Int)=>(if (([BitVec.ofInt 8 (shrI' w_1 8),BitVec.ofInt 8 w_1]:List (BitVec 8))).length=2 then (if 2≤(p1).length then (if (([BitVec.ofInt 8 (shrI' w_1 8),BitVec.ofInt 8 w_1]:List (BitVec 8))).length+(sub p1 2 ((p1).length)).length≤4611686018427387904 then (ltt (([BitVec.ofInt 8 (shrI' w_1 8),BitVec.ofInt 8 w_1]:List (BitVec 8))++(sub p1 2 ((p1).length))) fun (odd1:Str)=>((halberdref4_GcmSeal r_2 r_3 ([]:Str) odd1).bind fun (r_7:Str × Int)=>(if (r_3).length+(r_7.1).length≤4611686018427387904 then ((ticket_Open r_2 (r_3++r_7.1)).bind fun (r_8:Int × Str × Int × Int × Int)=>(if 0≤w64 (((BitVec.ofInt 64 cut) % 58#64).toNat:Int) then (if (w64 (((BitVec.ofInt 64 cut) % 58#64).toNat:Int)).toNat≤(p1).length then ((halberdref4_GcmSeal r_2 r_3 ([]:Str) (sub p1 0 ((w64 (((BitVec.ofInt 64 cut) % 58#64).toNat:Int)).toNat))).bind fun (r_9:Str × Int)=>(if (r_3).length+(r_9.1).length≤4611686018427387904 then ((ticket_Open r_2 (r_3++r_9.1)).bind fun (r_10:Int × Str × Int × Int × Int)=>((halberdlaw0_Num r_5.2).bind fun (r_11:Int)=>(if r_11=0 then (if r_6.2=0 then (if (r_3).length+(r_6.1).length≤4611686018427387904 then (if r_5.1=r_3++r_6.1 then (if r_7.2=0 then ((halberdlaw0_Num r_8.2.2.2.2).bind fun (r_12:Int)=>(if ((decide (r_12=0)) == (decide (w_1=4866)))=true then (if r_9.2=0 then ((halberdlaw0_Num r_10.2.2.2.2).bind fun (r_13:Int)=>(ltt (decide (r_13=2001)) fun (x1:Bool)=>(some x1))) else (some false)) else (some false))) else (some false)) else (some false)) else none) else (some false)) else (some false)))) else none)) else none) else none)) else none))) else none) else none) else none)))) else none)))) else none))))
set_option maxHeartbeats 4000000 in
set_option maxRecDepth 20000 in
theorem F6_calls (seed:Str) (text:Str) (suite:Int) (cut:Int) (r:Bool) (H:halberdlaw20_TicketParts seed text suite cut=some r) :
  Does Tryd.prog 6 [vs seed,vs text,vi suite,vi cut] [] [⟨some (0,0),[hdE]⟩] (Γ:=Unit) (fun g=>vb r) (fun g=>[]):=by
 intro w hmem hro hd
 refine calls_of (N:=139) (m0:=[(0,vs seed),(1,vs text),(2,vi suite),(3,vi cut)]) func6 rfl ntmps6 (argM_ok [vs seed,vs text,vi suite,vi cut]) rfl hmem hro hd ?_
 unfold halberdlaw20_TicketParts at H
 refine TC_seq (TC_region (TVa ?_))
 refine TL_nil (TX_next (TC_seq (TC_seq (TC_region ?_))))
 obtain ⟨r_1,hr_1,H⟩:=bind_elim H
 refine TLe (E_c0 (F12_calls r_1 hr_1) call12 ⟨.r 0,trivial⟩) (fun g_1=>?_)
 refine TLv (V_un rfl (fun w=>notB w r_1)) ?_
 refine TL_nil (TX_next (TCb H (fun hc H=>?_) (fun hc H=>?_)))
 ·refine TC_seq (TC_region (TVa ?_))
  refine TL_nil (TX_next (TC_ret (TX_then_ret ?_)))
  obtain rfl:=sj H
  exact TX1
 ·refine TC_skip (TX_next (TC_seq (TC_seq (TC_region (TVm ?_)))))
  refine TLv (V_len_str rfl underlying9) ?_
  refine TLv (V_bin rfl rfl (fun w=>gtrI w ((text).length:Int) 300)) ?_
  refine TL_nil (TX_next (TCd H (fun hc H=>?_) (fun hc H=>?_)))
  ·refine TC_seq (TC_region (TVa ?_))
   refine TL_nil (TX_next (TC_ret (TX_then_ret ?_)))
   obtain rfl:=sj H
   exact TX1
  ·refine TC_skip (TX_next (TC_seq (TC_region (TVm ?_))))
   obtain ⟨r_2,hr_2,H⟩:=bind_elim H
   refine TLe (E_c0 (F14_calls seed 32 r_2 hr_2) call14 .z) (fun g_2=>?_)
   refine TVm ?_
   obtain ⟨h1,H⟩:=if_elim H
   refine TLv (V_bin rfl rfl (fun w=>addS w ([110#8]:Str) seed h1)) ?_
   obtain ⟨r_3,hr_3,H⟩:=bind_elim H
   refine TLe (E_c0 (F14_calls (([110#8]:Str)++seed) 12 r_3 hr_3) call14 .z) (fun g_3=>?_)
   refine TVa ?_
   refine TVa ?_
   refine TL_nil (TX_next (TC_seq (TC_region (TVm ?_))))
   obtain ⟨r_4,hr_4,H⟩:=bind_elim H
   refine TLe (E_c0 (F14_calls text 48 r_4 hr_4) call14 .z) (fun g_4=>?_)
   refine TLv (V_buildStruct (pv:=[(0,vi 4866),(1,vs r_4),(2,vi 258),(3,vi 772)]) (pl:=[(0,1),(1,1),(2,1),(3,1)]) rfl rfl underlying23 inf23 places23 zer23 (cs:=flat [(1,[vi 4866]),(1,[vs r_4]),(1,[vi 258]),(1,[vi 772])]) (by kernel_rfl)) ?_
   refine TLe (E_allocP [(1,[vi 0]),(1,[vs ([]:Str)]),(1,[vi 0]),(1,[vi 0])] inf23 zer23 ⟨rfl,rfl,rfl,rfl,trivial⟩) (fun b1=>?_)
   refine TLn (E_sp (b:=b1) (o:=0) [0,0,0,0] [(1,[vi 0]),(1,[vs ([]:Str)]),(1,[vi 0]),(1,[vi 0])] [(1,[vi 4866]),(1,[vs r_4]),(1,[vi 258]),(1,[vi 772])] rfl inf23 ⟨rfl,rfl,rfl,rfl,trivial⟩ ⟨rfl,rfl,rfl,rfl,trivial⟩ ⟨(OneC.cons rfl OneC.nil),(OneC.cons rfl OneC.nil),(OneC.cons rfl OneC.nil),(OneC.cons rfl OneC.nil),trivial⟩) (fun _=>?_)
   refine TL_nil (TX_next (TC_seq (TC_region (TVm ?_))))
   refine TVm ?_
   refine TLv (V_loadAgg (n:=4) (cs:=flat [(1,[vi 4866]),(1,[vs r_4]),(1,[vi 258]),(1,[vi 772])]) rfl (by simp) (SrcEnts (b:=b1) [(1,[vi 4866]),(1,[vs r_4]),(1,[vi 258]),(1,[vi 772])] 0 ⟨rfl,rfl,rfl,rfl,trivial⟩ (AllSrc.all (M:=ents b1 0 [(1,[vi 4866]),(1,[vs r_4]),(1,[vi 258]),(1,[vi 772])]) ⟨Src.own (j:=0) rfl,Src.own (j:=1) rfl,Src.own (j:=2) rfl,Src.own (j:=3) rfl,trivial⟩)) isAgg23 inf23 rfl (flat_len ⟨rfl,rfl,rfl,rfl,trivial⟩ rfl)) ?_
   obtain ⟨r_5,hr_5,H⟩:=bind_elim H
   refine TLe (E_c0 (F7_calls r_2 r_3 4866 r_4 258 772 r_5 hr_5) call7 .z) (fun g_5=>?_)
   refine TVm ?_
   refine TLv V_ex ?_
   refine TLv V_ex ?_
   refine TVa ?_
   refine TVa ?_
   refine TL_nil (TX_next (TC_seq (TC_region (TLv (V_fieldE rfl underlying23 rfl rfl inf9 rfl (v:=ptr (some (b1,1)) 0) rfl) ?_))))
   refine TLv (V_load rfl (.o 1) rfl isAgg9) ?_
   obtain ⟨h2,H⟩:=if_elim H
   refine TLv (V_bin rfl rfl (fun w=>addS w ([19#8,2#8,0#8,0#8,1#8,2#8,0#8,0#8,3#8,4#8]:Str) r_4 h2)) ?_
   refine TVa ?_
   obtain ⟨p1,hp1,H⟩:=ltt_elim H
   refine TLr 14 (congrArg vs hp1) ?_
   refine TL_nil (TX_next (TC.sub (m':=[(2,_),(3,_),(9,_),(10,_),(12,_),(13,_),(14,_)]) ⟨rfl,rfl,rfl,rfl,rfl,rfl,rfl,trivial⟩ ?_))
   refine TC.pull (is:=[]) (L':=[]) rfl ?_
   refine TC_seq (TC_region (TVm ?_))
   refine TVm ?_
   refine TVm ?_
   obtain ⟨r_6,hr_6,H⟩:=bind_elim H
   refine TLe (E_c0 (F15_calls r_2 r_3 ([]:Str) p1 r_6 hr_6) call15 .z) (fun g_6=>?_)
   refine TVm ?_
   refine TLv V_ex ?_
   refine TLv V_ex ?_
   refine TVa ?_
   refine TVa ?_
   refine TL_nil (TX_next (TC_seq (TC_region (TVm ?_))))
   refine TLv (V_bin rfl rfl (fun w=>andI w suite 65535)) ?_
   refine TVa ?_
   obtain ⟨w_1,hw_1,H⟩:=ltt_elim H
   refine TLr 17 (congrArg vi hw_1) ?_
   refine TL_nil (TX_next (TC_seq ?_))
   obtain ⟨h3,H⟩:=if_elim H
   obtain ⟨h4,H⟩:=if_elim H
   obtain ⟨h5,H⟩:=if_elim H
   obtain ⟨odd1,hodd1,H⟩:=ltt_elim H
   refine TA_begin [] 11 (by kernel_rfl) (N:=11) rfl ?_
   refine TA_mix (is:=[]) (done':=dn 11 1023) [itV 0 59 (vi w_1) [],itV 1 60 (vi (shrI' w_1 8)) [0],itV 2 61 (v8 (BitVec.ofInt 8 (shrI' w_1 8))) [1],itV 3 62 (vi w_1) [],itV 4 63 (v8 (BitVec.ofInt 8 w_1)) [3],⟨5,64,fun b2=>sl (some (b2,0)) 2 2,fun b2=>[⟨some (b2,0),e8 ([BitVec.ofInt 8 (shrI' w_1 8),BitVec.ofInt 8 w_1]:List (BitVec 8))⟩],[2,4],none⟩,⟨6,65,fun _=>vs ([BitVec.ofInt 8 (shrI' w_1 8),BitVec.ofInt 8 w_1]:List (BitVec 8)),fun _=>[],[5],some 5⟩,itV 7 66 (vs p1) [],itV 8 67 (vs (sub p1 2 ((p1).length))) [7],itV 9 68 (vs (([BitVec.ofInt 8 (shrI' w_1 8),BitVec.ofInt 8 w_1]:List (BitVec 8))++(sub p1 2 ((p1).length)))) [6,8]] [] 1 (by kernel_rfl) (QP.then QP.body) (by kernel_rfl) rfl (.v rfl (V_move rfl) (.v rfl (V_bin rfl rfl (fun w=>shrI w w_1 .u64 8 (by decide))) (.v rfl (V_conv rfl (fun w=>cvI8 w _ _ underlying5 (und3) .i64 (shrI' w_1 8))) (.v rfl (V_move rfl) (.v rfl (V_conv rfl (fun w=>cvI8 w _ _ underlying5 (und3) .i64 w_1)) (.c rfl (fun _ _=>(E_buildSlice (pv:=[(0,v8 (BitVec.ofInt 8 (shrI' w_1 8))),(1,v8 (BitVec.ofInt 8 w_1))]) rfl rfl underlying40 inf5 (s:=1) rfl zer5 rfl rfl rfl (cs:=e8 ([BitVec.ofInt 8 (shrI' w_1 8),BitVec.ofInt 8 w_1]:List (BitVec 8))) (by kernel_rfl))) (.c rfl (fun _ _=>OpE_v (V_b2s rfl underlying40 underlying5 underlying9 (.o 0) h3)) (.v rfl (V_move rfl) (.v rfl (V_sliceStr (l:=2) (h:=(p1).length) rfl underlying9 (Bnd.some' (i:=2) rfl (by decide)) Bnd.none' h4 (Nat.le_refl _)) (.v rfl (V_bin rfl rfl (fun w=>addS w ([BitVec.ofInt 8 (shrI' w_1 8),BitVec.ofInt 8 w_1]:List (BitVec 8)) (sub p1 2 ((p1).length)) h5)) .nil)))))))))) .nil (by kernel_rfl) rfl (fun γ=>?_)
   refine TA_cut [(68,vs (([BitVec.ofInt 8 (shrI' w_1 8),BitVec.ofInt 8 w_1]:List (BitVec 8))++(sub p1 2 ((p1).length)))),(17,vi w_1),(16,vi r_6.2),(15,vs r_6.1),(3,vi cut),(9,vs r_2),(10,vs r_3),(12,vs r_5.1),(13,vi r_5.2),(14,vs p1)] [⟨some ((γ 5),0),e8 ([BitVec.ofInt 8 (shrI' w_1 8),BitVec.ofInt 8 w_1]:List (BitVec 8))⟩] ⟨rfl,rfl,rfl,rfl,rfl,rfl,rfl,rfl,rfl,rfl,trivial⟩ rfl ?_
   generalize γ 5=b2
   refine TA_all (rs:=[10]) (by kernel_rfl) rfl ?_
   refine ⟨?_,trivial⟩
   refine TO_v (is:=[]) (done':=dn 11 2047) rfl rfl rfl rfl (by kernel_rfl) (V_assign rfl) (fun _=>rfl) ?_
   refine TA_re (d:=18) (v:=vs (([BitVec.ofInt 8 (shrI' w_1 8),BitVec.ofInt 8 w_1]:List (BitVec 8))++(sub p1 2 ((p1).length)))) (v':=vs odd1) rfl (congrArg vs hodd1) ?_
   refine TA_done (by kernel_rfl) ?_ 0
   refine TX_next (TC_seq (TC_region (TVm ?_)))
   refine TVm ?_
   refine TVm ?_
   obtain ⟨r_7,hr_7,H⟩:=bind_elim H
   refine TLe (E_c0 (F15_calls r_2 r_3 ([]:Str) odd1 r_7 hr_7) call15 .z) (fun g_7=>?_)
   refine TVm ?_
   refine TLv V_ex ?_
   refine TLv V_ex ?_
   refine TVa ?_
   refine TVa ?_
   refine TL_nil (TX_next (TC_seq (TC_region (TVm ?_))))
   refine TVm ?_
   refine TVm ?_
   obtain ⟨h6,H⟩:=if_elim H
   refine TLv (V_bin rfl rfl (fun w=>addS w r_3 r_7.1 h6)) ?_
   obtain ⟨r_8,hr_8,H⟩:=bind_elim H
   refine TLe (E_c0 (F9_calls r_2 (r_3++r_7.1) r_8 hr_8) call9 ⟨.r 0,trivial⟩) (fun g_8=>?_)
   refine TVm ?_
   refine TLv V_ex ?_
   refine TLv V_ex ?_
   refine TLe (E_allocP [(1,[vi 0]),(1,[vs ([]:Str)]),(1,[vi 0]),(1,[vi 0])] inf23 zer23 ⟨rfl,rfl,rfl,rfl,trivial⟩) (fun b3=>?_)
   refine TLn (E_sp (b:=b3) (o:=0) [0,0,0,0] [(1,[vi 0]),(1,[vs ([]:Str)]),(1,[vi 0]),(1,[vi 0])] [(1,[vi r_8.1]),(1,[vs r_8.2.1]),(1,[vi r_8.2.2.1]),(1,[vi r_8.2.2.2.1])] rfl inf23 ⟨rfl,rfl,rfl,rfl,trivial⟩ ⟨rfl,rfl,rfl,rfl,trivial⟩ ⟨(OneC.cons rfl OneC.nil),(OneC.cons rfl OneC.nil),(OneC.cons rfl OneC.nil),(OneC.cons rfl OneC.nil),trivial⟩) (fun _=>?_)
   refine TVa ?_
   refine TL_nil (TX_next (TC.sub (m':=[(3,_),(9,_),(10,_),(12,_),(13,_),(14,_),(15,_),(16,_),(17,_),(20,_),(22,_)]) ⟨rfl,rfl,rfl,rfl,rfl,rfl,rfl,rfl,rfl,rfl,rfl,trivial⟩ ?_))
   refine TC.pull (is:=[]) (L':=[]) rfl ?_
   refine TC_seq (TC_region (TVm ?_))
   refine TVm ?_
   refine TVm ?_
   refine TVm ?_
   refine TLv (V_conv rfl (fun w=>cvI64 w _ _ underlying36 (und3) .i64 cut)) ?_
   refine TLv (V_bin rfl rfl (fun w=>rem64 w (BitVec.ofInt 64 cut) 58#64 (by decide))) ?_
   refine TLv (V_conv rfl (fun w=>cv64toI w _ _ underlying3 (und36) ((BitVec.ofInt 64 cut) % 58#64))) ?_
   obtain ⟨h7,H⟩:=if_elim H
   obtain ⟨h8,H⟩:=if_elim H
   refine TLv (V_sliceStr (l:=0) (h:=(w64 (((BitVec.ofInt 64 cut) % 58#64).toNat:Int)).toNat) rfl underlying9 Bnd.none' (Bnd.some' (i:=w64 (((BitVec.ofInt 64 cut) % 58#64).toNat:Int)) rfl h7) (Nat.zero_le _) h8) ?_
   obtain ⟨r_9,hr_9,H⟩:=bind_elim H
   refine TLe (E_c0 (F15_calls r_2 r_3 ([]:Str) (sub p1 0 ((w64 (((BitVec.ofInt 64 cut) % 58#64).toNat:Int)).toNat)) r_9 hr_9) call15 .z) (fun g_9=>?_)
   refine TVm ?_
   refine TLv V_ex ?_
   refine TLv V_ex ?_
   refine TVa ?_
   refine TVa ?_
   refine TL_nil (TX_next (TC_seq (TC_region (TVm ?_))))
   refine TVm ?_
   refine TVm ?_
   obtain ⟨h9,H⟩:=if_elim H
   refine TLv (V_bin rfl rfl (fun w=>addS w r_3 r_9.1 h9)) ?_
   obtain ⟨r_10,hr_10,H⟩:=bind_elim H
   refine TLe (E_c0 (F9_calls r_2 (r_3++r_9.1) r_10 hr_10) call9 ⟨.r 0,trivial⟩) (fun g_10=>?_)
   refine TVm ?_
   refine TLv V_ex ?_
   refine TLv V_ex ?_
   refine TLe (E_allocP [(1,[vi 0]),(1,[vs ([]:Str)]),(1,[vi 0]),(1,[vi 0])] inf23 zer23 ⟨rfl,rfl,rfl,rfl,trivial⟩) (fun b4=>?_)
   refine TLn (E_sp (b:=b4) (o:=0) [0,0,0,0] [(1,[vi 0]),(1,[vs ([]:Str)]),(1,[vi 0]),(1,[vi 0])] [(1,[vi r_10.1]),(1,[vs r_10.2.1]),(1,[vi r_10.2.2.1]),(1,[vi r_10.2.2.2.1])] rfl inf23 ⟨rfl,rfl,rfl,rfl,trivial⟩ ⟨rfl,rfl,rfl,rfl,trivial⟩ ⟨(OneC.cons rfl OneC.nil),(OneC.cons rfl OneC.nil),(OneC.cons rfl OneC.nil),(OneC.cons rfl OneC.nil),trivial⟩) (fun _=>?_)
   refine TVa ?_
   refine TL_nil (TX_next (TC.sub (m':=[(10,_),(12,_),(13,_),(15,_),(16,_),(17,_),(20,_),(22,_),(24,_),(26,_)]) ⟨rfl,rfl,rfl,rfl,rfl,rfl,rfl,rfl,rfl,rfl,trivial⟩ ?_))
   refine TC.pull (is:=[]) (L':=[]) rfl ?_
   refine TC_seq (TC_region (TVm ?_))
   obtain ⟨r_11,hr_11,H⟩:=bind_elim H
   refine TLe (E_c0 (F11_calls r_5.2 r_11 hr_11) call11 .z) (fun g_11=>?_)
   refine TLv (V_bin rfl rfl (fun w=>eqlI w r_11 0)) ?_
   refine TVm ?_
   refine TFd (d:=107) H (fun hc H=>?_) (fun hc H=>?_)
   ·refine TLw (V_move rfl) ?_
    refine TLw (V_bin rfl rfl (fun w=>eqlI w r_6.2 0)) ?_
    refine TVt ?_
    refine TVm ?_
    refine TFd (d:=111) H (fun hc H=>?_) (fun hc H=>?_)
    ·refine TLw (V_move rfl) ?_
     refine TLw (V_move rfl) ?_
     refine TLw (V_move rfl) ?_
     obtain ⟨h10,H⟩:=if_elim H
     refine TLw (V_bin rfl rfl (fun w=>addS w r_3 r_6.1 h10)) ?_
     refine TLw (V_bin rfl rfl (fun w=>eqlS w r_5.1 (r_3++r_6.1))) ?_
     refine TVt ?_
     refine TVm ?_
     refine TFd (d:=118) H (fun hc H=>?_) (fun hc H=>?_)
     ·refine TLw (V_move rfl) ?_
      refine TLw (V_bin rfl rfl (fun w=>eqlI w r_7.2 0)) ?_
      refine TVt ?_
      refine TVm ?_
      refine TFd (d:=122) H (fun hc H=>?_) (fun hc H=>?_)
      ·refine TLw (V_move rfl) ?_
       obtain ⟨r_12,hr_12,H⟩:=bind_elim H
       refine TLu (E_c0 (F11_calls r_8.2.2.2.2 r_12 hr_12) call11 .z) (fun g_12=>?_)
       refine TLw (V_bin rfl rfl (fun w=>eqlI w r_12 0)) ?_
       refine TLw (V_move rfl) ?_
       refine TLw (V_bin rfl rfl (fun w=>eqlI w w_1 4866)) ?_
       refine TLw (V_bin rfl rfl (fun w=>eqlB w (decide (r_12=0)) (decide (w_1=4866)) underlying4)) ?_
       refine TVt ?_
       refine TVm ?_
       refine TFb (d:=130) H (fun hc H=>?_) (fun hc H=>?_)
       ·refine TLw (V_move rfl) ?_
        refine TLw (V_bin rfl rfl (fun w=>eqlI w r_9.2 0)) ?_
        refine TVt ?_
        refine TVm ?_
        refine TFd (d:=134) H (fun hc H=>?_) (fun hc H=>?_)
        ·refine TLw (V_move rfl) ?_
         obtain ⟨r_13,hr_13,H⟩:=bind_elim H
         refine TLu (E_c0 (F11_calls r_10.2.2.2.2 r_13 hr_13) call11 .z) (fun g_13=>?_)
         refine TLw (V_bin rfl rfl (fun w=>eqlI w r_13 2001)) ?_
         refine TVt ?_
         refine TVa ?_
         obtain ⟨x1,hx1,H⟩:=ltt_elim H
         refine TLr 8 (congrArg vb hx1) ?_
         refine TL_nil (TX_next (TC.sub (m':=[(8,_)]) ⟨rfl,trivial⟩ ?_))
         refine TC.pull (is:=[]) (L':=[]) rfl ?_
         refine TC_ret ?_
         obtain rfl:=sj H
         exact TX1
        ·refine TLs ?_
         refine TLs ?_
         refine TLs ?_
         refine TVf ?_
         refine TVa ?_
         refine TL_nil (TX_next (TC.sub (m':=[(8,_)]) ⟨rfl,trivial⟩ ?_))
         refine TC.pull (is:=[]) (L':=[]) rfl ?_
         refine TC_ret ?_
         obtain rfl:=sj H
         exact TX1
       ·refine TLs ?_
        refine TLs ?_
        refine TVf ?_
        refine TVm ?_
        refine TLs ?_
        refine TLs ?_
        refine TLs ?_
        refine TVf ?_
        refine TVa ?_
        refine TL_nil (TX_next (TC.sub (m':=[(8,_)]) ⟨rfl,trivial⟩ ?_))
        refine TC.pull (is:=[]) (L':=[]) rfl ?_
        refine TC_ret ?_
        obtain rfl:=sj H
        exact TX1
      ·refine TLs ?_
       refine TLs ?_
       refine TLs ?_
       refine TLs ?_
       refine TLs ?_
       refine TLs ?_
       refine TVf ?_
       refine TVm ?_
       refine TLs ?_
       refine TLs ?_
       refine TVf ?_
       refine TVm ?_
       refine TLs ?_
       refine TLs ?_
       refine TLs ?_
       refine TVf ?_
       refine TVa ?_
       refine TL_nil (TX_next (TC.sub (m':=[(8,_)]) ⟨rfl,trivial⟩ ?_))
       refine TC.pull (is:=[]) (L':=[]) rfl ?_
       refine TC_ret ?_
       obtain rfl:=sj H
       exact TX1
     ·refine TLs ?_
      refine TLs ?_
      refine TVf ?_
      refine TVm ?_
      refine TLs ?_
      refine TLs ?_
      refine TLs ?_
      refine TLs ?_
      refine TLs ?_
      refine TLs ?_
      refine TVf ?_
      refine TVm ?_
      refine TLs ?_
      refine TLs ?_
      refine TVf ?_
      refine TVm ?_
      refine TLs ?_
      refine TLs ?_
      refine TLs ?_
      refine TVf ?_
      refine TVa ?_
      refine TL_nil (TX_next (TC.sub (m':=[(8,_)]) ⟨rfl,trivial⟩ ?_))
      refine TC.pull (is:=[]) (L':=[]) rfl ?_
      refine TC_ret ?_
      obtain rfl:=sj H
      exact TX1
    ·refine TLs ?_
     refine TLs ?_
     refine TLs ?_
     refine TLs ?_
     refine TLs ?_
     refine TVf ?_
     refine TVm ?_
     refine TLs ?_
     refine TLs ?_
     refine TVf ?_
     refine TVm ?_
     refine TLs ?_
     refine TLs ?_
     refine TLs ?_
     refine TLs ?_
     refine TLs ?_
     refine TLs ?_
     refine TVf ?_
     refine TVm ?_
     refine TLs ?_
     refine TLs ?_
     refine TVf ?_
     refine TVm ?_
     refine TLs ?_
     refine TLs ?_
     refine TLs ?_
     refine TVf ?_
     refine TVa ?_
     refine TL_nil (TX_next (TC.sub (m':=[(8,_)]) ⟨rfl,trivial⟩ ?_))
     refine TC.pull (is:=[]) (L':=[]) rfl ?_
     refine TC_ret ?_
     obtain rfl:=sj H
     exact TX1
   ·refine TLs ?_
    refine TLs ?_
    refine TVf ?_
    refine TVm ?_
    refine TLs ?_
    refine TLs ?_
    refine TLs ?_
    refine TLs ?_
    refine TLs ?_
    refine TVf ?_
    refine TVm ?_
    refine TLs ?_
    refine TLs ?_
    refine TVf ?_
    refine TVm ?_
    refine TLs ?_
    refine TLs ?_
    refine TLs ?_
    refine TLs ?_
    refine TLs ?_
    refine TLs ?_
    refine TVf ?_
    refine TVm ?_
    refine TLs ?_
    refine TLs ?_
    refine TVf ?_
    refine TVm ?_
    refine TLs ?_
    refine TLs ?_
    refine TLs ?_
    refine TVf ?_
    refine TVa ?_
    refine TL_nil (TX_next (TC.sub (m':=[(8,_)]) ⟨rfl,trivial⟩ ?_))
    refine TC.pull (is:=[]) (L':=[]) rfl ?_
    refine TC_ret ?_
    obtain rfl:=sj H
    exact TX1
end Go.Proofs
end

section
namespace Go.Proofs
open Go Go.Kx
def pf10:Str:=[19#8,2#8,0#8,0#8,1#8,2#8,0#8,0#8,3#8,4#8]
theorem enc_known (sec:Str):encT 4866 sec 258 772=pf10++sec:=by
 have h1:bytesI 4866 2=[19#8,2#8]:=by rw [bytesI_twoT]; rfl
 have h2:bytesI 258 4=[0#8,0#8,1#8,2#8]:=by rw [bytesI_four]; rfl
 have h3:bytesI 772 4=[0#8,0#8,3#8,4#8]:=by rw [bytesI_four]; rfl
 unfold encT pf10
 rw [h1,h2,h3]; rfl
theorem enc_odd (w:Int) (sec:Str) (s:Str) (hs:s=pf10++sec):[BitVec.ofInt 8 (shrI' w 8),BitVec.ofInt 8 w]++sub s 2 s.length=encT w sec 258 772:=by
 subst hs
 have h2:bytesI 258 4=[0#8,0#8,1#8,2#8]:=by rw [bytesI_four]; rfl
 have h3:bytesI 772 4=[0#8,0#8,3#8,4#8]:=by rw [bytesI_four]; rfl
 have h4:sub (pf10++sec) 2 (pf10++sec).length=([0#8,0#8,1#8,2#8,0#8,0#8,3#8,4#8]:Str)++sec:=by
  show sub ([19#8,2#8]++(([0#8,0#8,1#8,2#8,0#8,0#8,3#8,4#8]:Str)++sec)) 2 _=_
  exact sub_suf [19#8,2#8] _ 2 _ rfl rfl
 unfold encT
 rw [h2,h3,h4,bytesI_twoT]; simp
theorem cut_no (sec:Str) (k:Nat) (hk:k<58) (hs:sec.length=48) : ¬ okP (sub (pf10++sec) 0 k):=by
 rintro ⟨h10,h⟩
 have hpl:(pf10++sec).length=58:=by rw [List.length_append,hs]; rfl
 have hk2:(sub (pf10++sec) 0 k).length=k:=by rw [sub_length (by omega)]; omega
 rw [hk2] at h10
 have e:numB (sub (pf10++sec) 0 k) 0 2=4866:=by
  have g : ∀ i,i<2 → (sub (pf10++sec) 0 k).getD (0+i) 0#8=(pf10++sec).getD i 0#8:=fun i hi=>by
   rw [sub_getD _ _ _ _ (by omega)]; simp
  have g0:(pf10++sec).getD 0 0#8=19#8:=rfl
  have g1:(pf10++sec).getD 1 0#8=2#8:=rfl
  show (0 * 256+((sub (pf10++sec) 0 k).getD (0+0) 0#8).toNat) * 256+((sub (pf10++sec) 0 k).getD (0+1) 0#8).toNat=4866
  rw [g 0 (by decide),g 1 (by decide),g0,g1]
  decide
 have h2:=h.2.1
 rw [e,sub_length (Nat.le_refl _),hk2] at h2
 have:hl ((4866:Nat):Int)=48:=by decide
 omega
theorem mask16 (x:Int):iop (· &&& ·) x 65535=x % 65536:=and_mask x 16 (by decide)
theorem TicketParts_true (seed text:Str) (suite cut:Int) (r:seed.length≤140737488351232):halberdlaw20_TicketParts seed text suite cut=some true:=by
 unfold halberdlaw20_TicketParts
 refine bind_i awake20 (if_n (by decide) ?_)
 by_cases ht:300<(text.length:Int)
 ·exact if_i ht rfl
 refine if_n ht (bind_i (filled20_eq seed 32 (by decide)) (if_i (by simp; omega) (bind_i (filled20_eq _ 12 (by decide)) (bind_i (filled20_eq text 48 (by decide)) ?_))))
 have hk:=filE_length seed 32
 have hn:=filE_length ([110#8]++seed) 12
 have hs:=filE_length text 48
 generalize filE seed 32=key at hk ⊢
 generalize filE ([110#8]++seed) 12=nonce at hn ⊢
 generalize filE text 48=sec at hs ⊢
 have hT:okT 4866 sec 258 772:=⟨.inr (.inl rfl),by rw [hs]; rfl,by unfold ok32; omega,by unfold ok32; omega⟩
 refine bind_i (SealT_eq _ _ _ _ _ _) (if_i (by rw [hs]; decide) (ltt_i fun p hp=>?_))
 have hp:p=pf10++sec:=hp
 have hpl:p.length=58:=by rw [hp,List.length_append,hs]; rfl
 rw [sealT_pos ⟨hT,hk,hn⟩,enc_known, ← hp]
 have hsp:=sealE_len hk hn (s:=p) (by omega)
 have hcp:(sealE key nonce [] p).2=0:=by rw [sealE_ok hk hn (by omega)]
 refine bind_i (SealR_eq _ _ _ _) (ltt_i fun w hw=>?_)
 rw [mask16] at hw
 have hw2:0≤w∧w<65536:=by rw [hw]; exact ⟨Int.emod_nonneg _ (by decide),Int.emod_lt_of_pos _ (by decide)⟩
 clear hw
 have hod:=enc_odd w sec p hp
 refine if_i rfl (if_i (by omega) (if_i (by rw [sub_length (Nat.le_refl _)]; simp; omega) (ltt_i fun odd ho=>?_)))
 rw [hod] at ho
 have hol:odd.length=58:=by rw [ho,encT_length,hs]
 have hso:=sealE_len hk hn (s:=odd) (by omega)
 have hco:(sealE key nonce [] odd).2=0:=by rw [sealE_ok hk hn (by omega)]
 have hoo:=open_sealP hk hn (p:=odd) (by omega)
 have hoe:((openT key (nonce++(sealE key nonce [] odd).1)).2.2.2.2=0) ↔ w=4866:=by
  rw [hoo,ho]
  have hb:ok32 258∧ok32 772:=by unfold ok32; omega
  by_cases c:w=4866
  ·subst c
   rw [if_pos ((okP_enc (by omega) hb.1 hb.2).2 hT)]
   exact ⟨fun _=>rfl,fun _=>rfl⟩
  ·rw [if_neg]
   ·exact ⟨fun h=>absurd h (by decide),fun h=>absurd h c⟩
   ·intro h
    have h:=(okP_enc (by omega) hb.1 hb.2).1 h
    have h2:=h.2.1
    unfold hl at h2
    rw [if_neg c] at h2
    omega
 refine bind_i (SealR_eq _ _ _ _) (if_i (by omega) (bind_i (OpenT_eq _ _) ?_))
 have hq:((BitVec.ofInt 64 cut) % 58#64).toNat<58:=by rw [BitVec.toNat_umod]; exact Nat.mod_lt _ (by decide)
 generalize ((BitVec.ofInt 64 cut) % 58#64).toNat=q at hq ⊢
 rw [w64_nat (by omega),Int.toNat_natCast]
 have hql:(sub p 0 q).length=q:=by rw [sub_length (by omega)]; omega
 have hsq:=sealE_len hk hn (s:=sub p 0 q) (by omega)
 have hcq:(sealE key nonce [] (sub p 0 q)).2=0:=by rw [sealE_ok hk hn (by omega)]
 have hoq:=open_sealP hk hn (p:=sub p 0 q) (by omega)
 rw [if_neg (by rw [hp]; exact cut_no sec q hq hs)] at hoq
 refine if_i (by omega) (if_i (by omega) (bind_i (SealR_eq _ _ _ _) (if_i (by omega) (bind_i ((OpenT_eq _ _).trans (congrArg some hoq)) (bind_i (num0 _) (if_i rfl (if_i hcp (if_i (by omega) (if_i rfl (if_i hco (bind_i (num0 _) (if_i ?_ (if_i hcq (bind_i (num0 _) (ltt_i fun x hx=>by rw [hx]; rfl)))))))))))))))
 by_cases c:w=4866
 ·rw [decide_eq_true (hoe.2 c),decide_eq_true c]; rfl
 ·rw [decide_eq_false (fun h=>c (hoe.1 h)),decide_eq_false c]; rfl
end Go.Proofs
end

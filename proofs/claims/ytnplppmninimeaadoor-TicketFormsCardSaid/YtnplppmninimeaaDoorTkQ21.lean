/-
  Part 21 of the proof of what several laws share.
-/
import Derived.SizedLaws
import Derived.ChangeSlices
import Derived.SliceStrings
import Derived.WideShapes
import Derived.ChangeShapes
import Derived.Test.YtnplppmninimeaaDoorTkQ1
import Derived.Test.YtnplppmninimeaaDoorTkQ2
import Derived.Test.YtnplppmninimeaaDoorTkQ3
import Derived.Test.YtnplppmninimeaaDoorTkQ4
import Derived.Test.YtnplppmninimeaaDoorTkQ5
import Derived.Test.YtnplppmninimeaaDoorTkQ6
import Derived.Test.YtnplppmninimeaaDoorTkQ7
import Derived.Test.YtnplppmninimeaaDoorTkQ8
import Derived.Test.YtnplppmninimeaaDoorTkQ9
import Derived.Test.YtnplppmninimeaaDoorTkQ10
import Derived.Test.YtnplppmninimeaaDoorTkQ11
import Derived.Test.YtnplppmninimeaaDoorTkQ12
import Derived.Test.YtnplppmninimeaaDoorTkQ13
import Derived.Test.YtnplppmninimeaaDoorTkQ14
import Derived.Test.YtnplppmninimeaaDoorTkQ15
import Derived.Test.YtnplppmninimeaaDoorTkQ16
import Derived.Test.YtnplppmninimeaaDoorTkQ17
import Derived.Test.YtnplppmninimeaaDoorTkQ18
import Derived.Test.YtnplppmninimeaaDoorTkQ19
import Derived.Test.YtnplppmninimeaaDoorTkQ20
set_option linter.unusedVariables false
set_option linter.unusedSimpArgs false
section
namespace Go.Proofs
open Go Go.Kx
open TrydI Tryd
def halberdlaw20_awake:Option (Bool) :=
 (halberdlaw20_filled ([115#8]:Str) 32).bind fun (r_1:Str)=>((halberdlaw20_filled ([107#8]:Str) 32).bind fun (r_2:Str)=>((halberdlaw20_filled ([110#8]:Str) 12).bind fun (r_3:Str)=>((ticket_Seal r_2 r_3 4865 r_1 5 6).bind fun (r_4:Str × Int)=>((halberdlaw20_filled ([107#8]:Str) 32).bind fun (r_5:Str)=>((ticket_Open r_5 r_4.1).bind fun (r_6:Int × Str × Int × Int × Int)=>((halberdlaw20_filled ([111#8]:Str) 32).bind fun (r_7:Str)=>((ticket_Open r_7 r_4.1).bind fun (r_8:Int × Str × Int × Int × Int)=>((ticket_Open ([]:Str) r_4.1).bind fun (r_9:Int × Str × Int × Int × Int)=>((halberdlaw20_filled ([107#8]:Str) 32).bind fun (r_10:Str)=>((ticket_Seal r_10 ([]:Str) 4865 r_1 5 6).bind fun (r_11:Str × Int)=>(if ((r_4.1).length:Int)=70 then ((halberdlaw0_Num r_4.2).bind fun (r_12:Int)=>(if r_12=0 then (if (Lf.all [Lf.i r_6.1,Lf.s r_6.2.1,Lf.i r_6.2.2.1,Lf.i r_6.2.2.2.1] [Lf.i 4865,Lf.s r_1,Lf.i 5,Lf.i 6])=true then ((halberdlaw0_Num r_6.2.2.2.2).bind fun (r_13:Int)=>(if r_13=0 then ((halberdlaw0_Num r_8.2.2.2.2).bind fun (r_14:Int)=>(if r_14=2001 then ((halberdlaw0_Num r_9.2.2.2.2).bind fun (r_15:Int)=>(if r_15=2000 then ((halberdlaw0_Num r_11.2).bind fun (r_16:Int)=>(ltt (decide (r_16=2000)) fun (x1:Bool)=>(some x1))) else (some false))) else (some false))) else (some false))) else (some false)) else (some false))) else (some false))))))))))))
set_option maxHeartbeats 4000000 in
set_option maxRecDepth 20000 in
theorem F12_calls (r:Bool) (H:halberdlaw20_awake=some r) :
  Does Tryd.prog 12 [] [] [⟨some (0,0),[hdE]⟩] (Γ:=Unit) (fun g=>vb r) (fun g=>[]):=by
 intro w hmem hro hd
 refine calls_of (N:=77) (m0:=[]) func12 rfl ntmps12 (argM_ok []) rfl hmem hro hd ?_
 unfold halberdlaw20_awake at H
 refine TC_seq (TC_region (TVa ?_))
 refine TL_nil (TX_next (TC_seq (TC_region ?_)))
 obtain ⟨r_1,hr_1,H⟩:=bind_elim H
 refine TLe (E_c0 (F14_calls ([115#8]:Str) 32 r_1 hr_1) call14 .z) (fun g_1=>?_)
 refine TLv (V_buildStruct (pv:=[(0,vi 4865),(1,vs r_1),(2,vi 5),(3,vi 6)]) (pl:=[(0,1),(1,1),(2,1),(3,1)]) rfl rfl underlying23 inf23 places23 zer23 (cs:=flat [(1,[vi 4865]),(1,[vs r_1]),(1,[vi 5]),(1,[vi 6])]) (by kernel_rfl)) ?_
 refine TLe (E_allocP [(1,[vi 0]),(1,[vs ([]:Str)]),(1,[vi 0]),(1,[vi 0])] inf23 zer23 ⟨rfl,rfl,rfl,rfl,trivial⟩) (fun b1=>?_)
 refine TLn (E_sp (b:=b1) (o:=0) [0,0,0,0] [(1,[vi 0]),(1,[vs ([]:Str)]),(1,[vi 0]),(1,[vi 0])] [(1,[vi 4865]),(1,[vs r_1]),(1,[vi 5]),(1,[vi 6])] rfl inf23 ⟨rfl,rfl,rfl,rfl,trivial⟩ ⟨rfl,rfl,rfl,rfl,trivial⟩ ⟨(OneC.cons rfl OneC.nil),(OneC.cons rfl OneC.nil),(OneC.cons rfl OneC.nil),(OneC.cons rfl OneC.nil),trivial⟩) (fun _=>?_)
 refine TL_nil (TX_next (TC_seq ?_))
 obtain ⟨r_2,hr_2,H⟩:=bind_elim H
 obtain ⟨r_3,hr_3,H⟩:=bind_elim H
 obtain ⟨r_4,hr_4,H⟩:=bind_elim H
 refine TA_begin [] 9 (by kernel_rfl) (N:=9) rfl ?_
 refine TA_mix (is:=[]) (done':=dn 9 511) [itV 0 15 (vs r_2) [],itV 1 16 (vs r_3) [],itV 2 17 (aG [(1,[vi 4865]),(1,[vs r_1]),(1,[vi 5]),(1,[vi 6])]) [],itV 3 18 (Value.tuple [vs r_4.1,vi r_4.2].toArray) [1,2,0],itV 4 14 (Value.tuple [vs r_4.1,vi r_4.2].toArray) [3],itV 5 19 (vs r_4.1) [4],itV 6 20 (vi r_4.2) [4],itV 7 2 (vs r_4.1) [5],itV 8 3 (vi r_4.2) [6]] [] 0 (by kernel_rfl) (QP.then QP.body) (by kernel_rfl) rfl (.e rfl (E_cu (F14_calls ([107#8]:Str) 32 r_2 hr_2) call14 .z) (.e rfl (E_cu (F14_calls ([110#8]:Str) 12 r_3 hr_3) call14 .z) (.v rfl (V_loadAgg (n:=4) (cs:=flat [(1,[vi 4865]),(1,[vs r_1]),(1,[vi 5]),(1,[vi 6])]) rfl (by simp) (SrcEnts (b:=b1) [(1,[vi 4865]),(1,[vs r_1]),(1,[vi 5]),(1,[vi 6])] 0 ⟨rfl,rfl,rfl,rfl,trivial⟩ (AllSrc.all (M:=ents b1 0 [(1,[vi 4865]),(1,[vs r_1]),(1,[vi 5]),(1,[vi 6])]) ⟨Src.own (j:=0) rfl,Src.own (j:=1) rfl,Src.own (j:=2) rfl,Src.own (j:=3) rfl,trivial⟩)) isAgg23 inf23 rfl (flat_len ⟨rfl,rfl,rfl,rfl,trivial⟩ rfl)) (.e rfl (E_cu (F7_calls r_2 r_3 4865 r_1 5 6 r_4 hr_4) call7 .z) (.v rfl (V_move rfl) (.v rfl V_ex (.v rfl V_ex (.v rfl (V_assign rfl) (.v rfl (V_assign rfl) .nil))))))))) .nil (by kernel_rfl) rfl (fun γ=>?_)
 refine TA_cut [(3,vi r_4.2),(2,vs r_4.1),(1,ptr (some (b1,0)) 0)] [⟨some (b1,0),[vi 4865]⟩,⟨some (b1,1),[vs r_1]⟩,⟨some (b1,2),[vi 5]⟩,⟨some (b1,3),[vi 6]⟩] ⟨rfl,rfl,rfl,trivial⟩ rfl ?_
 refine TA_done (by kernel_rfl) ?_ 0
 refine TX_next (TC_seq (TC_region ?_))
 obtain ⟨r_5,hr_5,H⟩:=bind_elim H
 refine TLe (E_c0 (F14_calls ([107#8]:Str) 32 r_5 hr_5) call14 .z) (fun g_5=>?_)
 refine TVm ?_
 obtain ⟨r_6,hr_6,H⟩:=bind_elim H
 refine TLe (E_c0 (F9_calls r_5 r_4.1 r_6 hr_6) call9 ⟨.r 0,trivial⟩) (fun g_6=>?_)
 refine TVm ?_
 refine TLv V_ex ?_
 refine TLv V_ex ?_
 refine TLe (E_allocP [(1,[vi 0]),(1,[vs ([]:Str)]),(1,[vi 0]),(1,[vi 0])] inf23 zer23 ⟨rfl,rfl,rfl,rfl,trivial⟩) (fun b2=>?_)
 refine TLn (E_sp (b:=b2) (o:=0) [0,0,0,0] [(1,[vi 0]),(1,[vs ([]:Str)]),(1,[vi 0]),(1,[vi 0])] [(1,[vi r_6.1]),(1,[vs r_6.2.1]),(1,[vi r_6.2.2.1]),(1,[vi r_6.2.2.2.1])] rfl inf23 ⟨rfl,rfl,rfl,rfl,trivial⟩ ⟨rfl,rfl,rfl,rfl,trivial⟩ ⟨(OneC.cons rfl OneC.nil),(OneC.cons rfl OneC.nil),(OneC.cons rfl OneC.nil),(OneC.cons rfl OneC.nil),trivial⟩) (fun _=>?_)
 refine TVa ?_
 refine TL_nil (TX_next (TC_seq (TC_region ?_)))
 obtain ⟨r_7,hr_7,H⟩:=bind_elim H
 refine TLe (E_c0 (F14_calls ([111#8]:Str) 32 r_7 hr_7) call14 .z) (fun g_7=>?_)
 refine TVm ?_
 obtain ⟨r_8,hr_8,H⟩:=bind_elim H
 refine TLe (E_c0 (F9_calls r_7 r_4.1 r_8 hr_8) call9 ⟨.r 0,trivial⟩) (fun g_8=>?_)
 refine TVm ?_
 refine TLv V_ex ?_
 refine TLv V_ex ?_
 refine TLe (E_allocP [(1,[vi 0]),(1,[vs ([]:Str)]),(1,[vi 0]),(1,[vi 0])] inf23 zer23 ⟨rfl,rfl,rfl,rfl,trivial⟩) (fun b3=>?_)
 refine TLn (E_sp (b:=b3) (o:=0) [0,0,0,0] [(1,[vi 0]),(1,[vs ([]:Str)]),(1,[vi 0]),(1,[vi 0])] [(1,[vi r_8.1]),(1,[vs r_8.2.1]),(1,[vi r_8.2.2.1]),(1,[vi r_8.2.2.2.1])] rfl inf23 ⟨rfl,rfl,rfl,rfl,trivial⟩ ⟨rfl,rfl,rfl,rfl,trivial⟩ ⟨(OneC.cons rfl OneC.nil),(OneC.cons rfl OneC.nil),(OneC.cons rfl OneC.nil),(OneC.cons rfl OneC.nil),trivial⟩) (fun _=>?_)
 refine TVa ?_
 refine TL_nil (TX_next (TC.sub (m':=[(1,_),(2,_),(3,_),(4,_),(5,_),(7,_)]) ⟨rfl,rfl,rfl,rfl,rfl,rfl,trivial⟩ ?_))
 refine TC.pull (is:=[8,8,8,8,4,4,4,4]) (L':=[_,_,_,_,_,_,_,_]) rfl ?_
 refine TC_seq (TC_region (TVm ?_))
 obtain ⟨r_9,hr_9,H⟩:=bind_elim H
 refine TLe (E_c0 (F9_calls ([]:Str) r_4.1 r_9 hr_9) call9 ⟨.r 0,trivial⟩) (fun g_9=>?_)
 refine TVm ?_
 refine TLv V_ex ?_
 refine TLv V_ex ?_
 refine TLe (E_allocP [(1,[vi 0]),(1,[vs ([]:Str)]),(1,[vi 0]),(1,[vi 0])] inf23 zer23 ⟨rfl,rfl,rfl,rfl,trivial⟩) (fun b4=>?_)
 refine TLn (E_sp (b:=b4) (o:=0) [0,0,0,0] [(1,[vi 0]),(1,[vs ([]:Str)]),(1,[vi 0]),(1,[vi 0])] [(1,[vi r_9.1]),(1,[vs r_9.2.1]),(1,[vi r_9.2.2.1]),(1,[vi r_9.2.2.2.1])] rfl inf23 ⟨rfl,rfl,rfl,rfl,trivial⟩ ⟨rfl,rfl,rfl,rfl,trivial⟩ ⟨(OneC.cons rfl OneC.nil),(OneC.cons rfl OneC.nil),(OneC.cons rfl OneC.nil),(OneC.cons rfl OneC.nil),trivial⟩) (fun _=>?_)
 refine TVa ?_
 refine TL_nil (TX_next (TC_seq (TC.sub (m':=[(1,_),(2,_),(3,_),(4,_),(5,_),(7,_),(9,_)]) ⟨rfl,rfl,rfl,rfl,rfl,rfl,rfl,trivial⟩ ?_)))
 refine TC.pull (is:=[4,4,4,4,4,4,4,4]) (L':=[_,_,_,_,_,_,_,_]) rfl ?_
 obtain ⟨r_10,hr_10,H⟩:=bind_elim H
 obtain ⟨r_11,hr_11,H⟩:=bind_elim H
 refine TA_begin [] 8 (by kernel_rfl) (N:=8) rfl ?_
 refine TA_mix (is:=[]) (done':=dn 8 255) [itV 0 39 (vs r_10) [],itV 1 40 (aG [(1,[vi 4865]),(1,[vs r_1]),(1,[vi 5]),(1,[vi 6])]) [],itV 2 41 (Value.tuple [vs r_11.1,vi r_11.2].toArray) [1,0],itV 3 38 (Value.tuple [vs r_11.1,vi r_11.2].toArray) [2],itV 4 42 (vs r_11.1) [3],itV 5 43 (vi r_11.2) [3],itV 6 10 (vs r_11.1) [4],itV 7 11 (vi r_11.2) [5]] [] 0 (by kernel_rfl) (QP.then QP.body) (by kernel_rfl) rfl (.e rfl (E_cu (F14_calls ([107#8]:Str) 32 r_10 hr_10) call14 .z) (.v rfl (V_loadAgg (n:=4) (cs:=flat [(1,[vi 4865]),(1,[vs r_1]),(1,[vi 5]),(1,[vi 6])]) rfl (by simp) (SrcEnts (b:=b1) [(1,[vi 4865]),(1,[vs r_1]),(1,[vi 5]),(1,[vi 6])] 0 ⟨rfl,rfl,rfl,rfl,trivial⟩ (AllSrc.all (M:=ents b1 0 [(1,[vi 4865]),(1,[vs r_1]),(1,[vi 5]),(1,[vi 6])]) ⟨Src.own (j:=0) rfl,Src.own (j:=1) rfl,Src.own (j:=2) rfl,Src.own (j:=3) rfl,trivial⟩)) isAgg23 inf23 rfl (flat_len ⟨rfl,rfl,rfl,rfl,trivial⟩ rfl)) (.e rfl (E_cu (F7_calls r_10 ([]:Str) 4865 r_1 5 6 r_11 hr_11) call7 .z) (.v rfl (V_move rfl) (.v rfl V_ex (.v rfl V_ex (.v rfl (V_assign rfl) (.v rfl (V_assign rfl) .nil)))))))) .nil (by kernel_rfl) rfl (fun γ=>?_)
 refine TA_cut [(11,vi r_11.2),(1,ptr (some (b1,0)) 0),(2,vs r_4.1),(3,vi r_4.2),(4,ptr (some (b2,0)) 0),(5,vi r_6.2.2.2.2),(7,vi r_8.2.2.2.2),(9,vi r_9.2.2.2.2)] [⟨some (b1,0),[vi 4865]⟩,⟨some (b1,1),[vs r_1]⟩,⟨some (b1,2),[vi 5]⟩,⟨some (b1,3),[vi 6]⟩,⟨some (b2,0),[vi r_6.1]⟩,⟨some (b2,1),[vs r_6.2.1]⟩,⟨some (b2,2),[vi r_6.2.2.1]⟩,⟨some (b2,3),[vi r_6.2.2.2.1]⟩] ⟨rfl,rfl,rfl,rfl,rfl,rfl,rfl,rfl,trivial⟩ rfl ?_
 refine TA_done (by kernel_rfl) ?_ 0
 refine TX_next (TC_seq (TC_region (TVm ?_)))
 refine TLv (V_len_str rfl underlying9) ?_
 refine TLv (V_bin rfl rfl (fun w=>eqlI w ((r_4.1).length:Int) 70)) ?_
 refine TVm ?_
 refine TFd (d:=47) H (fun hc H=>?_) (fun hc H=>?_)
 ·refine TLw (V_move rfl) ?_
  obtain ⟨r_12,hr_12,H⟩:=bind_elim H
  refine TLu (E_c0 (F11_calls r_4.2 r_12 hr_12) call11 .z) (fun g_12=>?_)
  refine TLw (V_bin rfl rfl (fun w=>eqlI w r_12 0)) ?_
  refine TVt ?_
  refine TVm ?_
  refine TFd (d:=52) H (fun hc H=>?_) (fun hc H=>?_)
  ·refine TLw (V_loadAgg (n:=4) (cs:=flat [(1,[vi r_6.1]),(1,[vs r_6.2.1]),(1,[vi r_6.2.2.1]),(1,[vi r_6.2.2.2.1])]) rfl (by simp) (SrcEnts (b:=b2) [(1,[vi r_6.1]),(1,[vs r_6.2.1]),(1,[vi r_6.2.2.1]),(1,[vi r_6.2.2.2.1])] 0 ⟨rfl,rfl,rfl,rfl,trivial⟩ (AllSrc.all (M:=ents b2 0 [(1,[vi r_6.1]),(1,[vs r_6.2.1]),(1,[vi r_6.2.2.1]),(1,[vi r_6.2.2.2.1])]) ⟨Src.own (j:=4) rfl,Src.own (j:=5) rfl,Src.own (j:=6) rfl,Src.own (j:=7) rfl,trivial⟩)) isAgg23 inf23 rfl (flat_len ⟨rfl,rfl,rfl,rfl,trivial⟩ rfl)) ?_
   refine TLw (V_loadAgg (n:=4) (cs:=flat [(1,[vi 4865]),(1,[vs r_1]),(1,[vi 5]),(1,[vi 6])]) rfl (by simp) (SrcEnts (b:=b1) [(1,[vi 4865]),(1,[vs r_1]),(1,[vi 5]),(1,[vi 6])] 0 ⟨rfl,rfl,rfl,rfl,trivial⟩ (AllSrc.all (M:=ents b1 0 [(1,[vi 4865]),(1,[vs r_1]),(1,[vi 5]),(1,[vi 6])]) ⟨Src.own (j:=0) rfl,Src.own (j:=1) rfl,Src.own (j:=2) rfl,Src.own (j:=3) rfl,trivial⟩)) isAgg23 inf23 rfl (flat_len ⟨rfl,rfl,rfl,rfl,trivial⟩ rfl)) ?_
   refine TLw (V_bin rfl rfl (fun w=>eqlSt w underlying23 (by kernel_rfl) (by kernel_rfl) [Lf.i r_6.1,Lf.s r_6.2.1,Lf.i r_6.2.2.1,Lf.i r_6.2.2.2.1] [Lf.i 4865,Lf.s r_1,Lf.i 5,Lf.i 6] (by kernel_rfl) (by kernel_rfl) (by kernel_rfl) (by kernel_rfl))) ?_
   refine TVt ?_
   refine TVm ?_
   refine TFb (d:=57) H (fun hc H=>?_) (fun hc H=>?_)
   ·refine TLw (V_move rfl) ?_
    obtain ⟨r_13,hr_13,H⟩:=bind_elim H
    refine TLu (E_c0 (F11_calls r_6.2.2.2.2 r_13 hr_13) call11 .z) (fun g_13=>?_)
    refine TLw (V_bin rfl rfl (fun w=>eqlI w r_13 0)) ?_
    refine TVt ?_
    refine TVm ?_
    refine TFd (d:=62) H (fun hc H=>?_) (fun hc H=>?_)
    ·refine TLw (V_move rfl) ?_
     obtain ⟨r_14,hr_14,H⟩:=bind_elim H
     refine TLu (E_c0 (F11_calls r_8.2.2.2.2 r_14 hr_14) call11 .z) (fun g_14=>?_)
     refine TLw (V_bin rfl rfl (fun w=>eqlI w r_14 2001)) ?_
     refine TVt ?_
     refine TVm ?_
     refine TFd (d:=67) H (fun hc H=>?_) (fun hc H=>?_)
     ·refine TLw (V_move rfl) ?_
      obtain ⟨r_15,hr_15,H⟩:=bind_elim H
      refine TLu (E_c0 (F11_calls r_9.2.2.2.2 r_15 hr_15) call11 .z) (fun g_15=>?_)
      refine TLw (V_bin rfl rfl (fun w=>eqlI w r_15 2000)) ?_
      refine TVt ?_
      refine TVm ?_
      refine TFd (d:=72) H (fun hc H=>?_) (fun hc H=>?_)
      ·refine TLw (V_move rfl) ?_
       obtain ⟨r_16,hr_16,H⟩:=bind_elim H
       refine TLu (E_c0 (F11_calls r_11.2 r_16 hr_16) call11 .z) (fun g_16=>?_)
       refine TLw (V_bin rfl rfl (fun w=>eqlI w r_16 2000)) ?_
       refine TVt ?_
       refine TVa ?_
       obtain ⟨x1,hx1,H⟩:=ltt_elim H
       refine TLr 0 (congrArg vb hx1) ?_
       refine TL_nil (TX_next (TC.sub (m':=[(0,_)]) ⟨rfl,trivial⟩ ?_))
       refine TC.pull (is:=[]) (L':=[]) rfl ?_
       refine TC_ret ?_
       obtain rfl:=sj H
       exact TX1
      ·refine TLs ?_
       refine TLs ?_
       refine TLs ?_
       refine TVf ?_
       refine TVa ?_
       refine TL_nil (TX_next (TC.sub (m':=[(0,_)]) ⟨rfl,trivial⟩ ?_))
       refine TC.pull (is:=[]) (L':=[]) rfl ?_
       refine TC_ret ?_
       obtain rfl:=sj H
       exact TX1
     ·refine TLs ?_
      refine TLs ?_
      refine TLs ?_
      refine TVf ?_
      refine TVm ?_
      refine TLs ?_
      refine TLs ?_
      refine TLs ?_
      refine TVf ?_
      refine TVa ?_
      refine TL_nil (TX_next (TC.sub (m':=[(0,_)]) ⟨rfl,trivial⟩ ?_))
      refine TC.pull (is:=[]) (L':=[]) rfl ?_
      refine TC_ret ?_
      obtain rfl:=sj H
      exact TX1
    ·refine TLs ?_
     refine TLs ?_
     refine TLs ?_
     refine TVf ?_
     refine TVm ?_
     refine TLs ?_
     refine TLs ?_
     refine TLs ?_
     refine TVf ?_
     refine TVm ?_
     refine TLs ?_
     refine TLs ?_
     refine TLs ?_
     refine TVf ?_
     refine TVa ?_
     refine TL_nil (TX_next (TC.sub (m':=[(0,_)]) ⟨rfl,trivial⟩ ?_))
     refine TC.pull (is:=[]) (L':=[]) rfl ?_
     refine TC_ret ?_
     obtain rfl:=sj H
     exact TX1
   ·refine TLs ?_
    refine TLs ?_
    refine TLs ?_
    refine TVf ?_
    refine TVm ?_
    refine TLs ?_
    refine TLs ?_
    refine TLs ?_
    refine TVf ?_
    refine TVm ?_
    refine TLs ?_
    refine TLs ?_
    refine TLs ?_
    refine TVf ?_
    refine TVm ?_
    refine TLs ?_
    refine TLs ?_
    refine TLs ?_
    refine TVf ?_
    refine TVa ?_
    refine TL_nil (TX_next (TC.sub (m':=[(0,_)]) ⟨rfl,trivial⟩ ?_))
    refine TC.pull (is:=[]) (L':=[]) rfl ?_
    refine TC_ret ?_
    obtain rfl:=sj H
    exact TX1
  ·refine TLs ?_
   refine TLs ?_
   refine TLs ?_
   refine TVf ?_
   refine TVm ?_
   refine TLs ?_
   refine TLs ?_
   refine TLs ?_
   refine TVf ?_
   refine TVm ?_
   refine TLs ?_
   refine TLs ?_
   refine TLs ?_
   refine TVf ?_
   refine TVm ?_
   refine TLs ?_
   refine TLs ?_
   refine TLs ?_
   refine TVf ?_
   refine TVm ?_
   refine TLs ?_
   refine TLs ?_
   refine TLs ?_
   refine TVf ?_
   refine TVa ?_
   refine TL_nil (TX_next (TC.sub (m':=[(0,_)]) ⟨rfl,trivial⟩ ?_))
   refine TC.pull (is:=[]) (L':=[]) rfl ?_
   refine TC_ret ?_
   obtain rfl:=sj H
   exact TX1
 ·refine TLs ?_
  refine TLs ?_
  refine TLs ?_
  refine TVf ?_
  refine TVm ?_
  refine TLs ?_
  refine TLs ?_
  refine TLs ?_
  refine TVf ?_
  refine TVm ?_
  refine TLs ?_
  refine TLs ?_
  refine TLs ?_
  refine TVf ?_
  refine TVm ?_
  refine TLs ?_
  refine TLs ?_
  refine TLs ?_
  refine TVf ?_
  refine TVm ?_
  refine TLs ?_
  refine TLs ?_
  refine TLs ?_
  refine TVf ?_
  refine TVm ?_
  refine TLs ?_
  refine TLs ?_
  refine TLs ?_
  refine TVf ?_
  refine TVa ?_
  refine TL_nil (TX_next (TC.sub (m':=[(0,_)]) ⟨rfl,trivial⟩ ?_))
  refine TC.pull (is:=[]) (L':=[]) rfl ?_
  refine TC_ret ?_
  obtain rfl:=sj H
  exact TX1
end Go.Proofs
end

section
namespace Go.Proofs
open Go Go.Kx
set_option maxRecDepth 100000 in
theorem awake20:halberdlaw20_awake=some true:=by kernel_rfl
end Go.Proofs
end

section
namespace Go.Proofs
open Go Go.Kx
def filE (s:Str) (k:Nat):Str:=(List.range k).map fun i=>s.getD i 0#8
theorem filE_length (s:Str) (k:Nat):(filE s k).length=k:=by simp [filE]
theorem filled20_eq (s:Str) (k:Nat) (hk:k<1000000):halberdlaw20_filled s (k:Int)=some (filE s k):=by
 unfold halberdlaw20_filled
 refine if_i (by omega) (bind_i (v:=filE s k) (loop_fn (fun j=>((j:Int),(List.range k).map fun i=>if i<j then s.getD i 0#8 else 0#8)) (min k s.length) _ (by omega) ?_ (fun j hj=>?_) ?_) (if_i (by rw [filE_length]; omega) rfl))
 ·have:(List.range k).map (fun i=>if i<0 then s.getD i 0#8 else 0#8)=List.replicate (k:Int).toNat 0#8:=by
   refine List.ext_getElem (by simp) fun i h1 h2=>?_
   simp
  rw [this]; rfl
 ·have e1:w64 ((j:Int)+1)=((j+1:Nat):Int):=w64_add (b:=1) (by omega)
  unfold halberdlaw20_filled.b0
  simp only [e1,Int.toNat_natCast]
  clear e1
  refine bind_i (v:=true) (if_i (by omega) (by rw [decide_eq_true (by omega)])) (if_i rfl (if_i (by omega) (if_i (by omega) (if_i (by simp; omega) (ltt_i fun m hm=>ltt_i fun i hi=>?_)))))
  rw [hi,hm]
  refine congrArg (fun z=>some (Sum.inl (((j+1:Nat):Int),z))) (List.ext_getElem (by simp) fun i h1 h2=>?_)
  simp only [List.getElem_set,List.getElem_map,List.getElem_range]
  unfold sg
  by_cases c:j=i
  ·subst c; rw [if_pos rfl,if_pos (by omega),Int.toNat_natCast]
  ·rw [if_neg c]
   by_cases c2:i<j
   ·rw [if_pos c2,if_pos (by omega)]
   ·rw [if_neg c2,if_neg (by omega)]
 ·unfold halberdlaw20_filled.b0
  refine bind_i (v:=false) ?_ (if_n (by decide) (congrArg some (congrArg Sum.inr ?_)))
  ·dsimp only
   by_cases c:((min k s.length:Nat):Int)<(k:Int)
   ·exact if_i c (by rw [decide_eq_false (by omega)])
   ·exact if_n c rfl
  ·unfold filE
   refine List.ext_getElem (by simp) fun i h1 h2=>?_
   simp only [List.getElem_map,List.getElem_range]
   by_cases c:i<min k s.length
   ·rw [if_pos c]
   ·rw [if_neg c,List.getD_eq_getElem?_getD,List.getElem?_eq_none (by simp at h1; omega)]; rfl
theorem sealT_len {key nonce:Str} {su:Int} {sec:Str} {mk ad:Int} (h:okT su sec mk ad) (hk:key.length=32) (hn:nonce.length=12):(sealT key nonce su sec mk ad).1.length=38+hl su:=by
 have hle:=hl_le su
 have hl:=encT_length su sec mk ad
 have h2:=h.2.1
 have hsl:=sealE_len hk hn (s:=encT su sec mk ad) (by omega)
 rw [sealT_pos ⟨h,hk,hn⟩]
 show (nonce++(sealE key nonce [] (encT su sec mk ad)).1).length=_
 rw [List.length_append]; omega
theorem lf_all4 (a:Int) (b:Str) (c d:Int) (a':Int) (b':Str) (c' d':Int):Lf.all [Lf.i a,Lf.s b,Lf.i c,Lf.i d] [Lf.i a',Lf.s b',Lf.i c',Lf.i d']=decide (a=a'∧b=b'∧c=c'∧d=d'):=by
 simp [Lf.all,Lf.eq]
theorem num0 (x:Int):halberdlaw0_Num x=some x:=rfl
end Go.Proofs
end

section
namespace Go.Kx
open Go Go.RowKit
def str (b:ByteArray):Str:=b.data.toList.map (·.toBitVec)
theorem vs_str (b:ByteArray):Value.string b=vs (str b):=by
 unfold vs bytes str
 congr 1
 apply ByteArray.ext
 have:(UInt8.ofBitVec ∘ fun x:UInt8=>x.toBitVec)=id:=by funext x; rfl
 simp [this]
theorem str_length (b:ByteArray):(str b).length=b.size:=by
 show (List.map _ b.data.toList).length=b.data.size
 rw [List.length_map,Array.length_toList]
end Go.Kx
end

section
namespace Go.Kx
open Go Go.RowKit Go.ChangeShapes Go.WideShapes
theorem Does.law2 {P:Program} {f:FuncId} {args:List Value} {Ro:Mem} (h:Does P f args [] Ro (Γ:=Unit) (fun _=>vb true) (fun _=>[])) (w:World) (hr : ∀ e ∈ Ro,Has w e) :
  Calls P f args.toArray w fun e w'=>e = .returned (.bool true)∧Below w.heap.size w w':=by
 refine (h w ⟨fun e he=>(List.not_mem_nil he).elim,List.Pairwise.nil⟩ hr (fun e he=>(List.not_mem_nil he).elim)).mono fun e w' ⟨_,he,hs⟩=>⟨he,hs.below⟩
theorem str_le {b:ByteArray} {n:Nat} (h:b.data.toList.length≤n):(str b).length≤n:=by
 rw [str_length]; simpa using h
section
variable {H:Type} {enc:TypeId × Value → H} {P:Program} {w:World} {base:Nat} {held:Bool} {t e:TypeId} {v:Value} {d:DataW H} {p:List MemPlace}
end
end Go.Kx
end

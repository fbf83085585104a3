/-
  Part 1 of the proof of TicketForms.
-/
import Derived.Test.YtnplppmninimeaaDoorTkQ1
import Derived.Test.YtnplppmninimeaaDoorTkQ2
import Derived.Test.YtnplppmninimeaaDoorTkQ3
import Derived.Test.YtnplppmninimeaaDoorTkQ4
import Derived.Test.YtnplppmninimeaaDoorTkQ5
import Derived.Test.YtnplppmninimeaaDoorTkQ6
import Derived.Test.YtnplppmninimeaaDoorTkQ7
import Derived.Test.YtnplppmninimeaaDoorTkQ8
import Derived.Test.YtnplppmninimeaaDoorTkQ9
import Derived.Test.YtnplppmninimeaaDoorTkQ10
import Derived.Test.YtnplppmninimeaaDoorTkQ12
import Derived.Test.YtnplppmninimeaaDoorTkQ13
import Derived.Test.YtnplppmninimeaaDoorTkQ15
import Derived.Test.YtnplppmninimeaaDoorTkQ16
import Derived.Test.YtnplppmninimeaaDoorTkQ17
import Derived.Test.YtnplppmninimeaaDoorTkQ18
import Derived.Test.YtnplppmninimeaaDoorTkQ20
import Derived.Test.YtnplppmninimeaaDoorTkQ21
set_option linter.unusedVariables false
set_option linter.unusedSimpArgs false
section
namespace Go.Proofs
open Go Go.Kx
open TrydI Tryd
def halberdlaw20_TicketForms (which:Int) (x:Int):Option (Bool) :=
 (halberdlaw20_awake).bind fun (r_1:Bool)=>(if (!r_1)=true then (some false) else ((halberdlaw20_filled ([115#8]:Str) 48).bind fun (r_2:Str)=>((halberdlaw20_filled ([107#8]:Str) 32).bind fun (r_3:Str)=>((halberdlaw20_filled ([110#8]:Str) 12).bind fun (r_4:Str)=>((ticket_Seal r_3 r_4 4866 r_2 5 6).bind fun (r_5:Str × Int)=>((halberdlaw20_filled ([107#8]:Str) 32).bind fun (r_6:Str)=>((halberdlaw20_filled ([110#8]:Str) 12).bind fun (r_7:Str)=>(ltt (w64 (1+(iop (· &&& ·) x 15))) fun (d1:Int)=>(ltt (decide (((BitVec.ofInt 64 which) % 8#64)=0#64)) fun (x1:Bool)=>((if x1=true then (if 0≤w64 (32 - d1) then (if (w64 (32 - d1)).toNat≤(r_6).length then (ltt (sub r_6 0 ((w64 (32 - d1)).toNat)) fun (key1:Str)=>(some (key1,r_7,4866,r_2,5,6))) else none) else none) else (ltt (decide (((BitVec.ofInt 64 which) % 8#64)=1#64)) fun (x3:Bool)=>(if x3=true then ((halberdlaw20_filled ([]:Str) d1).bind fun (r_18:Str)=>(if (r_7).length+(r_18).length≤4611686018427387904 then (some (r_6,r_7++r_18,4866,r_2,5,6)) else none)) else (ltt (decide (((BitVec.ofInt 64 which) % 8#64)=2#64)) fun (x4:Bool)=>(if x4=true then (some (r_6,r_7,w64 (4867+d1),r_2,5,6)) else (ltt (decide (((BitVec.ofInt 64 which) % 8#64)=3#64)) fun (x5:Bool)=>(if x5=true then ((halberdlaw20_filled ([115#8]:Str) (w64 (48 - d1))).bind fun (r_19:Str)=>(some (r_6,r_7,4866,r_19,5,6))) else (ltt (decide (((BitVec.ofInt 64 which) % 8#64)=4#64)) fun (x6:Bool)=>(if x6=true then (some (r_6,r_7,4866,r_2,w64 (0 - d1),6)) else (ltt (decide (((BitVec.ofInt 64 which) % 8#64)=5#64)) fun (x7:Bool)=>(if x7=true then (some (r_6,r_7,4866,r_2,w64 (4294967295+d1),6)) else (ltt (decide (((BitVec.ofInt 64 which) % 8#64)=6#64)) fun (x8:Bool)=>(if x8=true then (some (r_6,r_7,4866,r_2,5,w64 (0 - d1))) else (some (r_6,r_7,4865,r_2,5,6))))))))))))))).bind fun (j1:Str × Str × Int × Str × Int × Int)=>((ticket_Seal j1.1 j1.2.1 j1.2.2.1 j1.2.2.2.1 j1.2.2.2.2.1 j1.2.2.2.2.2).bind fun (r_8:Str × Int)=>((halberdlaw20_filled ([107#8]:Str) (w64 (32 - d1))).bind fun (r_9:Str)=>((ticket_Open r_9 r_5.1).bind fun (r_10:Int × Str × Int × Int × Int)=>((halberdlaw20_filled ([107#8]:Str) 32).bind fun (r_11:Str)=>(if 0≤min ((r_5.1).length:Int) d1 then (if (min ((r_5.1).length:Int) d1).toNat≤(r_5.1).length then ((ticket_Open r_11 (sub r_5.1 0 ((min ((r_5.1).length:Int) d1).toNat))).bind fun (r_12:Int × Str × Int × Int × Int)=>((halberdlaw0_Num r_5.2).bind fun (r_13:Int)=>(if r_13=0 then (if ((r_5.1).length:Int)=86 then (if 12≤(r_5.1).length then ((halberdlaw20_filled ([110#8]:Str) 12).bind fun (r_14:Str)=>(if sub r_5.1 0 12=r_14 then (if r_8.1=([]:Str) then ((halberdlaw0_Num r_8.2).bind fun (r_15:Int)=>(if r_15=2000 then ((halberdlaw0_Num r_10.2.2.2.2).bind fun (r_16:Int)=>(if r_16=2000 then ((halberdlaw0_Num r_12.2.2.2.2).bind fun (r_17:Int)=>(ltt (decide (r_17=2001)) fun (x2:Bool)=>(some x2))) else (some false))) else (some false))) else (some false)) else (some false))) else none) else (some false)) else (some false)))) else none) else none)))))))))))))))
set_option maxHeartbeats 4000000 in
set_option maxRecDepth 20000 in
theorem F5_calls (which:Int) (x:Int) (r:Bool) (H:halberdlaw20_TicketForms which x=some r) :
  Does Tryd.prog 5 [vi which,vi x] [] [⟨some (0,0),[hdE]⟩] (Γ:=Unit) (fun g=>vb r) (fun g=>[]):=by
 intro w hmem hro hd
 refine calls_of (N:=134) (m0:=[(0,vi which),(1,vi x)]) func5 rfl ntmps5 (argM_ok [vi which,vi x]) rfl hmem hro hd ?_
 unfold halberdlaw20_TicketForms at H
 refine TC_seq (TC_region (TVa ?_))
 refine TL_nil (TX_next (TC_seq (TC_seq (TC_region ?_))))
 obtain ⟨r_1,hr_1,H⟩:=bind_elim H
 refine TLe (E_c0 (F12_calls r_1 hr_1) call12 ⟨.r 0,trivial⟩) (fun g_1=>?_)
 refine TLv (V_un rfl (fun w=>notB w r_1)) ?_
 refine TL_nil (TX_next (TCb H (fun hc H=>?_) (fun hc H=>?_)))
 ·refine TC_seq (TC_region (TVa ?_))
  refine TL_nil (TX_next (TC_ret (TX_then_ret ?_)))
  obtain rfl:=sj H
  exact TX1
 ·refine TC_skip (TX_next (TC_seq (TC_region ?_)))
  obtain ⟨r_2,hr_2,H⟩:=bind_elim H
  refine TLe (E_c0 (F14_calls ([115#8]:Str) 48 r_2 hr_2) call14 .z) (fun g_2=>?_)
  refine TLv (V_buildStruct (pv:=[(0,vi 4866),(1,vs r_2),(2,vi 5),(3,vi 6)]) (pl:=[(0,1),(1,1),(2,1),(3,1)]) rfl rfl underlying23 inf23 places23 zer23 (cs:=flat [(1,[vi 4866]),(1,[vs r_2]),(1,[vi 5]),(1,[vi 6])]) (by kernel_rfl)) ?_
  refine TLe (E_allocP [(1,[vi 0]),(1,[vs ([]:Str)]),(1,[vi 0]),(1,[vi 0])] inf23 zer23 ⟨rfl,rfl,rfl,rfl,trivial⟩) (fun b1=>?_)
  refine TLn (E_sp (b:=b1) (o:=0) [0,0,0,0] [(1,[vi 0]),(1,[vs ([]:Str)]),(1,[vi 0]),(1,[vi 0])] [(1,[vi 4866]),(1,[vs r_2]),(1,[vi 5]),(1,[vi 6])] rfl inf23 ⟨rfl,rfl,rfl,rfl,trivial⟩ ⟨rfl,rfl,rfl,rfl,trivial⟩ ⟨(OneC.cons rfl OneC.nil),(OneC.cons rfl OneC.nil),(OneC.cons rfl OneC.nil),(OneC.cons rfl OneC.nil),trivial⟩) (fun _=>?_)
  refine TL_nil (TX_next (TC_seq ?_))
  obtain ⟨r_3,hr_3,H⟩:=bind_elim H
  obtain ⟨r_4,hr_4,H⟩:=bind_elim H
  obtain ⟨r_5,hr_5,H⟩:=bind_elim H
  refine TA_begin [] 9 (by kernel_rfl) (N:=9) rfl ?_
  refine TA_mix (is:=[]) (done':=dn 9 511) [itV 0 22 (vs r_3) [],itV 1 23 (vs r_4) [],itV 2 24 (aG [(1,[vi 4866]),(1,[vs r_2]),(1,[vi 5]),(1,[vi 6])]) [],itV 3 25 (Value.tuple [vs r_5.1,vi r_5.2].toArray) [2,0,1],itV 4 21 (Value.tuple [vs r_5.1,vi r_5.2].toArray) [3],itV 5 26 (vs r_5.1) [4],itV 6 27 (vi r_5.2) [4],itV 7 6 (vs r_5.1) [5],itV 8 7 (vi r_5.2) [6]] [] 0 (by kernel_rfl) (QP.then QP.body) (by kernel_rfl) rfl (.e rfl (E_cu (F14_calls ([107#8]:Str) 32 r_3 hr_3) call14 .z) (.e rfl (E_cu (F14_calls ([110#8]:Str) 12 r_4 hr_4) call14 .z) (.v rfl (V_loadAgg (n:=4) (cs:=flat [(1,[vi 4866]),(1,[vs r_2]),(1,[vi 5]),(1,[vi 6])]) rfl (by simp) (SrcEnts (b:=b1) [(1,[vi 4866]),(1,[vs r_2]),(1,[vi 5]),(1,[vi 6])] 0 ⟨rfl,rfl,rfl,rfl,trivial⟩ (AllSrc.all (M:=ents b1 0 [(1,[vi 4866]),(1,[vs r_2]),(1,[vi 5]),(1,[vi 6])]) ⟨Src.own (j:=0) rfl,Src.own (j:=1) rfl,Src.own (j:=2) rfl,Src.own (j:=3) rfl,trivial⟩)) isAgg23 inf23 rfl (flat_len ⟨rfl,rfl,rfl,rfl,trivial⟩ rfl)) (.e rfl (E_cu (F7_calls r_3 r_4 4866 r_2 5 6 r_5 hr_5) call7 .z) (.v rfl (V_move rfl) (.v rfl V_ex (.v rfl V_ex (.v rfl (V_assign rfl) (.v rfl (V_assign rfl) .nil))))))))) .nil (by kernel_rfl) rfl (fun γ=>?_)
  refine TA_cut [(7,vi r_5.2),(6,vs r_5.1),(5,ptr (some (b1,0)) 0),(0,vi which),(1,vi x)] [⟨some (b1,0),[vi 4866]⟩,⟨some (b1,1),[vs r_2]⟩,⟨some (b1,2),[vi 5]⟩,⟨some (b1,3),[vi 6]⟩] ⟨rfl,rfl,rfl,rfl,rfl,trivial⟩ rfl ?_
  refine TA_done (by kernel_rfl) ?_ 0
  refine TX_next (TC_seq (TC_region ?_))
  obtain ⟨r_6,hr_6,H⟩:=bind_elim H
  refine TLe (E_c0 (F14_calls ([107#8]:Str) 32 r_6 hr_6) call14 .z) (fun g_6=>?_)
  obtain ⟨r_7,hr_7,H⟩:=bind_elim H
  refine TLe (E_c0 (F14_calls ([110#8]:Str) 12 r_7 hr_7) call14 .z) (fun g_7=>?_)
  refine TVa ?_
  refine TVa ?_
  refine TL_nil (TX_next (TC_seq (TC_region (TVm ?_))))
  refine TLv (V_bin rfl rfl (fun w=>andI w x 15)) ?_
  refine TLv (V_bin rfl rfl (fun w=>addI w 1 (iop (· &&& ·) x 15))) ?_
  refine TVa ?_
  obtain ⟨d1,hd1,H⟩:=ltt_elim H
  refine TLr 10 (congrArg vi hd1) ?_
  refine TL_nil (TX_next (TC_seq (TC_seq (TC_region (TVm ?_)))))
  refine TLv (V_conv rfl (fun w=>cvI64 w _ _ underlying36 (und3) .i64 which)) ?_
  refine TLv (V_bin rfl rfl (fun w=>rem64 w (BitVec.ofInt 64 which) 8#64 (by decide))) ?_
  refine TL_nil (TX_next (TC_block (TC_seq (TC_region (TLv (V_bin rfl rfl (fun w=>eql64 w ((BitVec.ofInt 64 which) % 8#64) 0#64)) ?_)))))
  refine TVa ?_
  obtain ⟨x1,hx1,H⟩:=ltt_elim H
  refine TLr 37 (congrArg vb hx1) ?_
  refine TL_nil (TX_next ?_)
  obtain ⟨j1,Hj,H⟩:=bind_elim H
  refine TC_join (Γ:=Unit) (fun gj1=>[(5,ptr (some (b1,0)) 0),(6,vs r_5.1),(7,vi r_5.2),(8,vs j1.1),(9,vs j1.2.1),(10,vi d1)]) (fun gj1=>[⟨some (b1,0),[vi j1.2.2.1]⟩,⟨some (b1,1),[vs j1.2.2.2.1]⟩,⟨some (b1,2),[vi j1.2.2.2.2.1]⟩,⟨some (b1,3),[vi j1.2.2.2.2.2]⟩]) ?_ ?_
  ·intro gj1
   refine TX_block_normal (TX_next (TC_seq (TC_region (TVm ?_))))
   refine TVm ?_
   refine TLv (V_loadAgg (n:=4) (cs:=flat [(1,[vi j1.2.2.1]),(1,[vs j1.2.2.2.1]),(1,[vi j1.2.2.2.2.1]),(1,[vi j1.2.2.2.2.2])]) rfl (by simp) (SrcEnts (b:=b1) [(1,[vi j1.2.2.1]),(1,[vs j1.2.2.2.1]),(1,[vi j1.2.2.2.2.1]),(1,[vi j1.2.2.2.2.2])] 0 ⟨rfl,rfl,rfl,rfl,trivial⟩ (AllSrc.all (M:=ents b1 0 [(1,[vi j1.2.2.1]),(1,[vs j1.2.2.2.1]),(1,[vi j1.2.2.2.2.1]),(1,[vi j1.2.2.2.2.2])]) ⟨Src.own (j:=0) rfl,Src.own (j:=1) rfl,Src.own (j:=2) rfl,Src.own (j:=3) rfl,trivial⟩)) isAgg23 inf23 rfl (flat_len ⟨rfl,rfl,rfl,rfl,trivial⟩ rfl)) ?_
   obtain ⟨r_8,hr_8,H⟩:=bind_elim H
   refine TLe (E_c0 (F7_calls j1.1 j1.2.1 j1.2.2.1 j1.2.2.2.1 j1.2.2.2.2.1 j1.2.2.2.2.2 r_8 hr_8) call7 .z) (fun g_8=>?_)
   refine TVm ?_
   refine TLv V_ex ?_
   refine TLv V_ex ?_
   refine TVa ?_
   refine TVa ?_
   refine TL_nil (TX_next (TC_seq (TC_region (TVm ?_))))
   refine TLv (V_bin rfl rfl (fun w=>subI w 32 d1)) ?_
   obtain ⟨r_9,hr_9,H⟩:=bind_elim H
   refine TLe (E_c0 (F14_calls ([107#8]:Str) (w64 (32 - d1)) r_9 hr_9) call14 .z) (fun g_9=>?_)
   refine TVm ?_
   obtain ⟨r_10,hr_10,H⟩:=bind_elim H
   refine TLe (E_c0 (F9_calls r_9 r_5.1 r_10 hr_10) call9 ⟨.r 0,trivial⟩) (fun g_10=>?_)
   refine TVm ?_
   refine TLv V_ex ?_
   refine TLv V_ex ?_
   refine TLe (E_allocP [(1,[vi 0]),(1,[vs ([]:Str)]),(1,[vi 0]),(1,[vi 0])] inf23 zer23 ⟨rfl,rfl,rfl,rfl,trivial⟩) (fun b2=>?_)
   refine TLn (E_sp (b:=b2) (o:=0) [0,0,0,0] [(1,[vi 0]),(1,[vs ([]:Str)]),(1,[vi 0]),(1,[vi 0])] [(1,[vi r_10.1]),(1,[vs r_10.2.1]),(1,[vi r_10.2.2.1]),(1,[vi r_10.2.2.2.1])] rfl inf23 ⟨rfl,rfl,rfl,rfl,trivial⟩ ⟨rfl,rfl,rfl,rfl,trivial⟩ ⟨(OneC.cons rfl OneC.nil),(OneC.cons rfl OneC.nil),(OneC.cons rfl OneC.nil),(OneC.cons rfl OneC.nil),trivial⟩) (fun _=>?_)
   refine TVa ?_
   refine TL_nil (TX_next (TC_seq (TC.sub (m':=[(6,_),(7,_),(10,_),(11,_),(12,_),(14,_)]) ⟨rfl,rfl,rfl,rfl,rfl,rfl,trivial⟩ ?_)))
   refine TC.pull (is:=[]) (L':=[]) rfl ?_
   obtain ⟨r_11,hr_11,H⟩:=bind_elim H
   obtain ⟨h1,H⟩:=if_elim H
   obtain ⟨h2,H⟩:=if_elim H
   obtain ⟨r_12,hr_12,H⟩:=bind_elim H
   refine TA_begin [] 13 (by kernel_rfl) (N:=14) rfl ?_
   refine TA_tk 1 [] (dn 14 2) rfl rfl (V_move rfl) ?_
   refine TA_tk 2 [] (dn 14 6) rfl rfl (V_move rfl) ?_
   refine TA_tk 3 [] (dn 14 14) rfl rfl (V_len_str rfl underlying9) ?_
   refine TA_tk 4 [] (dn 14 30) rfl rfl (V_move rfl) ?_
   refine TA_tk 5 [] (dn 14 62) rfl rfl (V_min rfl rfl) ?_
   refine TA_tk 6 [] (dn 14 126) rfl rfl (V_sliceStr (l:=0) (h:=(min ((r_5.1).length:Int) d1).toNat) rfl underlying9 Bnd.none' (Bnd.some' (i:=min ((r_5.1).length:Int) d1) rfl h1) (Nat.zero_le _) h2) ?_
   refine TA_mix (is:=[]) (done':=dn 14 4095) [itV 0 91 (vs r_11) [],itV 7 98 (Value.tuple [aG [(1,[vi r_12.1]),(1,[vs r_12.2.1]),(1,[vi r_12.2.2.1]),(1,[vi r_12.2.2.2.1])],vi r_12.2.2.2.2].toArray) [0],itV 8 90 (Value.tuple [aG [(1,[vi r_12.1]),(1,[vs r_12.2.1]),(1,[vi r_12.2.2.1]),(1,[vi r_12.2.2.2.1])],vi r_12.2.2.2.2].toArray) [7],itV 9 99 (aG [(1,[vi r_12.1]),(1,[vs r_12.2.1]),(1,[vi r_12.2.2.1]),(1,[vi r_12.2.2.2.1])]) [8],⟨11,15,fun b3=>ptr (some (b3,0)) 0,fun b3=>[⟨some (b3,0),[vi 0]⟩,⟨some (b3,1),[vs ([]:Str)]⟩,⟨some (b3,2),[vi 0]⟩,⟨some (b3,3),[vi 0]⟩],[],none⟩] [itV 10 100 (vi r_12.2.2.2.2) [8]] 2 (by kernel_rfl) (QP.then QP.body) (by kernel_rfl) rfl (.e rfl (E_cu (F14_calls ([107#8]:Str) 32 r_11 hr_11) call14 .z) (.e rfl (E_cu (F9_calls r_11 (sub r_5.1 0 ((min ((r_5.1).length:Int) d1).toNat)) r_12 hr_12) call9 ⟨.r 0,trivial⟩) (.v rfl (V_move rfl) (.v rfl V_ex (.c rfl (fun _ _=>(E_allocP [(1,[vi 0]),(1,[vs ([]:Str)]),(1,[vi 0]),(1,[vi 0])] inf23 zer23 ⟨rfl,rfl,rfl,rfl,trivial⟩)) .nil))))) (.c rfl (fun _=>V_ex) .nil) (by kernel_rfl) rfl (fun γ=>?_)
   refine TA_cut [(100,vi r_12.2.2.2.2),(15,ptr (some ((γ 11),0)) 0),(99,aG [(1,[vi r_12.1]),(1,[vs r_12.2.1]),(1,[vi r_12.2.2.1]),(1,[vi r_12.2.2.2.1])]),(6,vs r_5.1),(7,vi r_5.2),(11,vs r_8.1),(12,vi r_8.2),(14,vi r_10.2.2.2.2)] [⟨some ((γ 11),0),[vi 0]⟩,⟨some ((γ 11),1),[vs ([]:Str)]⟩,⟨some ((γ 11),2),[vi 0]⟩,⟨some ((γ 11),3),[vi 0]⟩] ⟨rfl,rfl,rfl,rfl,rfl,rfl,rfl,rfl,trivial⟩ rfl ?_
   generalize γ 11=b3
   refine TA_all (rs:=[12]) (by kernel_rfl) rfl ?_
   refine ⟨?_,trivial⟩
   refine TO_n (is:=[]) (done':=dn 14 8191) rfl rfl rfl (by kernel_rfl) (E_sp (b:=b3) (o:=0) [0,0,0,0] [(1,[vi 0]),(1,[vs ([]:Str)]),(1,[vi 0]),(1,[vi 0])] [(1,[vi r_12.1]),(1,[vs r_12.2.1]),(1,[vi r_12.2.2.1]),(1,[vi r_12.2.2.2.1])] rfl inf23 ⟨rfl,rfl,rfl,rfl,trivial⟩ ⟨rfl,rfl,rfl,rfl,trivial⟩ ⟨(OneC.cons rfl OneC.nil),(OneC.cons rfl OneC.nil),(OneC.cons rfl OneC.nil),(OneC.cons rfl OneC.nil),trivial⟩) (fun _ _=>rfl) (fun _=>?_)
   refine TA_all (rs:=[13]) (by kernel_rfl) rfl ?_
   refine ⟨?_,trivial⟩
   refine TO_v (is:=[]) (R:=[]) (done':=dn 14 16383) rfl rfl rfl rfl (by kernel_rfl) (V_assign rfl) (fun h=>by cases h) ?_
   refine TA_done (by kernel_rfl) ?_ 0
   refine TX_next (TC_seq (TC.sub (m':=[(6,_),(7,_),(11,_),(12,_),(14,_),(16,_)]) ⟨rfl,rfl,rfl,rfl,rfl,rfl,trivial⟩ ?_))
   refine TC.pull (is:=[]) (L':=[]) rfl ?_
   obtain ⟨r_13,hr_13,H⟩:=bind_elim H
   refine TC_em (decide (r_13=0)) (fun hg26_4=>?_) (fun hg26_4=>?_)
   ·replace H:=ite_t (of_decide_eq_true hg26_4) H
    refine TC_em (decide (((r_5.1).length:Int)=86)) (fun hg26_9=>?_) (fun hg26_9=>?_)
    ·replace H:=ite_t (of_decide_eq_true hg26_9) H
     obtain ⟨h3,H⟩:=if_elim H
     obtain ⟨r_14,hr_14,H⟩:=bind_elim H
     refine TC_em (decide (sub r_5.1 0 12=r_14)) (fun hg26_15=>?_) (fun hg26_15=>?_)
     ·replace H:=ite_t (of_decide_eq_true hg26_15) H
      refine TC_em (decide (r_8.1=([]:Str))) (fun hg26_19=>?_) (fun hg26_19=>?_)
      ·replace H:=ite_t (of_decide_eq_true hg26_19) H
       obtain ⟨r_15,hr_15,H⟩:=bind_elim H
       refine TC_em (decide (r_15=2000)) (fun hg26_24=>?_) (fun hg26_24=>?_)
       ·replace H:=ite_t (of_decide_eq_true hg26_24) H
        obtain ⟨r_16,hr_16,H⟩:=bind_elim H
        refine TC_em (decide (r_16=2000)) (fun hg26_29=>?_) (fun hg26_29=>?_)
        ·replace H:=ite_t (of_decide_eq_true hg26_29) H
         obtain ⟨r_17,hr_17,H⟩:=bind_elim H
         obtain ⟨x2,hx2,H⟩:=ltt_elim H
         refine TA_begin [] 34 (by kernel_rfl) (N:=34) rfl ?_
         refine TA_tk 0 [] (dn 34 1) rfl rfl (V_move rfl) ?_
         refine TA_all (rs:=[1]) (by kernel_rfl) rfl ?_
         refine ⟨?_,trivial⟩
         refine TO_e (is:=[]) (done':=dn 34 3) rfl rfl rfl rfl (by kernel_rfl) (E_c0 (F11_calls r_5.2 r_13 hr_13) call11 .z) (fun _ _=>rfl) (fun g_13=>?_)
         refine TA_tk 2 [] (dn 34 7) rfl rfl (V_bin rfl rfl (fun w=>eqlI w r_13 0)) ?_
         refine TA_tk 3 [] (dn 34 15) rfl rfl (V_move rfl) ?_
         refine TA_re (d:=104) (v:=vb (decide (r_13=0))) (v':=vb true) rfl (congrArg vb hg26_4) ?_
         refine TA_tw 4 [] (dn 34 31) rfl rfl (V_move rfl) ?_
         refine TA_tw 5 [] (dn 34 63) rfl rfl (V_len_str rfl underlying9) ?_
         refine TA_tw 6 [] (dn 34 127) rfl rfl (V_bin rfl rfl (fun w=>eqlI w ((r_5.1).length:Int) 86)) ?_
         refine TA_tk 7 [] (dn 34 255) rfl rfl (V_pick (b:=true) rfl rfl) ?_
         refine TA_tk 8 [] (dn 34 511) rfl rfl (V_move rfl) ?_
         refine TA_re (d:=109) (v:=vb (decide (((r_5.1).length:Int)=86))) (v':=vb true) rfl (congrArg vb hg26_9) ?_
         refine TA_tw 9 [] (dn 34 1023) rfl rfl (V_move rfl) ?_
         refine TA_tw 10 [] (dn 34 2047) rfl rfl (V_sliceStr (l:=0) (h:=12) rfl underlying9 Bnd.none' (Bnd.some' (i:=12) rfl (by decide)) (Nat.zero_le _) h3) ?_
         refine TA_all (rs:=[11]) (by kernel_rfl) rfl ?_
         refine ⟨?_,trivial⟩
         refine TO_eW (is:=[]) (done':=dn 34 4095) rfl rfl rfl rfl rfl rfl rfl (by kernel_rfl) (E_c0 (F14_calls ([110#8]:Str) 12 r_14 hr_14) call14 .z) (fun _ _=>rfl) (fun g_14=>?_)
         refine TA_tw 12 [] (dn 34 8191) rfl rfl (V_bin rfl rfl (fun w=>eqlS w (sub r_5.1 0 12) r_14)) ?_
         refine TA_tk 13 [] (dn 34 16383) rfl rfl (V_pick (b:=true) rfl rfl) ?_
         refine TA_tk 14 [] (dn 34 32767) rfl rfl (V_move rfl) ?_
         refine TA_re (d:=115) (v:=vb (decide (sub r_5.1 0 12=r_14))) (v':=vb true) rfl (congrArg vb hg26_15) ?_
         refine TA_tw 15 [] (dn 34 65535) rfl rfl (V_move rfl) ?_
         refine TA_tw 16 [] (dn 34 131071) rfl rfl (V_bin rfl rfl (fun w=>eqlS w r_8.1 ([]:Str))) ?_
         refine TA_tk 17 [] (dn 34 262143) rfl rfl (V_pick (b:=true) rfl rfl) ?_
         refine TA_tk 18 [] (dn 34 524287) rfl rfl (V_move rfl) ?_
         refine TA_re (d:=119) (v:=vb (decide (r_8.1=([]:Str)))) (v':=vb true) rfl (congrArg vb hg26_19) ?_
         refine TA_tw 19 [] (dn 34 1048575) rfl rfl (V_move rfl) ?_
         refine TA_all (rs:=[20]) (by kernel_rfl) rfl ?_
         refine ⟨?_,trivial⟩
         refine TO_eW (is:=[]) (done':=dn 34 2097151) rfl rfl rfl rfl rfl rfl rfl (by kernel_rfl) (E_c0 (F11_calls r_8.2 r_15 hr_15) call11 .z) (fun _ _=>rfl) (fun g_15=>?_)
         refine TA_tw 21 [] (dn 34 4194303) rfl rfl (V_bin rfl rfl (fun w=>eqlI w r_15 2000)) ?_
         refine TA_tk 22 [] (dn 34 8388607) rfl rfl (V_pick (b:=true) rfl rfl) ?_
         refine TA_tk 23 [] (dn 34 16777215) rfl rfl (V_move rfl) ?_
         refine TA_re (d:=124) (v:=vb (decide (r_15=2000))) (v':=vb true) rfl (congrArg vb hg26_24) ?_
         refine TA_tw 24 [] (dn 34 33554431) rfl rfl (V_move rfl) ?_
         refine TA_all (rs:=[25]) (by kernel_rfl) rfl ?_
         refine ⟨?_,trivial⟩
         refine TO_eW (is:=[]) (done':=dn 34 67108863) rfl rfl rfl rfl rfl rfl rfl (by kernel_rfl) (E_c0 (F11_calls r_10.2.2.2.2 r_16 hr_16) call11 .z) (fun _ _=>rfl) (fun g_16=>?_)
         refine TA_tw 26 [] (dn 34 134217727) rfl rfl (V_bin rfl rfl (fun w=>eqlI w r_16 2000)) ?_
         refine TA_tk 27 [] (dn 34 268435455) rfl rfl (V_pick (b:=true) rfl rfl) ?_
         refine TA_tk 28 [] (dn 34 536870911) rfl rfl (V_move rfl) ?_
         refine TA_re (d:=129) (v:=vb (decide (r_16=2000))) (v':=vb true) rfl (congrArg vb hg26_29) ?_
         refine TA_tw 29 [] (dn 34 1073741823) rfl rfl (V_move rfl) ?_
         refine TA_all (rs:=[30]) (by kernel_rfl) rfl ?_
         refine ⟨?_,trivial⟩
         refine TO_eW (is:=[]) (done':=dn 34 2147483647) rfl rfl rfl rfl rfl rfl rfl (by kernel_rfl) (E_c0 (F11_calls r_12.2.2.2.2 r_17 hr_17) call11 .z) (fun _ _=>rfl) (fun g_17=>?_)
         refine TA_tw 31 [] (dn 34 4294967295) rfl rfl (V_bin rfl rfl (fun w=>eqlI w r_17 2001)) ?_
         refine TA_tk 32 [] (dn 34 8589934591) rfl rfl (V_pick (b:=true) rfl rfl) ?_
         refine TA_tk 33 [] (dn 34 17179869183) rfl rfl (V_assign rfl) ?_
         refine TA_re (d:=4) (v:=vb (decide (r_17=2001))) (v':=vb x2) rfl (congrArg vb hx2) ?_
         refine TA_done (by kernel_rfl) ?_ 0
         refine TX_next (TC.sub (m':=[(4,_)]) ⟨rfl,trivial⟩ ?_)
         refine TC.pull (is:=[]) (L':=[]) rfl ?_
         refine TC_ret ?_
         obtain rfl:=sj H
         exact TX1
        ·replace H:=ite_f (of_decide_eq_false hg26_29) H
         refine TA_begin [] 34 (by kernel_rfl) (N:=34) rfl ?_
         refine TA_tk 0 [] (dn 34 1) rfl rfl (V_move rfl) ?_
         refine TA_all (rs:=[1]) (by kernel_rfl) rfl ?_
         refine ⟨?_,trivial⟩
         refine TO_e (is:=[]) (done':=dn 34 3) rfl rfl rfl rfl (by kernel_rfl) (E_c0 (F11_calls r_5.2 r_13 hr_13) call11 .z) (fun _ _=>rfl) (fun g_13=>?_)
         refine TA_tk 2 [] (dn 34 7) rfl rfl (V_bin rfl rfl (fun w=>eqlI w r_13 0)) ?_
         refine TA_tk 3 [] (dn 34 15) rfl rfl (V_move rfl) ?_
         refine TA_re (d:=104) (v:=vb (decide (r_13=0))) (v':=vb true) rfl (congrArg vb hg26_4) ?_
         refine TA_tw 4 [] (dn 34 31) rfl rfl (V_move rfl) ?_
         refine TA_tw 5 [] (dn 34 63) rfl rfl (V_len_str rfl underlying9) ?_
         refine TA_tw 6 [] (dn 34 127) rfl rfl (V_bin rfl rfl (fun w=>eqlI w ((r_5.1).length:Int) 86)) ?_
         refine TA_tk 7 [] (dn 34 255) rfl rfl (V_pick (b:=true) rfl rfl) ?_
         refine TA_tk 8 [] (dn 34 511) rfl rfl (V_move rfl) ?_
         refine TA_re (d:=109) (v:=vb (decide (((r_5.1).length:Int)=86))) (v':=vb true) rfl (congrArg vb hg26_9) ?_
         refine TA_tw 9 [] (dn 34 1023) rfl rfl (V_move rfl) ?_
         refine TA_tw 10 [] (dn 34 2047) rfl rfl (V_sliceStr (l:=0) (h:=12) rfl underlying9 Bnd.none' (Bnd.some' (i:=12) rfl (by decide)) (Nat.zero_le _) h3) ?_
         refine TA_all (rs:=[11]) (by kernel_rfl) rfl ?_
         refine ⟨?_,trivial⟩
         refine TO_eW (is:=[]) (done':=dn 34 4095) rfl rfl rfl rfl rfl rfl rfl (by kernel_rfl) (E_c0 (F14_calls ([110#8]:Str) 12 r_14 hr_14) call14 .z) (fun _ _=>rfl) (fun g_14=>?_)
         refine TA_tw 12 [] (dn 34 8191) rfl rfl (V_bin rfl rfl (fun w=>eqlS w (sub r_5.1 0 12) r_14)) ?_
         refine TA_tk 13 [] (dn 34 16383) rfl rfl (V_pick (b:=true) rfl rfl) ?_
         refine TA_tk 14 [] (dn 34 32767) rfl rfl (V_move rfl) ?_
         refine TA_re (d:=115) (v:=vb (decide (sub r_5.1 0 12=r_14))) (v':=vb true) rfl (congrArg vb hg26_15) ?_
         refine TA_tw 15 [] (dn 34 65535) rfl rfl (V_move rfl) ?_
         refine TA_tw 16 [] (dn 34 131071) rfl rfl (V_bin rfl rfl (fun w=>eqlS w r_8.1 ([]:Str))) ?_
         refine TA_tk 17 [] (dn 34 262143) rfl rfl (V_pick (b:=true) rfl rfl) ?_
         refine TA_tk 18 [] (dn 34 524287) rfl rfl (V_move rfl) ?_
         refine TA_re (d:=119) (v:=vb (decide (r_8.1=([]:Str)))) (v':=vb true) rfl (congrArg vb hg26_19) ?_
         refine TA_tw 19 [] (dn 34 1048575) rfl rfl (V_move rfl) ?_
         refine TA_all (rs:=[20]) (by kernel_rfl) rfl ?_
         refine ⟨?_,trivial⟩
         refine TO_eW (is:=[]) (done':=dn 34 2097151) rfl rfl rfl rfl rfl rfl rfl (by kernel_rfl) (E_c0 (F11_calls r_8.2 r_15 hr_15) call11 .z) (fun _ _=>rfl) (fun g_15=>?_)
         refine TA_tw 21 [] (dn 34 4194303) rfl rfl (V_bin rfl rfl (fun w=>eqlI w r_15 2000)) ?_
         refine TA_tk 22 [] (dn 34 8388607) rfl rfl (V_pick (b:=true) rfl rfl) ?_
         refine TA_tk 23 [] (dn 34 16777215) rfl rfl (V_move rfl) ?_
         refine TA_re (d:=124) (v:=vb (decide (r_15=2000))) (v':=vb true) rfl (congrArg vb hg26_24) ?_
         refine TA_tw 24 [] (dn 34 33554431) rfl rfl (V_move rfl) ?_
         refine TA_all (rs:=[25]) (by kernel_rfl) rfl ?_
         refine ⟨?_,trivial⟩
         refine TO_eW (is:=[]) (done':=dn 34 67108863) rfl rfl rfl rfl rfl rfl rfl (by kernel_rfl) (E_c0 (F11_calls r_10.2.2.2.2 r_16 hr_16) call11 .z) (fun _ _=>rfl) (fun g_16=>?_)
         refine TA_tw 26 [] (dn 34 134217727) rfl rfl (V_bin rfl rfl (fun w=>eqlI w r_16 2000)) ?_
         refine TA_tk 27 [] (dn 34 268435455) rfl rfl (V_pick (b:=true) rfl rfl) ?_
         refine TA_tk 28 [] (dn 34 536870911) rfl rfl (V_move rfl) ?_
         refine TA_re (d:=129) (v:=vb (decide (r_16=2000))) (v':=vb false) rfl (congrArg vb hg26_29) ?_
         refine TA_ts 29 [] (dn 34 1073741823) rfl rfl ?_
         refine TA_ts 30 [] (dn 34 2147483647) rfl rfl ?_
         refine TA_ts 31 [] (dn 34 4294967295) rfl rfl ?_
         refine TA_tk 32 [] (dn 34 8589934591) rfl rfl (V_pick (b:=false) rfl rfl) ?_
         refine TA_tk 33 [] (dn 34 17179869183) rfl rfl (V_assign rfl) ?_
         refine TA_done (by kernel_rfl) ?_ 0
         refine TX_next (TC.sub (m':=[(4,_)]) ⟨rfl,trivial⟩ ?_)
         refine TC.pull (is:=[]) (L':=[]) rfl ?_
         refine TC_ret ?_
         obtain rfl:=sj H
         exact TX1
       ·replace H:=ite_f (of_decide_eq_false hg26_24) H
        refine TA_begin [] 34 (by kernel_rfl) (N:=34) rfl ?_
        refine TA_tk 0 [] (dn 34 1) rfl rfl (V_move rfl) ?_
        refine TA_all (rs:=[1]) (by kernel_rfl) rfl ?_
        refine ⟨?_,trivial⟩
        refine TO_e (is:=[]) (done':=dn 34 3) rfl rfl rfl rfl (by kernel_rfl) (E_c0 (F11_calls r_5.2 r_13 hr_13) call11 .z) (fun _ _=>rfl) (fun g_13=>?_)
        refine TA_tk 2 [] (dn 34 7) rfl rfl (V_bin rfl rfl (fun w=>eqlI w r_13 0)) ?_
        refine TA_tk 3 [] (dn 34 15) rfl rfl (V_move rfl) ?_
        refine TA_re (d:=104) (v:=vb (decide (r_13=0))) (v':=vb true) rfl (congrArg vb hg26_4) ?_
        refine TA_tw 4 [] (dn 34 31) rfl rfl (V_move rfl) ?_
        refine TA_tw 5 [] (dn 34 63) rfl rfl (V_len_str rfl underlying9) ?_
        refine TA_tw 6 [] (dn 34 127) rfl rfl (V_bin rfl rfl (fun w=>eqlI w ((r_5.1).length:Int) 86)) ?_
        refine TA_tk 7 [] (dn 34 255) rfl rfl (V_pick (b:=true) rfl rfl) ?_
        refine TA_tk 8 [] (dn 34 511) rfl rfl (V_move rfl) ?_
        refine TA_re (d:=109) (v:=vb (decide (((r_5.1).length:Int)=86))) (v':=vb true) rfl (congrArg vb hg26_9) ?_
        refine TA_tw 9 [] (dn 34 1023) rfl rfl (V_move rfl) ?_
        refine TA_tw 10 [] (dn 34 2047) rfl rfl (V_sliceStr (l:=0) (h:=12) rfl underlying9 Bnd.none' (Bnd.some' (i:=12) rfl (by decide)) (Nat.zero_le _) h3) ?_
        refine TA_all (rs:=[11]) (by kernel_rfl) rfl ?_
        refine ⟨?_,trivial⟩
        refine TO_eW (is:=[]) (done':=dn 34 4095) rfl rfl rfl rfl rfl rfl rfl (by kernel_rfl) (E_c0 (F14_calls ([110#8]:Str) 12 r_14 hr_14) call14 .z) (fun _ _=>rfl) (fun g_14=>?_)
        refine TA_tw 12 [] (dn 34 8191) rfl rfl (V_bin rfl rfl (fun w=>eqlS w (sub r_5.1 0 12) r_14)) ?_
        refine TA_tk 13 [] (dn 34 16383) rfl rfl (V_pick (b:=true) rfl rfl) ?_
        refine TA_tk 14 [] (dn 34 32767) rfl rfl (V_move rfl) ?_
        refine TA_re (d:=115) (v:=vb (decide (sub r_5.1 0 12=r_14))) (v':=vb true) rfl (congrArg vb hg26_15) ?_
        refine TA_tw 15 [] (dn 34 65535) rfl rfl (V_move rfl) ?_
        refine TA_tw 16 [] (dn 34 131071) rfl rfl (V_bin rfl rfl (fun w=>eqlS w r_8.1 ([]:Str))) ?_
        refine TA_tk 17 [] (dn 34 262143) rfl rfl (V_pick (b:=true) rfl rfl) ?_
        refine TA_tk 18 [] (dn 34 524287) rfl rfl (V_move rfl) ?_
        refine TA_re (d:=119) (v:=vb (decide (r_8.1=([]:Str)))) (v':=vb true) rfl (congrArg vb hg26_19) ?_
        refine TA_tw 19 [] (dn 34 1048575) rfl rfl (V_move rfl) ?_
        refine TA_all (rs:=[20]) (by kernel_rfl) rfl ?_
        refine ⟨?_,trivial⟩
        refine TO_eW (is:=[]) (done':=dn 34 2097151) rfl rfl rfl rfl rfl rfl rfl (by kernel_rfl) (E_c0 (F11_calls r_8.2 r_15 hr_15) call11 .z) (fun _ _=>rfl) (fun g_15=>?_)
        refine TA_tw 21 [] (dn 34 4194303) rfl rfl (V_bin rfl rfl (fun w=>eqlI w r_15 2000)) ?_
        refine TA_tk 22 [] (dn 34 8388607) rfl rfl (V_pick (b:=true) rfl rfl) ?_
        refine TA_tk 23 [] (dn 34 16777215) rfl rfl (V_move rfl) ?_
        refine TA_re (d:=124) (v:=vb (decide (r_15=2000))) (v':=vb false) rfl (congrArg vb hg26_24) ?_
        refine TA_ts 24 [] (dn 34 33554431) rfl rfl ?_
        refine TA_ts 25 [] (dn 34 67108863) rfl rfl ?_
        refine TA_ts 26 [] (dn 34 134217727) rfl rfl ?_
        refine TA_tk 27 [] (dn 34 268435455) rfl rfl (V_pick (b:=false) rfl rfl) ?_
        refine TA_tk 28 [] (dn 34 536870911) rfl rfl (V_move rfl) ?_
        refine TA_ts 29 [] (dn 34 1073741823) rfl rfl ?_
        refine TA_ts 30 [] (dn 34 2147483647) rfl rfl ?_
        refine TA_ts 31 [] (dn 34 4294967295) rfl rfl ?_
        refine TA_tk 32 [] (dn 34 8589934591) rfl rfl (V_pick (b:=false) rfl rfl) ?_
        refine TA_tk 33 [] (dn 34 17179869183) rfl rfl (V_assign rfl) ?_
        refine TA_done (by kernel_rfl) ?_ 0
        refine TX_next (TC.sub (m':=[(4,_)]) ⟨rfl,trivial⟩ ?_)
        refine TC.pull (is:=[]) (L':=[]) rfl ?_
        refine TC_ret ?_
        obtain rfl:=sj H
        exact TX1
      ·replace H:=ite_f (of_decide_eq_false hg26_19) H
       refine TA_begin [] 34 (by kernel_rfl) (N:=34) rfl ?_
       refine TA_tk 0 [] (dn 34 1) rfl rfl (V_move rfl) ?_
       refine TA_all (rs:=[1]) (by kernel_rfl) rfl ?_
       refine ⟨?_,trivial⟩
       refine TO_e (is:=[]) (done':=dn 34 3) rfl rfl rfl rfl (by kernel_rfl) (E_c0 (F11_calls r_5.2 r_13 hr_13) call11 .z) (fun _ _=>rfl) (fun g_13=>?_)
       refine TA_tk 2 [] (dn 34 7) rfl rfl (V_bin rfl rfl (fun w=>eqlI w r_13 0)) ?_
       refine TA_tk 3 [] (dn 34 15) rfl rfl (V_move rfl) ?_
       refine TA_re (d:=104) (v:=vb (decide (r_13=0))) (v':=vb true) rfl (congrArg vb hg26_4) ?_
       refine TA_tw 4 [] (dn 34 31) rfl rfl (V_move rfl) ?_
       refine TA_tw 5 [] (dn 34 63) rfl rfl (V_len_str rfl underlying9) ?_
       refine TA_tw 6 [] (dn 34 127) rfl rfl (V_bin rfl rfl (fun w=>eqlI w ((r_5.1).length:Int) 86)) ?_
       refine TA_tk 7 [] (dn 34 255) rfl rfl (V_pick (b:=true) rfl rfl) ?_
       refine TA_tk 8 [] (dn 34 511) rfl rfl (V_move rfl) ?_
       refine TA_re (d:=109) (v:=vb (decide (((r_5.1).length:Int)=86))) (v':=vb true) rfl (congrArg vb hg26_9) ?_
       refine TA_tw 9 [] (dn 34 1023) rfl rfl (V_move rfl) ?_
       refine TA_tw 10 [] (dn 34 2047) rfl rfl (V_sliceStr (l:=0) (h:=12) rfl underlying9 Bnd.none' (Bnd.some' (i:=12) rfl (by decide)) (Nat.zero_le _) h3) ?_
       refine TA_all (rs:=[11]) (by kernel_rfl) rfl ?_
       refine ⟨?_,trivial⟩
       refine TO_eW (is:=[]) (done':=dn 34 4095) rfl rfl rfl rfl rfl rfl rfl (by kernel_rfl) (E_c0 (F14_calls ([110#8]:Str) 12 r_14 hr_14) call14 .z) (fun _ _=>rfl) (fun g_14=>?_)
       refine TA_tw 12 [] (dn 34 8191) rfl rfl (V_bin rfl rfl (fun w=>eqlS w (sub r_5.1 0 12) r_14)) ?_
       refine TA_tk 13 [] (dn 34 16383) rfl rfl (V_pick (b:=true) rfl rfl) ?_
       refine TA_tk 14 [] (dn 34 32767) rfl rfl (V_move rfl) ?_
       refine TA_re (d:=115) (v:=vb (decide (sub r_5.1 0 12=r_14))) (v':=vb true) rfl (congrArg vb hg26_15) ?_
       refine TA_tw 15 [] (dn 34 65535) rfl rfl (V_move rfl) ?_
       refine TA_tw 16 [] (dn 34 131071) rfl rfl (V_bin rfl rfl (fun w=>eqlS w r_8.1 ([]:Str))) ?_
       refine TA_tk 17 [] (dn 34 262143) rfl rfl (V_pick (b:=true) rfl rfl) ?_
       refine TA_tk 18 [] (dn 34 524287) rfl rfl (V_move rfl) ?_
       refine TA_re (d:=119) (v:=vb (decide (r_8.1=([]:Str)))) (v':=vb false) rfl (congrArg vb hg26_19) ?_
       refine TA_ts 19 [] (dn 34 1048575) rfl rfl ?_
       refine TA_ts 20 [] (dn 34 2097151) rfl rfl ?_
       refine TA_ts 21 [] (dn 34 4194303) rfl rfl ?_
       refine TA_tk 22 [] (dn 34 8388607) rfl rfl (V_pick (b:=false) rfl rfl) ?_
       refine TA_tk 23 [] (dn 34 16777215) rfl rfl (V_move rfl) ?_
       refine TA_ts 24 [] (dn 34 33554431) rfl rfl ?_
       refine TA_ts 25 [] (dn 34 67108863) rfl rfl ?_
       refine TA_ts 26 [] (dn 34 134217727) rfl rfl ?_
       refine TA_tk 27 [] (dn 34 268435455) rfl rfl (V_pick (b:=false) rfl rfl) ?_
       refine TA_tk 28 [] (dn 34 536870911) rfl rfl (V_move rfl) ?_
       refine TA_ts 29 [] (dn 34 1073741823) rfl rfl ?_
       refine TA_ts 30 [] (dn 34 2147483647) rfl rfl ?_
       refine TA_ts 31 [] (dn 34 4294967295) rfl rfl ?_
       refine TA_tk 32 [] (dn 34 8589934591) rfl rfl (V_pick (b:=false) rfl rfl) ?_
       refine TA_tk 33 [] (dn 34 17179869183) rfl rfl (V_assign rfl) ?_
       refine TA_done (by kernel_rfl) ?_ 0
       refine TX_next (TC.sub (m':=[(4,_)]) ⟨rfl,trivial⟩ ?_)
       refine TC.pull (is:=[]) (L':=[]) rfl ?_
       refine TC_ret ?_
       obtain rfl:=sj H
       exact TX1
     ·replace H:=ite_f (of_decide_eq_false hg26_15) H
      refine TA_begin [] 34 (by kernel_rfl) (N:=34) rfl ?_
      refine TA_tk 0 [] (dn 34 1) rfl rfl (V_move rfl) ?_
      refine TA_all (rs:=[1]) (by kernel_rfl) rfl ?_
      refine ⟨?_,trivial⟩
      refine TO_e (is:=[]) (done':=dn 34 3) rfl rfl rfl rfl (by kernel_rfl) (E_c0 (F11_calls r_5.2 r_13 hr_13) call11 .z) (fun _ _=>rfl) (fun g_13=>?_)
      refine TA_tk 2 [] (dn 34 7) rfl rfl (V_bin rfl rfl (fun w=>eqlI w r_13 0)) ?_
      refine TA_tk 3 [] (dn 34 15) rfl rfl (V_move rfl) ?_
      refine TA_re (d:=104) (v:=vb (decide (r_13=0))) (v':=vb true) rfl (congrArg vb hg26_4) ?_
      refine TA_tw 4 [] (dn 34 31) rfl rfl (V_move rfl) ?_
      refine TA_tw 5 [] (dn 34 63) rfl rfl (V_len_str rfl underlying9) ?_
      refine TA_tw 6 [] (dn 34 127) rfl rfl (V_bin rfl rfl (fun w=>eqlI w ((r_5.1).length:Int) 86)) ?_
      refine TA_tk 7 [] (dn 34 255) rfl rfl (V_pick (b:=true) rfl rfl) ?_
      refine TA_tk 8 [] (dn 34 511) rfl rfl (V_move rfl) ?_
      refine TA_re (d:=109) (v:=vb (decide (((r_5.1).length:Int)=86))) (v':=vb true) rfl (congrArg vb hg26_9) ?_
      refine TA_tw 9 [] (dn 34 1023) rfl rfl (V_move rfl) ?_
      refine TA_tw 10 [] (dn 34 2047) rfl rfl (V_sliceStr (l:=0) (h:=12) rfl underlying9 Bnd.none' (Bnd.some' (i:=12) rfl (by decide)) (Nat.zero_le _) h3) ?_
      refine TA_all (rs:=[11]) (by kernel_rfl) rfl ?_
      refine ⟨?_,trivial⟩
      refine TO_eW (is:=[]) (done':=dn 34 4095) rfl rfl rfl rfl rfl rfl rfl (by kernel_rfl) (E_c0 (F14_calls ([110#8]:Str) 12 r_14 hr_14) call14 .z) (fun _ _=>rfl) (fun g_14=>?_)
      refine TA_tw 12 [] (dn 34 8191) rfl rfl (V_bin rfl rfl (fun w=>eqlS w (sub r_5.1 0 12) r_14)) ?_
      refine TA_tk 13 [] (dn 34 16383) rfl rfl (V_pick (b:=true) rfl rfl) ?_
      refine TA_tk 14 [] (dn 34 32767) rfl rfl (V_move rfl) ?_
      refine TA_re (d:=115) (v:=vb (decide (sub r_5.1 0 12=r_14))) (v':=vb false) rfl (congrArg vb hg26_15) ?_
      refine TA_ts 15 [] (dn 34 65535) rfl rfl ?_
      refine TA_ts 16 [] (dn 34 131071) rfl rfl ?_
      refine TA_tk 17 [] (dn 34 262143) rfl rfl (V_pick (b:=false) rfl rfl) ?_
      refine TA_tk 18 [] (dn 34 524287) rfl rfl (V_move rfl) ?_
      refine TA_ts 19 [] (dn 34 1048575) rfl rfl ?_
      refine TA_ts 20 [] (dn 34 2097151) rfl rfl ?_
      refine TA_ts 21 [] (dn 34 4194303) rfl rfl ?_
      refine TA_tk 22 [] (dn 34 8388607) rfl rfl (V_pick (b:=false) rfl rfl) ?_
      refine TA_tk 23 [] (dn 34 16777215) rfl rfl (V_move rfl) ?_
      refine TA_ts 24 [] (dn 34 33554431) rfl rfl ?_
      refine TA_ts 25 [] (dn 34 67108863) rfl rfl ?_
      refine TA_ts 26 [] (dn 34 134217727) rfl rfl ?_
      refine TA_tk 27 [] (dn 34 268435455) rfl rfl (V_pick (b:=false) rfl rfl) ?_
      refine TA_tk 28 [] (dn 34 536870911) rfl rfl (V_move rfl) ?_
      refine TA_ts 29 [] (dn 34 1073741823) rfl rfl ?_
      refine TA_ts 30 [] (dn 34 2147483647) rfl rfl ?_
      refine TA_ts 31 [] (dn 34 4294967295) rfl rfl ?_
      refine TA_tk 32 [] (dn 34 8589934591) rfl rfl (V_pick (b:=false) rfl rfl) ?_
      refine TA_tk 33 [] (dn 34 17179869183) rfl rfl (V_assign rfl) ?_
      refine TA_done (by kernel_rfl) ?_ 0
      refine TX_next (TC.sub (m':=[(4,_)]) ⟨rfl,trivial⟩ ?_)
      refine TC.pull (is:=[]) (L':=[]) rfl ?_
      refine TC_ret ?_
      obtain rfl:=sj H
      exact TX1
    ·replace H:=ite_f (of_decide_eq_false hg26_9) H
     refine TA_begin [] 34 (by kernel_rfl) (N:=34) rfl ?_
     refine TA_tk 0 [] (dn 34 1) rfl rfl (V_move rfl) ?_
     refine TA_all (rs:=[1]) (by kernel_rfl) rfl ?_
     refine ⟨?_,trivial⟩
     refine TO_e (is:=[]) (done':=dn 34 3) rfl rfl rfl rfl (by kernel_rfl) (E_c0 (F11_calls r_5.2 r_13 hr_13) call11 .z) (fun _ _=>rfl) (fun g_13=>?_)
     refine TA_tk 2 [] (dn 34 7) rfl rfl (V_bin rfl rfl (fun w=>eqlI w r_13 0)) ?_
     refine TA_tk 3 [] (dn 34 15) rfl rfl (V_move rfl) ?_
     refine TA_re (d:=104) (v:=vb (decide (r_13=0))) (v':=vb true) rfl (congrArg vb hg26_4) ?_
     refine TA_tw 4 [] (dn 34 31) rfl rfl (V_move rfl) ?_
     refine TA_tw 5 [] (dn 34 63) rfl rfl (V_len_str rfl underlying9) ?_
     refine TA_tw 6 [] (dn 34 127) rfl rfl (V_bin rfl rfl (fun w=>eqlI w ((r_5.1).length:Int) 86)) ?_
     refine TA_tk 7 [] (dn 34 255) rfl rfl (V_pick (b:=true) rfl rfl) ?_
     refine TA_tk 8 [] (dn 34 511) rfl rfl (V_move rfl) ?_
     refine TA_re (d:=109) (v:=vb (decide (((r_5.1).length:Int)=86))) (v':=vb false) rfl (congrArg vb hg26_9) ?_
     refine TA_ts 9 [] (dn 34 1023) rfl rfl ?_
     refine TA_ts 10 [] (dn 34 2047) rfl rfl ?_
     refine TA_ts 11 [] (dn 34 4095) rfl rfl ?_
     refine TA_ts 12 [] (dn 34 8191) rfl rfl ?_
     refine TA_tk 13 [] (dn 34 16383) rfl rfl (V_pick (b:=false) rfl rfl) ?_
     refine TA_tk 14 [] (dn 34 32767) rfl rfl (V_move rfl) ?_
     refine TA_ts 15 [] (dn 34 65535) rfl rfl ?_
     refine TA_ts 16 [] (dn 34 131071) rfl rfl ?_
     refine TA_tk 17 [] (dn 34 262143) rfl rfl (V_pick (b:=false) rfl rfl) ?_
     refine TA_tk 18 [] (dn 34 524287) rfl rfl (V_move rfl) ?_
     refine TA_ts 19 [] (dn 34 1048575) rfl rfl ?_
     refine TA_ts 20 [] (dn 34 2097151) rfl rfl ?_
     refine TA_ts 21 [] (dn 34 4194303) rfl rfl ?_
     refine TA_tk 22 [] (dn 34 8388607) rfl rfl (V_pick (b:=false) rfl rfl) ?_
     refine TA_tk 23 [] (dn 34 16777215) rfl rfl (V_move rfl) ?_
     refine TA_ts 24 [] (dn 34 33554431) rfl rfl ?_
     refine TA_ts 25 [] (dn 34 67108863) rfl rfl ?_
     refine TA_ts 26 [] (dn 34 134217727) rfl rfl ?_
     refine TA_tk 27 [] (dn 34 268435455) rfl rfl (V_pick (b:=false) rfl rfl) ?_
     refine TA_tk 28 [] (dn 34 536870911) rfl rfl (V_move rfl) ?_
     refine TA_ts 29 [] (dn 34 1073741823) rfl rfl ?_
     refine TA_ts 30 [] (dn 34 2147483647) rfl rfl ?_
     refine TA_ts 31 [] (dn 34 4294967295) rfl rfl ?_
     refine TA_tk 32 [] (dn 34 8589934591) rfl rfl (V_pick (b:=false) rfl rfl) ?_
     refine TA_tk 33 [] (dn 34 17179869183) rfl rfl (V_assign rfl) ?_
     refine TA_done (by kernel_rfl) ?_ 0
     refine TX_next (TC.sub (m':=[(4,_)]) ⟨rfl,trivial⟩ ?_)
     refine TC.pull (is:=[]) (L':=[]) rfl ?_
     refine TC_ret ?_
     obtain rfl:=sj H
     exact TX1
   ·replace H:=ite_f (of_decide_eq_false hg26_4) H
    refine TA_begin [] 34 (by kernel_rfl) (N:=34) rfl ?_
    refine TA_tk 0 [] (dn 34 1) rfl rfl (V_move rfl) ?_
    refine TA_all (rs:=[1]) (by kernel_rfl) rfl ?_
    refine ⟨?_,trivial⟩
    refine TO_e (is:=[]) (done':=dn 34 3) rfl rfl rfl rfl (by kernel_rfl) (E_c0 (F11_calls r_5.2 r_13 hr_13) call11 .z) (fun _ _=>rfl) (fun g_13=>?_)
    refine TA_tk 2 [] (dn 34 7) rfl rfl (V_bin rfl rfl (fun w=>eqlI w r_13 0)) ?_
    refine TA_tk 3 [] (dn 34 15) rfl rfl (V_move rfl) ?_
    refine TA_re (d:=104) (v:=vb (decide (r_13=0))) (v':=vb false) rfl (congrArg vb hg26_4) ?_
    refine TA_ts 4 [] (dn 34 31) rfl rfl ?_
    refine TA_ts 5 [] (dn 34 63) rfl rfl ?_
    refine TA_ts 6 [] (dn 34 127) rfl rfl ?_
    refine TA_tk 7 [] (dn 34 255) rfl rfl (V_pick (b:=false) rfl rfl) ?_
    refine TA_tk 8 [] (dn 34 511) rfl rfl (V_move rfl) ?_
    refine TA_ts 9 [] (dn 34 1023) rfl rfl ?_
    refine TA_ts 10 [] (dn 34 2047) rfl rfl ?_
    refine TA_ts 11 [] (dn 34 4095) rfl rfl ?_
    refine TA_ts 12 [] (dn 34 8191) rfl rfl ?_
    refine TA_tk 13 [] (dn 34 16383) rfl rfl (V_pick (b:=false) rfl rfl) ?_
    refine TA_tk 14 [] (dn 34 32767) rfl rfl (V_move rfl) ?_
    refine TA_ts 15 [] (dn 34 65535) rfl rfl ?_
    refine TA_ts 16 [] (dn 34 131071) rfl rfl ?_
    refine TA_tk 17 [] (dn 34 262143) rfl rfl (V_pick (b:=false) rfl rfl) ?_
    refine TA_tk 18 [] (dn 34 524287) rfl rfl (V_move rfl) ?_
    refine TA_ts 19 [] (dn 34 1048575) rfl rfl ?_
    refine TA_ts 20 [] (dn 34 2097151) rfl rfl ?_
    refine TA_ts 21 [] (dn 34 4194303) rfl rfl ?_
    refine TA_tk 22 [] (dn 34 8388607) rfl rfl (V_pick (b:=false) rfl rfl) ?_
    refine TA_tk 23 [] (dn 34 16777215) rfl rfl (V_move rfl) ?_
    refine TA_ts 24 [] (dn 34 33554431) rfl rfl ?_
    refine TA_ts 25 [] (dn 34 67108863) rfl rfl ?_
    refine TA_ts 26 [] (dn 34 134217727) rfl rfl ?_
    refine TA_tk 27 [] (dn 34 268435455) rfl rfl (V_pick (b:=false) rfl rfl) ?_
    refine TA_tk 28 [] (dn 34 536870911) rfl rfl (V_move rfl) ?_
    refine TA_ts 29 [] (dn 34 1073741823) rfl rfl ?_
    refine TA_ts 30 [] (dn 34 2147483647) rfl rfl ?_
    refine TA_ts 31 [] (dn 34 4294967295) rfl rfl ?_
    refine TA_tk 32 [] (dn 34 8589934591) rfl rfl (V_pick (b:=false) rfl rfl) ?_
    refine TA_tk 33 [] (dn 34 17179869183) rfl rfl (V_assign rfl) ?_
    refine TA_done (by kernel_rfl) ?_ 0
    refine TX_next (TC.sub (m':=[(4,_)]) ⟨rfl,trivial⟩ ?_)
    refine TC.pull (is:=[]) (L':=[]) rfl ?_
    refine TC_ret ?_
    obtain rfl:=sj H
    exact TX1
  ·intro hJ
   replace H:=Hj
   refine TCb H (fun hc H=>?_) (fun hc H=>?_)
   ·refine TC_region (TVm ?_)
    refine TVm ?_
    refine TLv (V_bin rfl rfl (fun w=>subI w 32 d1)) ?_
    obtain ⟨h4,H⟩:=if_elim H
    obtain ⟨h5,H⟩:=if_elim H
    refine TLv (V_sliceStr (l:=0) (h:=(w64 (32 - d1)).toNat) rfl underlying9 Bnd.none' (Bnd.some' (i:=w64 (32 - d1)) rfl h4) (Nat.zero_le _) h5) ?_
    refine TVa ?_
    obtain ⟨key1,hkey1,H⟩:=ltt_elim H
    refine TLr 8 (congrArg vs hkey1) ?_
    refine TL_nil ?_
    obtain rfl:=sj H
    exact TXj [0,0,0,0] (hJ ())
   ·refine TC_seq (TC_region (TLv (V_bin rfl rfl (fun w=>eql64 w ((BitVec.ofInt 64 which) % 8#64) 1#64)) ?_))
    refine TVa ?_
    obtain ⟨x3,hx3,H⟩:=ltt_elim H
    refine TLr 43 (congrArg vb hx3) ?_
    refine TL_nil (TX_next (TCb H (fun hc H=>?_) (fun hc H=>?_)))
    ·refine TC_region (TVm ?_)
     refine TVm ?_
     obtain ⟨r_18,hr_18,H⟩:=bind_elim H
     refine TLe (E_c0 (F14_calls ([]:Str) d1 r_18 hr_18) call14 .z) (fun g_18=>?_)
     obtain ⟨h6,H⟩:=if_elim H
     refine TLv (V_bin rfl rfl (fun w=>addS w r_7 r_18 h6)) ?_
     refine TVa ?_
     refine TL_nil ?_
     obtain rfl:=sj H
     exact TXj [0,0,0,0] (hJ ())
    ·refine TC_seq (TC_region (TLv (V_bin rfl rfl (fun w=>eql64 w ((BitVec.ofInt 64 which) % 8#64) 2#64)) ?_))
     refine TVa ?_
     obtain ⟨x4,hx4,H⟩:=ltt_elim H
     refine TLr 49 (congrArg vb hx4) ?_
     refine TL_nil (TX_next (TCb H (fun hc H=>?_) (fun hc H=>?_)))
     ·refine TC_region (TVm ?_)
      refine TLv (V_bin rfl rfl (fun w=>addI w 4867 d1)) ?_
      refine TLv (V_fieldE rfl underlying23 rfl rfl inf3 rfl (v:=ptr (some (b1,0)) 0) rfl) ?_
      refine TLn (E_store (j:=0) rfl rfl inf3 rfl rfl rfl (Nat.lt_succ_self 0) (cs':=[vi (w64 (4867+d1))]) rfl) (fun _=>?_)
      refine TL_nil ?_
      obtain rfl:=sj H
      exact TXj [0,0,0,0] (hJ ())
     ·refine TC_seq (TC_region (TLv (V_bin rfl rfl (fun w=>eql64 w ((BitVec.ofInt 64 which) % 8#64) 3#64)) ?_))
      refine TVa ?_
      obtain ⟨x5,hx5,H⟩:=ltt_elim H
      refine TLr 54 (congrArg vb hx5) ?_
      refine TL_nil (TX_next (TCb H (fun hc H=>?_) (fun hc H=>?_)))
      ·refine TC_region (TVm ?_)
       refine TLv (V_bin rfl rfl (fun w=>subI w 48 d1)) ?_
       obtain ⟨r_19,hr_19,H⟩:=bind_elim H
       refine TLe (E_c0 (F14_calls ([115#8]:Str) (w64 (48 - d1)) r_19 hr_19) call14 .z) (fun g_19=>?_)
       refine TLv (V_fieldE rfl underlying23 rfl rfl inf9 rfl (v:=ptr (some (b1,1)) 0) rfl) ?_
       refine TLn (E_store (j:=1) rfl rfl inf9 rfl rfl rfl (Nat.lt_succ_self 0) (cs':=[vs r_19]) rfl) (fun _=>?_)
       refine TL_nil ?_
       obtain rfl:=sj H
       exact TXj [0,0,0,0] (hJ ())
      ·refine TC_seq (TC_region (TLv (V_bin rfl rfl (fun w=>eql64 w ((BitVec.ofInt 64 which) % 8#64) 4#64)) ?_))
       refine TVa ?_
       obtain ⟨x6,hx6,H⟩:=ltt_elim H
       refine TLr 60 (congrArg vb hx6) ?_
       refine TL_nil (TX_next (TC.sub (m':=[(5,_),(6,_),(7,_),(8,_),(9,_),(10,_),(35,_),(60,_)]) ⟨rfl,rfl,rfl,rfl,rfl,rfl,rfl,rfl,trivial⟩ ?_))
       refine TC.pull (is:=[0,0,0,0]) (L':=[_,_,_,_]) rfl ?_
       refine TCb H (fun hc H=>?_) (fun hc H=>?_)
       ·refine TC_region (TVm ?_)
        refine TLv (V_un rfl (fun w=>negI w d1)) ?_
        refine TLv (V_fieldE rfl underlying23 rfl rfl inf3 rfl (v:=ptr (some (b1,2)) 0) rfl) ?_
        refine TLn (E_store (j:=2) rfl rfl inf3 rfl rfl rfl (Nat.lt_succ_self 0) (cs':=[vi (w64 (0 - d1))]) rfl) (fun _=>?_)
        refine TL_nil ?_
        obtain rfl:=sj H
        exact TXj [0,0,0,0] (hJ ())
       ·refine TC_seq (TC_region (TLv (V_bin rfl rfl (fun w=>eql64 w ((BitVec.ofInt 64 which) % 8#64) 5#64)) ?_))
        refine TVa ?_
        obtain ⟨x7,hx7,H⟩:=ltt_elim H
        refine TLr 65 (congrArg vb hx7) ?_
        refine TL_nil (TX_next (TCb H (fun hc H=>?_) (fun hc H=>?_)))
        ·refine TC_region (TVm ?_)
         refine TLv (V_bin rfl rfl (fun w=>addI w 4294967295 d1)) ?_
         refine TLv (V_fieldE rfl underlying23 rfl rfl inf3 rfl (v:=ptr (some (b1,2)) 0) rfl) ?_
         refine TLn (E_store (j:=2) rfl rfl inf3 rfl rfl rfl (Nat.lt_succ_self 0) (cs':=[vi (w64 (4294967295+d1))]) rfl) (fun _=>?_)
         refine TL_nil ?_
         obtain rfl:=sj H
         exact TXj [0,0,0,0] (hJ ())
        ·refine TC_seq (TC_region (TLv (V_bin rfl rfl (fun w=>eql64 w ((BitVec.ofInt 64 which) % 8#64) 6#64)) ?_))
         refine TVa ?_
         obtain ⟨x8,hx8,H⟩:=ltt_elim H
         refine TLr 70 (congrArg vb hx8) ?_
         refine TL_nil (TX_next (TCb H (fun hc H=>?_) (fun hc H=>?_)))
         ·refine TC_region (TVm ?_)
          refine TLv (V_un rfl (fun w=>negI w d1)) ?_
          refine TLv (V_fieldE rfl underlying23 rfl rfl inf3 rfl (v:=ptr (some (b1,3)) 0) rfl) ?_
          refine TLn (E_store (j:=3) rfl rfl inf3 rfl rfl rfl (Nat.lt_succ_self 0) (cs':=[vi (w64 (0 - d1))]) rfl) (fun _=>?_)
          refine TL_nil ?_
          obtain rfl:=sj H
          exact TXj [0,0,0,0] (hJ ())
         ·refine TC_region (TLv (V_fieldE rfl underlying23 rfl rfl inf3 rfl (v:=ptr (some (b1,0)) 0) rfl) ?_)
          refine TLn (E_store (j:=0) rfl rfl inf3 rfl rfl rfl (Nat.lt_succ_self 0) (cs':=[vi 4865]) rfl) (fun _=>?_)
          refine TL_nil ?_
          obtain rfl:=sj H
          exact TXj [0,0,0,0] (hJ ())
end Go.Proofs
end

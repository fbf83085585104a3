/-
  Part 1 of the proof of TicketBack.
-/
import Derived.Test.YtnplppmninimeaaDoorTkP1
import Derived.Test.YtnplppmninimeaaDoorTkP2
import Derived.Test.YtnplppmninimeaaDoorTkP3
import Derived.Test.YtnplppmninimeaaDoorTkP4
import Derived.Test.YtnplppmninimeaaDoorTkP5
import Derived.Test.YtnplppmninimeaaDoorTkP6
import Derived.Test.YtnplppmninimeaaDoorTkP7
import Derived.Test.YtnplppmninimeaaDoorTkP8
import Derived.Test.YtnplppmninimeaaDoorTkP9
import Derived.Test.YtnplppmninimeaaDoorTkP10
import Derived.Test.YtnplppmninimeaaDoorTkP11
import Derived.Test.YtnplppmninimeaaDoorTkP12
import Derived.Test.YtnplppmninimeaaDoorTkP13
import Derived.Test.YtnplppmninimeaaDoorTkP14
import Derived.Test.YtnplppmninimeaaDoorTkP15
import Derived.Test.YtnplppmninimeaaDoorTkP16
import Derived.Test.YtnplppmninimeaaDoorTkP17
import Derived.Test.YtnplppmninimeaaDoorTkP18
import Derived.Test.YtnplppmninimeaaDoorTkP19
import Derived.Test.YtnplppmninimeaaDoorTkP20
import Derived.Test.YtnplppmninimeaaDoorTkP21
set_option linter.unusedVariables false
set_option linter.unusedSimpArgs false
section
namespace Go.Proofs
open Go Go.Kx
open TrydI Tryd
def halberdlaw20_TicketBack (seed:Str) (which:Int) (made:Int) (add:Int) (at_:Int):Option (Bool) :=
 (halberdlaw20_awake).bind fun (r_1:Bool)=>(if (!r_1)=true then (some false) else (ltt (w64 (4865+(w64 (((BitVec.ofInt 64 which) % 3#64).toNat:Int)))) fun (suite1:Int)=>((halberdref19_Bits suite1).bind fun (r_2:Int × Int)=>((halberdlaw20_filled seed (w64 (r_2.1.tdiv 8))).bind fun (r_3:Str)=>(ltt (iop (· &&& ·) made 4294967295) fun (x1:Int)=>(ltt (iop (· &&& ·) add 4294967295) fun (x2:Int)=>((halberdlaw20_filled seed 32).bind fun (r_4:Str)=>(if (([110#8]:Str)).length+(seed).length≤4611686018427387904 then ((halberdlaw20_filled (([110#8]:Str)++seed) 12).bind fun (r_5:Str)=>((ticket_Seal r_4 r_5 suite1 r_3 x1 x2).bind fun (r_6:Str × Int)=>((halberdlaw0_Num r_6.2).bind fun (r_7:Int)=>((if r_7 ≠ 0 then (some true) else (some (decide (r_6.1=([]:Str))))).bind fun (j1:Bool)=>(if j1=true then (some false) else ((ticket_Open r_4 r_6.1).bind fun (r_8:Int × Str × Int × Int × Int)=>(if (BitVec.ofInt 64 (w64 (8 * ((r_6.1).length:Int)))) ≠ 0#64 then (ltt (w64 (((BitVec.ofInt 64 at_) % (BitVec.ofInt 64 (w64 (8 * ((r_6.1).length:Int))))).toNat:Int)) fun (k_1:Int)=>(if 0≤w64 (k_1.tdiv 8)∧w64 (k_1.tdiv 8)<((r_6.1).length:Int) then (if 0≤k_1.tmod 8 then (if 0≤w64 (k_1.tdiv 8)∧w64 (k_1.tdiv 8)<((r_6.1).length:Int) then (ltt (r_6.1.set ((w64 (k_1.tdiv 8)).toNat) ((lg r_6.1 ((w64 (k_1.tdiv 8)).toNat)) ^^^ (1#8 <<< (k_1.tmod 8).toNat))) fun (m_1:List (BitVec 8))=>((ticket_Open r_4 m_1).bind fun (r_9:Int × Str × Int × Int × Int)=>((halberdref19_OpenTicket r_4 m_1).bind fun (r_10:Int × Str × Int × Int × Int)=>((halberdlaw0_Num r_8.2.2.2.2).bind fun (r_11:Int)=>(if r_11=0 then (if (Lf.all [Lf.i r_8.1,Lf.s r_8.2.1,Lf.i r_8.2.2.1,Lf.i r_8.2.2.2.1] [Lf.i suite1,Lf.s r_3,Lf.i x1,Lf.i x2])=true then (if (Lf.all [Lf.i r_9.1,Lf.s r_9.2.1,Lf.i r_9.2.2.1,Lf.i r_9.2.2.2.1] [Lf.i r_10.1,Lf.s r_10.2.1,Lf.i r_10.2.2.1,Lf.i r_10.2.2.2.1])=true then ((halberdlaw0_Num r_9.2.2.2.2).bind fun (r_12:Int)=>(ltt (decide (r_12=r_10.2.2.2.2)) fun (x3:Bool)=>(some x3))) else (some false)) else (some false)) else (some false)))))) else none) else none) else none)) else none))))))) else none))))))))
set_option maxHeartbeats 4000000 in
set_option maxRecDepth 20000 in
theorem F4_calls (seed:Str) (which:Int) (made:Int) (add:Int) (at_:Int) (r:Bool) (H:halberdlaw20_TicketBack seed which made add at_=some r) :
  Does Tryd.prog 4 [vs seed,vi which,vi made,vi add,vi at_] [] [⟨some (0,0),[hdE]⟩] (Γ:=Unit) (fun g=>vb r) (fun g=>[]):=by
 intro w hmem hro hd
 refine calls_of (N:=128) (m0:=[(0,vs seed),(1,vi which),(2,vi made),(3,vi add),(4,vi at_)]) func4 rfl ntmps4 (argM_ok [vs seed,vi which,vi made,vi add,vi at_]) rfl hmem hro hd ?_
 unfold halberdlaw20_TicketBack at H
 refine TC_seq (TC_region (TVa ?_))
 refine TL_nil (TX_next (TC_seq (TC_seq (TC_region ?_))))
 obtain ⟨r_1,hr_1,H⟩:=bind_elim H
 refine TLe (E_c0 (F12_calls r_1 hr_1) call12 ⟨.r 0,trivial⟩) (fun g_1=>?_)
 refine TLv (V_un rfl (fun w=>notB w r_1)) ?_
 refine TL_nil (TX_next (TCb H (fun hc H=>?_) (fun hc H=>?_)))
 ·refine TC_seq (TC_region (TVa ?_))
  refine TL_nil (TX_next (TC_ret (TX_then_ret ?_)))
  obtain rfl:=sj H
  exact TX1
 ·refine TC_skip (TX_next (TC_seq (TC_region (TVm ?_))))
  refine TLv (V_conv rfl (fun w=>cvI64 w _ _ underlying36 (und3) .i64 which)) ?_
  refine TLv (V_bin rfl rfl (fun w=>rem64 w (BitVec.ofInt 64 which) 3#64 (by decide))) ?_
  refine TLv (V_conv rfl (fun w=>cv64toI w _ _ underlying3 (und36) ((BitVec.ofInt 64 which) % 3#64))) ?_
  refine TLv (V_bin rfl rfl (fun w=>addI w 4865 (w64 (((BitVec.ofInt 64 which) % 3#64).toNat:Int)))) ?_
  refine TVa ?_
  obtain ⟨suite1,hsuite1,H⟩:=ltt_elim H
  refine TLr 11 (congrArg vi hsuite1) ?_
  refine TL_nil (TX_next (TC_seq (TC_region (TVm ?_))))
  obtain ⟨r_2,hr_2,H⟩:=bind_elim H
  refine TLe (E_c0 (F13_calls suite1 r_2 hr_2) call13 .z) (fun g_2=>?_)
  refine TVm ?_
  refine TLv V_ex ?_
  refine TLv V_ex ?_
  refine TVa ?_
  refine TVa ?_
  refine TL_nil (TX_next (TC_seq (TC_region (TVm ?_))))
  refine TVm ?_
  refine TVm ?_
  refine TLv (V_bin rfl rfl (fun w=>quoI w r_2.1 8 (by decide))) ?_
  obtain ⟨r_3,hr_3,H⟩:=bind_elim H
  refine TLe (E_c0 (F14_calls seed (w64 (r_2.1.tdiv 8)) r_3 hr_3) call14 .z) (fun g_3=>?_)
  refine TVm ?_
  refine TLv (V_bin rfl rfl (fun w=>andI w made 4294967295)) ?_
  obtain ⟨x1,hx1,H⟩:=ltt_elim H
  refine TLr 44 (congrArg vi hx1) ?_
  refine TVm ?_
  refine TLv (V_bin rfl rfl (fun w=>andI w add 4294967295)) ?_
  obtain ⟨x2,hx2,H⟩:=ltt_elim H
  refine TLr 46 (congrArg vi hx2) ?_
  refine TLv (V_buildStruct (pv:=[(0,vi suite1),(1,vs r_3),(2,vi x1),(3,vi x2)]) (pl:=[(0,1),(1,1),(2,1),(3,1)]) rfl rfl underlying23 inf23 places23 zer23 (cs:=flat [(1,[vi suite1]),(1,[vs r_3]),(1,[vi x1]),(1,[vi x2])]) (by kernel_rfl)) ?_
  refine TLe (E_allocP [(1,[vi 0]),(1,[vs ([]:Str)]),(1,[vi 0]),(1,[vi 0])] inf23 zer23 ⟨rfl,rfl,rfl,rfl,trivial⟩) (fun b1=>?_)
  refine TLn (E_sp (b:=b1) (o:=0) [0,0,0,0] [(1,[vi 0]),(1,[vs ([]:Str)]),(1,[vi 0]),(1,[vi 0])] [(1,[vi suite1]),(1,[vs r_3]),(1,[vi x1]),(1,[vi x2])] rfl inf23 ⟨rfl,rfl,rfl,rfl,trivial⟩ ⟨rfl,rfl,rfl,rfl,trivial⟩ ⟨(OneC.cons rfl OneC.nil),(OneC.cons rfl OneC.nil),(OneC.cons rfl OneC.nil),(OneC.cons rfl OneC.nil),trivial⟩) (fun _=>?_)
  refine TL_nil (TX_next (TC.sub (m':=[(0,_),(4,_),(14,_)]) ⟨rfl,rfl,rfl,trivial⟩ ?_))
  refine TC.pull (is:=[0,0,0,0]) (L':=[_,_,_,_]) rfl ?_
  refine TC_seq (TC_region (TVm ?_))
  obtain ⟨r_4,hr_4,H⟩:=bind_elim H
  refine TLe (E_c0 (F14_calls seed 32 r_4 hr_4) call14 .z) (fun g_4=>?_)
  refine TVa ?_
  refine TL_nil (TX_next (TC_seq ?_))
  obtain ⟨h1,H⟩:=if_elim H
  obtain ⟨r_5,hr_5,H⟩:=bind_elim H
  obtain ⟨r_6,hr_6,H⟩:=bind_elim H
  refine TA_begin [] 11 (by kernel_rfl) (N:=11) rfl ?_
  refine TA_mix (is:=[]) (done':=dn 11 2047) [itV 0 51 (vs r_4) [],itV 1 52 (vs seed) [],itV 2 53 (vs (([110#8]:Str)++seed)) [1],itV 3 54 (vs r_5) [2],itV 4 55 (aG [(1,[vi suite1]),(1,[vs r_3]),(1,[vi x1]),(1,[vi x2])]) [],itV 5 56 (Value.tuple [vs r_6.1,vi r_6.2].toArray) [0,3,4],itV 6 50 (Value.tuple [vs r_6.1,vi r_6.2].toArray) [5],itV 7 57 (vs r_6.1) [6],itV 8 58 (vi r_6.2) [6],itV 9 16 (vs r_6.1) [7],itV 10 17 (vi r_6.2) [8]] [] 0 (by kernel_rfl) (QP.then QP.body) (by kernel_rfl) rfl (.v rfl (V_move rfl) (.v rfl (V_move rfl) (.v rfl (V_bin rfl rfl (fun w=>addS w ([110#8]:Str) seed h1)) (.e rfl (E_cu (F14_calls (([110#8]:Str)++seed) 12 r_5 hr_5) call14 .z) (.v rfl (V_loadAgg (n:=4) (cs:=flat [(1,[vi suite1]),(1,[vs r_3]),(1,[vi x1]),(1,[vi x2])]) rfl (by simp) (SrcEnts (b:=b1) [(1,[vi suite1]),(1,[vs r_3]),(1,[vi x1]),(1,[vi x2])] 0 ⟨rfl,rfl,rfl,rfl,trivial⟩ (AllSrc.all (M:=ents b1 0 [(1,[vi suite1]),(1,[vs r_3]),(1,[vi x1]),(1,[vi x2])]) ⟨Src.own (j:=0) rfl,Src.own (j:=1) rfl,Src.own (j:=2) rfl,Src.own (j:=3) rfl,trivial⟩)) isAgg23 inf23 rfl (flat_len ⟨rfl,rfl,rfl,rfl,trivial⟩ rfl)) (.e rfl (E_cu (F7_calls r_4 r_5 suite1 r_3 x1 x2 r_6 hr_6) call7 .z) (.v rfl (V_move rfl) (.v rfl V_ex (.v rfl V_ex (.v rfl (V_assign rfl) (.v rfl (V_assign rfl) .nil))))))))))) .nil (by kernel_rfl) rfl (fun γ=>?_)
  refine TA_cut [(17,vi r_6.2),(16,vs r_6.1),(15,vs r_4),(4,vi at_),(14,ptr (some (b1,0)) 0)] [⟨some (b1,0),[vi suite1]⟩,⟨some (b1,1),[vs r_3]⟩,⟨some (b1,2),[vi x1]⟩,⟨some (b1,3),[vi x2]⟩] ⟨rfl,rfl,rfl,rfl,rfl,trivial⟩ rfl ?_
  refine TA_done (by kernel_rfl) ?_ 0
  refine TX_next (TC_seq (TC_seq (TC_region (TVm ?_))))
  obtain ⟨r_7,hr_7,H⟩:=bind_elim H
  refine TLe (E_c0 (F11_calls r_6.2 r_7 hr_7) call11 .z) (fun g_7=>?_)
  refine TLv (V_bin rfl rfl (fun w=>neqI w r_7 0)) ?_
  refine TVm ?_
  obtain ⟨j1,Hj,H⟩:=bind_elim H
  refine TL_join (Γ:=Unit) (fun gj1=>[(4,vi at_),(14,ptr (some (b1,0)) 0),(15,vs r_4),(16,vs r_6.1),(65,vb j1)]) (fun gj1=>[⟨some (b1,0),[vi suite1]⟩,⟨some (b1,1),[vs r_3]⟩,⟨some (b1,2),[vi x1]⟩,⟨some (b1,3),[vi x2]⟩]) ?_ ?_
  ·intro gj1
   refine TX_next (TCb H (fun hc H=>?_) (fun hc H=>?_))
   ·refine TC_seq (TC_region (TVa ?_))
    refine TL_nil (TX_next (TC_ret (TX_then_ret ?_)))
    obtain rfl:=sj H
    exact TX1
   ·refine TC_skip (TX_next (TC_seq (TC_region (TVm ?_))))
    refine TVm ?_
    obtain ⟨r_8,hr_8,H⟩:=bind_elim H
    refine TLe (E_c0 (F9_calls r_4 r_6.1 r_8 hr_8) call9 ⟨.r 0,trivial⟩) (fun g_8=>?_)
    refine TVm ?_
    refine TLv V_ex ?_
    refine TLv V_ex ?_
    refine TLe (E_allocP [(1,[vi 0]),(1,[vs ([]:Str)]),(1,[vi 0]),(1,[vi 0])] inf23 zer23 ⟨rfl,rfl,rfl,rfl,trivial⟩) (fun b2=>?_)
    refine TLn (E_sp (b:=b2) (o:=0) [0,0,0,0] [(1,[vi 0]),(1,[vs ([]:Str)]),(1,[vi 0]),(1,[vi 0])] [(1,[vi r_8.1]),(1,[vs r_8.2.1]),(1,[vi r_8.2.2.1]),(1,[vi r_8.2.2.2.1])] rfl inf23 ⟨rfl,rfl,rfl,rfl,trivial⟩ ⟨rfl,rfl,rfl,rfl,trivial⟩ ⟨(OneC.cons rfl OneC.nil),(OneC.cons rfl OneC.nil),(OneC.cons rfl OneC.nil),(OneC.cons rfl OneC.nil),trivial⟩) (fun _=>?_)
    refine TVa ?_
    refine TL_nil (TX_next (TC_seq (TC_region (TVm ?_))))
    refine TLe (E_s2bR rfl underlying9 underlying40 underlying5) (fun g_9=>?_)
    refine TVa ?_
    refine TL_nil (TX_next (TC_seq (TC_region (TVm ?_))))
    refine TLv (V_conv rfl (fun w=>cvI64 w _ _ underlying36 (und3) .i64 at_)) ?_
    refine TVm ?_
    refine TLv (V_len_slice rfl underlying40) ?_
    refine TLv (V_bin rfl rfl (fun w=>mulI w 8 ((r_6.1).length:Int))) ?_
    refine TLv (V_conv rfl (fun w=>cvI64 w _ _ underlying36 (und3) .i64 (w64 (8 * ((r_6.1).length:Int))))) ?_
    obtain ⟨h2,H⟩:=if_elim H
    refine TLv (V_bin rfl rfl (fun w=>rem64 w (BitVec.ofInt 64 at_) (BitVec.ofInt 64 (w64 (8 * ((r_6.1).length:Int)))) h2)) ?_
    refine TLv (V_conv rfl (fun w=>cv64toI w _ _ underlying3 (und36) ((BitVec.ofInt 64 at_) % (BitVec.ofInt 64 (w64 (8 * ((r_6.1).length:Int))))))) ?_
    refine TVa ?_
    obtain ⟨k_1,hk_1,H⟩:=ltt_elim H
    refine TLr 21 (congrArg vi hk_1) ?_
    refine TL_nil (TX_next (TC_seq ?_))
    obtain ⟨h3,H⟩:=if_elim H
    obtain ⟨h4,H⟩:=if_elim H
    obtain ⟨h5,H⟩:=if_elim H
    obtain ⟨m_1,hm_1,H⟩:=ltt_elim H
    refine TA_begin [] 14 (by kernel_rfl) (N:=14) rfl ?_
    refine TA_mix (is:=[]) (done':=dn 14 8191) [itV 0 82 (sl (some (g_9.1,0)) ((r_6.1).length) ((r_6.1++g_9.2).length)) [],itV 1 83 (vi k_1) [],itV 2 84 (vi (w64 (k_1.tdiv 8))) [1],itV 3 85 (sl (some (g_9.1,0)) ((r_6.1).length) ((r_6.1++g_9.2).length)) [],itV 4 86 (vi k_1) [],itV 5 87 (vi (w64 (k_1.tdiv 8))) [4],itV 6 88 (ptr (some (g_9.1,0)) ((w64 (k_1.tdiv 8)).toNat)) [3,5],itV 7 89 (v8 (lg r_6.1 ((w64 (k_1.tdiv 8)).toNat))) [6],itV 8 90 (vi k_1) [],itV 9 91 (vi (k_1.tmod 8)) [8],itV 10 92 (v8 (1#8 <<< (k_1.tmod 8).toNat)) [9],itV 11 93 (v8 ((lg r_6.1 ((w64 (k_1.tdiv 8)).toNat)) ^^^ (1#8 <<< (k_1.tmod 8).toNat))) [7,10],itV 12 94 (ptr (some (g_9.1,0)) ((w64 (k_1.tdiv 8)).toNat)) [0,2]] [] 1 (by kernel_rfl) (QP.then QP.body) (by kernel_rfl) rfl (.v rfl (V_move rfl) (.v rfl (V_move rfl) (.v rfl (V_bin rfl rfl (fun w=>quoI w k_1 8 (by decide))) (.v rfl (V_move rfl) (.v rfl (V_move rfl) (.v rfl (V_bin rfl rfl (fun w=>quoI w k_1 8 (by decide))) (.v rfl (V_idxSl (i:=w64 (k_1.tdiv 8)) rfl rfl underlying40 inf5 rfl (fun _ h=>by cases h) h3.1 h3.2 (k:=(w64 (k_1.tdiv 8)).toNat) (km1 _)) (.v rfl (V_load rfl (.o 0) (get_row (f:=v8) (l:=r_6.1) (sp:=g_9.2) (toNat_lt h3.1 h3.2)) isAgg5) (.v rfl (V_move rfl) (.v rfl (V_bin rfl rfl (fun w=>remI w k_1 8 (by decide))) (.v rfl (V_bin rfl rfl (fun w=>shl8 w 1#8 .i64 (k_1.tmod 8) h4)) (.v rfl (V_bin rfl rfl (fun w=>xor8 w (lg r_6.1 ((w64 (k_1.tdiv 8)).toNat)) (1#8 <<< (k_1.tmod 8).toNat))) (.v rfl (V_idxSl (i:=w64 (k_1.tdiv 8)) rfl rfl underlying40 inf5 rfl (fun _ h=>by cases h) h5.1 h5.2 (k:=(w64 (k_1.tdiv 8)).toNat) (km1 _)) .nil))))))))))))) .nil (by kernel_rfl) rfl (fun γ=>?_)
    refine TA_cut [(94,ptr (some (g_9.1,0)) ((w64 (k_1.tdiv 8)).toNat)),(93,v8 ((lg r_6.1 ((w64 (k_1.tdiv 8)).toNat)) ^^^ (1#8 <<< (k_1.tmod 8).toNat))),(20,sl (some (g_9.1,0)) ((r_6.1).length) ((r_6.1++g_9.2).length)),(19,vi r_8.2.2.2.2),(18,ptr (some (b2,0)) 0),(14,ptr (some (b1,0)) 0),(15,vs r_4)] [⟨some (g_9.1,0),e8 (r_6.1++g_9.2)⟩,⟨some (b2,0),[vi r_8.1]⟩,⟨some (b2,1),[vs r_8.2.1]⟩,⟨some (b2,2),[vi r_8.2.2.1]⟩,⟨some (b2,3),[vi r_8.2.2.2.1]⟩,⟨some (b1,0),[vi suite1]⟩,⟨some (b1,1),[vs r_3]⟩,⟨some (b1,2),[vi x1]⟩,⟨some (b1,3),[vi x2]⟩] ⟨rfl,rfl,rfl,rfl,rfl,rfl,rfl,trivial⟩ rfl ?_
    refine TA_all (rs:=[13]) (by kernel_rfl) rfl ?_
    refine ⟨?_,trivial⟩
    refine TO_n (is:=[]) (done':=dn 14 16383) rfl rfl rfl (by kernel_rfl) (E_store (j:=0) rfl rfl inf5 rfl rfl rfl (by rw [List.length_map]; exact lt_app (toNat_lt h5.1 h5.2)) (cs':=e8 ((r_6.1.set ((w64 (k_1.tdiv 8)).toNat) ((lg r_6.1 ((w64 (k_1.tdiv 8)).toNat)) ^^^ (1#8 <<< (k_1.tmod 8).toNat)))++g_9.2)) (set_row (toNat_lt h5.1 h5.2))) (fun _ _=>rfl) (fun _=>?_)
    refine TA_reE (j:=0) (A:=some (g_9.1,0)) (cs:=e8 ((r_6.1.set ((w64 (k_1.tdiv 8)).toNat) ((lg r_6.1 ((w64 (k_1.tdiv 8)).toNat)) ^^^ (1#8 <<< (k_1.tmod 8).toNat)))++g_9.2)) (cs':=e8 (m_1++g_9.2)) rfl (congrArg (fun z=>e8 (z++g_9.2)) hm_1) ?_
    refine TA_re (d:=20) (v:=sl (some (g_9.1,0)) ((r_6.1).length) ((r_6.1++g_9.2).length)) (v':=sl (some (g_9.1,0)) ((m_1).length) ((m_1++g_9.2).length)) rfl (row_set hm_1) ?_
    refine TA_done (by kernel_rfl) ?_ 0
    refine TX_next (TC_seq (TC_region (TVm ?_)))
    refine TVm ?_
    refine TLv (V_b2s rfl underlying40 underlying5 underlying9 (srcRow (.o 0)) rfl) ?_
    obtain ⟨r_9,hr_9,H⟩:=bind_elim H
    refine TLe (E_c0 (F9_calls r_4 m_1 r_9 hr_9) call9 ⟨.r 0,trivial⟩) (fun g_10=>?_)
    refine TVm ?_
    refine TLv V_ex ?_
    refine TLv V_ex ?_
    refine TLe (E_allocP [(1,[vi 0]),(1,[vs ([]:Str)]),(1,[vi 0]),(1,[vi 0])] inf23 zer23 ⟨rfl,rfl,rfl,rfl,trivial⟩) (fun b3=>?_)
    refine TLn (E_sp (b:=b3) (o:=0) [0,0,0,0] [(1,[vi 0]),(1,[vs ([]:Str)]),(1,[vi 0]),(1,[vi 0])] [(1,[vi r_9.1]),(1,[vs r_9.2.1]),(1,[vi r_9.2.2.1]),(1,[vi r_9.2.2.2.1])] rfl inf23 ⟨rfl,rfl,rfl,rfl,trivial⟩ ⟨rfl,rfl,rfl,rfl,trivial⟩ ⟨(OneC.cons rfl OneC.nil),(OneC.cons rfl OneC.nil),(OneC.cons rfl OneC.nil),(OneC.cons rfl OneC.nil),trivial⟩) (fun _=>?_)
    refine TVa ?_
    refine TL_nil (TX_next (TC_seq (TC_region (TVm ?_))))
    refine TVm ?_
    refine TLv (V_b2s rfl underlying40 underlying5 underlying9 (srcRow (.o 4)) rfl) ?_
    obtain ⟨r_10,hr_10,H⟩:=bind_elim H
    refine TLe (E_c0 (F10_calls r_4 m_1 r_10 hr_10) call10 .z) (fun g_11=>?_)
    refine TVm ?_
    refine TLv V_ex ?_
    refine TLv V_ex ?_
    refine TLe (E_allocP [(1,[vi 0]),(1,[vs ([]:Str)]),(1,[vi 0]),(1,[vi 0])] inf23 zer23 ⟨rfl,rfl,rfl,rfl,trivial⟩) (fun b4=>?_)
    refine TLn (E_sp (b:=b4) (o:=0) [0,0,0,0] [(1,[vi 0]),(1,[vs ([]:Str)]),(1,[vi 0]),(1,[vi 0])] [(1,[vi r_10.1]),(1,[vs r_10.2.1]),(1,[vi r_10.2.2.1]),(1,[vi r_10.2.2.2.1])] rfl inf23 ⟨rfl,rfl,rfl,rfl,trivial⟩ ⟨rfl,rfl,rfl,rfl,trivial⟩ ⟨(OneC.cons rfl OneC.nil),(OneC.cons rfl OneC.nil),(OneC.cons rfl OneC.nil),(OneC.cons rfl OneC.nil),trivial⟩) (fun _=>?_)
    refine TVa ?_
    refine TL_nil (TX_next (TC.sub (m':=[(14,_),(18,_),(19,_),(22,_),(23,_),(24,_),(25,_)]) ⟨rfl,rfl,rfl,rfl,rfl,rfl,rfl,trivial⟩ ?_))
    refine TC.pull (is:=[13,13,13,13,9,9,9,9,4,4,4,4,0,0,0,0]) (L':=[_,_,_,_,_,_,_,_,_,_,_,_,_,_,_,_]) rfl ?_
    refine TC_seq (TC_region (TVm ?_))
    obtain ⟨r_11,hr_11,H⟩:=bind_elim H
    refine TLe (E_c0 (F11_calls r_8.2.2.2.2 r_11 hr_11) call11 .z) (fun g_12=>?_)
    refine TLv (V_bin rfl rfl (fun w=>eqlI w r_11 0)) ?_
    refine TVm ?_
    refine TFd (d:=112) H (fun hc H=>?_) (fun hc H=>?_)
    ·refine TLw (V_loadAgg (n:=4) (cs:=flat [(1,[vi r_8.1]),(1,[vs r_8.2.1]),(1,[vi r_8.2.2.1]),(1,[vi r_8.2.2.2.1])]) rfl (by simp) (SrcEnts (b:=b2) [(1,[vi r_8.1]),(1,[vs r_8.2.1]),(1,[vi r_8.2.2.1]),(1,[vi r_8.2.2.2.1])] 0 ⟨rfl,rfl,rfl,rfl,trivial⟩ (AllSrc.all (M:=ents b2 0 [(1,[vi r_8.1]),(1,[vs r_8.2.1]),(1,[vi r_8.2.2.1]),(1,[vi r_8.2.2.2.1])]) ⟨Src.own (j:=4) rfl,Src.own (j:=5) rfl,Src.own (j:=6) rfl,Src.own (j:=7) rfl,trivial⟩)) isAgg23 inf23 rfl (flat_len ⟨rfl,rfl,rfl,rfl,trivial⟩ rfl)) ?_
     refine TLw (V_loadAgg (n:=4) (cs:=flat [(1,[vi suite1]),(1,[vs r_3]),(1,[vi x1]),(1,[vi x2])]) rfl (by simp) (SrcEnts (b:=b1) [(1,[vi suite1]),(1,[vs r_3]),(1,[vi x1]),(1,[vi x2])] 0 ⟨rfl,rfl,rfl,rfl,trivial⟩ (AllSrc.all (M:=ents b1 0 [(1,[vi suite1]),(1,[vs r_3]),(1,[vi x1]),(1,[vi x2])]) ⟨Src.own (j:=0) rfl,Src.own (j:=1) rfl,Src.own (j:=2) rfl,Src.own (j:=3) rfl,trivial⟩)) isAgg23 inf23 rfl (flat_len ⟨rfl,rfl,rfl,rfl,trivial⟩ rfl)) ?_
     refine TLw (V_bin rfl rfl (fun w=>eqlSt w underlying23 (by kernel_rfl) (by kernel_rfl) [Lf.i r_8.1,Lf.s r_8.2.1,Lf.i r_8.2.2.1,Lf.i r_8.2.2.2.1] [Lf.i suite1,Lf.s r_3,Lf.i x1,Lf.i x2] (by kernel_rfl) (by kernel_rfl) (by kernel_rfl) (by kernel_rfl))) ?_
     refine TVt ?_
     refine TVm ?_
     refine TFb (d:=117) H (fun hc H=>?_) (fun hc H=>?_)
     ·refine TLw (V_loadAgg (n:=4) (cs:=flat [(1,[vi r_9.1]),(1,[vs r_9.2.1]),(1,[vi r_9.2.2.1]),(1,[vi r_9.2.2.2.1])]) rfl (by simp) (SrcEnts (b:=b3) [(1,[vi r_9.1]),(1,[vs r_9.2.1]),(1,[vi r_9.2.2.1]),(1,[vi r_9.2.2.2.1])] 0 ⟨rfl,rfl,rfl,rfl,trivial⟩ (AllSrc.all (M:=ents b3 0 [(1,[vi r_9.1]),(1,[vs r_9.2.1]),(1,[vi r_9.2.2.1]),(1,[vi r_9.2.2.2.1])]) ⟨Src.own (j:=8) rfl,Src.own (j:=9) rfl,Src.own (j:=10) rfl,Src.own (j:=11) rfl,trivial⟩)) isAgg23 inf23 rfl (flat_len ⟨rfl,rfl,rfl,rfl,trivial⟩ rfl)) ?_
      refine TLw (V_loadAgg (n:=4) (cs:=flat [(1,[vi r_10.1]),(1,[vs r_10.2.1]),(1,[vi r_10.2.2.1]),(1,[vi r_10.2.2.2.1])]) rfl (by simp) (SrcEnts (b:=b4) [(1,[vi r_10.1]),(1,[vs r_10.2.1]),(1,[vi r_10.2.2.1]),(1,[vi r_10.2.2.2.1])] 0 ⟨rfl,rfl,rfl,rfl,trivial⟩ (AllSrc.all (M:=ents b4 0 [(1,[vi r_10.1]),(1,[vs r_10.2.1]),(1,[vi r_10.2.2.1]),(1,[vi r_10.2.2.2.1])]) ⟨Src.own (j:=12) rfl,Src.own (j:=13) rfl,Src.own (j:=14) rfl,Src.own (j:=15) rfl,trivial⟩)) isAgg23 inf23 rfl (flat_len ⟨rfl,rfl,rfl,rfl,trivial⟩ rfl)) ?_
      refine TLw (V_bin rfl rfl (fun w=>eqlSt w underlying23 (by kernel_rfl) (by kernel_rfl) [Lf.i r_9.1,Lf.s r_9.2.1,Lf.i r_9.2.2.1,Lf.i r_9.2.2.2.1] [Lf.i r_10.1,Lf.s r_10.2.1,Lf.i r_10.2.2.1,Lf.i r_10.2.2.2.1] (by kernel_rfl) (by kernel_rfl) (by kernel_rfl) (by kernel_rfl))) ?_
      refine TVt ?_
      refine TVm ?_
      refine TFb (d:=122) H (fun hc H=>?_) (fun hc H=>?_)
      ·refine TLw (V_move rfl) ?_
       obtain ⟨r_12,hr_12,H⟩:=bind_elim H
       refine TLu (E_c0 (F11_calls r_9.2.2.2.2 r_12 hr_12) call11 .z) (fun g_13=>?_)
       refine TLw (V_move rfl) ?_
       refine TLw (V_bin rfl rfl (fun w=>eqlI w r_12 r_10.2.2.2.2)) ?_
       refine TVt ?_
       refine TVa ?_
       obtain ⟨x3,hx3,H⟩:=ltt_elim H
       refine TLr 10 (congrArg vb hx3) ?_
       refine TL_nil (TX_next (TC.sub (m':=[(10,_)]) ⟨rfl,trivial⟩ ?_))
       refine TC.pull (is:=[]) (L':=[]) rfl ?_
       refine TC_ret ?_
       obtain rfl:=sj H
       exact TX1
      ·refine TLs ?_
       refine TLs ?_
       refine TLs ?_
       refine TLs ?_
       refine TVf ?_
       refine TVa ?_
       refine TL_nil (TX_next (TC_ret ?_))
       obtain rfl:=sj H
       exact TX1
     ·refine TLs ?_
      refine TLs ?_
      refine TLs ?_
      refine TVf ?_
      refine TVm ?_
      refine TLs ?_
      refine TLs ?_
      refine TLs ?_
      refine TLs ?_
      refine TVf ?_
      refine TVa ?_
      refine TL_nil (TX_next (TC_ret ?_))
      obtain rfl:=sj H
      exact TX1
    ·refine TLs ?_
     refine TLs ?_
     refine TLs ?_
     refine TVf ?_
     refine TVm ?_
     refine TLs ?_
     refine TLs ?_
     refine TLs ?_
     refine TVf ?_
     refine TVm ?_
     refine TLs ?_
     refine TLs ?_
     refine TLs ?_
     refine TLs ?_
     refine TVf ?_
     refine TVa ?_
     refine TL_nil (TX_next (TC_ret ?_))
     obtain rfl:=sj H
     exact TX1
  ·intro hJ
   replace H:=Hj
   refine TFd (d:=62) H (fun hc H=>?_) (fun hc H=>?_)
   ·refine TLs ?_
    refine TLs ?_
    refine TVt ?_
    refine TL_nil ?_
    obtain rfl:=sj H
    exact TXj [0,0,0,0] (hJ ())
   ·refine TLw (V_move rfl) ?_
    refine TLw (V_bin rfl rfl (fun w=>eqlS w r_6.1 ([]:Str))) ?_
    refine TVf ?_
    refine TL_nil ?_
    obtain rfl:=sj H
    exact TXj [0,0,0,0] (hJ ())
end Go.Proofs
end

section
namespace Go.Proofs
open Go Go.Kx
theorem mod3 (which:Int) : ∃ n:Nat,n<3∧w64 (((BitVec.ofInt 64 which) % 3#64).toNat:Int)=(n:Int):=by
 have h:((BitVec.ofInt 64 which) % 3#64).toNat<3:=by
  rw [BitVec.toNat_umod]; exact Nat.mod_lt _ (by decide)
 exact ⟨_,h,w64_nat (by omega)⟩
theorem mask32 (x:Int):iop (· &&& ·) x 4294967295=x % 4294967296:=and_mask x 32 (by decide)
theorem ok32_mod (x:Int):ok32 (x % 4294967296):=⟨Int.emod_nonneg _ (by decide),Int.emod_lt_of_pos _ (by decide)⟩
theorem TicketBack_true (seed:Str) (which made add at_:Int) (r:seed.length≤140737488351232):halberdlaw20_TicketBack seed which made add at_=some true:=by
 obtain ⟨n,hn,he⟩:=mod3 which
 unfold halberdlaw20_TicketBack
 refine bind_i awake20 (if_n (by decide) (ltt_i fun su hsu=>?_))
 rw [he,w64_id (by omega) (by omega)] at hsu
 clear he
 have hs:okS su:=by unfold okS; omega
 clear hsu
 have hz:=(sz_ok hs).2
 have hle:=hl_le su
 refine bind_i (Bits_eq su) ?_
 rw [if_pos hs]
 dsimp only
 rw [hz]
 refine bind_i (filled20_eq seed (hl su) (by omega)) (ltt_i fun x1 hx1=>ltt_i fun x2 hx2=>?_)
 rw [mask32] at hx1 hx2
 have h1:ok32 x1:=by rw [hx1]; exact ok32_mod made
 have h2:ok32 x2:=by rw [hx2]; exact ok32_mod add
 clear hx1 hx2
 refine bind_i (filled20_eq seed 32 (by decide)) (if_i (by simp; omega) (bind_i (filled20_eq _ 12 (by decide)) (bind_i (SealT_eq _ _ _ _ _ _) (bind_i (num0 _) ?_))))
 have hT:okT su (filE seed (hl su)) x1 x2:=⟨hs,filE_length _ _,h1,h2⟩
 have hL:=sealT_len hT (filE_length seed 32) (filE_length ([110#8]++seed) 12)
 have hO:=open_sealT hT (filE_length seed 32) (filE_length ([110#8]++seed) 12)
 have hc:(sealT (filE seed 32) (filE ([110#8]++seed) 12) su (filE seed (hl su)) x1 x2).2=0:=by
  rw [sealT_pos ⟨hT,filE_length _ _,filE_length _ _⟩]
 generalize sealT (filE seed 32) (filE ([110#8]++seed) 12) su (filE seed (hl su)) x1 x2=o at hL hO hc ⊢
 have hlen:(o.1.length:Int)≤86∧(38:Int)≤o.1.length:=by omega
 have w8:w64 (8 * (o.1.length:Int))=((8 * o.1.length:Nat):Int):=by rw [w64_id (by omega) (by omega)]; omega
 refine bind_i (v:=false) (if_n (by rw [hc]; exact fun h=>h rfl) (by rw [decide_eq_false]; intro h; rw [h] at hL; simp at hL; omega)) (if_n (by decide) (bind_i ((OpenT_eq _ _).trans (congrArg some hO)) ?_))
 rw [w8,BitVec.ofInt_natCast]
 clear w8
 have hne:(BitVec.ofNat 64 (8 * o.1.length)).toNat=8 * o.1.length:=by rw [BitVec.toNat_ofNat,Nat.mod_eq_of_lt (by omega)]
 have hk:((BitVec.ofInt 64 at_) % (BitVec.ofNat 64 (8 * o.1.length))).toNat<8 * o.1.length:=by
  rw [BitVec.toNat_umod,hne]; exact Nat.mod_lt _ (by omega)
 refine if_i (fun h=>by rw [h] at hne; simp at hne; omega) (ltt_i fun k hkk=>?_)
 generalize ((BitVec.ofInt 64 at_) % (BitVec.ofNat 64 (8 * o.1.length))).toNat=q at hk hkk
 rw [w64_nat (by omega)] at hkk
 subst hkk
 have e1:((q:Nat):Int).tdiv 8=((q / 8:Nat):Int):=rfl
 have e2:((q:Nat):Int).tmod 8=((q % 8:Nat):Int):=rfl
 rw [e1,e2,w64_nat (by omega)]
 refine if_i (by omega) (if_i (by omega) (if_i (by omega) (ltt_i fun m hm=>bind_i (OpenT_eq _ _) (bind_i (OpenTR_eq _ _) (bind_i (num0 _) (if_i rfl (if_i ?_ (if_i ?_ (bind_i (num0 _) (ltt_i fun x hx=>by rw [hx]; simp))))))))))
 ·rw [lf_all4]; simp
 ·rw [lf_all4]; simp
end Go.Proofs
end

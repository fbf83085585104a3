/-
  Part KPL5 of the proofs of this seat: F7, PcL5.
-/
import Derived.Test.YtiofnmmggblcgaaK2
import Derived.Test.YtiofnmmggblcgaaKP4
import Derived.Test.YtiofnmmggblcgaaKP1
import Derived.Test.YtiofnmmggblcgaaKP3
set_option linter.unusedVariables false
set_option linter.unusedSimpArgs false
section
namespace Go.Proofs
open Go Go.Kx
def halberdlaw11_PcurveForms (which:Int) (x:Int):Option (Bool) :=
 (halberdlaw11_awake).bind fun (r_1:Bool)=>(if (!r_1)=true then (some false) else (if (List.replicate 32 0#8).length=32 then (ltt (List.replicate 32 0#8) fun (zero1:Str)=>((halberdlaw11_Scalar 0).bind fun (r_2:Str)=>((halberdref9_Calc 1 1 zero1 r_2).bind fun (r_3:Str × Int)=>(if 0≤(31:Int)∧(31:Int)<((r_3.1).length:Int) then (if 0≤(31:Int)∧(31:Int)<((r_3.1).length:Int) then (ltt (r_3.1.set 31 ((lg r_3.1 31)+(BitVec.ofInt 8 (w64 (1+(iop (· &&& ·) x 7)))))) fun (m_1:List (BitVec 8))=>(if (r_3.1).length+(([97#8]:Str)).length≤4611686018427387904 then (if 31≤(r_3.1).length then (if 0≤w64 (((BitVec.ofInt 64 which) % 5#64).toNat:Int)∧w64 (((BitVec.ofInt 64 which) % 5#64).toNat:Int)<(5:Int) then (if (w64 (((BitVec.ofInt 64 which) % 5#64).toNat:Int)).toNat<(([zero1,m_1,r_3.1++([97#8]:Str),sub r_3.1 0 31,([]:Str)]:List (Str))).length then (ltt (lg ([zero1,m_1,r_3.1++([97#8]:Str),sub r_3.1 0 31,([]:Str)]:List (Str)) ((w64 (((BitVec.ofInt 64 which) % 5#64).toNat:Int)).toNat)) fun (bad1:Str)=>((halberdlaw11_Scalar (iop (· &&& ·) x 1048575)).bind fun (r_4:Str)=>((pcurve_Public r_4).bind fun (r_5:Str × Int)=>((pcurve_Public r_3.1).bind fun (r_6:Str × Int)=>((halberdlaw11_Scalar 0).bind fun (r_7:Str)=>((pcurve_Public r_7).bind fun (r_8:Str × Int)=>((pcurve_Public bad1).bind fun (r_9:Str × Int)=>((pcurve_Mul bad1 r_5.1).bind fun (r_10:Str × Int)=>((pcurve_Add r_6.1 r_8.1).bind fun (r_11:Str × Int)=>((halberdlaw0_Num r_5.2).bind fun (r_12:Int)=>(if r_12=0 then ((halberdlaw0_Num r_6.2).bind fun (r_13:Int)=>(if r_13=0 then ((halberdlaw0_Num r_8.2).bind fun (r_14:Int)=>(if r_14=0 then (if ((r_6.1).length:Int)=65 then (if ((r_8.1).length:Int)=65 then (if 33≤(r_6.1).length then (if 33≤(r_8.1).length then (if sub r_6.1 0 33=sub r_8.1 0 33 then (if r_6.1 ≠ r_8.1 then ((halberdlaw0_Num r_9.2).bind fun (r_15:Int)=>(if r_15=1100 then ((halberdlaw0_Num r_10.2).bind fun (r_16:Int)=>(if r_16=1100 then ((halberdlaw0_Num r_11.2).bind fun (r_17:Int)=>(ltt (decide (r_17=1100)) fun (x1:Bool)=>(some x1))) else (some false))) else (some false))) else (some false)) else (some false)) else none) else none) else (some false)) else (some false)) else (some false))) else (some false))) else (some false)))))))))))) else none) else none) else none) else none)) else none) else none)))) else none))
set_option maxHeartbeats 4000000 in
set_option maxRecDepth 20000 in
theorem F7_calls (which:Int) (x:Int) (r:Bool) (H:halberdlaw11_PcurveForms which x=some r) :
  Does Try.prog 7 [vi which,vi x] [] [] (Γ:=Unit) (fun g=>vb r) (fun g=>[]):=by
 intro w hmem hro hd
 refine calls_of (N:=142) (m0:=[(0,vi which),(1,vi x)]) Try.func7 rfl Try.ntmps7 (argM_ok [vi which,vi x]) rfl hmem hro hd ?_
 unfold halberdlaw11_PcurveForms at H
 refine TC_seq (TC_region (TLv (V_assign rfl) ?_))
 refine TL_nil (TX_next (TC_seq (TC_seq (TC_region ?_))))
 obtain ⟨r_1,hr_1,H⟩:=bind_elim H
 refine TLe (E_c0 (F22_calls r_1 hr_1) Try.call22 .z) (fun g_1=>?_)
 refine TLv (V_un rfl (fun w=>notB w r_1)) ?_
 refine TL_nil (TX_next (TC_cond (b:=(!r_1)) rfl (fun hc=>?_) (fun hc=>?_)))
 ·replace H:=ite_t hc H
  refine TC_seq (TC_region (TLv (V_assign rfl) ?_))
  refine TL_nil (TX_next (TC_ret (TX_then_ret ?_)))
  have hrv:=Option.some.inj H
  subst hrv
  exact TX_ret (rs:=[.tmp 4]) (vs:=[vb false]) rfl ⟨rfl,trivial⟩ (fun w' hs'=>⟨(),rfl,Step.left (Step.pulled (is:=[]) (A:=[]) hs' rfl)⟩)
 ·replace H:=ite_f (Bool.eq_false_iff.1 hc) H
  refine TC_skip (TX_next (TC_seq (TC_region (TLe (E_mk1 rfl rfl Try.underlying42 TryI.inf5 (z:=v8 0#8) rfl rfl rfl (B:=1) rfl (by decide) (Int.le_refl _) (by decide) (by decide) (n':=32) (c':=32) rfl rfl (cs:=e8 (List.replicate 32 0#8)) (rep_map (f:=v8))) (fun b1=>?_)))))
  obtain ⟨h1,H⟩:=if_elim H
  refine TLv (V_b2s rfl Try.underlying42 Try.underlying5 Try.underlying9 (.o 0) h1) ?_
  refine TLv (V_assign rfl) ?_
  obtain ⟨zero1,hzero1,H⟩:=ltt_elim H
  refine TL_re (d:=5) (v:=vs (List.replicate 32 0#8)) (v':=vs zero1) rfl (congrArg vs hzero1) ?_
  refine TL_nil (TX_next (TC_seq (TC_region (TLv (V_move rfl) ?_))))
  obtain ⟨r_2,hr_2,H⟩:=bind_elim H
  refine TLe (E_c0 (F23_calls 0 r_2 hr_2) Try.call23 .z) (fun g_2=>?_)
  obtain ⟨r_3,hr_3,H⟩:=bind_elim H
  refine TLe (E_c0 (F24_calls 1 1 zero1 r_2 r_3 hr_3) Try.call24 .z) (fun g_3=>?_)
  refine TLv (V_move rfl) ?_
  refine TLv V_ex ?_
  refine TLv V_ex ?_
  refine TLv (V_assign rfl) ?_
  refine TLv (V_assign rfl) ?_
  refine TL_nil (TX_next (TC_seq (TC_region (TLv (V_move rfl) ?_))))
  refine TLe (E_s2bR rfl Try.underlying9 Try.underlying42 Try.underlying5) (fun g_4=>?_)
  refine TLv (V_assign rfl) ?_
  refine TL_nil (TX_next (TC_seq (TC_region (TLv (V_move rfl) ?_))))
  refine TLv (V_move rfl) ?_
  obtain ⟨h2,H⟩:=if_elim H
  refine TLv (V_idxSl (i:=31) rfl rfl Try.underlying42 TryI.inf5 rfl (fun _ h=>by cases h) h2.1 h2.2 (k:=31) (km1 _)) ?_
  refine TLv (V_load rfl (.o 0) (get_row (f:=v8) (l:=r_3.1) (sp:=g_4.2) (toNat_lt h2.1 h2.2)) Try.isAgg5) ?_
  refine TLv (V_move rfl) ?_
  refine TLv (V_bin rfl rfl (fun w=>andI w x 7)) ?_
  refine TLv (V_bin rfl rfl (fun w=>addI w 1 (iop (· &&& ·) x 7))) ?_
  refine TLv (V_conv rfl (fun w=>cvI8 w _ _ Try.underlying5 (TryI.und3) .i64 (w64 (1+(iop (· &&& ·) x 7))))) ?_
  refine TLv (V_bin rfl rfl (fun w=>add8 w (lg r_3.1 31) (BitVec.ofInt 8 (w64 (1+(iop (· &&& ·) x 7)))))) ?_
  obtain ⟨h3,H⟩:=if_elim H
  refine TLv (V_idxSl (i:=31) rfl rfl Try.underlying42 TryI.inf5 rfl (fun _ h=>by cases h) h3.1 h3.2 (k:=31) (km1 _)) ?_
  refine TLn (E_store (j:=0) rfl rfl TryI.inf5 rfl rfl rfl (by rw [List.length_map]; exact lt_app (toNat_lt h3.1 h3.2)) (cs':=e8 ((r_3.1.set 31 ((lg r_3.1 31)+(BitVec.ofInt 8 (w64 (1+(iop (· &&& ·) x 7))))))++g_4.2)) (set_row (toNat_lt h3.1 h3.2))) (fun _=>?_)
  obtain ⟨m_1,hm_1,H⟩:=ltt_elim H
  refine TL_reE (j:=0) (A:=some (g_4.1,0)) (cs:=e8 ((r_3.1.set 31 ((lg r_3.1 31)+(BitVec.ofInt 8 (w64 (1+(iop (· &&& ·) x 7))))))++g_4.2)) (cs':=e8 (m_1++g_4.2)) rfl (congrArg (fun z=>e8 (z++g_4.2)) hm_1) ?_
  refine TL_re (d:=33) rfl (row_set hm_1) ?_
  refine TL_re (d:=8) rfl (row_set hm_1) ?_
  refine TL_re (d:=34) rfl (row_set hm_1) ?_
  refine TL_re (d:=35) rfl (row_set hm_1) ?_
  refine TL_nil (TX_next (TC.sub (m':=[(0,vi which),(1,vi x),(5,vs zero1),(6,vs r_3.1),(8,sl (some (g_4.1,0)) ((m_1).length) ((m_1++g_4.2).length))]) ⟨rfl,rfl,rfl,rfl,rfl,trivial⟩ ?_))
  refine TC.pull (is:=[0]) (L':=[⟨some (g_4.1,0),e8 (m_1++g_4.2)⟩]) rfl ?_
  refine TC_seq ?_
  obtain ⟨h4,H⟩:=if_elim H
  obtain ⟨h5,H⟩:=if_elim H
  obtain ⟨h6,H⟩:=if_elim H
  obtain ⟨h7,H⟩:=if_elim H
  obtain ⟨bad1,hbad1,H⟩:=ltt_elim H
  refine TA_begin [⟨some (g_4.1,0),e8 (m_1++g_4.2)⟩] 15 (by kernel_rfl) (N:=15) rfl ?_
  refine TA_tk 0 [0] (dn 15 1) rfl rfl (V_move rfl) ?_
  refine TA_tk 1 [0] (dn 15 3) rfl rfl (V_move rfl) ?_
  refine TA_tk 2 [0] (dn 15 7) rfl rfl (V_b2s rfl Try.underlying42 Try.underlying5 Try.underlying9 (srcRow (.o 0)) rfl) ?_
  refine TA_tk 3 [0] (dn 15 15) rfl rfl (V_move rfl) ?_
  refine TA_tk 4 [0] (dn 15 31) rfl rfl (V_bin rfl rfl (fun w=>addS w r_3.1 ([97#8]:Str) h4)) ?_
  refine TA_tk 5 [0] (dn 15 63) rfl rfl (V_move rfl) ?_
  refine TA_tk 6 [0] (dn 15 127) rfl rfl (V_sliceStr (l:=0) (h:=31) rfl Try.underlying9 Bnd.none' (Bnd.some' (i:=31) rfl (by decide)) (Nat.zero_le _) h5) ?_
  refine TA_tk 8 [0] (dn 15 383) rfl rfl (V_move rfl) ?_
  refine TA_tk 9 [0] (dn 15 895) rfl rfl (V_conv rfl (fun w=>cvI64 w _ _ Try.underlying44 (TryI.und3) .i64 which)) ?_
  refine TA_tk 10 [0] (dn 15 1919) rfl rfl (V_bin rfl rfl (fun w=>rem64 w (BitVec.ofInt 64 which) 5#64 (by decide))) ?_
  refine TA_tk 11 [0] (dn 15 3967) rfl rfl (V_conv rfl (fun w=>cv64toI w _ _ Try.underlying3 (TryI.und44) ((BitVec.ofInt 64 which) % 5#64))) ?_
  refine TA_all (rs:=[7]) (by kernel_rfl) rfl ?_
  refine ⟨?_,trivial⟩
  refine TO_e (is:=[1]) (done':=dn 15 4095) rfl rfl rfl rfl (by kernel_rfl) (E_buildSlice (pv:=[(0,vs zero1),(1,vs m_1),(2,vs (r_3.1++([97#8]:Str))),(3,vs (sub r_3.1 0 31)),(4,vs ([]:Str))]) rfl rfl Try.underlying46 TryI.inf9 (s:=1) rfl TryI.zer9 rfl rfl rfl (cs:=eS ([zero1,m_1,r_3.1++([97#8]:Str),sub r_3.1 0 31,([]:Str)]:List (Str))) (by kernel_rfl)) (fun _ _=>rfl) (fun b2=>?_)
  refine TA_more (Lr2:=[⟨some (b2,0),eS ([zero1,m_1,r_3.1++([97#8]:Str),sub r_3.1 0 31,([]:Str)]:List (Str))⟩,⟨some (g_4.1,0),e8 (m_1++g_4.2)⟩]) (is:=[1]) (is2:=[0,0]) rfl rfl ?_
  refine TA_tk 12 [0,0] (dn 15 8191) rfl rfl (V_idxSl (i:=w64 (((BitVec.ofInt 64 which) % 5#64).toNat:Int)) rfl rfl Try.underlying46 TryI.inf9 rfl (fun _ h=>by cases h) h6.1 h6.2 (k:=(w64 (((BitVec.ofInt 64 which) % 5#64).toNat:Int)).toNat) (km1 _)) ?_
  refine TA_tk 13 [0,0] (dn 15 16383) rfl rfl (V_load rfl (.o 0) (get_map (f:=vs) (l:=([zero1,m_1,r_3.1++([97#8]:Str),sub r_3.1 0 31,([]:Str)]:List (Str))) h7) Try.isAgg9) ?_
  refine TA_tk 14 [0,0] (dn 15 32767) rfl rfl (V_assign rfl) ?_
  refine TA_re (d:=9) (v:=vs (lg ([zero1,m_1,r_3.1++([97#8]:Str),sub r_3.1 0 31,([]:Str)]:List (Str)) ((w64 (((BitVec.ofInt 64 which) % 5#64).toNat:Int)).toNat))) (v':=vs bad1) rfl (congrArg vs hbad1) ?_
  refine TA_done (by kernel_rfl) ?_ 0
  refine TX_next (TC_seq (TC_region (TLv (V_move rfl) ?_)))
  refine TLv (V_bin rfl rfl (fun w=>andI w x 1048575)) ?_
  obtain ⟨r_4,hr_4,H⟩:=bind_elim H
  refine TLe (E_c0 (F23_calls (iop (· &&& ·) x 1048575) r_4 hr_4) Try.call23 .z) (fun g_5=>?_)
  obtain ⟨r_5,hr_5,H⟩:=bind_elim H
  refine TLe (E_c0 (F13_calls r_4 r_5 hr_5) Try.call13 .z) (fun g_6=>?_)
  refine TLv (V_move rfl) ?_
  refine TLv V_ex ?_
  refine TLv V_ex ?_
  refine TLv (V_assign rfl) ?_
  refine TLv (V_assign rfl) ?_
  refine TL_nil (TX_next (TC_seq (TC_region (TLv (V_move rfl) ?_))))
  obtain ⟨r_6,hr_6,H⟩:=bind_elim H
  refine TLe (E_c0 (F13_calls r_3.1 r_6 hr_6) Try.call13 .z) (fun g_7=>?_)
  refine TLv (V_move rfl) ?_
  refine TLv V_ex ?_
  refine TLv V_ex ?_
  refine TLv (V_assign rfl) ?_
  refine TLv (V_assign rfl) ?_
  refine TL_nil (TX_next (TC.sub (m':=[(9,vs bad1),(10,vs r_5.1),(11,vi r_5.2),(12,vs r_6.1),(13,vi r_6.2)]) ⟨rfl,rfl,rfl,rfl,rfl,trivial⟩ ?_))
  refine TC.pull (is:=[]) (L':=[]) rfl ?_
  refine TC_seq (TC_region ?_)
  obtain ⟨r_7,hr_7,H⟩:=bind_elim H
  refine TLe (E_c0 (F23_calls 0 r_7 hr_7) Try.call23 .z) (fun g_8=>?_)
  obtain ⟨r_8,hr_8,H⟩:=bind_elim H
  refine TLe (E_c0 (F13_calls r_7 r_8 hr_8) Try.call13 .z) (fun g_9=>?_)
  refine TLv (V_move rfl) ?_
  refine TLv V_ex ?_
  refine TLv V_ex ?_
  refine TLv (V_assign rfl) ?_
  refine TLv (V_assign rfl) ?_
  refine TL_nil (TX_next (TC_seq (TC_region (TLv (V_move rfl) ?_))))
  obtain ⟨r_9,hr_9,H⟩:=bind_elim H
  refine TLe (E_c0 (F13_calls bad1 r_9 hr_9) Try.call13 .z) (fun g_10=>?_)
  refine TLv (V_move rfl) ?_
  refine TLv V_ex ?_
  refine TLv V_ex ?_
  refine TLv (V_assign rfl) ?_
  refine TLv (V_assign rfl) ?_
  refine TL_nil (TX_next (TC_seq (TC_region (TLv (V_move rfl) ?_))))
  refine TLv (V_move rfl) ?_
  obtain ⟨r_10,hr_10,H⟩:=bind_elim H
  refine TLe (E_c0 (F15_calls bad1 r_5.1 r_10 hr_10) Try.call15 .z) (fun g_11=>?_)
  refine TLv (V_move rfl) ?_
  refine TLv V_ex ?_
  refine TLv V_ex ?_
  refine TLv (V_assign rfl) ?_
  refine TLv (V_assign rfl) ?_
  refine TL_nil (TX_next (TC_seq (TC_region (TLv (V_move rfl) ?_))))
  refine TLv (V_move rfl) ?_
  obtain ⟨r_11,hr_11,H⟩:=bind_elim H
  refine TLe (E_c0 (F17_calls r_6.1 r_8.1 r_11 hr_11) Try.call17 .z) (fun g_12=>?_)
  refine TLv (V_move rfl) ?_
  refine TLv V_ex ?_
  refine TLv V_ex ?_
  refine TLv (V_assign rfl) ?_
  refine TLv (V_assign rfl) ?_
  refine TL_nil (TX_next (TC.sub (m':=[(11,vi r_5.2),(12,vs r_6.1),(13,vi r_6.2),(14,vs r_8.1),(15,vi r_8.2),(17,vi r_9.2),(19,vi r_10.2),(21,vi r_11.2)]) ⟨rfl,rfl,rfl,rfl,rfl,rfl,rfl,rfl,trivial⟩ ?_))
  refine TC.pull (is:=[]) (L':=[]) rfl ?_
  refine TC_seq ?_
  obtain ⟨r_12,hr_12,H⟩:=bind_elim H
  refine TC_em (decide (r_12=0)) (fun hg14_4=>?_) (fun hg14_4=>?_)
  ·replace H:=ite_t (of_decide_eq_true hg14_4) H
   obtain ⟨r_13,hr_13,H⟩:=bind_elim H
   refine TC_em (decide (r_13=0)) (fun hg14_9=>?_) (fun hg14_9=>?_)
   ·replace H:=ite_t (of_decide_eq_true hg14_9) H
    obtain ⟨r_14,hr_14,H⟩:=bind_elim H
    refine TC_em (decide (r_14=0)) (fun hg14_14=>?_) (fun hg14_14=>?_)
    ·replace H:=ite_t (of_decide_eq_true hg14_14) H
     refine TC_em (decide (((r_6.1).length:Int)=65)) (fun hg14_19=>?_) (fun hg14_19=>?_)
     ·replace H:=ite_t (of_decide_eq_true hg14_19) H
      refine TC_em (decide (((r_8.1).length:Int)=65)) (fun hg14_24=>?_) (fun hg14_24=>?_)
      ·replace H:=ite_t (of_decide_eq_true hg14_24) H
       obtain ⟨h8,H⟩:=if_elim H
       obtain ⟨h9,H⟩:=if_elim H
       refine TC_em (decide (sub r_6.1 0 33=sub r_8.1 0 33)) (fun hg14_31=>?_) (fun hg14_31=>?_)
       ·replace H:=ite_t (of_decide_eq_true hg14_31) H
        refine TC_em (decide (r_6.1 ≠ r_8.1)) (fun hg14_36=>?_) (fun hg14_36=>?_)
        ·replace H:=ite_t (of_decide_eq_true hg14_36) H
         obtain ⟨r_15,hr_15,H⟩:=bind_elim H
         refine TC_em (decide (r_15=1100)) (fun hg14_41=>?_) (fun hg14_41=>?_)
         ·replace H:=ite_t (of_decide_eq_true hg14_41) H
          obtain ⟨r_16,hr_16,H⟩:=bind_elim H
          refine TC_em (decide (r_16=1100)) (fun hg14_46=>?_) (fun hg14_46=>?_)
          ·replace H:=ite_t (of_decide_eq_true hg14_46) H
           obtain ⟨r_17,hr_17,H⟩:=bind_elim H
           obtain ⟨x1,hx1,H⟩:=ltt_elim H
           refine TA_begin [] 51 (by kernel_rfl) (N:=51) rfl ?_
           refine TA_tk 0 [] (dn 51 1) rfl rfl (V_move rfl) ?_
           refine TA_all (rs:=[1]) (by kernel_rfl) rfl ?_
           refine ⟨?_,trivial⟩
           refine TO_e (is:=[]) (done':=dn 51 3) rfl rfl rfl rfl (by kernel_rfl) (E_c0 (F20_calls r_5.2 r_12 hr_12) Try.call20 .z) (fun _ _=>rfl) (fun g_13=>?_)
           refine TA_tk 2 [] (dn 51 7) rfl rfl (V_bin rfl rfl (fun w=>eqlI w r_12 0)) ?_
           refine TA_tk 3 [] (dn 51 15) rfl rfl (V_move rfl) ?_
           refine TA_re (d:=95) (v:=vb (decide (r_12=0))) (v':=vb true) rfl (congrArg vb hg14_4) ?_
           refine TA_tw 4 [] (dn 51 31) rfl rfl (V_move rfl) ?_
           refine TA_all (rs:=[5]) (by kernel_rfl) rfl ?_
           refine ⟨?_,trivial⟩
           refine TO_eW (is:=[]) (done':=dn 51 63) rfl rfl rfl rfl rfl rfl rfl (by kernel_rfl) (E_c0 (F20_calls r_6.2 r_13 hr_13) Try.call20 .z) (fun _ _=>rfl) (fun g_14=>?_)
           refine TA_tw 6 [] (dn 51 127) rfl rfl (V_bin rfl rfl (fun w=>eqlI w r_13 0)) ?_
           refine TA_tk 7 [] (dn 51 255) rfl rfl (V_pick (b:=true) rfl rfl) ?_
           refine TA_tk 8 [] (dn 51 511) rfl rfl (V_move rfl) ?_
           refine TA_re (d:=100) (v:=vb (decide (r_13=0))) (v':=vb true) rfl (congrArg vb hg14_9) ?_
           refine TA_tw 9 [] (dn 51 1023) rfl rfl (V_move rfl) ?_
           refine TA_all (rs:=[10]) (by kernel_rfl) rfl ?_
           refine ⟨?_,trivial⟩
           refine TO_eW (is:=[]) (done':=dn 51 2047) rfl rfl rfl rfl rfl rfl rfl (by kernel_rfl) (E_c0 (F20_calls r_8.2 r_14 hr_14) Try.call20 .z) (fun _ _=>rfl) (fun g_15=>?_)
           refine TA_tw 11 [] (dn 51 4095) rfl rfl (V_bin rfl rfl (fun w=>eqlI w r_14 0)) ?_
           refine TA_tk 12 [] (dn 51 8191) rfl rfl (V_pick (b:=true) rfl rfl) ?_
           refine TA_tk 13 [] (dn 51 16383) rfl rfl (V_move rfl) ?_
           refine TA_re (d:=105) (v:=vb (decide (r_14=0))) (v':=vb true) rfl (congrArg vb hg14_14) ?_
           refine TA_tw 14 [] (dn 51 32767) rfl rfl (V_move rfl) ?_
           refine TA_tw 15 [] (dn 51 65535) rfl rfl (V_len_str rfl Try.underlying9) ?_
           refine TA_tw 16 [] (dn 51 131071) rfl rfl (V_bin rfl rfl (fun w=>eqlI w ((r_6.1).length:Int) 65)) ?_
           refine TA_tk 17 [] (dn 51 262143) rfl rfl (V_pick (b:=true) rfl rfl) ?_
           refine TA_tk 18 [] (dn 51 524287) rfl rfl (V_move rfl) ?_
           refine TA_re (d:=110) (v:=vb (decide (((r_6.1).length:Int)=65))) (v':=vb true) rfl (congrArg vb hg14_19) ?_
           refine TA_tw 19 [] (dn 51 1048575) rfl rfl (V_move rfl) ?_
           refine TA_tw 20 [] (dn 51 2097151) rfl rfl (V_len_str rfl Try.underlying9) ?_
           refine TA_tw 21 [] (dn 51 4194303) rfl rfl (V_bin rfl rfl (fun w=>eqlI w ((r_8.1).length:Int) 65)) ?_
           refine TA_tk 22 [] (dn 51 8388607) rfl rfl (V_pick (b:=true) rfl rfl) ?_
           refine TA_tk 23 [] (dn 51 16777215) rfl rfl (V_move rfl) ?_
           refine TA_re (d:=115) (v:=vb (decide (((r_8.1).length:Int)=65))) (v':=vb true) rfl (congrArg vb hg14_24) ?_
           refine TA_tw 24 [] (dn 51 33554431) rfl rfl (V_move rfl) ?_
           refine TA_tw 25 [] (dn 51 67108863) rfl rfl (V_sliceStr (l:=0) (h:=33) rfl Try.underlying9 Bnd.none' (Bnd.some' (i:=33) rfl (by decide)) (Nat.zero_le _) h8) ?_
           refine TA_tw 26 [] (dn 51 134217727) rfl rfl (V_move rfl) ?_
           refine TA_tw 27 [] (dn 51 268435455) rfl rfl (V_sliceStr (l:=0) (h:=33) rfl Try.underlying9 Bnd.none' (Bnd.some' (i:=33) rfl (by decide)) (Nat.zero_le _) h9) ?_
           refine TA_tw 28 [] (dn 51 536870911) rfl rfl (V_bin rfl rfl (fun w=>eqlS w (sub r_6.1 0 33) (sub r_8.1 0 33))) ?_
           refine TA_tk 29 [] (dn 51 1073741823) rfl rfl (V_pick (b:=true) rfl rfl) ?_
           refine TA_tk 30 [] (dn 51 2147483647) rfl rfl (V_move rfl) ?_
           refine TA_re (d:=122) (v:=vb (decide (sub r_6.1 0 33=sub r_8.1 0 33))) (v':=vb true) rfl (congrArg vb hg14_31) ?_
           refine TA_tw 31 [] (dn 51 4294967295) rfl rfl (V_move rfl) ?_
           refine TA_tw 32 [] (dn 51 8589934591) rfl rfl (V_move rfl) ?_
           refine TA_tw 33 [] (dn 51 17179869183) rfl rfl (V_bin rfl rfl (fun w=>neqS w r_6.1 r_8.1)) ?_
           refine TA_tk 34 [] (dn 51 34359738367) rfl rfl (V_pick (b:=true) rfl rfl) ?_
           refine TA_tk 35 [] (dn 51 68719476735) rfl rfl (V_move rfl) ?_
           refine TA_re (d:=127) (v:=vb (decide (r_6.1 ≠ r_8.1))) (v':=vb true) rfl (congrArg vb hg14_36) ?_
           refine TA_tw 36 [] (dn 51 137438953471) rfl rfl (V_move rfl) ?_
           refine TA_all (rs:=[37]) (by kernel_rfl) rfl ?_
           refine ⟨?_,trivial⟩
           refine TO_eW (is:=[]) (done':=dn 51 274877906943) rfl rfl rfl rfl rfl rfl rfl (by kernel_rfl) (E_c0 (F20_calls r_9.2 r_15 hr_15) Try.call20 .z) (fun _ _=>rfl) (fun g_16=>?_)
           refine TA_tw 38 [] (dn 51 549755813887) rfl rfl (V_bin rfl rfl (fun w=>eqlI w r_15 1100)) ?_
           refine TA_tk 39 [] (dn 51 1099511627775) rfl rfl (V_pick (b:=true) rfl rfl) ?_
           refine TA_tk 40 [] (dn 51 2199023255551) rfl rfl (V_move rfl) ?_
           refine TA_re (d:=132) (v:=vb (decide (r_15=1100))) (v':=vb true) rfl (congrArg vb hg14_41) ?_
           refine TA_tw 41 [] (dn 51 4398046511103) rfl rfl (V_move rfl) ?_
           refine TA_all (rs:=[42]) (by kernel_rfl) rfl ?_
           refine ⟨?_,trivial⟩
           refine TO_eW (is:=[]) (done':=dn 51 8796093022207) rfl rfl rfl rfl rfl rfl rfl (by kernel_rfl) (E_c0 (F20_calls r_10.2 r_16 hr_16) Try.call20 .z) (fun _ _=>rfl) (fun g_17=>?_)
           refine TA_tw 43 [] (dn 51 17592186044415) rfl rfl (V_bin rfl rfl (fun w=>eqlI w r_16 1100)) ?_
           refine TA_tk 44 [] (dn 51 35184372088831) rfl rfl (V_pick (b:=true) rfl rfl) ?_
           refine TA_tk 45 [] (dn 51 70368744177663) rfl rfl (V_move rfl) ?_
           refine TA_re (d:=137) (v:=vb (decide (r_16=1100))) (v':=vb true) rfl (congrArg vb hg14_46) ?_
           refine TA_tw 46 [] (dn 51 140737488355327) rfl rfl (V_move rfl) ?_
           refine TA_all (rs:=[47]) (by kernel_rfl) rfl ?_
           refine ⟨?_,trivial⟩
           refine TO_eW (is:=[]) (done':=dn 51 281474976710655) rfl rfl rfl rfl rfl rfl rfl (by kernel_rfl) (E_c0 (F20_calls r_11.2 r_17 hr_17) Try.call20 .z) (fun _ _=>rfl) (fun g_18=>?_)
           refine TA_tw 48 [] (dn 51 562949953421311) rfl rfl (V_bin rfl rfl (fun w=>eqlI w r_17 1100)) ?_
           refine TA_tk 49 [] (dn 51 1125899906842623) rfl rfl (V_pick (b:=true) rfl rfl) ?_
           refine TA_tk 50 [] (dn 51 2251799813685247) rfl rfl (V_assign rfl) ?_
           refine TA_re (d:=4) (v:=vb (decide (r_17=1100))) (v':=vb x1) rfl (congrArg vb hx1) ?_
           refine TA_done (by kernel_rfl) ?_ 0
           refine TX_next (TC.sub (m':=[(4,vb x1)]) ⟨rfl,trivial⟩ ?_)
           refine TC.pull (is:=[]) (L':=[]) rfl ?_
           refine TC_ret ?_
           have hrv:=Option.some.inj H
           subst hrv
           exact TX_ret (rs:=[.tmp 4]) (vs:=[vb x1]) rfl ⟨rfl,trivial⟩ (fun w' hs'=>⟨(),rfl,Step.left (Step.pulled (is:=[]) (A:=[]) hs' rfl)⟩)
          ·replace H:=ite_f (of_decide_eq_false hg14_46) H
           refine TA_begin [] 51 (by kernel_rfl) (N:=51) rfl ?_
           refine TA_tk 0 [] (dn 51 1) rfl rfl (V_move rfl) ?_
           refine TA_all (rs:=[1]) (by kernel_rfl) rfl ?_
           refine ⟨?_,trivial⟩
           refine TO_e (is:=[]) (done':=dn 51 3) rfl rfl rfl rfl (by kernel_rfl) (E_c0 (F20_calls r_5.2 r_12 hr_12) Try.call20 .z) (fun _ _=>rfl) (fun g_13=>?_)
           refine TA_tk 2 [] (dn 51 7) rfl rfl (V_bin rfl rfl (fun w=>eqlI w r_12 0)) ?_
           refine TA_tk 3 [] (dn 51 15) rfl rfl (V_move rfl) ?_
           refine TA_re (d:=95) (v:=vb (decide (r_12=0))) (v':=vb true) rfl (congrArg vb hg14_4) ?_
           refine TA_tw 4 [] (dn 51 31) rfl rfl (V_move rfl) ?_
           refine TA_all (rs:=[5]) (by kernel_rfl) rfl ?_
           refine ⟨?_,trivial⟩
           refine TO_eW (is:=[]) (done':=dn 51 63) rfl rfl rfl rfl rfl rfl rfl (by kernel_rfl) (E_c0 (F20_calls r_6.2 r_13 hr_13) Try.call20 .z) (fun _ _=>rfl) (fun g_14=>?_)
           refine TA_tw 6 [] (dn 51 127) rfl rfl (V_bin rfl rfl (fun w=>eqlI w r_13 0)) ?_
           refine TA_tk 7 [] (dn 51 255) rfl rfl (V_pick (b:=true) rfl rfl) ?_
           refine TA_tk 8 [] (dn 51 511) rfl rfl (V_move rfl) ?_
           refine TA_re (d:=100) (v:=vb (decide (r_13=0))) (v':=vb true) rfl (congrArg vb hg14_9) ?_
           refine TA_tw 9 [] (dn 51 1023) rfl rfl (V_move rfl) ?_
           refine TA_all (rs:=[10]) (by kernel_rfl) rfl ?_
           refine ⟨?_,trivial⟩
           refine TO_eW (is:=[]) (done':=dn 51 2047) rfl rfl rfl rfl rfl rfl rfl (by kernel_rfl) (E_c0 (F20_calls r_8.2 r_14 hr_14) Try.call20 .z) (fun _ _=>rfl) (fun g_15=>?_)
           refine TA_tw 11 [] (dn 51 4095) rfl rfl (V_bin rfl rfl (fun w=>eqlI w r_14 0)) ?_
           refine TA_tk 12 [] (dn 51 8191) rfl rfl (V_pick (b:=true) rfl rfl) ?_
           refine TA_tk 13 [] (dn 51 16383) rfl rfl (V_move rfl) ?_
           refine TA_re (d:=105) (v:=vb (decide (r_14=0))) (v':=vb true) rfl (congrArg vb hg14_14) ?_
           refine TA_tw 14 [] (dn 51 32767) rfl rfl (V_move rfl) ?_
           refine TA_tw 15 [] (dn 51 65535) rfl rfl (V_len_str rfl Try.underlying9) ?_
           refine TA_tw 16 [] (dn 51 131071) rfl rfl (V_bin rfl rfl (fun w=>eqlI w ((r_6.1).length:Int) 65)) ?_
           refine TA_tk 17 [] (dn 51 262143) rfl rfl (V_pick (b:=true) rfl rfl) ?_
           refine TA_tk 18 [] (dn 51 524287) rfl rfl (V_move rfl) ?_
           refine TA_re (d:=110) (v:=vb (decide (((r_6.1).length:Int)=65))) (v':=vb true) rfl (congrArg vb hg14_19) ?_
           refine TA_tw 19 [] (dn 51 1048575) rfl rfl (V_move rfl) ?_
           refine TA_tw 20 [] (dn 51 2097151) rfl rfl (V_len_str rfl Try.underlying9) ?_
           refine TA_tw 21 [] (dn 51 4194303) rfl rfl (V_bin rfl rfl (fun w=>eqlI w ((r_8.1).length:Int) 65)) ?_
           refine TA_tk 22 [] (dn 51 8388607) rfl rfl (V_pick (b:=true) rfl rfl) ?_
           refine TA_tk 23 [] (dn 51 16777215) rfl rfl (V_move rfl) ?_
           refine TA_re (d:=115) (v:=vb (decide (((r_8.1).length:Int)=65))) (v':=vb true) rfl (congrArg vb hg14_24) ?_
           refine TA_tw 24 [] (dn 51 33554431) rfl rfl (V_move rfl) ?_
           refine TA_tw 25 [] (dn 51 67108863) rfl rfl (V_sliceStr (l:=0) (h:=33) rfl Try.underlying9 Bnd.none' (Bnd.some' (i:=33) rfl (by decide)) (Nat.zero_le _) h8) ?_
           refine TA_tw 26 [] (dn 51 134217727) rfl rfl (V_move rfl) ?_
           refine TA_tw 27 [] (dn 51 268435455) rfl rfl (V_sliceStr (l:=0) (h:=33) rfl Try.underlying9 Bnd.none' (Bnd.some' (i:=33) rfl (by decide)) (Nat.zero_le _) h9) ?_
           refine TA_tw 28 [] (dn 51 536870911) rfl rfl (V_bin rfl rfl (fun w=>eqlS w (sub r_6.1 0 33) (sub r_8.1 0 33))) ?_
           refine TA_tk 29 [] (dn 51 1073741823) rfl rfl (V_pick (b:=true) rfl rfl) ?_
           refine TA_tk 30 [] (dn 51 2147483647) rfl rfl (V_move rfl) ?_
           refine TA_re (d:=122) (v:=vb (decide (sub r_6.1 0 33=sub r_8.1 0 33))) (v':=vb true) rfl (congrArg vb hg14_31) ?_
           refine TA_tw 31 [] (dn 51 4294967295) rfl rfl (V_move rfl) ?_
           refine TA_tw 32 [] (dn 51 8589934591) rfl rfl (V_move rfl) ?_
           refine TA_tw 33 [] (dn 51 17179869183) rfl rfl (V_bin rfl rfl (fun w=>neqS w r_6.1 r_8.1)) ?_
           refine TA_tk 34 [] (dn 51 34359738367) rfl rfl (V_pick (b:=true) rfl rfl) ?_
           refine TA_tk 35 [] (dn 51 68719476735) rfl rfl (V_move rfl) ?_
           refine TA_re (d:=127) (v:=vb (decide (r_6.1 ≠ r_8.1))) (v':=vb true) rfl (congrArg vb hg14_36) ?_
           refine TA_tw 36 [] (dn 51 137438953471) rfl rfl (V_move rfl) ?_
           refine TA_all (rs:=[37]) (by kernel_rfl) rfl ?_
           refine ⟨?_,trivial⟩
           refine TO_eW (is:=[]) (done':=dn 51 274877906943) rfl rfl rfl rfl rfl rfl rfl (by kernel_rfl) (E_c0 (F20_calls r_9.2 r_15 hr_15) Try.call20 .z) (fun _ _=>rfl) (fun g_16=>?_)
           refine TA_tw 38 [] (dn 51 549755813887) rfl rfl (V_bin rfl rfl (fun w=>eqlI w r_15 1100)) ?_
           refine TA_tk 39 [] (dn 51 1099511627775) rfl rfl (V_pick (b:=true) rfl rfl) ?_
           refine TA_tk 40 [] (dn 51 2199023255551) rfl rfl (V_move rfl) ?_
           refine TA_re (d:=132) (v:=vb (decide (r_15=1100))) (v':=vb true) rfl (congrArg vb hg14_41) ?_
           refine TA_tw 41 [] (dn 51 4398046511103) rfl rfl (V_move rfl) ?_
           refine TA_all (rs:=[42]) (by kernel_rfl) rfl ?_
           refine ⟨?_,trivial⟩
           refine TO_eW (is:=[]) (done':=dn 51 8796093022207) rfl rfl rfl rfl rfl rfl rfl (by kernel_rfl) (E_c0 (F20_calls r_10.2 r_16 hr_16) Try.call20 .z) (fun _ _=>rfl) (fun g_17=>?_)
           refine TA_tw 43 [] (dn 51 17592186044415) rfl rfl (V_bin rfl rfl (fun w=>eqlI w r_16 1100)) ?_
           refine TA_tk 44 [] (dn 51 35184372088831) rfl rfl (V_pick (b:=true) rfl rfl) ?_
           refine TA_tk 45 [] (dn 51 70368744177663) rfl rfl (V_move rfl) ?_
           refine TA_re (d:=137) (v:=vb (decide (r_16=1100))) (v':=vb false) rfl (congrArg vb hg14_46) ?_
           refine TA_ts 46 [] (dn 51 140737488355327) rfl rfl ?_
           refine TA_ts 47 [] (dn 51 281474976710655) rfl rfl ?_
           refine TA_ts 48 [] (dn 51 562949953421311) rfl rfl ?_
           refine TA_tk 49 [] (dn 51 1125899906842623) rfl rfl (V_pick (b:=false) rfl rfl) ?_
           refine TA_tk 50 [] (dn 51 2251799813685247) rfl rfl (V_assign rfl) ?_
           refine TA_done (by kernel_rfl) ?_ 0
           refine TX_next (TC.sub (m':=[(4,vb false)]) ⟨rfl,trivial⟩ ?_)
           refine TC.pull (is:=[]) (L':=[]) rfl ?_
           refine TC_ret ?_
           have hrv:=Option.some.inj H
           subst hrv
           exact TX_ret (rs:=[.tmp 4]) (vs:=[vb false]) rfl ⟨rfl,trivial⟩ (fun w' hs'=>⟨(),rfl,Step.left (Step.pulled (is:=[]) (A:=[]) hs' rfl)⟩)
         ·replace H:=ite_f (of_decide_eq_false hg14_41) H
          refine TA_begin [] 51 (by kernel_rfl) (N:=51) rfl ?_
          refine TA_tk 0 [] (dn 51 1) rfl rfl (V_move rfl) ?_
          refine TA_all (rs:=[1]) (by kernel_rfl) rfl ?_
          refine ⟨?_,trivial⟩
          refine TO_e (is:=[]) (done':=dn 51 3) rfl rfl rfl rfl (by kernel_rfl) (E_c0 (F20_calls r_5.2 r_12 hr_12) Try.call20 .z) (fun _ _=>rfl) (fun g_13=>?_)
          refine TA_tk 2 [] (dn 51 7) rfl rfl (V_bin rfl rfl (fun w=>eqlI w r_12 0)) ?_
          refine TA_tk 3 [] (dn 51 15) rfl rfl (V_move rfl) ?_
          refine TA_re (d:=95) (v:=vb (decide (r_12=0))) (v':=vb true) rfl (congrArg vb hg14_4) ?_
          refine TA_tw 4 [] (dn 51 31) rfl rfl (V_move rfl) ?_
          refine TA_all (rs:=[5]) (by kernel_rfl) rfl ?_
          refine ⟨?_,trivial⟩
          refine TO_eW (is:=[]) (done':=dn 51 63) rfl rfl rfl rfl rfl rfl rfl (by kernel_rfl) (E_c0 (F20_calls r_6.2 r_13 hr_13) Try.call20 .z) (fun _ _=>rfl) (fun g_14=>?_)
          refine TA_tw 6 [] (dn 51 127) rfl rfl (V_bin rfl rfl (fun w=>eqlI w r_13 0)) ?_
          refine TA_tk 7 [] (dn 51 255) rfl rfl (V_pick (b:=true) rfl rfl) ?_
          refine TA_tk 8 [] (dn 51 511) rfl rfl (V_move rfl) ?_
          refine TA_re (d:=100) (v:=vb (decide (r_13=0))) (v':=vb true) rfl (congrArg vb hg14_9) ?_
          refine TA_tw 9 [] (dn 51 1023) rfl rfl (V_move rfl) ?_
          refine TA_all (rs:=[10]) (by kernel_rfl) rfl ?_
          refine ⟨?_,trivial⟩
          refine TO_eW (is:=[]) (done':=dn 51 2047) rfl rfl rfl rfl rfl rfl rfl (by kernel_rfl) (E_c0 (F20_calls r_8.2 r_14 hr_14) Try.call20 .z) (fun _ _=>rfl) (fun g_15=>?_)
          refine TA_tw 11 [] (dn 51 4095) rfl rfl (V_bin rfl rfl (fun w=>eqlI w r_14 0)) ?_
          refine TA_tk 12 [] (dn 51 8191) rfl rfl (V_pick (b:=true) rfl rfl) ?_
          refine TA_tk 13 [] (dn 51 16383) rfl rfl (V_move rfl) ?_
          refine TA_re (d:=105) (v:=vb (decide (r_14=0))) (v':=vb true) rfl (congrArg vb hg14_14) ?_
          refine TA_tw 14 [] (dn 51 32767) rfl rfl (V_move rfl) ?_
          refine TA_tw 15 [] (dn 51 65535) rfl rfl (V_len_str rfl Try.underlying9) ?_
          refine TA_tw 16 [] (dn 51 131071) rfl rfl (V_bin rfl rfl (fun w=>eqlI w ((r_6.1).length:Int) 65)) ?_
          refine TA_tk 17 [] (dn 51 262143) rfl rfl (V_pick (b:=true) rfl rfl) ?_
          refine TA_tk 18 [] (dn 51 524287) rfl rfl (V_move rfl) ?_
          refine TA_re (d:=110) (v:=vb (decide (((r_6.1).length:Int)=65))) (v':=vb true) rfl (congrArg vb hg14_19) ?_
          refine TA_tw 19 [] (dn 51 1048575) rfl rfl (V_move rfl) ?_
          refine TA_tw 20 [] (dn 51 2097151) rfl rfl (V_len_str rfl Try.underlying9) ?_
          refine TA_tw 21 [] (dn 51 4194303) rfl rfl (V_bin rfl rfl (fun w=>eqlI w ((r_8.1).length:Int) 65)) ?_
          refine TA_tk 22 [] (dn 51 8388607) rfl rfl (V_pick (b:=true) rfl rfl) ?_
          refine TA_tk 23 [] (dn 51 16777215) rfl rfl (V_move rfl) ?_
          refine TA_re (d:=115) (v:=vb (decide (((r_8.1).length:Int)=65))) (v':=vb true) rfl (congrArg vb hg14_24) ?_
          refine TA_tw 24 [] (dn 51 33554431) rfl rfl (V_move rfl) ?_
          refine TA_tw 25 [] (dn 51 67108863) rfl rfl (V_sliceStr (l:=0) (h:=33) rfl Try.underlying9 Bnd.none' (Bnd.some' (i:=33) rfl (by decide)) (Nat.zero_le _) h8) ?_
          refine TA_tw 26 [] (dn 51 134217727) rfl rfl (V_move rfl) ?_
          refine TA_tw 27 [] (dn 51 268435455) rfl rfl (V_sliceStr (l:=0) (h:=33) rfl Try.underlying9 Bnd.none' (Bnd.some' (i:=33) rfl (by decide)) (Nat.zero_le _) h9) ?_
          refine TA_tw 28 [] (dn 51 536870911) rfl rfl (V_bin rfl rfl (fun w=>eqlS w (sub r_6.1 0 33) (sub r_8.1 0 33))) ?_
          refine TA_tk 29 [] (dn 51 1073741823) rfl rfl (V_pick (b:=true) rfl rfl) ?_
          refine TA_tk 30 [] (dn 51 2147483647) rfl rfl (V_move rfl) ?_
          refine TA_re (d:=122) (v:=vb (decide (sub r_6.1 0 33=sub r_8.1 0 33))) (v':=vb true) rfl (congrArg vb hg14_31) ?_
          refine TA_tw 31 [] (dn 51 4294967295) rfl rfl (V_move rfl) ?_
          refine TA_tw 32 [] (dn 51 8589934591) rfl rfl (V_move rfl) ?_
          refine TA_tw 33 [] (dn 51 17179869183) rfl rfl (V_bin rfl rfl (fun w=>neqS w r_6.1 r_8.1)) ?_
          refine TA_tk 34 [] (dn 51 34359738367) rfl rfl (V_pick (b:=true) rfl rfl) ?_
          refine TA_tk 35 [] (dn 51 68719476735) rfl rfl (V_move rfl) ?_
          refine TA_re (d:=127) (v:=vb (decide (r_6.1 ≠ r_8.1))) (v':=vb true) rfl (congrArg vb hg14_36) ?_
          refine TA_tw 36 [] (dn 51 137438953471) rfl rfl (V_move rfl) ?_
          refine TA_all (rs:=[37]) (by kernel_rfl) rfl ?_
          refine ⟨?_,trivial⟩
          refine TO_eW (is:=[]) (done':=dn 51 274877906943) rfl rfl rfl rfl rfl rfl rfl (by kernel_rfl) (E_c0 (F20_calls r_9.2 r_15 hr_15) Try.call20 .z) (fun _ _=>rfl) (fun g_16=>?_)
          refine TA_tw 38 [] (dn 51 549755813887) rfl rfl (V_bin rfl rfl (fun w=>eqlI w r_15 1100)) ?_
          refine TA_tk 39 [] (dn 51 1099511627775) rfl rfl (V_pick (b:=true) rfl rfl) ?_
          refine TA_tk 40 [] (dn 51 2199023255551) rfl rfl (V_move rfl) ?_
          refine TA_re (d:=132) (v:=vb (decide (r_15=1100))) (v':=vb false) rfl (congrArg vb hg14_41) ?_
          refine TA_ts 41 [] (dn 51 4398046511103) rfl rfl ?_
          refine TA_ts 42 [] (dn 51 8796093022207) rfl rfl ?_
          refine TA_ts 43 [] (dn 51 17592186044415) rfl rfl ?_
          refine TA_tk 44 [] (dn 51 35184372088831) rfl rfl (V_pick (b:=false) rfl rfl) ?_
          refine TA_tk 45 [] (dn 51 70368744177663) rfl rfl (V_move rfl) ?_
          refine TA_ts 46 [] (dn 51 140737488355327) rfl rfl ?_
          refine TA_ts 47 [] (dn 51 281474976710655) rfl rfl ?_
          refine TA_ts 48 [] (dn 51 562949953421311) rfl rfl ?_
          refine TA_tk 49 [] (dn 51 1125899906842623) rfl rfl (V_pick (b:=false) rfl rfl) ?_
          refine TA_tk 50 [] (dn 51 2251799813685247) rfl rfl (V_assign rfl) ?_
          refine TA_done (by kernel_rfl) ?_ 0
          refine TX_next (TC.sub (m':=[(4,vb false)]) ⟨rfl,trivial⟩ ?_)
          refine TC.pull (is:=[]) (L':=[]) rfl ?_
          refine TC_ret ?_
          have hrv:=Option.some.inj H
          subst hrv
          exact TX_ret (rs:=[.tmp 4]) (vs:=[vb false]) rfl ⟨rfl,trivial⟩ (fun w' hs'=>⟨(),rfl,Step.left (Step.pulled (is:=[]) (A:=[]) hs' rfl)⟩)
        ·replace H:=ite_f (of_decide_eq_false hg14_36) H
         refine TA_begin [] 51 (by kernel_rfl) (N:=51) rfl ?_
         refine TA_tk 0 [] (dn 51 1) rfl rfl (V_move rfl) ?_
         refine TA_all (rs:=[1]) (by kernel_rfl) rfl ?_
         refine ⟨?_,trivial⟩
         refine TO_e (is:=[]) (done':=dn 51 3) rfl rfl rfl rfl (by kernel_rfl) (E_c0 (F20_calls r_5.2 r_12 hr_12) Try.call20 .z) (fun _ _=>rfl) (fun g_13=>?_)
         refine TA_tk 2 [] (dn 51 7) rfl rfl (V_bin rfl rfl (fun w=>eqlI w r_12 0)) ?_
         refine TA_tk 3 [] (dn 51 15) rfl rfl (V_move rfl) ?_
         refine TA_re (d:=95) (v:=vb (decide (r_12=0))) (v':=vb true) rfl (congrArg vb hg14_4) ?_
         refine TA_tw 4 [] (dn 51 31) rfl rfl (V_move rfl) ?_
         refine TA_all (rs:=[5]) (by kernel_rfl) rfl ?_
         refine ⟨?_,trivial⟩
         refine TO_eW (is:=[]) (done':=dn 51 63) rfl rfl rfl rfl rfl rfl rfl (by kernel_rfl) (E_c0 (F20_calls r_6.2 r_13 hr_13) Try.call20 .z) (fun _ _=>rfl) (fun g_14=>?_)
         refine TA_tw 6 [] (dn 51 127) rfl rfl (V_bin rfl rfl (fun w=>eqlI w r_13 0)) ?_
         refine TA_tk 7 [] (dn 51 255) rfl rfl (V_pick (b:=true) rfl rfl) ?_
         refine TA_tk 8 [] (dn 51 511) rfl rfl (V_move rfl) ?_
         refine TA_re (d:=100) (v:=vb (decide (r_13=0))) (v':=vb true) rfl (congrArg vb hg14_9) ?_
         refine TA_tw 9 [] (dn 51 1023) rfl rfl (V_move rfl) ?_
         refine TA_all (rs:=[10]) (by kernel_rfl) rfl ?_
         refine ⟨?_,trivial⟩
         refine TO_eW (is:=[]) (done':=dn 51 2047) rfl rfl rfl rfl rfl rfl rfl (by kernel_rfl) (E_c0 (F20_calls r_8.2 r_14 hr_14) Try.call20 .z) (fun _ _=>rfl) (fun g_15=>?_)
         refine TA_tw 11 [] (dn 51 4095) rfl rfl (V_bin rfl rfl (fun w=>eqlI w r_14 0)) ?_
         refine TA_tk 12 [] (dn 51 8191) rfl rfl (V_pick (b:=true) rfl rfl) ?_
         refine TA_tk 13 [] (dn 51 16383) rfl rfl (V_move rfl) ?_
         refine TA_re (d:=105) (v:=vb (decide (r_14=0))) (v':=vb true) rfl (congrArg vb hg14_14) ?_
         refine TA_tw 14 [] (dn 51 32767) rfl rfl (V_move rfl) ?_
         refine TA_tw 15 [] (dn 51 65535) rfl rfl (V_len_str rfl Try.underlying9) ?_
         refine TA_tw 16 [] (dn 51 131071) rfl rfl (V_bin rfl rfl (fun w=>eqlI w ((r_6.1).length:Int) 65)) ?_
         refine TA_tk 17 [] (dn 51 262143) rfl rfl (V_pick (b:=true) rfl rfl) ?_
         refine TA_tk 18 [] (dn 51 524287) rfl rfl (V_move rfl) ?_
         refine TA_re (d:=110) (v:=vb (decide (((r_6.1).length:Int)=65))) (v':=vb true) rfl (congrArg vb hg14_19) ?_
         refine TA_tw 19 [] (dn 51 1048575) rfl rfl (V_move rfl) ?_
         refine TA_tw 20 [] (dn 51 2097151) rfl rfl (V_len_str rfl Try.underlying9) ?_
         refine TA_tw 21 [] (dn 51 4194303) rfl rfl (V_bin rfl rfl (fun w=>eqlI w ((r_8.1).length:Int) 65)) ?_
         refine TA_tk 22 [] (dn 51 8388607) rfl rfl (V_pick (b:=true) rfl rfl) ?_
         refine TA_tk 23 [] (dn 51 16777215) rfl rfl (V_move rfl) ?_
         refine TA_re (d:=115) (v:=vb (decide (((r_8.1).length:Int)=65))) (v':=vb true) rfl (congrArg vb hg14_24) ?_
         refine TA_tw 24 [] (dn 51 33554431) rfl rfl (V_move rfl) ?_
         refine TA_tw 25 [] (dn 51 67108863) rfl rfl (V_sliceStr (l:=0) (h:=33) rfl Try.underlying9 Bnd.none' (Bnd.some' (i:=33) rfl (by decide)) (Nat.zero_le _) h8) ?_
         refine TA_tw 26 [] (dn 51 134217727) rfl rfl (V_move rfl) ?_
         refine TA_tw 27 [] (dn 51 268435455) rfl rfl (V_sliceStr (l:=0) (h:=33) rfl Try.underlying9 Bnd.none' (Bnd.some' (i:=33) rfl (by decide)) (Nat.zero_le _) h9) ?_
         refine TA_tw 28 [] (dn 51 536870911) rfl rfl (V_bin rfl rfl (fun w=>eqlS w (sub r_6.1 0 33) (sub r_8.1 0 33))) ?_
         refine TA_tk 29 [] (dn 51 1073741823) rfl rfl (V_pick (b:=true) rfl rfl) ?_
         refine TA_tk 30 [] (dn 51 2147483647) rfl rfl (V_move rfl) ?_
         refine TA_re (d:=122) (v:=vb (decide (sub r_6.1 0 33=sub r_8.1 0 33))) (v':=vb true) rfl (congrArg vb hg14_31) ?_
         refine TA_tw 31 [] (dn 51 4294967295) rfl rfl (V_move rfl) ?_
         refine TA_tw 32 [] (dn 51 8589934591) rfl rfl (V_move rfl) ?_
         refine TA_tw 33 [] (dn 51 17179869183) rfl rfl (V_bin rfl rfl (fun w=>neqS w r_6.1 r_8.1)) ?_
         refine TA_tk 34 [] (dn 51 34359738367) rfl rfl (V_pick (b:=true) rfl rfl) ?_
         refine TA_tk 35 [] (dn 51 68719476735) rfl rfl (V_move rfl) ?_
         refine TA_re (d:=127) (v:=vb (decide (r_6.1 ≠ r_8.1))) (v':=vb false) rfl (congrArg vb hg14_36) ?_
         refine TA_ts 36 [] (dn 51 137438953471) rfl rfl ?_
         refine TA_ts 37 [] (dn 51 274877906943) rfl rfl ?_
         refine TA_ts 38 [] (dn 51 549755813887) rfl rfl ?_
         refine TA_tk 39 [] (dn 51 1099511627775) rfl rfl (V_pick (b:=false) rfl rfl) ?_
         refine TA_tk 40 [] (dn 51 2199023255551) rfl rfl (V_move rfl) ?_
         refine TA_ts 41 [] (dn 51 4398046511103) rfl rfl ?_
         refine TA_ts 42 [] (dn 51 8796093022207) rfl rfl ?_
         refine TA_ts 43 [] (dn 51 17592186044415) rfl rfl ?_
         refine TA_tk 44 [] (dn 51 35184372088831) rfl rfl (V_pick (b:=false) rfl rfl) ?_
         refine TA_tk 45 [] (dn 51 70368744177663) rfl rfl (V_move rfl) ?_
         refine TA_ts 46 [] (dn 51 140737488355327) rfl rfl ?_
         refine TA_ts 47 [] (dn 51 281474976710655) rfl rfl ?_
         refine TA_ts 48 [] (dn 51 562949953421311) rfl rfl ?_
         refine TA_tk 49 [] (dn 51 1125899906842623) rfl rfl (V_pick (b:=false) rfl rfl) ?_
         refine TA_tk 50 [] (dn 51 2251799813685247) rfl rfl (V_assign rfl) ?_
         refine TA_done (by kernel_rfl) ?_ 0
         refine TX_next (TC.sub (m':=[(4,vb false)]) ⟨rfl,trivial⟩ ?_)
         refine TC.pull (is:=[]) (L':=[]) rfl ?_
         refine TC_ret ?_
         have hrv:=Option.some.inj H
         subst hrv
         exact TX_ret (rs:=[.tmp 4]) (vs:=[vb false]) rfl ⟨rfl,trivial⟩ (fun w' hs'=>⟨(),rfl,Step.left (Step.pulled (is:=[]) (A:=[]) hs' rfl)⟩)
       ·replace H:=ite_f (of_decide_eq_false hg14_31) H
        refine TA_begin [] 51 (by kernel_rfl) (N:=51) rfl ?_
        refine TA_tk 0 [] (dn 51 1) rfl rfl (V_move rfl) ?_
        refine TA_all (rs:=[1]) (by kernel_rfl) rfl ?_
        refine ⟨?_,trivial⟩
        refine TO_e (is:=[]) (done':=dn 51 3) rfl rfl rfl rfl (by kernel_rfl) (E_c0 (F20_calls r_5.2 r_12 hr_12) Try.call20 .z) (fun _ _=>rfl) (fun g_13=>?_)
        refine TA_tk 2 [] (dn 51 7) rfl rfl (V_bin rfl rfl (fun w=>eqlI w r_12 0)) ?_
        refine TA_tk 3 [] (dn 51 15) rfl rfl (V_move rfl) ?_
        refine TA_re (d:=95) (v:=vb (decide (r_12=0))) (v':=vb true) rfl (congrArg vb hg14_4) ?_
        refine TA_tw 4 [] (dn 51 31) rfl rfl (V_move rfl) ?_
        refine TA_all (rs:=[5]) (by kernel_rfl) rfl ?_
        refine ⟨?_,trivial⟩
        refine TO_eW (is:=[]) (done':=dn 51 63) rfl rfl rfl rfl rfl rfl rfl (by kernel_rfl) (E_c0 (F20_calls r_6.2 r_13 hr_13) Try.call20 .z) (fun _ _=>rfl) (fun g_14=>?_)
        refine TA_tw 6 [] (dn 51 127) rfl rfl (V_bin rfl rfl (fun w=>eqlI w r_13 0)) ?_
        refine TA_tk 7 [] (dn 51 255) rfl rfl (V_pick (b:=true) rfl rfl) ?_
        refine TA_tk 8 [] (dn 51 511) rfl rfl (V_move rfl) ?_
        refine TA_re (d:=100) (v:=vb (decide (r_13=0))) (v':=vb true) rfl (congrArg vb hg14_9) ?_
        refine TA_tw 9 [] (dn 51 1023) rfl rfl (V_move rfl) ?_
        refine TA_all (rs:=[10]) (by kernel_rfl) rfl ?_
        refine ⟨?_,trivial⟩
        refine TO_eW (is:=[]) (done':=dn 51 2047) rfl rfl rfl rfl rfl rfl rfl (by kernel_rfl) (E_c0 (F20_calls r_8.2 r_14 hr_14) Try.call20 .z) (fun _ _=>rfl) (fun g_15=>?_)
        refine TA_tw 11 [] (dn 51 4095) rfl rfl (V_bin rfl rfl (fun w=>eqlI w r_14 0)) ?_
        refine TA_tk 12 [] (dn 51 8191) rfl rfl (V_pick (b:=true) rfl rfl) ?_
        refine TA_tk 13 [] (dn 51 16383) rfl rfl (V_move rfl) ?_
        refine TA_re (d:=105) (v:=vb (decide (r_14=0))) (v':=vb true) rfl (congrArg vb hg14_14) ?_
        refine TA_tw 14 [] (dn 51 32767) rfl rfl (V_move rfl) ?_
        refine TA_tw 15 [] (dn 51 65535) rfl rfl (V_len_str rfl Try.underlying9) ?_
        refine TA_tw 16 [] (dn 51 131071) rfl rfl (V_bin rfl rfl (fun w=>eqlI w ((r_6.1).length:Int) 65)) ?_
        refine TA_tk 17 [] (dn 51 262143) rfl rfl (V_pick (b:=true) rfl rfl) ?_
        refine TA_tk 18 [] (dn 51 524287) rfl rfl (V_move rfl) ?_
        refine TA_re (d:=110) (v:=vb (decide (((r_6.1).length:Int)=65))) (v':=vb true) rfl (congrArg vb hg14_19) ?_
        refine TA_tw 19 [] (dn 51 1048575) rfl rfl (V_move rfl) ?_
        refine TA_tw 20 [] (dn 51 2097151) rfl rfl (V_len_str rfl Try.underlying9) ?_
        refine TA_tw 21 [] (dn 51 4194303) rfl rfl (V_bin rfl rfl (fun w=>eqlI w ((r_8.1).length:Int) 65)) ?_
        refine TA_tk 22 [] (dn 51 8388607) rfl rfl (V_pick (b:=true) rfl rfl) ?_
        refine TA_tk 23 [] (dn 51 16777215) rfl rfl (V_move rfl) ?_
        refine TA_re (d:=115) (v:=vb (decide (((r_8.1).length:Int)=65))) (v':=vb true) rfl (congrArg vb hg14_24) ?_
        refine TA_tw 24 [] (dn 51 33554431) rfl rfl (V_move rfl) ?_
        refine TA_tw 25 [] (dn 51 67108863) rfl rfl (V_sliceStr (l:=0) (h:=33) rfl Try.underlying9 Bnd.none' (Bnd.some' (i:=33) rfl (by decide)) (Nat.zero_le _) h8) ?_
        refine TA_tw 26 [] (dn 51 134217727) rfl rfl (V_move rfl) ?_
        refine TA_tw 27 [] (dn 51 268435455) rfl rfl (V_sliceStr (l:=0) (h:=33) rfl Try.underlying9 Bnd.none' (Bnd.some' (i:=33) rfl (by decide)) (Nat.zero_le _) h9) ?_
        refine TA_tw 28 [] (dn 51 536870911) rfl rfl (V_bin rfl rfl (fun w=>eqlS w (sub r_6.1 0 33) (sub r_8.1 0 33))) ?_
        refine TA_tk 29 [] (dn 51 1073741823) rfl rfl (V_pick (b:=true) rfl rfl) ?_
        refine TA_tk 30 [] (dn 51 2147483647) rfl rfl (V_move rfl) ?_
        refine TA_re (d:=122) (v:=vb (decide (sub r_6.1 0 33=sub r_8.1 0 33))) (v':=vb false) rfl (congrArg vb hg14_31) ?_
        refine TA_ts 31 [] (dn 51 4294967295) rfl rfl ?_
        refine TA_ts 32 [] (dn 51 8589934591) rfl rfl ?_
        refine TA_ts 33 [] (dn 51 17179869183) rfl rfl ?_
        refine TA_tk 34 [] (dn 51 34359738367) rfl rfl (V_pick (b:=false) rfl rfl) ?_
        refine TA_tk 35 [] (dn 51 68719476735) rfl rfl (V_move rfl) ?_
        refine TA_ts 36 [] (dn 51 137438953471) rfl rfl ?_
        refine TA_ts 37 [] (dn 51 274877906943) rfl rfl ?_
        refine TA_ts 38 [] (dn 51 549755813887) rfl rfl ?_
        refine TA_tk 39 [] (dn 51 1099511627775) rfl rfl (V_pick (b:=false) rfl rfl) ?_
        refine TA_tk 40 [] (dn 51 2199023255551) rfl rfl (V_move rfl) ?_
        refine TA_ts 41 [] (dn 51 4398046511103) rfl rfl ?_
        refine TA_ts 42 [] (dn 51 8796093022207) rfl rfl ?_
        refine TA_ts 43 [] (dn 51 17592186044415) rfl rfl ?_
        refine TA_tk 44 [] (dn 51 35184372088831) rfl rfl (V_pick (b:=false) rfl rfl) ?_
        refine TA_tk 45 [] (dn 51 70368744177663) rfl rfl (V_move rfl) ?_
        refine TA_ts 46 [] (dn 51 140737488355327) rfl rfl ?_
        refine TA_ts 47 [] (dn 51 281474976710655) rfl rfl ?_
        refine TA_ts 48 [] (dn 51 562949953421311) rfl rfl ?_
        refine TA_tk 49 [] (dn 51 1125899906842623) rfl rfl (V_pick (b:=false) rfl rfl) ?_
        refine TA_tk 50 [] (dn 51 2251799813685247) rfl rfl (V_assign rfl) ?_
        refine TA_done (by kernel_rfl) ?_ 0
        refine TX_next (TC.sub (m':=[(4,vb false)]) ⟨rfl,trivial⟩ ?_)
        refine TC.pull (is:=[]) (L':=[]) rfl ?_
        refine TC_ret ?_
        have hrv:=Option.some.inj H
        subst hrv
        exact TX_ret (rs:=[.tmp 4]) (vs:=[vb false]) rfl ⟨rfl,trivial⟩ (fun w' hs'=>⟨(),rfl,Step.left (Step.pulled (is:=[]) (A:=[]) hs' rfl)⟩)
      ·replace H:=ite_f (of_decide_eq_false hg14_24) H
       refine TA_begin [] 51 (by kernel_rfl) (N:=51) rfl ?_
       refine TA_tk 0 [] (dn 51 1) rfl rfl (V_move rfl) ?_
       refine TA_all (rs:=[1]) (by kernel_rfl) rfl ?_
       refine ⟨?_,trivial⟩
       refine TO_e (is:=[]) (done':=dn 51 3) rfl rfl rfl rfl (by kernel_rfl) (E_c0 (F20_calls r_5.2 r_12 hr_12) Try.call20 .z) (fun _ _=>rfl) (fun g_13=>?_)
       refine TA_tk 2 [] (dn 51 7) rfl rfl (V_bin rfl rfl (fun w=>eqlI w r_12 0)) ?_
       refine TA_tk 3 [] (dn 51 15) rfl rfl (V_move rfl) ?_
       refine TA_re (d:=95) (v:=vb (decide (r_12=0))) (v':=vb true) rfl (congrArg vb hg14_4) ?_
       refine TA_tw 4 [] (dn 51 31) rfl rfl (V_move rfl) ?_
       refine TA_all (rs:=[5]) (by kernel_rfl) rfl ?_
       refine ⟨?_,trivial⟩
       refine TO_eW (is:=[]) (done':=dn 51 63) rfl rfl rfl rfl rfl rfl rfl (by kernel_rfl) (E_c0 (F20_calls r_6.2 r_13 hr_13) Try.call20 .z) (fun _ _=>rfl) (fun g_14=>?_)
       refine TA_tw 6 [] (dn 51 127) rfl rfl (V_bin rfl rfl (fun w=>eqlI w r_13 0)) ?_
       refine TA_tk 7 [] (dn 51 255) rfl rfl (V_pick (b:=true) rfl rfl) ?_
       refine TA_tk 8 [] (dn 51 511) rfl rfl (V_move rfl) ?_
       refine TA_re (d:=100) (v:=vb (decide (r_13=0))) (v':=vb true) rfl (congrArg vb hg14_9) ?_
       refine TA_tw 9 [] (dn 51 1023) rfl rfl (V_move rfl) ?_
       refine TA_all (rs:=[10]) (by kernel_rfl) rfl ?_
       refine ⟨?_,trivial⟩
       refine TO_eW (is:=[]) (done':=dn 51 2047) rfl rfl rfl rfl rfl rfl rfl (by kernel_rfl) (E_c0 (F20_calls r_8.2 r_14 hr_14) Try.call20 .z) (fun _ _=>rfl) (fun g_15=>?_)
       refine TA_tw 11 [] (dn 51 4095) rfl rfl (V_bin rfl rfl (fun w=>eqlI w r_14 0)) ?_
       refine TA_tk 12 [] (dn 51 8191) rfl rfl (V_pick (b:=true) rfl rfl) ?_
       refine TA_tk 13 [] (dn 51 16383) rfl rfl (V_move rfl) ?_
       refine TA_re (d:=105) (v:=vb (decide (r_14=0))) (v':=vb true) rfl (congrArg vb hg14_14) ?_
       refine TA_tw 14 [] (dn 51 32767) rfl rfl (V_move rfl) ?_
       refine TA_tw 15 [] (dn 51 65535) rfl rfl (V_len_str rfl Try.underlying9) ?_
       refine TA_tw 16 [] (dn 51 131071) rfl rfl (V_bin rfl rfl (fun w=>eqlI w ((r_6.1).length:Int) 65)) ?_
       refine TA_tk 17 [] (dn 51 262143) rfl rfl (V_pick (b:=true) rfl rfl) ?_
       refine TA_tk 18 [] (dn 51 524287) rfl rfl (V_move rfl) ?_
       refine TA_re (d:=110) (v:=vb (decide (((r_6.1).length:Int)=65))) (v':=vb true) rfl (congrArg vb hg14_19) ?_
       refine TA_tw 19 [] (dn 51 1048575) rfl rfl (V_move rfl) ?_
       refine TA_tw 20 [] (dn 51 2097151) rfl rfl (V_len_str rfl Try.underlying9) ?_
       refine TA_tw 21 [] (dn 51 4194303) rfl rfl (V_bin rfl rfl (fun w=>eqlI w ((r_8.1).length:Int) 65)) ?_
       refine TA_tk 22 [] (dn 51 8388607) rfl rfl (V_pick (b:=true) rfl rfl) ?_
       refine TA_tk 23 [] (dn 51 16777215) rfl rfl (V_move rfl) ?_
       refine TA_re (d:=115) (v:=vb (decide (((r_8.1).length:Int)=65))) (v':=vb false) rfl (congrArg vb hg14_24) ?_
       refine TA_ts 24 [] (dn 51 33554431) rfl rfl ?_
       refine TA_ts 25 [] (dn 51 67108863) rfl rfl ?_
       refine TA_ts 26 [] (dn 51 134217727) rfl rfl ?_
       refine TA_ts 27 [] (dn 51 268435455) rfl rfl ?_
       refine TA_ts 28 [] (dn 51 536870911) rfl rfl ?_
       refine TA_tk 29 [] (dn 51 1073741823) rfl rfl (V_pick (b:=false) rfl rfl) ?_
       refine TA_tk 30 [] (dn 51 2147483647) rfl rfl (V_move rfl) ?_
       refine TA_ts 31 [] (dn 51 4294967295) rfl rfl ?_
       refine TA_ts 32 [] (dn 51 8589934591) rfl rfl ?_
       refine TA_ts 33 [] (dn 51 17179869183) rfl rfl ?_
       refine TA_tk 34 [] (dn 51 34359738367) rfl rfl (V_pick (b:=false) rfl rfl) ?_
       refine TA_tk 35 [] (dn 51 68719476735) rfl rfl (V_move rfl) ?_
       refine TA_ts 36 [] (dn 51 137438953471) rfl rfl ?_
       refine TA_ts 37 [] (dn 51 274877906943) rfl rfl ?_
       refine TA_ts 38 [] (dn 51 549755813887) rfl rfl ?_
       refine TA_tk 39 [] (dn 51 1099511627775) rfl rfl (V_pick (b:=false) rfl rfl) ?_
       refine TA_tk 40 [] (dn 51 2199023255551) rfl rfl (V_move rfl) ?_
       refine TA_ts 41 [] (dn 51 4398046511103) rfl rfl ?_
       refine TA_ts 42 [] (dn 51 8796093022207) rfl rfl ?_
       refine TA_ts 43 [] (dn 51 17592186044415) rfl rfl ?_
       refine TA_tk 44 [] (dn 51 35184372088831) rfl rfl (V_pick (b:=false) rfl rfl) ?_
       refine TA_tk 45 [] (dn 51 70368744177663) rfl rfl (V_move rfl) ?_
       refine TA_ts 46 [] (dn 51 140737488355327) rfl rfl ?_
       refine TA_ts 47 [] (dn 51 281474976710655) rfl rfl ?_
       refine TA_ts 48 [] (dn 51 562949953421311) rfl rfl ?_
       refine TA_tk 49 [] (dn 51 1125899906842623) rfl rfl (V_pick (b:=false) rfl rfl) ?_
       refine TA_tk 50 [] (dn 51 2251799813685247) rfl rfl (V_assign rfl) ?_
       refine TA_done (by kernel_rfl) ?_ 0
       refine TX_next (TC.sub (m':=[(4,vb false)]) ⟨rfl,trivial⟩ ?_)
       refine TC.pull (is:=[]) (L':=[]) rfl ?_
       refine TC_ret ?_
       have hrv:=Option.some.inj H
       subst hrv
       exact TX_ret (rs:=[.tmp 4]) (vs:=[vb false]) rfl ⟨rfl,trivial⟩ (fun w' hs'=>⟨(),rfl,Step.left (Step.pulled (is:=[]) (A:=[]) hs' rfl)⟩)
     ·replace H:=ite_f (of_decide_eq_false hg14_19) H
      refine TA_begin [] 51 (by kernel_rfl) (N:=51) rfl ?_
      refine TA_tk 0 [] (dn 51 1) rfl rfl (V_move rfl) ?_
      refine TA_all (rs:=[1]) (by kernel_rfl) rfl ?_
      refine ⟨?_,trivial⟩
      refine TO_e (is:=[]) (done':=dn 51 3) rfl rfl rfl rfl (by kernel_rfl) (E_c0 (F20_calls r_5.2 r_12 hr_12) Try.call20 .z) (fun _ _=>rfl) (fun g_13=>?_)
      refine TA_tk 2 [] (dn 51 7) rfl rfl (V_bin rfl rfl (fun w=>eqlI w r_12 0)) ?_
      refine TA_tk 3 [] (dn 51 15) rfl rfl (V_move rfl) ?_
      refine TA_re (d:=95) (v:=vb (decide (r_12=0))) (v':=vb true) rfl (congrArg vb hg14_4) ?_
      refine TA_tw 4 [] (dn 51 31) rfl rfl (V_move rfl) ?_
      refine TA_all (rs:=[5]) (by kernel_rfl) rfl ?_
      refine ⟨?_,trivial⟩
      refine TO_eW (is:=[]) (done':=dn 51 63) rfl rfl rfl rfl rfl rfl rfl (by kernel_rfl) (E_c0 (F20_calls r_6.2 r_13 hr_13) Try.call20 .z) (fun _ _=>rfl) (fun g_14=>?_)
      refine TA_tw 6 [] (dn 51 127) rfl rfl (V_bin rfl rfl (fun w=>eqlI w r_13 0)) ?_
      refine TA_tk 7 [] (dn 51 255) rfl rfl (V_pick (b:=true) rfl rfl) ?_
      refine TA_tk 8 [] (dn 51 511) rfl rfl (V_move rfl) ?_
      refine TA_re (d:=100) (v:=vb (decide (r_13=0))) (v':=vb true) rfl (congrArg vb hg14_9) ?_
      refine TA_tw 9 [] (dn 51 1023) rfl rfl (V_move rfl) ?_
      refine TA_all (rs:=[10]) (by kernel_rfl) rfl ?_
      refine ⟨?_,trivial⟩
      refine TO_eW (is:=[]) (done':=dn 51 2047) rfl rfl rfl rfl rfl rfl rfl (by kernel_rfl) (E_c0 (F20_calls r_8.2 r_14 hr_14) Try.call20 .z) (fun _ _=>rfl) (fun g_15=>?_)
      refine TA_tw 11 [] (dn 51 4095) rfl rfl (V_bin rfl rfl (fun w=>eqlI w r_14 0)) ?_
      refine TA_tk 12 [] (dn 51 8191) rfl rfl (V_pick (b:=true) rfl rfl) ?_
      refine TA_tk 13 [] (dn 51 16383) rfl rfl (V_move rfl) ?_
      refine TA_re (d:=105) (v:=vb (decide (r_14=0))) (v':=vb true) rfl (congrArg vb hg14_14) ?_
      refine TA_tw 14 [] (dn 51 32767) rfl rfl (V_move rfl) ?_
      refine TA_tw 15 [] (dn 51 65535) rfl rfl (V_len_str rfl Try.underlying9) ?_
      refine TA_tw 16 [] (dn 51 131071) rfl rfl (V_bin rfl rfl (fun w=>eqlI w ((r_6.1).length:Int) 65)) ?_
      refine TA_tk 17 [] (dn 51 262143) rfl rfl (V_pick (b:=true) rfl rfl) ?_
      refine TA_tk 18 [] (dn 51 524287) rfl rfl (V_move rfl) ?_
      refine TA_re (d:=110) (v:=vb (decide (((r_6.1).length:Int)=65))) (v':=vb false) rfl (congrArg vb hg14_19) ?_
      refine TA_ts 19 [] (dn 51 1048575) rfl rfl ?_
      refine TA_ts 20 [] (dn 51 2097151) rfl rfl ?_
      refine TA_ts 21 [] (dn 51 4194303) rfl rfl ?_
      refine TA_tk 22 [] (dn 51 8388607) rfl rfl (V_pick (b:=false) rfl rfl) ?_
      refine TA_tk 23 [] (dn 51 16777215) rfl rfl (V_move rfl) ?_
      refine TA_ts 24 [] (dn 51 33554431) rfl rfl ?_
      refine TA_ts 25 [] (dn 51 67108863) rfl rfl ?_
      refine TA_ts 26 [] (dn 51 134217727) rfl rfl ?_
      refine TA_ts 27 [] (dn 51 268435455) rfl rfl ?_
      refine TA_ts 28 [] (dn 51 536870911) rfl rfl ?_
      refine TA_tk 29 [] (dn 51 1073741823) rfl rfl (V_pick (b:=false) rfl rfl) ?_
      refine TA_tk 30 [] (dn 51 2147483647) rfl rfl (V_move rfl) ?_
      refine TA_ts 31 [] (dn 51 4294967295) rfl rfl ?_
      refine TA_ts 32 [] (dn 51 8589934591) rfl rfl ?_
      refine TA_ts 33 [] (dn 51 17179869183) rfl rfl ?_
      refine TA_tk 34 [] (dn 51 34359738367) rfl rfl (V_pick (b:=false) rfl rfl) ?_
      refine TA_tk 35 [] (dn 51 68719476735) rfl rfl (V_move rfl) ?_
      refine TA_ts 36 [] (dn 51 137438953471) rfl rfl ?_
      refine TA_ts 37 [] (dn 51 274877906943) rfl rfl ?_
      refine TA_ts 38 [] (dn 51 549755813887) rfl rfl ?_
      refine TA_tk 39 [] (dn 51 1099511627775) rfl rfl (V_pick (b:=false) rfl rfl) ?_
      refine TA_tk 40 [] (dn 51 2199023255551) rfl rfl (V_move rfl) ?_
      refine TA_ts 41 [] (dn 51 4398046511103) rfl rfl ?_
      refine TA_ts 42 [] (dn 51 8796093022207) rfl rfl ?_
      refine TA_ts 43 [] (dn 51 17592186044415) rfl rfl ?_
      refine TA_tk 44 [] (dn 51 35184372088831) rfl rfl (V_pick (b:=false) rfl rfl) ?_
      refine TA_tk 45 [] (dn 51 70368744177663) rfl rfl (V_move rfl) ?_
      refine TA_ts 46 [] (dn 51 140737488355327) rfl rfl ?_
      refine TA_ts 47 [] (dn 51 281474976710655) rfl rfl ?_
      refine TA_ts 48 [] (dn 51 562949953421311) rfl rfl ?_
      refine TA_tk 49 [] (dn 51 1125899906842623) rfl rfl (V_pick (b:=false) rfl rfl) ?_
      refine TA_tk 50 [] (dn 51 2251799813685247) rfl rfl (V_assign rfl) ?_
      refine TA_done (by kernel_rfl) ?_ 0
      refine TX_next (TC.sub (m':=[(4,vb false)]) ⟨rfl,trivial⟩ ?_)
      refine TC.pull (is:=[]) (L':=[]) rfl ?_
      refine TC_ret ?_
      have hrv:=Option.some.inj H
      subst hrv
      exact TX_ret (rs:=[.tmp 4]) (vs:=[vb false]) rfl ⟨rfl,trivial⟩ (fun w' hs'=>⟨(),rfl,Step.left (Step.pulled (is:=[]) (A:=[]) hs' rfl)⟩)
    ·replace H:=ite_f (of_decide_eq_false hg14_14) H
     refine TA_begin [] 51 (by kernel_rfl) (N:=51) rfl ?_
     refine TA_tk 0 [] (dn 51 1) rfl rfl (V_move rfl) ?_
     refine TA_all (rs:=[1]) (by kernel_rfl) rfl ?_
     refine ⟨?_,trivial⟩
     refine TO_e (is:=[]) (done':=dn 51 3) rfl rfl rfl rfl (by kernel_rfl) (E_c0 (F20_calls r_5.2 r_12 hr_12) Try.call20 .z) (fun _ _=>rfl) (fun g_13=>?_)
     refine TA_tk 2 [] (dn 51 7) rfl rfl (V_bin rfl rfl (fun w=>eqlI w r_12 0)) ?_
     refine TA_tk 3 [] (dn 51 15) rfl rfl (V_move rfl) ?_
     refine TA_re (d:=95) (v:=vb (decide (r_12=0))) (v':=vb true) rfl (congrArg vb hg14_4) ?_
     refine TA_tw 4 [] (dn 51 31) rfl rfl (V_move rfl) ?_
     refine TA_all (rs:=[5]) (by kernel_rfl) rfl ?_
     refine ⟨?_,trivial⟩
     refine TO_eW (is:=[]) (done':=dn 51 63) rfl rfl rfl rfl rfl rfl rfl (by kernel_rfl) (E_c0 (F20_calls r_6.2 r_13 hr_13) Try.call20 .z) (fun _ _=>rfl) (fun g_14=>?_)
     refine TA_tw 6 [] (dn 51 127) rfl rfl (V_bin rfl rfl (fun w=>eqlI w r_13 0)) ?_
     refine TA_tk 7 [] (dn 51 255) rfl rfl (V_pick (b:=true) rfl rfl) ?_
     refine TA_tk 8 [] (dn 51 511) rfl rfl (V_move rfl) ?_
     refine TA_re (d:=100) (v:=vb (decide (r_13=0))) (v':=vb true) rfl (congrArg vb hg14_9) ?_
     refine TA_tw 9 [] (dn 51 1023) rfl rfl (V_move rfl) ?_
     refine TA_all (rs:=[10]) (by kernel_rfl) rfl ?_
     refine ⟨?_,trivial⟩
     refine TO_eW (is:=[]) (done':=dn 51 2047) rfl rfl rfl rfl rfl rfl rfl (by kernel_rfl) (E_c0 (F20_calls r_8.2 r_14 hr_14) Try.call20 .z) (fun _ _=>rfl) (fun g_15=>?_)
     refine TA_tw 11 [] (dn 51 4095) rfl rfl (V_bin rfl rfl (fun w=>eqlI w r_14 0)) ?_
     refine TA_tk 12 [] (dn 51 8191) rfl rfl (V_pick (b:=true) rfl rfl) ?_
     refine TA_tk 13 [] (dn 51 16383) rfl rfl (V_move rfl) ?_
     refine TA_re (d:=105) (v:=vb (decide (r_14=0))) (v':=vb false) rfl (congrArg vb hg14_14) ?_
     refine TA_ts 14 [] (dn 51 32767) rfl rfl ?_
     refine TA_ts 15 [] (dn 51 65535) rfl rfl ?_
     refine TA_ts 16 [] (dn 51 131071) rfl rfl ?_
     refine TA_tk 17 [] (dn 51 262143) rfl rfl (V_pick (b:=false) rfl rfl) ?_
     refine TA_tk 18 [] (dn 51 524287) rfl rfl (V_move rfl) ?_
     refine TA_ts 19 [] (dn 51 1048575) rfl rfl ?_
     refine TA_ts 20 [] (dn 51 2097151) rfl rfl ?_
     refine TA_ts 21 [] (dn 51 4194303) rfl rfl ?_
     refine TA_tk 22 [] (dn 51 8388607) rfl rfl (V_pick (b:=false) rfl rfl) ?_
     refine TA_tk 23 [] (dn 51 16777215) rfl rfl (V_move rfl) ?_
     refine TA_ts 24 [] (dn 51 33554431) rfl rfl ?_
     refine TA_ts 25 [] (dn 51 67108863) rfl rfl ?_
     refine TA_ts 26 [] (dn 51 134217727) rfl rfl ?_
     refine TA_ts 27 [] (dn 51 268435455) rfl rfl ?_
     refine TA_ts 28 [] (dn 51 536870911) rfl rfl ?_
     refine TA_tk 29 [] (dn 51 1073741823) rfl rfl (V_pick (b:=false) rfl rfl) ?_
     refine TA_tk 30 [] (dn 51 2147483647) rfl rfl (V_move rfl) ?_
     refine TA_ts 31 [] (dn 51 4294967295) rfl rfl ?_
     refine TA_ts 32 [] (dn 51 8589934591) rfl rfl ?_
     refine TA_ts 33 [] (dn 51 17179869183) rfl rfl ?_
     refine TA_tk 34 [] (dn 51 34359738367) rfl rfl (V_pick (b:=false) rfl rfl) ?_
     refine TA_tk 35 [] (dn 51 68719476735) rfl rfl (V_move rfl) ?_
     refine TA_ts 36 [] (dn 51 137438953471) rfl rfl ?_
     refine TA_ts 37 [] (dn 51 274877906943) rfl rfl ?_
     refine TA_ts 38 [] (dn 51 549755813887) rfl rfl ?_
     refine TA_tk 39 [] (dn 51 1099511627775) rfl rfl (V_pick (b:=false) rfl rfl) ?_
     refine TA_tk 40 [] (dn 51 2199023255551) rfl rfl (V_move rfl) ?_
     refine TA_ts 41 [] (dn 51 4398046511103) rfl rfl ?_
     refine TA_ts 42 [] (dn 51 8796093022207) rfl rfl ?_
     refine TA_ts 43 [] (dn 51 17592186044415) rfl rfl ?_
     refine TA_tk 44 [] (dn 51 35184372088831) rfl rfl (V_pick (b:=false) rfl rfl) ?_
     refine TA_tk 45 [] (dn 51 70368744177663) rfl rfl (V_move rfl) ?_
     refine TA_ts 46 [] (dn 51 140737488355327) rfl rfl ?_
     refine TA_ts 47 [] (dn 51 281474976710655) rfl rfl ?_
     refine TA_ts 48 [] (dn 51 562949953421311) rfl rfl ?_
     refine TA_tk 49 [] (dn 51 1125899906842623) rfl rfl (V_pick (b:=false) rfl rfl) ?_
     refine TA_tk 50 [] (dn 51 2251799813685247) rfl rfl (V_assign rfl) ?_
     refine TA_done (by kernel_rfl) ?_ 0
     refine TX_next (TC.sub (m':=[(4,vb false)]) ⟨rfl,trivial⟩ ?_)
     refine TC.pull (is:=[]) (L':=[]) rfl ?_
     refine TC_ret ?_
     have hrv:=Option.some.inj H
     subst hrv
     exact TX_ret (rs:=[.tmp 4]) (vs:=[vb false]) rfl ⟨rfl,trivial⟩ (fun w' hs'=>⟨(),rfl,Step.left (Step.pulled (is:=[]) (A:=[]) hs' rfl)⟩)
   ·replace H:=ite_f (of_decide_eq_false hg14_9) H
    refine TA_begin [] 51 (by kernel_rfl) (N:=51) rfl ?_
    refine TA_tk 0 [] (dn 51 1) rfl rfl (V_move rfl) ?_
    refine TA_all (rs:=[1]) (by kernel_rfl) rfl ?_
    refine ⟨?_,trivial⟩
    refine TO_e (is:=[]) (done':=dn 51 3) rfl rfl rfl rfl (by kernel_rfl) (E_c0 (F20_calls r_5.2 r_12 hr_12) Try.call20 .z) (fun _ _=>rfl) (fun g_13=>?_)
    refine TA_tk 2 [] (dn 51 7) rfl rfl (V_bin rfl rfl (fun w=>eqlI w r_12 0)) ?_
    refine TA_tk 3 [] (dn 51 15) rfl rfl (V_move rfl) ?_
    refine TA_re (d:=95) (v:=vb (decide (r_12=0))) (v':=vb true) rfl (congrArg vb hg14_4) ?_
    refine TA_tw 4 [] (dn 51 31) rfl rfl (V_move rfl) ?_
    refine TA_all (rs:=[5]) (by kernel_rfl) rfl ?_
    refine ⟨?_,trivial⟩
    refine TO_eW (is:=[]) (done':=dn 51 63) rfl rfl rfl rfl rfl rfl rfl (by kernel_rfl) (E_c0 (F20_calls r_6.2 r_13 hr_13) Try.call20 .z) (fun _ _=>rfl) (fun g_14=>?_)
    refine TA_tw 6 [] (dn 51 127) rfl rfl (V_bin rfl rfl (fun w=>eqlI w r_13 0)) ?_
    refine TA_tk 7 [] (dn 51 255) rfl rfl (V_pick (b:=true) rfl rfl) ?_
    refine TA_tk 8 [] (dn 51 511) rfl rfl (V_move rfl) ?_
    refine TA_re (d:=100) (v:=vb (decide (r_13=0))) (v':=vb false) rfl (congrArg vb hg14_9) ?_
    refine TA_ts 9 [] (dn 51 1023) rfl rfl ?_
    refine TA_ts 10 [] (dn 51 2047) rfl rfl ?_
    refine TA_ts 11 [] (dn 51 4095) rfl rfl ?_
    refine TA_tk 12 [] (dn 51 8191) rfl rfl (V_pick (b:=false) rfl rfl) ?_
    refine TA_tk 13 [] (dn 51 16383) rfl rfl (V_move rfl) ?_
    refine TA_ts 14 [] (dn 51 32767) rfl rfl ?_
    refine TA_ts 15 [] (dn 51 65535) rfl rfl ?_
    refine TA_ts 16 [] (dn 51 131071) rfl rfl ?_
    refine TA_tk 17 [] (dn 51 262143) rfl rfl (V_pick (b:=false) rfl rfl) ?_
    refine TA_tk 18 [] (dn 51 524287) rfl rfl (V_move rfl) ?_
    refine TA_ts 19 [] (dn 51 1048575) rfl rfl ?_
    refine TA_ts 20 [] (dn 51 2097151) rfl rfl ?_
    refine TA_ts 21 [] (dn 51 4194303) rfl rfl ?_
    refine TA_tk 22 [] (dn 51 8388607) rfl rfl (V_pick (b:=false) rfl rfl) ?_
    refine TA_tk 23 [] (dn 51 16777215) rfl rfl (V_move rfl) ?_
    refine TA_ts 24 [] (dn 51 33554431) rfl rfl ?_
    refine TA_ts 25 [] (dn 51 67108863) rfl rfl ?_
    refine TA_ts 26 [] (dn 51 134217727) rfl rfl ?_
    refine TA_ts 27 [] (dn 51 268435455) rfl rfl ?_
    refine TA_ts 28 [] (dn 51 536870911) rfl rfl ?_
    refine TA_tk 29 [] (dn 51 1073741823) rfl rfl (V_pick (b:=false) rfl rfl) ?_
    refine TA_tk 30 [] (dn 51 2147483647) rfl rfl (V_move rfl) ?_
    refine TA_ts 31 [] (dn 51 4294967295) rfl rfl ?_
    refine TA_ts 32 [] (dn 51 8589934591) rfl rfl ?_
    refine TA_ts 33 [] (dn 51 17179869183) rfl rfl ?_
    refine TA_tk 34 [] (dn 51 34359738367) rfl rfl (V_pick (b:=false) rfl rfl) ?_
    refine TA_tk 35 [] (dn 51 68719476735) rfl rfl (V_move rfl) ?_
    refine TA_ts 36 [] (dn 51 137438953471) rfl rfl ?_
    refine TA_ts 37 [] (dn 51 274877906943) rfl rfl ?_
    refine TA_ts 38 [] (dn 51 549755813887) rfl rfl ?_
    refine TA_tk 39 [] (dn 51 1099511627775) rfl rfl (V_pick (b:=false) rfl rfl) ?_
    refine TA_tk 40 [] (dn 51 2199023255551) rfl rfl (V_move rfl) ?_
    refine TA_ts 41 [] (dn 51 4398046511103) rfl rfl ?_
    refine TA_ts 42 [] (dn 51 8796093022207) rfl rfl ?_
    refine TA_ts 43 [] (dn 51 17592186044415) rfl rfl ?_
    refine TA_tk 44 [] (dn 51 35184372088831) rfl rfl (V_pick (b:=false) rfl rfl) ?_
    refine TA_tk 45 [] (dn 51 70368744177663) rfl rfl (V_move rfl) ?_
    refine TA_ts 46 [] (dn 51 140737488355327) rfl rfl ?_
    refine TA_ts 47 [] (dn 51 281474976710655) rfl rfl ?_
    refine TA_ts 48 [] (dn 51 562949953421311) rfl rfl ?_
    refine TA_tk 49 [] (dn 51 1125899906842623) rfl rfl (V_pick (b:=false) rfl rfl) ?_
    refine TA_tk 50 [] (dn 51 2251799813685247) rfl rfl (V_assign rfl) ?_
    refine TA_done (by kernel_rfl) ?_ 0
    refine TX_next (TC.sub (m':=[(4,vb false)]) ⟨rfl,trivial⟩ ?_)
    refine TC.pull (is:=[]) (L':=[]) rfl ?_
    refine TC_ret ?_
    have hrv:=Option.some.inj H
    subst hrv
    exact TX_ret (rs:=[.tmp 4]) (vs:=[vb false]) rfl ⟨rfl,trivial⟩ (fun w' hs'=>⟨(),rfl,Step.left (Step.pulled (is:=[]) (A:=[]) hs' rfl)⟩)
  ·replace H:=ite_f (of_decide_eq_false hg14_4) H
   refine TA_begin [] 51 (by kernel_rfl) (N:=51) rfl ?_
   refine TA_tk 0 [] (dn 51 1) rfl rfl (V_move rfl) ?_
   refine TA_all (rs:=[1]) (by kernel_rfl) rfl ?_
   refine ⟨?_,trivial⟩
   refine TO_e (is:=[]) (done':=dn 51 3) rfl rfl rfl rfl (by kernel_rfl) (E_c0 (F20_calls r_5.2 r_12 hr_12) Try.call20 .z) (fun _ _=>rfl) (fun g_13=>?_)
   refine TA_tk 2 [] (dn 51 7) rfl rfl (V_bin rfl rfl (fun w=>eqlI w r_12 0)) ?_
   refine TA_tk 3 [] (dn 51 15) rfl rfl (V_move rfl) ?_
   refine TA_re (d:=95) (v:=vb (decide (r_12=0))) (v':=vb false) rfl (congrArg vb hg14_4) ?_
   refine TA_ts 4 [] (dn 51 31) rfl rfl ?_
   refine TA_ts 5 [] (dn 51 63) rfl rfl ?_
   refine TA_ts 6 [] (dn 51 127) rfl rfl ?_
   refine TA_tk 7 [] (dn 51 255) rfl rfl (V_pick (b:=false) rfl rfl) ?_
   refine TA_tk 8 [] (dn 51 511) rfl rfl (V_move rfl) ?_
   refine TA_ts 9 [] (dn 51 1023) rfl rfl ?_
   refine TA_ts 10 [] (dn 51 2047) rfl rfl ?_
   refine TA_ts 11 [] (dn 51 4095) rfl rfl ?_
   refine TA_tk 12 [] (dn 51 8191) rfl rfl (V_pick (b:=false) rfl rfl) ?_
   refine TA_tk 13 [] (dn 51 16383) rfl rfl (V_move rfl) ?_
   refine TA_ts 14 [] (dn 51 32767) rfl rfl ?_
   refine TA_ts 15 [] (dn 51 65535) rfl rfl ?_
   refine TA_ts 16 [] (dn 51 131071) rfl rfl ?_
   refine TA_tk 17 [] (dn 51 262143) rfl rfl (V_pick (b:=false) rfl rfl) ?_
   refine TA_tk 18 [] (dn 51 524287) rfl rfl (V_move rfl) ?_
   refine TA_ts 19 [] (dn 51 1048575) rfl rfl ?_
   refine TA_ts 20 [] (dn 51 2097151) rfl rfl ?_
   refine TA_ts 21 [] (dn 51 4194303) rfl rfl ?_
   refine TA_tk 22 [] (dn 51 8388607) rfl rfl (V_pick (b:=false) rfl rfl) ?_
   refine TA_tk 23 [] (dn 51 16777215) rfl rfl (V_move rfl) ?_
   refine TA_ts 24 [] (dn 51 33554431) rfl rfl ?_
   refine TA_ts 25 [] (dn 51 67108863) rfl rfl ?_
   refine TA_ts 26 [] (dn 51 134217727) rfl rfl ?_
   refine TA_ts 27 [] (dn 51 268435455) rfl rfl ?_
   refine TA_ts 28 [] (dn 51 536870911) rfl rfl ?_
   refine TA_tk 29 [] (dn 51 1073741823) rfl rfl (V_pick (b:=false) rfl rfl) ?_
   refine TA_tk 30 [] (dn 51 2147483647) rfl rfl (V_move rfl) ?_
   refine TA_ts 31 [] (dn 51 4294967295) rfl rfl ?_
   refine TA_ts 32 [] (dn 51 8589934591) rfl rfl ?_
   refine TA_ts 33 [] (dn 51 17179869183) rfl rfl ?_
   refine TA_tk 34 [] (dn 51 34359738367) rfl rfl (V_pick (b:=false) rfl rfl) ?_
   refine TA_tk 35 [] (dn 51 68719476735) rfl rfl (V_move rfl) ?_
   refine TA_ts 36 [] (dn 51 137438953471) rfl rfl ?_
   refine TA_ts 37 [] (dn 51 274877906943) rfl rfl ?_
   refine TA_ts 38 [] (dn 51 549755813887) rfl rfl ?_
   refine TA_tk 39 [] (dn 51 1099511627775) rfl rfl (V_pick (b:=false) rfl rfl) ?_
   refine TA_tk 40 [] (dn 51 2199023255551) rfl rfl (V_move rfl) ?_
   refine TA_ts 41 [] (dn 51 4398046511103) rfl rfl ?_
   refine TA_ts 42 [] (dn 51 8796093022207) rfl rfl ?_
   refine TA_ts 43 [] (dn 51 17592186044415) rfl rfl ?_
   refine TA_tk 44 [] (dn 51 35184372088831) rfl rfl (V_pick (b:=false) rfl rfl) ?_
   refine TA_tk 45 [] (dn 51 70368744177663) rfl rfl (V_move rfl) ?_
   refine TA_ts 46 [] (dn 51 140737488355327) rfl rfl ?_
   refine TA_ts 47 [] (dn 51 281474976710655) rfl rfl ?_
   refine TA_ts 48 [] (dn 51 562949953421311) rfl rfl ?_
   refine TA_tk 49 [] (dn 51 1125899906842623) rfl rfl (V_pick (b:=false) rfl rfl) ?_
   refine TA_tk 50 [] (dn 51 2251799813685247) rfl rfl (V_assign rfl) ?_
   refine TA_done (by kernel_rfl) ?_ 0
   refine TX_next (TC.sub (m':=[(4,vb false)]) ⟨rfl,trivial⟩ ?_)
   refine TC.pull (is:=[]) (L':=[]) rfl ?_
   refine TC_ret ?_
   have hrv:=Option.some.inj H
   subst hrv
   exact TX_ret (rs:=[.tmp 4]) (vs:=[vb false]) rfl ⟨rfl,trivial⟩ (fun w' hs'=>⟨(),rfl,Step.left (Step.pulled (is:=[]) (A:=[]) hs' rfl)⟩)
end Go.Proofs
end

section
namespace Go.Kx
open Go Go.Proofs
open Go.Nt hiding n4
theorem encQ_head5 (q:Fp × Fp):sub (encQ q) 0 33=[4#8]++nb32 (toN q.1):=by
 show sub (([4#8]++nb32 (toN q.1))++nb32 (toN q.2)) 0 33=_
 have h33:([4#8]++nb32 (toN q.1)).length=33:=by simp [nb32_len]
 rw [sub_app_l _ _ _ _ (by omega)]
 have:=sub_all ([4#8]++nb32 (toN q.1))
 rwa [h33] at this
theorem nb32_low (n d:Nat) (h:n % 256+d<256):(nb32 n).set 31 (lg (nb32 n) 31+BitVec.ofNat 8 d)=nb32 (n+d):=by
 apply List.ext_getElem?
 intro i
 by_cases h31:i=31
 ·subst h31
  rw [List.getElem?_set_self (by rw [nb32_len]; omega),nb32_get _ _ (by decide)]
  congr 1
  unfold lg
  rw [List.getD_eq_getElem?_getD,nb32_get _ _ (by decide)]
  apply BitVec.eq_of_toNat_eq
  simp only [Option.getD_some,BitVec.toNat_add,BitVec.toNat_ofNat]
  rw [show 8 * (31 - 31)=0 by omega,Nat.pow_zero,Nat.div_one,Nat.div_one]
  omega
 ·rw [List.getElem?_set_ne (Ne.symm h31)]
  by_cases hi:i<32
  ·rw [nb32_get _ _ hi,nb32_get _ _ hi]
   congr 2
   have e:8 * (31 - i)=8+8 * (30 - i):=by omega
   rw [e,Nat.pow_add,← Nat.div_div_eq_div_mul,← Nat.div_div_eq_div_mul]
   congr 1
   omega
  ·rw [List.getElem?_eq_none (by rw [nb32_len]; omega),List.getElem?_eq_none (by rw [nb32_len]; omega)]
theorem PcurveForms_true (which x:Int):halberdlaw11_PcurveForms which x=some true:=by
 have hN:=N_big
 have s0:halberdlaw11_Scalar 0=some (nb32 1):=ScalarL_eq 0
 have hlast:=Calc_ex 1 1 Rd_N (by decide) (u:=0) (v:=1) (by omega) (by omega) (.inr rfl)
 rw [if_neg (by decide),Nat.zero_add,Nat.mod_eq_of_lt (by omega)] at hlast
 have l32:=nb32_len (N256 - 1)
 obtain ⟨d,hd1,hd8,ed⟩:∃ d:Nat,1≤d∧d≤8∧BitVec.ofInt 8 (w64 (1+iop (· &&& ·) x 7))=BitVec.ofNat 8 d:=by
  have e:iop (· &&& ·) x 7=x % 8:=and_maskP x 3 (by decide)
  refine ⟨(1+x % 8).toNat,by omega,by omega,?_⟩
  rw [e,w64_id (by omega) (by omega)]
  apply BitVec.eq_of_toNat_eq
  rw [BitVec.toNat_ofInt,BitVec.toNat_ofNat]
  omega
 have hlow:(N256 - 1) % 256+d<256:=by
  have:(N256 - 1) % 256=80:=by decide
  omega
 have hb:=nb32_low (N256 - 1) d hlow
 have hNb:N256+8<2 ^ 256:=by decide
 have nob:¬ isSc (nb32 (N256 - 1+d)):=fun h=>by
  have:=h.2.1
  rw [bnum_nb32 _ (by omega)] at this
  omega
 have noa:¬ isSc (nb32 (N256 - 1)++[97#8]):=fun h=>by
  have:=h.1
  rw [List.length_append,l32] at this
  simp at this
 have nos:¬ isSc (sub (nb32 (N256 - 1)) 0 31):=fun h=>by
  have:=h.1
  rw [sub_length (by omega)] at this
  omega
 have noe:¬ isSc []:=fun h=>by have:=h.1; simp at this
 obtain ⟨i,hi,ei⟩:∃ i:Nat,i<5∧w64 (((BitVec.ofInt 64 which) % 5#64).toNat:Int)=(i:Int):=by
  have h5:((BitVec.ofInt 64 which) % 5#64).toNat<5:=by
   rw [BitVec.toNat_umod]
   have:(5#64).toNat=5:=rfl
   rw [this]; omega
  exact ⟨_,h5,w64_id (by omega) (by omega)⟩
 have hx:∃ c,0<c∧c≤1048576∧halberdlaw11_Scalar (iop (· &&& ·) x 1048575)=some (nb32 c):=by
  have h:=ScalarL_eq (iop (· &&& ·) x 1048575)
  have e:iop (· &&& ·) x 1048575=x % 1048576:=and_maskP x 20 (by decide)
  have hb:=scC_b (iop (· &&& ·) x 1048575)
  refine ⟨scC (iop (· &&& ·) x 1048575),hb.1,hb.2,?_⟩
  have e2:scN (iop (· &&& ·) x 1048575)=scC (iop (· &&& ·) x 1048575):=if_neg (by rw [e]; omega)
  rw [h,e2]
 obtain ⟨c,c0,c1,sc⟩:=hx
 have m1:=mod_ne (c:=1) (by omega) (by omega)
 have ml:=mod_ne (c:=N256 - 1) (by omega) (by omega)
 have pc:=Public_nb (c:=c) c0 (by omega)
 have pl:=Public_nb (c:=N256 - 1) (by omega) (by omega)
 have p1:=Public_nb (c:=1) (by omega) (by omega)
 have add0:=Add_nb0 ml m1 (by rw [show N256 - 1+1=N256 by omega,Nat.mod_self])
 have lc:=encP_len ml
 have l1:=encP_len m1
 have hneg:sG (N256 - 1)=negP gP:=(neg_sG (a:=1) (by omega)).symm
 have h33:sub (encP (sG (N256 - 1))) 0 33=sub (encP (sG 1)) 0 33:=by
  rw [hneg]
  show sub (encQ (gX,-gY)) 0 33=sub (encQ (gX,gY)) 0 33
  rw [encQ_head5,encQ_head5]
 have hne:encP (sG (N256 - 1)) ≠ encP (sG 1):=fun h=>by
  rw [hneg] at h
  have h:encQ (gX,-gY)=encQ (gX,gY):=h
  have:=congrArg Prod.snd (encQ_inj h)
  exact y_ne gP_ok this.symm
 generalize encP (sG (N256 - 1))=L at pl add0 lc h33 hne
 generalize encP (sG 1)=G1 at p1 add0 l1 h33 hne
 unfold halberdlaw11_PcurveForms
 refine bind_i awake11 (if_n (by decide) (if_i (by simp) (ltt_i fun zero hz=>bind_i s0 (bind_i (v:=(nb32 (N256 - 1),0)) (by rw [hz,nb32_zero]; exact hlast) ?_))))
 rw [nb32_zero] at hz
 dsimp only
 refine if_i (by omega) (if_i (by omega) (ltt_i fun bb hbb=>if_i (by rw [l32]; decide) (if_i (by omega) ?_)))
 rw [ed,hb] at hbb
 rw [ei]
 simp only [Int.toNat_natCast]
 refine if_i (by omega) (if_i (by simp only [List.length_cons,List.length_nil]; omega) (ltt_i fun bad hbad=>?_))
 have hno:¬ isSc bad:=by
  rw [hbad]
  have:i=0 ∨ i=1 ∨ i=2 ∨ i=3 ∨ i=4:=by omega
  rcases this with rfl | rfl | rfl | rfl | rfl
  ·show ¬ isSc zero; rw [hz]; exact nb0_no
  ·show ¬ isSc bb; rw [hbb]; exact nob
  ·exact noa
  ·exact nos
  ·exact noe
 refine bind_i sc (bind_i pc (bind_i pl (bind_i s0 (bind_i p1 (bind_i (Public_no bad hno) (bind_i (Mul_no bad _ fun h=>hno h.1) (bind_i add0 ?_)))))))
 refine bind_i (num0 _) (if_i rfl (bind_i (num0 _) (if_i rfl (bind_i (num0 _) (if_i rfl (if_i (show ((L).length:Int)=65 by rw [lc]; rfl) (if_i (show ((G1).length:Int)=65 by rw [l1]; rfl) (if_i (show 33≤L.length by rw [lc]; decide) (if_i (show 33≤G1.length by rw [l1]; decide) (if_i h33 (if_i hne ?_)))))))))))
 exact bind_i (num0 _) (if_i rfl (bind_i (num0 _) (if_i rfl (bind_i (num0 _) (by simp [ltt])))))
end Go.Kx
end

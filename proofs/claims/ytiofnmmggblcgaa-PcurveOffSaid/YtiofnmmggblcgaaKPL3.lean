/-
  Part KPL3 of the proofs of this seat: F5, PcL3.
-/
import Derived.Test.YtiofnmmggblcgaaK2
import Derived.Test.YtiofnmmggblcgaaKP4
import Derived.Test.YtiofnmmggblcgaaKP1
import Derived.Test.YtiofnmmggblcgaaKP2
import Derived.Test.YtiofnmmggblcgaaKP3
set_option linter.unusedVariables false
set_option linter.unusedSimpArgs false
section
namespace Go.Proofs
open Go Go.Kx
open Vector (replicate)
def halberdlaw11_PcurveOff (x : Int) (at_ : Int) (y : Int) : Option (Bool) :=
 (halberdlaw11_awake).bind fun (r_1 : Bool) => (if (!r_1) = true then (some false) else ((halberdlaw11_Scalar x).bind fun (r_2 : Str) => ((pcurve_Public r_2).bind fun (r_3 : Str × Int) => ((halberdlaw0_Num r_3.2).bind fun (r_4 : Int) => ((if r_4 ≠ 0 then (some true) else (some (decide (((r_3.1).length : Int) ≠ 65)))).bind fun (j1 : Bool) => (if j1 = true then (some false) else (ltt (w64 (((BitVec.ofInt 64 at_) % 520#64).toNat : Int)) fun (k_1 : Int) => (if 0 ≤ w64 (k_1.tdiv 8) ∧ w64 (k_1.tdiv 8) < ((r_3.1).length : Int) then (if 0 ≤ k_1.tmod 8 then (if 0 ≤ w64 (k_1.tdiv 8) ∧ w64 (k_1.tdiv 8) < ((r_3.1).length : Int) then (ltt (r_3.1.set ((w64 (k_1.tdiv 8)).toNat) ((lg r_3.1 ((w64 (k_1.tdiv 8)).toNat)) ^^^ (1#8 <<< (k_1.tmod 8).toNat))) fun (m_1 : List (BitVec 8)) => ((halberdref9_Decode m_1).bind fun (r_5 : Vx 32 8 × Vx 32 8 × Vx 32 8 × Bool) => ((pcurve_Add r_3.1 m_1).bind fun (r_6 : Str × Int) => ((halberdlaw11_Scalar y).bind fun (r_7 : Str) => ((pcurve_Mul r_7 m_1).bind fun (r_8 : Str × Int) => ((halberdlaw11_Scalar y).bind fun (r_9 : Str) => (if 64 ≤ (r_3.1).length then ((pcurve_Mul r_9 (sub r_3.1 0 64)).bind fun (r_10 : Str × Int) => ((pcurve_On m_1).bind fun (r_11 : Bool) => (if (r_11 == r_5.2.2.2) = true then (if r_5.2.2.2 = true then ((halberdlaw0_Num r_10.2).bind fun (r_12 : Int) => (ltt (decide (r_12 = 1100)) fun (x1 : Bool) => (some x1))) else ((halberdlaw0_Num r_6.2).bind fun (r_13 : Int) => (if r_13 = 1100 then ((halberdlaw0_Num r_8.2).bind fun (r_14 : Int) => (if r_14 = 1100 then ((halberdlaw0_Num r_10.2).bind fun (r_15 : Int) => (ltt (decide (r_15 = 1100)) fun (x2 : Bool) => (some x2))) else (some false))) else (some false)))) else (some false)))) else none))))))) else none) else none) else none))))))))
set_option maxHeartbeats 4000000 in
set_option maxRecDepth 20000 in
theorem F5_calls (x : Int) (at_ : Int) (y : Int) (r : Bool) (H : halberdlaw11_PcurveOff x at_ y = some r) :
  Does Try.prog 5 [vi x, vi at_, vi y] [] [] (Γ := Unit) (fun g => vb r) (fun g => []) := by
 intro w hmem hro hd
 refine calls_of (N := 105) (m0 := [(0, vi x), (1, vi at_), (2, vi y)]) Try.func5 rfl Try.ntmps5 (argM_ok [vi x, vi at_, vi y]) rfl hmem hro hd ?_
 unfold halberdlaw11_PcurveOff at H
 refine TC_seq ?_
 refine TC_region ?_
 refine TLv (V_assign rfl) ?_
 refine TL_nil ?_
 refine TX_next ?_
 refine TC_seq ?_
 refine TC_seq ?_
 refine TC_region ?_
 obtain ⟨r_1, hr_1, H⟩ := bind_elim H
 refine TLe (E_c0 (F22_calls r_1 hr_1) Try.call22 .z) (fun g_1 => ?_)
 refine TLv (V_un rfl (fun w => notB w r_1)) ?_
 refine TL_nil ?_
 refine TX_next ?_
 refine TC_cond (b := (!r_1)) rfl (fun hc => ?_) (fun hc => ?_)
 ·replace H := ite_t hc H
  refine TC_seq ?_
  refine TC_region ?_
  refine TLv (V_assign rfl) ?_
  refine TL_nil ?_
  refine TX_next ?_
  refine TC_ret ?_
  refine TX_then_ret ?_
  have hrv := Option.some.inj H
  subst hrv
  exact TX_ret (rs := [.tmp 6]) (vs := [vb false]) rfl ⟨rfl, trivial⟩ (fun w' hs' => ⟨(), rfl, Step.left (Step.pulled (is := []) (A := []) hs' rfl)⟩)
 ·replace H := ite_f (Bool.eq_false_iff.1 hc) H
  refine TC_skip ?_
  refine TX_next ?_
  refine TC_seq ?_
  refine TC_region ?_
  refine TLv (V_move rfl) ?_
  obtain ⟨r_2, hr_2, H⟩ := bind_elim H
  refine TLe (E_c0 (F23_calls x r_2 hr_2) Try.call23 .z) (fun g_2 => ?_)
  obtain ⟨r_3, hr_3, H⟩ := bind_elim H
  refine TLe (E_c0 (F13_calls r_2 r_3 hr_3) Try.call13 .z) (fun g_3 => ?_)
  refine TLv (V_move rfl) ?_
  refine TLv V_ex ?_
  refine TLv V_ex ?_
  refine TLv (V_assign rfl) ?_
  refine TLv (V_assign rfl) ?_
  refine TL_nil ?_
  refine TX_next ?_
  refine TC_seq ?_
  refine TC_seq ?_
  refine TC_region ?_
  refine TLv (V_move rfl) ?_
  obtain ⟨r_4, hr_4, H⟩ := bind_elim H
  refine TLe (E_c0 (F20_calls r_3.2 r_4 hr_4) Try.call20 .z) (fun g_4 => ?_)
  refine TLv (V_bin rfl rfl (fun w => neqI w r_4 0)) ?_
  refine TLv (V_move rfl) ?_
  obtain ⟨j1, Hj, H⟩ := bind_elim H
  refine TL_join (Γ := Unit) (fun gj1 => [(1, vi at_), (2, vi y), (7, vs r_3.1), (35, vb j1)]) (fun gj1 => []) ?_ ?_
  ·intro gj1
   refine TX_next ?_
   refine TC_cond (b := j1) rfl (fun hc => ?_) (fun hc => ?_)
   ·replace H := ite_t hc H
    refine TC_seq ?_
    refine TC_region ?_
    refine TLv (V_assign rfl) ?_
    refine TL_nil ?_
    refine TX_next ?_
    refine TC_ret ?_
    refine TX_then_ret ?_
    have hrv := Option.some.inj H
    subst hrv
    exact TX_ret (rs := [.tmp 6]) (vs := [vb false]) rfl ⟨rfl, trivial⟩ (fun w' hs' => ⟨(), rfl, Step.left (Step.pulled (is := []) (A := []) hs' rfl)⟩)
   ·replace H := ite_f (Bool.eq_false_iff.1 hc) H
    refine TC_skip ?_
    refine TX_next ?_
    refine TC_seq ?_
    refine TC_region ?_
    refine TLv (V_move rfl) ?_
    refine TLe (E_s2bR rfl Try.underlying9 Try.underlying42 Try.underlying5) (fun g_5 => ?_)
    refine TLv (V_assign rfl) ?_
    refine TL_nil ?_
    refine TX_next ?_
    refine TC_seq ?_
    refine TC_region ?_
    refine TLv (V_move rfl) ?_
    refine TLv (V_conv rfl (fun w => cvI64 w _ _ Try.underlying44 (TryI.und3) .i64 at_)) ?_
    refine TLv (V_bin rfl rfl (fun w => rem64 w (BitVec.ofInt 64 at_) 520#64 (by decide))) ?_
    refine TLv (V_conv rfl (fun w => cv64toI w _ _ Try.underlying3 (TryI.und44) ((BitVec.ofInt 64 at_) % 520#64))) ?_
    refine TLv (V_assign rfl) ?_
    obtain ⟨k_1, hk_1, H⟩ := ltt_elim H
    refine TL_re (d := 10) (v := vi (w64 (((BitVec.ofInt 64 at_) % 520#64).toNat : Int))) (v' := vi k_1) rfl (congrArg vi hk_1) ?_
    refine TL_nil ?_
    refine TX_next ?_
    refine TC_seq ?_
    obtain ⟨h1, H⟩ := if_elim H
    obtain ⟨h2, H⟩ := if_elim H
    obtain ⟨h3, H⟩ := if_elim H
    obtain ⟨m_1, hm_1, H⟩ := ltt_elim H
    refine TA_begin [] 14 (by kernel_rfl) (N := 14) rfl ?_
    refine TA_mix (is := []) (done' := dn 14 8191) [itV 0 42 (sl (some (g_5.1, 0)) ((r_3.1).length) ((r_3.1 ++ g_5.2).length)) [], itV 1 43 (vi k_1) [], itV 2 44 (vi (w64 (k_1.tdiv 8))) [1], itV 3 45 (sl (some (g_5.1, 0)) ((r_3.1).length) ((r_3.1 ++ g_5.2).length)) [], itV 4 46 (vi k_1) [], itV 5 47 (vi (w64 (k_1.tdiv 8))) [4], itV 6 48 (ptr (some (g_5.1, 0)) ((w64 (k_1.tdiv 8)).toNat)) [3, 5], itV 7 49 (v8 (lg r_3.1 ((w64 (k_1.tdiv 8)).toNat))) [6], itV 8 50 (vi k_1) [], itV 9 51 (vi (k_1.tmod 8)) [8], itV 10 52 (v8 (1#8 <<< (k_1.tmod 8).toNat)) [9], itV 11 53 (v8 ((lg r_3.1 ((w64 (k_1.tdiv 8)).toNat)) ^^^ (1#8 <<< (k_1.tmod 8).toNat))) [7, 10], itV 12 54 (ptr (some (g_5.1, 0)) ((w64 (k_1.tdiv 8)).toNat)) [0, 2]] [] 1 (by kernel_rfl) (QP.then QP.body) (by kernel_rfl) rfl (.v rfl (V_move rfl) (.v rfl (V_move rfl) (.v rfl (V_bin rfl rfl (fun w => quoI w k_1 8 (by decide))) (.v rfl (V_move rfl) (.v rfl (V_move rfl) (.v rfl (V_bin rfl rfl (fun w => quoI w k_1 8 (by decide))) (.v rfl (V_idxSl (i := w64 (k_1.tdiv 8)) rfl rfl Try.underlying42 TryI.inf5 rfl (fun _ h => by cases h) h1.1 h1.2 (k := (w64 (k_1.tdiv 8)).toNat) (km1 _)) (.v rfl (V_load rfl (.o 0) (get_row (f := v8) (l := r_3.1) (sp := g_5.2) (toNat_lt h1.1 h1.2)) Try.isAgg5) (.v rfl (V_move rfl) (.v rfl (V_bin rfl rfl (fun w => remI w k_1 8 (by decide))) (.v rfl (V_bin rfl rfl (fun w => shl8 w 1#8 .i64 (k_1.tmod 8) h2)) (.v rfl (V_bin rfl rfl (fun w => xor8 w (lg r_3.1 ((w64 (k_1.tdiv 8)).toNat)) (1#8 <<< (k_1.tmod 8).toNat))) (.v rfl (V_idxSl (i := w64 (k_1.tdiv 8)) rfl rfl Try.underlying42 TryI.inf5 rfl (fun _ h => by cases h) h3.1 h3.2 (k := (w64 (k_1.tdiv 8)).toNat) (km1 _)) .nil))))))))))))) .nil (by kernel_rfl) rfl (fun γ => ?_)
    refine TA_cut [(54, ptr (some (g_5.1, 0)) ((w64 (k_1.tdiv 8)).toNat)), (53, v8 ((lg r_3.1 ((w64 (k_1.tdiv 8)).toNat)) ^^^ (1#8 <<< (k_1.tmod 8).toNat))), (9, sl (some (g_5.1, 0)) ((r_3.1).length) ((r_3.1 ++ g_5.2).length)), (2, vi y), (7, vs r_3.1)] [⟨some (g_5.1, 0), e8 (r_3.1 ++ g_5.2)⟩] ⟨rfl, rfl, rfl, rfl, rfl, trivial⟩ rfl ?_
    refine TA_all (rs := [13]) (by kernel_rfl) rfl ?_
    refine ⟨?_, trivial⟩
    refine TO_n (is := []) (done' := dn 14 16383) rfl rfl rfl (by kernel_rfl) (E_store (j := 0) rfl rfl TryI.inf5 rfl rfl rfl (by rw [List.length_map]; exact lt_app (toNat_lt h3.1 h3.2)) (cs' := e8 ((r_3.1.set ((w64 (k_1.tdiv 8)).toNat) ((lg r_3.1 ((w64 (k_1.tdiv 8)).toNat)) ^^^ (1#8 <<< (k_1.tmod 8).toNat))) ++ g_5.2)) (set_row (toNat_lt h3.1 h3.2))) (fun _ _ => rfl) (fun _ => ?_)
    refine TA_reE (j := 0) (A := some (g_5.1, 0)) (cs := e8 ((r_3.1.set ((w64 (k_1.tdiv 8)).toNat) ((lg r_3.1 ((w64 (k_1.tdiv 8)).toNat)) ^^^ (1#8 <<< (k_1.tmod 8).toNat))) ++ g_5.2)) (cs' := e8 (m_1 ++ g_5.2)) rfl (congrArg (fun z => e8 (z ++ g_5.2)) hm_1) ?_
    refine TA_re (d := 9) (v := sl (some (g_5.1, 0)) ((r_3.1).length) ((r_3.1 ++ g_5.2).length)) (v' := sl (some (g_5.1, 0)) ((m_1).length) ((m_1 ++ g_5.2).length)) rfl (row_set hm_1) ?_
    refine TA_done (by kernel_rfl) ?_ 0
    refine TX_next ?_
    refine TC_seq ?_
    refine TC_region ?_
    refine TLv (V_move rfl) ?_
    refine TLv (V_b2s rfl Try.underlying42 Try.underlying5 Try.underlying9 (srcRow (.o 0)) rfl) ?_
    refine TLv (V_assign rfl) ?_
    refine TL_nil ?_
    refine TX_next ?_
    refine TC_seq ?_
    refine TC_region ?_
    refine TLv (V_move rfl) ?_
    obtain ⟨r_5, hr_5, H⟩ := bind_elim H
    refine TLe (E_c0 (F19_calls m_1 r_5 hr_5) Try.call19 .z) (fun g_6 => ?_)
    refine TLv (V_move rfl) ?_
    refine TLv V_ex ?_
    refine TLv V_ex ?_
    refine TLe (E_allocP [(8, e32 ((replicate 8 0#32).toList)), (8, e32 ((replicate 8 0#32).toList)), (8, e32 ((replicate 8 0#32).toList))] TryI.inf33 TryI.zer33 ⟨(lenV (f := v32) (replicate 8 0#32)), (lenV (f := v32) (replicate 8 0#32)), (lenV (f := v32) (replicate 8 0#32)), trivial⟩) (fun b1 => ?_)
    refine TLn (E_sp (b := b1) (o := 0) [0, 0, 0] [(8, e32 ((replicate 8 0#32).toList)), (8, e32 ((replicate 8 0#32).toList)), (8, e32 ((replicate 8 0#32).toList))] [(8, e32 r_5.1.toList), (8, e32 r_5.2.1.toList), (8, e32 r_5.2.2.1.toList)] rfl TryI.inf33 ⟨(lenV (f := v32) (replicate 8 0#32)), (lenV (f := v32) (replicate 8 0#32)), (lenV (f := v32) (replicate 8 0#32)), trivial⟩ ⟨(lenV (f := v32) r_5.1), (lenV (f := v32) r_5.2.1), (lenV (f := v32) r_5.2.2.1), trivial⟩ ⟨(OneC.map (fun _ => rfl) _), (OneC.map (fun _ => rfl) _), (OneC.map (fun _ => rfl) _), trivial⟩) (fun _ => ?_)
    refine TLv (V_assign rfl) ?_
    refine TL_nil ?_
    refine TX_next ?_
    refine TC_seq ?_
    refine TC_region ?_
    refine TLv (V_move rfl) ?_
    refine TLv (V_move rfl) ?_
    obtain ⟨r_6, hr_6, H⟩ := bind_elim H
    refine TLe (E_c0 (F17_calls r_3.1 m_1 r_6 hr_6) Try.call17 .z) (fun g_7 => ?_)
    refine TLv (V_move rfl) ?_
    refine TLv V_ex ?_
    refine TLv V_ex ?_
    refine TLv (V_assign rfl) ?_
    refine TLv (V_assign rfl) ?_
    refine TL_nil ?_
    refine TX_next ?_
    refine TC_seq ?_
    refine TC_region ?_
    refine TLv (V_move rfl) ?_
    obtain ⟨r_7, hr_7, H⟩ := bind_elim H
    refine TLe (E_c0 (F23_calls y r_7 hr_7) Try.call23 .z) (fun g_8 => ?_)
    refine TLv (V_move rfl) ?_
    obtain ⟨r_8, hr_8, H⟩ := bind_elim H
    refine TLe (E_c0 (F15_calls r_7 m_1 r_8 hr_8) Try.call15 .z) (fun g_9 => ?_)
    refine TLv (V_move rfl) ?_
    refine TLv V_ex ?_
    refine TLv V_ex ?_
    refine TLv (V_assign rfl) ?_
    refine TLv (V_assign rfl) ?_
    refine TL_nil ?_
    refine TX_next ?_
    refine TC.sub (m' := [(2, vi y), (7, vs r_3.1), (11, vs m_1), (13, vb r_5.2.2.2), (15, vi r_6.2), (17, vi r_8.2)]) ⟨rfl, rfl, rfl, rfl, rfl, rfl, trivial⟩ ?_
    refine TC.pull (is := []) (L' := []) rfl ?_
    refine TC_seq ?_
    obtain ⟨r_9, hr_9, H⟩ := bind_elim H
    obtain ⟨h4, H⟩ := if_elim H
    obtain ⟨r_10, hr_10, H⟩ := bind_elim H
    refine TA_begin [] 10 (by kernel_rfl) (N := 10) rfl ?_
    refine TA_mix (is := []) (done' := dn 10 1023) [itV 0 76 (vi y) [], itV 1 77 (vs r_9) [0], itV 2 78 (vs r_3.1) [], itV 3 79 (vs (sub r_3.1 0 64)) [2], itV 4 80 (Value.tuple [vs r_10.1, vi r_10.2].toArray) [1, 3], itV 5 75 (Value.tuple [vs r_10.1, vi r_10.2].toArray) [4], itV 6 81 (vs r_10.1) [5], itV 7 82 (vi r_10.2) [5], itV 8 18 (vs r_10.1) [6], itV 9 19 (vi r_10.2) [7]] [] 0 (by kernel_rfl) (QP.then QP.body) (by kernel_rfl) rfl (.v rfl (V_move rfl) (.e rfl (E_cu (F23_calls y r_9 hr_9) Try.call23 .z) (.v rfl (V_move rfl) (.v rfl (V_sliceStr (l := 0) (h := 64) rfl Try.underlying9 Bnd.none' (Bnd.some' (i := 64) rfl (by decide)) (Nat.zero_le _) h4) (.e rfl (E_cu (F15_calls r_9 (sub r_3.1 0 64) r_10 hr_10) Try.call15 .z) (.v rfl (V_move rfl) (.v rfl V_ex (.v rfl V_ex (.v rfl (V_assign rfl) (.v rfl (V_assign rfl) .nil)))))))))) .nil (by kernel_rfl) rfl (fun γ => ?_)
    refine TA_cut [(19, vi r_10.2), (11, vs m_1), (13, vb r_5.2.2.2), (15, vi r_6.2), (17, vi r_8.2)] [] ⟨rfl, rfl, rfl, rfl, rfl, trivial⟩ rfl ?_
    refine TA_done (by kernel_rfl) ?_ 0
    refine TX_next ?_
    refine TC_seq ?_
    refine TC_region ?_
    refine TLv (V_move rfl) ?_
    obtain ⟨r_11, hr_11, H⟩ := bind_elim H
    refine TLe (E_c0 (F21_calls m_1 r_11 hr_11) Try.call21 .z) (fun g_12 => ?_)
    refine TLv (V_move rfl) ?_
    refine TLv (V_bin rfl rfl (fun w => eqlB w r_11 r_5.2.2.2 Try.underlying4)) ?_
    refine TLv (V_move rfl) ?_
    refine TL_fork (d := 87) (b := (r_11 == r_5.2.2.2)) rfl (fun hc => ?_) (fun hc => ?_)
    ·replace H := ite_t hc H
     refine TL_want rfl rfl rfl rfl rfl rfl (V_move rfl) ?_
     refine TL_want rfl rfl rfl rfl rfl rfl (V_move rfl) ?_
     refine TL_fork (d := 89) (b := r_5.2.2.2) rfl (fun hc => ?_) (fun hc => ?_)
     ·replace H := ite_t hc H
      refine TL_skip rfl rfl rfl rfl rfl rfl rfl ?_
      refine TL_skip rfl rfl rfl rfl rfl rfl rfl ?_
      refine TL_skip rfl rfl rfl rfl rfl rfl rfl ?_
      refine TL_skip rfl rfl rfl rfl rfl rfl rfl ?_
      refine TL_skipU rfl rfl rfl rfl rfl rfl ?_
      refine TL_skipU rfl rfl rfl rfl rfl rfl ?_
      refine TL_skipU rfl rfl rfl rfl rfl rfl ?_
      refine TL_skip rfl rfl rfl rfl rfl rfl rfl ?_
      refine TL_want rfl rfl rfl rfl rfl rfl (V_pick (b := true) rfl rfl) ?_
      refine TLv (V_pick (b := true) rfl rfl) ?_
      refine TLv (V_move rfl) ?_
      refine TL_want rfl rfl rfl rfl rfl rfl (V_move rfl) ?_
      obtain ⟨r_12, hr_12, H⟩ := bind_elim H
      refine TL_wantE rfl rfl rfl rfl rfl rfl (E_c0 (F20_calls r_10.2 r_12 hr_12) Try.call20 .z) (fun g_13 => ?_)
      refine TL_want rfl rfl rfl rfl rfl rfl (V_bin rfl rfl (fun w => eqlI w r_12 1100)) ?_
      refine TLv (V_pick (b := true) rfl rfl) ?_
      refine TLv (V_assign rfl) ?_
      obtain ⟨x1, hx1, H⟩ := ltt_elim H
      refine TL_re (d := 6) (v := vb (decide (r_12 = 1100))) (v' := vb x1) rfl (congrArg vb hx1) ?_
      refine TL_nil ?_
      refine TX_next ?_
      refine TC.sub (m' := [(6, vb x1)]) ⟨rfl, trivial⟩ ?_
      refine TC.pull (is := []) (L' := []) rfl ?_
      refine TC_ret ?_
      have hrv := Option.some.inj H
      subst hrv
      exact TX_ret (rs := [.tmp 6]) (vs := [vb x1]) rfl ⟨rfl, trivial⟩ (fun w' hs' => ⟨(), rfl, Step.left (Step.pulled (is := []) (A := []) hs' rfl)⟩)
     ·replace H := ite_f (Bool.eq_false_iff.1 hc) H
      refine TL_want rfl rfl rfl rfl rfl rfl (V_move rfl) ?_
      obtain ⟨r_13, hr_13, H⟩ := bind_elim H
      refine TL_wantE rfl rfl rfl rfl rfl rfl (E_c0 (F20_calls r_6.2 r_13 hr_13) Try.call20 .z) (fun g_14 => ?_)
      refine TL_want rfl rfl rfl rfl rfl rfl (V_bin rfl rfl (fun w => eqlI w r_13 1100)) ?_
      refine TL_want rfl rfl rfl rfl rfl rfl (V_move rfl) ?_
      refine TL_fork (d := 93) (b := (decide (r_13 = 1100))) rfl (fun hc => ?_) (fun hc => ?_)
      ·replace H := ite_t (of_decide_eq_true hc) H
       refine TL_want rfl rfl rfl rfl rfl rfl (V_move rfl) ?_
       obtain ⟨r_14, hr_14, H⟩ := bind_elim H
       refine TL_wantE rfl rfl rfl rfl rfl rfl (E_c0 (F20_calls r_8.2 r_14 hr_14) Try.call20 .z) (fun g_15 => ?_)
       refine TL_want rfl rfl rfl rfl rfl rfl (V_bin rfl rfl (fun w => eqlI w r_14 1100)) ?_
       refine TL_want rfl rfl rfl rfl rfl rfl (V_pick (b := true) rfl rfl) ?_
       refine TL_want rfl rfl rfl rfl rfl rfl (V_pick (b := false) rfl rfl) ?_
       refine TLv (V_pick (b := true) rfl rfl) ?_
       refine TLv (V_move rfl) ?_
       refine TL_fork (d := 100) (b := (decide (r_14 = 1100))) rfl (fun hc => ?_) (fun hc => ?_)
       ·replace H := ite_t (of_decide_eq_true hc) H
        refine TL_want rfl rfl rfl rfl rfl rfl (V_move rfl) ?_
        obtain ⟨r_15, hr_15, H⟩ := bind_elim H
        refine TL_wantE rfl rfl rfl rfl rfl rfl (E_c0 (F20_calls r_10.2 r_15 hr_15) Try.call20 .z) (fun g_16 => ?_)
        refine TL_want rfl rfl rfl rfl rfl rfl (V_bin rfl rfl (fun w => eqlI w r_15 1100)) ?_
        refine TLv (V_pick (b := true) rfl rfl) ?_
        refine TLv (V_assign rfl) ?_
        obtain ⟨x2, hx2, H⟩ := ltt_elim H
        refine TL_re (d := 6) (v := vb (decide (r_15 = 1100))) (v' := vb x2) rfl (congrArg vb hx2) ?_
        refine TL_nil ?_
        refine TX_next ?_
        refine TC.sub (m' := [(6, vb x2)]) ⟨rfl, trivial⟩ ?_
        refine TC.pull (is := []) (L' := []) rfl ?_
        refine TC_ret ?_
        have hrv := Option.some.inj H
        subst hrv
        exact TX_ret (rs := [.tmp 6]) (vs := [vb x2]) rfl ⟨rfl, trivial⟩ (fun w' hs' => ⟨(), rfl, Step.left (Step.pulled (is := []) (A := []) hs' rfl)⟩)
       ·replace H := ite_f (of_decide_eq_false hc) H
        refine TL_skip rfl rfl rfl rfl rfl rfl rfl ?_
        refine TL_skip rfl rfl rfl rfl rfl rfl rfl ?_
        refine TL_skip rfl rfl rfl rfl rfl rfl rfl ?_
        refine TLv (V_pick (b := false) rfl rfl) ?_
        refine TLv (V_assign rfl) ?_
        refine TL_nil ?_
        refine TX_next ?_
        refine TC.sub (m' := [(6, vb false)]) ⟨rfl, trivial⟩ ?_
        refine TC.pull (is := []) (L' := []) rfl ?_
        refine TC_ret ?_
        have hrv := Option.some.inj H
        subst hrv
        exact TX_ret (rs := [.tmp 6]) (vs := [vb false]) rfl ⟨rfl, trivial⟩ (fun w' hs' => ⟨(), rfl, Step.left (Step.pulled (is := []) (A := []) hs' rfl)⟩)
      ·replace H := ite_f (of_decide_eq_false hc) H
       refine TL_skip rfl rfl rfl rfl rfl rfl rfl ?_
       refine TL_skip rfl rfl rfl rfl rfl rfl rfl ?_
       refine TL_skip rfl rfl rfl rfl rfl rfl rfl ?_
       refine TL_want rfl rfl rfl rfl rfl rfl (V_pick (b := false) rfl rfl) ?_
       refine TL_want rfl rfl rfl rfl rfl rfl (V_pick (b := false) rfl rfl) ?_
       refine TLv (V_pick (b := true) rfl rfl) ?_
       refine TLv (V_move rfl) ?_
       refine TL_skip rfl rfl rfl rfl rfl rfl rfl ?_
       refine TL_skip rfl rfl rfl rfl rfl rfl rfl ?_
       refine TL_skip rfl rfl rfl rfl rfl rfl rfl ?_
       refine TLv (V_pick (b := false) rfl rfl) ?_
       refine TLv (V_assign rfl) ?_
       refine TL_nil ?_
       refine TX_next ?_
       refine TC.sub (m' := [(6, vb false)]) ⟨rfl, trivial⟩ ?_
       refine TC.pull (is := []) (L' := []) rfl ?_
       refine TC_ret ?_
       have hrv := Option.some.inj H
       subst hrv
       exact TX_ret (rs := [.tmp 6]) (vs := [vb false]) rfl ⟨rfl, trivial⟩ (fun w' hs' => ⟨(), rfl, Step.left (Step.pulled (is := []) (A := []) hs' rfl)⟩)
    ·replace H := ite_f (Bool.eq_false_iff.1 hc) H
     refine TL_skip rfl rfl rfl rfl rfl rfl rfl ?_
     refine TL_skip rfl rfl rfl rfl rfl rfl rfl ?_
     refine TL_skipU rfl rfl rfl rfl rfl rfl ?_
     refine TL_skipU rfl rfl rfl rfl rfl rfl ?_
     refine TL_skipU rfl rfl rfl rfl rfl rfl ?_
     refine TL_skipU rfl rfl rfl rfl rfl rfl ?_
     refine TL_skipU rfl rfl rfl rfl rfl rfl ?_
     refine TL_skipU rfl rfl rfl rfl rfl rfl ?_
     refine TL_skipU rfl rfl rfl rfl rfl rfl ?_
     refine TL_skipU rfl rfl rfl rfl rfl rfl ?_
     refine TL_skip rfl rfl rfl rfl rfl rfl rfl ?_
     refine TLv (V_pick (b := false) rfl rfl) ?_
     refine TLv (V_move rfl) ?_
     refine TL_skip rfl rfl rfl rfl rfl rfl rfl ?_
     refine TL_skip rfl rfl rfl rfl rfl rfl rfl ?_
     refine TL_skip rfl rfl rfl rfl rfl rfl rfl ?_
     refine TLv (V_pick (b := false) rfl rfl) ?_
     refine TLv (V_assign rfl) ?_
     refine TL_nil ?_
     refine TX_next ?_
     refine TC_ret ?_
     have hrv := Option.some.inj H
     subst hrv
     exact TX_ret (rs := [.tmp 6]) (vs := [vb false]) rfl ⟨rfl, trivial⟩ (fun w' hs' => ⟨(), rfl, Step.left (Step.pulled (is := []) (A := []) hs' rfl)⟩)
  ·intro hJ
   replace H := Hj
   refine TL_fork (d := 31) (b := (decide (r_4 ≠ 0))) rfl (fun hc => ?_) (fun hc => ?_)
   ·replace H := ite_t (of_decide_eq_true hc) H
    refine TL_skip rfl rfl rfl rfl rfl rfl rfl ?_
    refine TL_skip rfl rfl rfl rfl rfl rfl rfl ?_
    refine TL_skip rfl rfl rfl rfl rfl rfl rfl ?_
    refine TLv (V_pick (b := true) rfl rfl) ?_
    refine TL_nil ?_
    refine TX.sub (m' := [(1, vi at_), (2, vi y), (7, vs r_3.1), (35, vb true)]) ⟨rfl, rfl, rfl, rfl, trivial⟩ ?_
    refine TX.pull (is := []) (L' := []) rfl ?_
    obtain rfl := Option.some.inj H
    exact hJ ()
   ·replace H := ite_f (of_decide_eq_false hc) H
    refine TL_want rfl rfl rfl rfl rfl rfl (V_move rfl) ?_
    refine TL_want rfl rfl rfl rfl rfl rfl (V_len_str rfl Try.underlying9) ?_
    refine TL_want rfl rfl rfl rfl rfl rfl (V_bin rfl rfl (fun w => neqI w ((r_3.1).length : Int) 65)) ?_
    refine TLv (V_pick (b := false) rfl rfl) ?_
    refine TL_nil ?_
    refine TX.sub (m' := [(1, vi at_), (2, vi y), (7, vs r_3.1), (35, vb (decide (((r_3.1).length : Int) ≠ 65)))]) ⟨rfl, rfl, rfl, rfl, trivial⟩ ?_
    refine TX.pull (is := []) (L' := []) rfl ?_
    obtain rfl := Option.some.inj H
    exact hJ ()
end Go.Proofs
end

section
namespace Go.Kx
open Go Go.Proofs
open Go.Nt hiding n4
theorem off_k (at_ : Int) : ∃ k : Nat, k < 520 ∧ w64 (((BitVec.ofInt 64 at_) % 520#64).toNat : Int) = (k : Int) := by
 refine ⟨((BitVec.ofInt 64 at_) % 520#64).toNat, ?_, ?_⟩
 ·rw [BitVec.toNat_umod]
  have : (520#64).toNat = 520 := rfl
  rw [this]; omega
 ·have : ((BitVec.ofInt 64 at_) % 520#64).toNat < 520 := by
   rw [BitVec.toNat_umod]
   have : (520#64).toNat = 520 := rfl
   rw [this]; omega
  rw [w64_id (by omega) (by omega)]
theorem PcurveOff_true (x at_ y : Int) : halberdlaw11_PcurveOff x at_ y = some true := by
 have bx := scN_b x
 have by_ := scN_b y
 have sx := ScalarL_eq x
 have sy := ScalarL_eq y
 have ma := mod_ne bx.1 bx.2
 have px := Public_nb bx.1 bx.2
 have hl := encP_len ma
 generalize encP (sG (scN x)) = P at px hl
 obtain ⟨k, hk, ek⟩ := off_k at_
 unfold halberdlaw11_PcurveOff
 refine bind_i awake11 (if_n (by decide) (bind_i sx (bind_i px (bind_i (num0 _) (bind_i (v := false) (if_n (fun h => h rfl) (by simp [hl])) (if_n (by decide) (ltt_i fun v hv => ?_)))))))
 rw [ek] at hv
 subst hv
 have w1 : w64 ((k : Int).tdiv 8) = ((k / 8 : Nat) : Int) := w64_div (b := 8) (by omega)
 have w2 : (k : Int).tmod 8 = ((k % 8 : Nat) : Int) := tmodN' k 8
 rw [w1, w2]
 simp only [Int.toNat_natCast]
 refine if_i (by rw [hl]; omega) (if_i (by omega) (if_i (by rw [hl]; omega) (ltt_i fun q hq => ?_)))
 clear hq
 obtain ⟨X, Y, Z, d, -⟩ := Decode_ex q
 obtain ⟨A, hA⟩ : ∃ A, pcurve_Add P q = some A ∧ (¬ isPt q → A = ([], 1100)) := by
  by_cases h : isPt P ∧ isPt q
  ·obtain ⟨a, z, -, -, hz, -, e1⟩ := pt_cases P h.1
   obtain ⟨b, z2, -, -, hz2, -, e2⟩ := pt_cases q h.2
   exact ⟨_, by rw [e1, e2]; exact Add_is hz hz2, fun c => absurd h.2 c⟩
  ·exact ⟨_, Add_no P q h, fun _ => rfl⟩
 obtain ⟨B, hB⟩ : ∃ B, pcurve_Mul (nb32 (scN y)) q = some B ∧ (¬ isPt q → B = ([], 1100)) := by
  by_cases h : isPt q
  ·obtain ⟨b, z2, -, -, hz2, -, e2⟩ := pt_cases q h
   exact ⟨_, by rw [e2]; exact Mul_is _ (sc_is by_.1 by_.2) hz2, fun c => absurd h c⟩
  ·exact ⟨_, Mul_no _ q (fun c => h c.2), fun _ => rfl⟩
 have hC : pcurve_Mul (nb32 (scN y)) (sub P 0 64) = some ([], 1100) := Mul_no _ _ fun c => by
  have := ((isPt_iff _).1 c.2).1
  rw [sub_length (by omega)] at this
  omega
 refine bind_i d (bind_i hA.1 (bind_i sy (bind_i hB.1 (bind_i sy (if_i (by omega) (bind_i hC (bind_i (On_eq q) (if_i (by simp) ?_))))))))
 by_cases h : isPt q
 ·exact if_i (by simp [h]) (bind_i (num0 _) (by simp [ltt]))
 ·refine if_n (by simp [h]) ?_
  rw [hA.2 h, hB.2 h]
  exact bind_i (num0 _) (if_i rfl (bind_i (num0 _) (if_i rfl (bind_i (num0 _) (by simp [ltt])))))
end Go.Kx
end

/-
  Part KPL4 of the proofs of this seat: F6, PcL4.
-/
import Derived.Test.YtiofnmmggblcgaaK2
import Derived.Test.YtiofnmmggblcgaaKP4
import Derived.Test.YtiofnmmggblcgaaKP1
import Derived.Test.YtiofnmmggblcgaaKP3
set_option linter.unusedVariables false
set_option linter.unusedSimpArgs false
section
namespace Go.Proofs
open Go Go.Kx
def halberdlaw11_PcurveRow (x : Int) (y : Int) (z : Int) : Option (Bool) :=
 (halberdlaw11_awake).bind fun (r_1 : Bool) => (if (!r_1) = true then (some false) else ((halberdlaw11_Scalar (iop (· &&& ·) x 1048575)).bind fun (r_2 : Str) => ((pcurve_Public r_2).bind fun (r_3 : Str × Int) => ((halberdlaw11_Scalar (iop (· &&& ·) y 1048575)).bind fun (r_4 : Str) => ((pcurve_Public r_4).bind fun (r_5 : Str × Int) => ((halberdlaw11_Scalar (iop (· &&& ·) z 1048575)).bind fun (r_6 : Str) => ((pcurve_Public r_6).bind fun (r_7 : Str × Int) => ((halberdlaw0_Num r_3.2).bind fun (r_8 : Int) => ((if r_8 ≠ 0 then (some true) else ((halberdlaw0_Num r_5.2).bind fun (r_20 : Int) => (if r_20 ≠ 0 then (some true) else ((halberdlaw0_Num r_7.2).bind fun (r_21 : Int) => (if r_21 ≠ 0 then (some true) else (some (decide (((r_5.1).length : Int) ≠ 65)))))))).bind fun (j1 : Bool) => (if j1 = true then (some false) else ((pcurve_Add r_3.1 r_5.1).bind fun (r_9 : Str × Int) => ((pcurve_Add r_5.1 r_3.1).bind fun (r_10 : Str × Int) => ((pcurve_Add r_9.1 r_7.1).bind fun (r_11 : Str × Int) => ((pcurve_Add r_5.1 r_7.1).bind fun (r_12 : Str × Int) => ((pcurve_Add r_3.1 r_12.1).bind fun (r_13 : Str × Int) => (if (List.replicate 32 0#8).length = 32 then (if 33 ≤ (r_5.1).length then ((halberdref9_Calc 1 0 (List.replicate 32 0#8) (sub r_5.1 33 ((r_5.1).length))).bind fun (r_14 : Str × Int) => (if 33 ≤ (r_5.1).length then (if (sub r_5.1 0 33).length + (r_14.1).length ≤ 4611686018427387904 then ((pcurve_Add r_9.1 ((sub r_5.1 0 33) ++ r_14.1)).bind fun (r_15 : Str × Int) => (if 33 ≤ (r_5.1).length then (if (sub r_5.1 0 33).length + (r_14.1).length ≤ 4611686018427387904 then ((pcurve_Add r_5.1 ((sub r_5.1 0 33) ++ r_14.1)).bind fun (r_16 : Str × Int) => (if r_9.1 = r_10.1 then (if r_11.1 = r_13.1 then ((halberdlaw0_Num r_13.2).bind fun (r_17 : Int) => (if r_17 = 0 then (if r_15.1 = r_3.1 then ((halberdlaw0_Num r_15.2).bind fun (r_18 : Int) => (if r_18 = 0 then ((halberdlaw0_Num r_16.2).bind fun (r_19 : Int) => (ltt (decide (r_19 = 1100)) fun (x1 : Bool) => (some x1))) else (some false))) else (some false)) else (some false))) else (some false)) else (some false))) else none) else none)) else none) else none)) else none) else none))))))))))))))))
set_option maxHeartbeats 4000000 in
set_option maxRecDepth 20000 in
theorem F6_calls (x : Int) (y : Int) (z : Int) (r : Bool) (H : halberdlaw11_PcurveRow x y z = some r) :
  Does Try.prog 6 [vi x, vi y, vi z] [] [] (Γ := Unit) (fun g => vb r) (fun g => []) := by
 intro w hmem hro hd
 refine calls_of (N := 154) (m0 := [(0, vi x), (1, vi y), (2, vi z)]) Try.func6 rfl Try.ntmps6 (argM_ok [vi x, vi y, vi z]) rfl hmem hro hd ?_
 unfold halberdlaw11_PcurveRow at H
 refine TC_seq ?_
 refine TC_region ?_
 refine TLv (V_assign rfl) ?_
 refine TL_nil ?_
 refine TX_next ?_
 refine TC_seq ?_
 refine TC_seq ?_
 refine TC_region ?_
 obtain ⟨r_1, hr_1, H⟩ := bind_elim H
 refine TLe (E_c0 (F22_calls r_1 hr_1) Try.call22 .z) (fun g_1 => ?_)
 refine TLv (V_un rfl (fun w => notB w r_1)) ?_
 refine TL_nil ?_
 refine TX_next ?_
 refine TC_cond (b := (!r_1)) rfl (fun hc => ?_) (fun hc => ?_)
 ·replace H := ite_t hc H
  refine TC_seq ?_
  refine TC_region ?_
  refine TLv (V_assign rfl) ?_
  refine TL_nil ?_
  refine TX_next ?_
  refine TC_ret ?_
  refine TX_then_ret ?_
  have hrv := Option.some.inj H
  subst hrv
  exact TX_ret (rs := [.tmp 6]) (vs := [vb false]) rfl ⟨rfl, trivial⟩ (fun w' hs' => ⟨(), rfl, Step.left (Step.pulled (is := []) (A := []) hs' rfl)⟩)
 ·replace H := ite_f (Bool.eq_false_iff.1 hc) H
  refine TC_skip ?_
  refine TX_next ?_
  refine TC_seq ?_
  refine TC_region ?_
  refine TLv (V_move rfl) ?_
  refine TLv (V_bin rfl rfl (fun w => andI w x 1048575)) ?_
  obtain ⟨r_2, hr_2, H⟩ := bind_elim H
  refine TLe (E_c0 (F23_calls (iop (· &&& ·) x 1048575) r_2 hr_2) Try.call23 .z) (fun g_2 => ?_)
  obtain ⟨r_3, hr_3, H⟩ := bind_elim H
  refine TLe (E_c0 (F13_calls r_2 r_3 hr_3) Try.call13 .z) (fun g_3 => ?_)
  refine TLv (V_move rfl) ?_
  refine TLv V_ex ?_
  refine TLv V_ex ?_
  refine TLv (V_assign rfl) ?_
  refine TLv (V_assign rfl) ?_
  refine TL_nil ?_
  refine TX_next ?_
  refine TC_seq ?_
  refine TC_region ?_
  refine TLv (V_move rfl) ?_
  refine TLv (V_bin rfl rfl (fun w => andI w y 1048575)) ?_
  obtain ⟨r_4, hr_4, H⟩ := bind_elim H
  refine TLe (E_c0 (F23_calls (iop (· &&& ·) y 1048575) r_4 hr_4) Try.call23 .z) (fun g_4 => ?_)
  obtain ⟨r_5, hr_5, H⟩ := bind_elim H
  refine TLe (E_c0 (F13_calls r_4 r_5 hr_5) Try.call13 .z) (fun g_5 => ?_)
  refine TLv (V_move rfl) ?_
  refine TLv V_ex ?_
  refine TLv V_ex ?_
  refine TLv (V_assign rfl) ?_
  refine TLv (V_assign rfl) ?_
  refine TL_nil ?_
  refine TX_next ?_
  refine TC_seq ?_
  refine TC_region ?_
  refine TLv (V_move rfl) ?_
  refine TLv (V_bin rfl rfl (fun w => andI w z 1048575)) ?_
  obtain ⟨r_6, hr_6, H⟩ := bind_elim H
  refine TLe (E_c0 (F23_calls (iop (· &&& ·) z 1048575) r_6 hr_6) Try.call23 .z) (fun g_6 => ?_)
  obtain ⟨r_7, hr_7, H⟩ := bind_elim H
  refine TLe (E_c0 (F13_calls r_6 r_7 hr_7) Try.call13 .z) (fun g_7 => ?_)
  refine TLv (V_move rfl) ?_
  refine TLv V_ex ?_
  refine TLv V_ex ?_
  refine TLv (V_assign rfl) ?_
  refine TLv (V_assign rfl) ?_
  refine TL_nil ?_
  refine TX_next ?_
  refine TC.sub (m' := [(7, vs r_3.1), (8, vi r_3.2), (9, vs r_5.1), (10, vi r_5.2), (11, vs r_7.1), (12, vi r_7.2)]) ⟨rfl, rfl, rfl, rfl, rfl, rfl, trivial⟩ ?_
  refine TC.pull (is := []) (L' := []) rfl ?_
  refine TC_seq ?_
  refine TC_seq ?_
  refine TC_region ?_
  refine TLv (V_move rfl) ?_
  obtain ⟨r_8, hr_8, H⟩ := bind_elim H
  refine TLe (E_c0 (F20_calls r_3.2 r_8 hr_8) Try.call20 .z) (fun g_8 => ?_)
  refine TLv (V_bin rfl rfl (fun w => neqI w r_8 0)) ?_
  refine TLv (V_move rfl) ?_
  obtain ⟨j1, Hj, H⟩ := bind_elim H
  refine TL_join (Γ := Unit) (fun gj1 => [(7, vs r_3.1), (9, vs r_5.1), (11, vs r_7.1), (69, vb j1)]) (fun gj1 => []) ?_ ?_
  ·intro gj1
   refine TX_next ?_
   refine TC_cond (b := j1) rfl (fun hc => ?_) (fun hc => ?_)
   ·replace H := ite_t hc H
    refine TC_seq ?_
    refine TC_region ?_
    refine TLv (V_assign rfl) ?_
    refine TL_nil ?_
    refine TX_next ?_
    refine TC_ret ?_
    refine TX_then_ret ?_
    have hrv := Option.some.inj H
    subst hrv
    exact TX_ret (rs := [.tmp 6]) (vs := [vb false]) rfl ⟨rfl, trivial⟩ (fun w' hs' => ⟨(), rfl, Step.left (Step.pulled (is := []) (A := []) hs' rfl)⟩)
   ·replace H := ite_f (Bool.eq_false_iff.1 hc) H
    refine TC_skip ?_
    refine TX_next ?_
    refine TC_seq ?_
    refine TC_region ?_
    refine TLv (V_move rfl) ?_
    refine TLv (V_move rfl) ?_
    obtain ⟨r_9, hr_9, H⟩ := bind_elim H
    refine TLe (E_c0 (F17_calls r_3.1 r_5.1 r_9 hr_9) Try.call17 .z) (fun g_9 => ?_)
    refine TLv (V_move rfl) ?_
    refine TLv V_ex ?_
    refine TLv V_ex ?_
    refine TLv (V_assign rfl) ?_
    refine TLv (V_assign rfl) ?_
    refine TL_nil ?_
    refine TX_next ?_
    refine TC_seq ?_
    refine TC_region ?_
    refine TLv (V_move rfl) ?_
    refine TLv (V_move rfl) ?_
    obtain ⟨r_10, hr_10, H⟩ := bind_elim H
    refine TLe (E_c0 (F17_calls r_5.1 r_3.1 r_10 hr_10) Try.call17 .z) (fun g_10 => ?_)
    refine TLv (V_move rfl) ?_
    refine TLv V_ex ?_
    refine TLv V_ex ?_
    refine TLv (V_assign rfl) ?_
    refine TLv (V_assign rfl) ?_
    refine TL_nil ?_
    refine TX_next ?_
    refine TC_seq ?_
    refine TC_region ?_
    refine TLv (V_move rfl) ?_
    refine TLv (V_move rfl) ?_
    obtain ⟨r_11, hr_11, H⟩ := bind_elim H
    refine TLe (E_c0 (F17_calls r_9.1 r_7.1 r_11 hr_11) Try.call17 .z) (fun g_11 => ?_)
    refine TLv (V_move rfl) ?_
    refine TLv V_ex ?_
    refine TLv V_ex ?_
    refine TLv (V_assign rfl) ?_
    refine TLv (V_assign rfl) ?_
    refine TL_nil ?_
    refine TX_next ?_
    refine TC_seq ?_
    refine TC_region ?_
    refine TLv (V_move rfl) ?_
    refine TLv (V_move rfl) ?_
    obtain ⟨r_12, hr_12, H⟩ := bind_elim H
    refine TLe (E_c0 (F17_calls r_5.1 r_7.1 r_12 hr_12) Try.call17 .z) (fun g_12 => ?_)
    refine TLv (V_move rfl) ?_
    refine TLv V_ex ?_
    refine TLv V_ex ?_
    refine TLv (V_assign rfl) ?_
    refine TLv (V_assign rfl) ?_
    refine TL_nil ?_
    refine TX_next ?_
    refine TC.sub (m' := [(7, vs r_3.1), (9, vs r_5.1), (13, vs r_9.1), (15, vs r_10.1), (17, vs r_11.1), (19, vs r_12.1)]) ⟨rfl, rfl, rfl, rfl, rfl, rfl, trivial⟩ ?_
    refine TC.pull (is := []) (L' := []) rfl ?_
    refine TC_seq ?_
    refine TC_region ?_
    refine TLv (V_move rfl) ?_
    refine TLv (V_move rfl) ?_
    obtain ⟨r_13, hr_13, H⟩ := bind_elim H
    refine TLe (E_c0 (F17_calls r_3.1 r_12.1 r_13 hr_13) Try.call17 .z) (fun g_13 => ?_)
    refine TLv (V_move rfl) ?_
    refine TLv V_ex ?_
    refine TLv V_ex ?_
    refine TLv (V_assign rfl) ?_
    refine TLv (V_assign rfl) ?_
    refine TL_nil ?_
    refine TX_next ?_
    refine TC_seq ?_
    obtain ⟨h1, H⟩ := if_elim H
    obtain ⟨h2, H⟩ := if_elim H
    obtain ⟨r_14, hr_14, H⟩ := bind_elim H
    refine TA_begin [] 10 (by kernel_rfl) (N := 10) rfl ?_
    refine TA_mix (is := []) (done' := dn 10 1023) [⟨0, 101, fun b1 => sl (some (b1, 0)) 32 32, fun b1 => [⟨some (b1, 0), e8 (List.replicate 32 0#8)⟩], [], none⟩, ⟨1, 102, fun _ => vs (List.replicate 32 0#8), fun _ => [], [0], some 0⟩, itV 2 103 (vs r_5.1) [], itV 3 104 (vs (sub r_5.1 33 ((r_5.1).length))) [2], itV 4 105 (Value.tuple [vs r_14.1, vi r_14.2].toArray) [3, 1], itV 5 100 (Value.tuple [vs r_14.1, vi r_14.2].toArray) [4], itV 6 106 (vs r_14.1) [5], itV 7 107 (vi r_14.2) [5], itV 8 23 (vs r_14.1) [6], itV 9 24 (vi r_14.2) [7]] [] 0 (by kernel_rfl) (QP.then QP.body) (by kernel_rfl) rfl (.c rfl (fun _ _ => (E_mk1 rfl rfl Try.underlying42 TryI.inf5 (z := v8 0#8) rfl rfl rfl (B := 1) rfl (by decide) (Int.le_refl _) (by decide) (by decide) (n' := 32) (c' := 32) rfl rfl (cs := e8 (List.replicate 32 0#8)) (rep_map (f := v8)))) (.c rfl (fun _ _ => OpE_v (V_b2s rfl Try.underlying42 Try.underlying5 Try.underlying9 (.o 0) h1)) (.v rfl (V_move rfl) (.v rfl (V_sliceStr (l := 33) (h := (r_5.1).length) rfl Try.underlying9 (Bnd.some' (i := 33) rfl (by decide)) Bnd.none' h2 (Nat.le_refl _)) (.e rfl (E_cu (F24_calls 1 0 (List.replicate 32 0#8) (sub r_5.1 33 ((r_5.1).length)) r_14 hr_14) Try.call24 .z) (.v rfl (V_move rfl) (.v rfl V_ex (.v rfl V_ex (.v rfl (V_assign rfl) (.v rfl (V_assign rfl) .nil)))))))))) .nil (by kernel_rfl) rfl (fun γ => ?_)
    refine TA_cut [(23, vs r_14.1), (22, vi r_13.2), (21, vs r_13.1), (7, vs r_3.1), (9, vs r_5.1), (13, vs r_9.1), (15, vs r_10.1), (17, vs r_11.1)] [⟨some ((γ 0), 0), e8 (List.replicate 32 0#8)⟩] ⟨rfl, rfl, rfl, rfl, rfl, rfl, rfl, rfl, trivial⟩ rfl ?_
    generalize γ 0 = b1
    refine TA_done (by kernel_rfl) ?_ 0
    refine TX_next ?_
    refine TC_seq ?_
    refine TC_region ?_
    refine TLv (V_move rfl) ?_
    refine TLv (V_move rfl) ?_
    obtain ⟨h3, H⟩ := if_elim H
    refine TLv (V_sliceStr (l := 0) (h := 33) rfl Try.underlying9 Bnd.none' (Bnd.some' (i := 33) rfl (by decide)) (Nat.zero_le _) h3) ?_
    refine TLv (V_move rfl) ?_
    obtain ⟨h4, H⟩ := if_elim H
    refine TLv (V_bin rfl rfl (fun w => addS w (sub r_5.1 0 33) r_14.1 h4)) ?_
    obtain ⟨r_15, hr_15, H⟩ := bind_elim H
    refine TLe (E_c0 (F17_calls r_9.1 ((sub r_5.1 0 33) ++ r_14.1) r_15 hr_15) Try.call17 .z) (fun g_15 => ?_)
    refine TLv (V_move rfl) ?_
    refine TLv V_ex ?_
    refine TLv V_ex ?_
    refine TLv (V_assign rfl) ?_
    refine TLv (V_assign rfl) ?_
    refine TL_nil ?_
    refine TX_next ?_
    refine TC_seq ?_
    refine TC_region ?_
    refine TLv (V_move rfl) ?_
    refine TLv (V_move rfl) ?_
    obtain ⟨h5, H⟩ := if_elim H
    refine TLv (V_sliceStr (l := 0) (h := 33) rfl Try.underlying9 Bnd.none' (Bnd.some' (i := 33) rfl (by decide)) (Nat.zero_le _) h5) ?_
    refine TLv (V_move rfl) ?_
    obtain ⟨h6, H⟩ := if_elim H
    refine TLv (V_bin rfl rfl (fun w => addS w (sub r_5.1 0 33) r_14.1 h6)) ?_
    obtain ⟨r_16, hr_16, H⟩ := bind_elim H
    refine TLe (E_c0 (F17_calls r_5.1 ((sub r_5.1 0 33) ++ r_14.1) r_16 hr_16) Try.call17 .z) (fun g_16 => ?_)
    refine TLv (V_move rfl) ?_
    refine TLv V_ex ?_
    refine TLv V_ex ?_
    refine TLv (V_assign rfl) ?_
    refine TLv (V_assign rfl) ?_
    refine TL_nil ?_
    refine TX_next ?_
    refine TC_seq ?_
    refine TC_region ?_
    refine TLv (V_move rfl) ?_
    refine TLv (V_move rfl) ?_
    refine TLv (V_bin rfl rfl (fun w => eqlS w r_9.1 r_10.1)) ?_
    refine TLv (V_move rfl) ?_
    refine TL_fork (d := 129) (b := (decide (r_9.1 = r_10.1))) rfl (fun hc => ?_) (fun hc => ?_)
    ·replace H := ite_t (of_decide_eq_true hc) H
     refine TL_want rfl rfl rfl rfl rfl rfl (V_move rfl) ?_
     refine TL_want rfl rfl rfl rfl rfl rfl (V_move rfl) ?_
     refine TL_want rfl rfl rfl rfl rfl rfl (V_bin rfl rfl (fun w => eqlS w r_11.1 r_13.1)) ?_
     refine TLv (V_pick (b := true) rfl rfl) ?_
     refine TLv (V_move rfl) ?_
     refine TL_fork (d := 134) (b := (decide (r_11.1 = r_13.1))) rfl (fun hc => ?_) (fun hc => ?_)
     ·replace H := ite_t (of_decide_eq_true hc) H
      refine TL_want rfl rfl rfl rfl rfl rfl (V_move rfl) ?_
      obtain ⟨r_17, hr_17, H⟩ := bind_elim H
      refine TL_wantE rfl rfl rfl rfl rfl rfl (E_c0 (F20_calls r_13.2 r_17 hr_17) Try.call20 .z) (fun g_17 => ?_)
      refine TL_want rfl rfl rfl rfl rfl rfl (V_bin rfl rfl (fun w => eqlI w r_17 0)) ?_
      refine TLv (V_pick (b := true) rfl rfl) ?_
      refine TLv (V_move rfl) ?_
      refine TL_fork (d := 139) (b := (decide (r_17 = 0))) rfl (fun hc => ?_) (fun hc => ?_)
      ·replace H := ite_t (of_decide_eq_true hc) H
       refine TL_want rfl rfl rfl rfl rfl rfl (V_move rfl) ?_
       refine TL_want rfl rfl rfl rfl rfl rfl (V_move rfl) ?_
       refine TL_want rfl rfl rfl rfl rfl rfl (V_bin rfl rfl (fun w => eqlS w r_15.1 r_3.1)) ?_
       refine TLv (V_pick (b := true) rfl rfl) ?_
       refine TLv (V_move rfl) ?_
       refine TL_fork (d := 144) (b := (decide (r_15.1 = r_3.1))) rfl (fun hc => ?_) (fun hc => ?_)
       ·replace H := ite_t (of_decide_eq_true hc) H
        refine TL_want rfl rfl rfl rfl rfl rfl (V_move rfl) ?_
        obtain ⟨r_18, hr_18, H⟩ := bind_elim H
        refine TL_wantE rfl rfl rfl rfl rfl rfl (E_c0 (F20_calls r_15.2 r_18 hr_18) Try.call20 .z) (fun g_18 => ?_)
        refine TL_want rfl rfl rfl rfl rfl rfl (V_bin rfl rfl (fun w => eqlI w r_18 0)) ?_
        refine TLv (V_pick (b := true) rfl rfl) ?_
        refine TLv (V_move rfl) ?_
        refine TL_fork (d := 149) (b := (decide (r_18 = 0))) rfl (fun hc => ?_) (fun hc => ?_)
        ·replace H := ite_t (of_decide_eq_true hc) H
         refine TL_want rfl rfl rfl rfl rfl rfl (V_move rfl) ?_
         obtain ⟨r_19, hr_19, H⟩ := bind_elim H
         refine TL_wantE rfl rfl rfl rfl rfl rfl (E_c0 (F20_calls r_16.2 r_19 hr_19) Try.call20 .z) (fun g_19 => ?_)
         refine TL_want rfl rfl rfl rfl rfl rfl (V_bin rfl rfl (fun w => eqlI w r_19 1100)) ?_
         refine TLv (V_pick (b := true) rfl rfl) ?_
         refine TLv (V_assign rfl) ?_
         obtain ⟨x1, hx1, H⟩ := ltt_elim H
         refine TL_re (d := 6) (v := vb (decide (r_19 = 1100))) (v' := vb x1) rfl (congrArg vb hx1) ?_
         refine TL_nil ?_
         refine TX_next ?_
         refine TC.sub (m' := [(6, vb x1)]) ⟨rfl, trivial⟩ ?_
         refine TC.pull (is := []) (L' := []) rfl ?_
         refine TC_ret ?_
         have hrv := Option.some.inj H
         subst hrv
         exact TX_ret (rs := [.tmp 6]) (vs := [vb x1]) rfl ⟨rfl, trivial⟩ (fun w' hs' => ⟨(), rfl, Step.left (Step.pulled (is := []) (A := []) hs' rfl)⟩)
        ·replace H := ite_f (of_decide_eq_false hc) H
         refine TL_skip rfl rfl rfl rfl rfl rfl rfl ?_
         refine TL_skip rfl rfl rfl rfl rfl rfl rfl ?_
         refine TL_skip rfl rfl rfl rfl rfl rfl rfl ?_
         refine TLv (V_pick (b := false) rfl rfl) ?_
         refine TLv (V_assign rfl) ?_
         refine TL_nil ?_
         refine TX_next ?_
         refine TC.sub (m' := [(6, vb false)]) ⟨rfl, trivial⟩ ?_
         refine TC.pull (is := []) (L' := []) rfl ?_
         refine TC_ret ?_
         have hrv := Option.some.inj H
         subst hrv
         exact TX_ret (rs := [.tmp 6]) (vs := [vb false]) rfl ⟨rfl, trivial⟩ (fun w' hs' => ⟨(), rfl, Step.left (Step.pulled (is := []) (A := []) hs' rfl)⟩)
       ·replace H := ite_f (of_decide_eq_false hc) H
        refine TL_skip rfl rfl rfl rfl rfl rfl rfl ?_
        refine TL_skip rfl rfl rfl rfl rfl rfl rfl ?_
        refine TL_skip rfl rfl rfl rfl rfl rfl rfl ?_
        refine TLv (V_pick (b := false) rfl rfl) ?_
        refine TLv (V_move rfl) ?_
        refine TL_skip rfl rfl rfl rfl rfl rfl rfl ?_
        refine TL_skip rfl rfl rfl rfl rfl rfl rfl ?_
        refine TL_skip rfl rfl rfl rfl rfl rfl rfl ?_
        refine TLv (V_pick (b := false) rfl rfl) ?_
        refine TLv (V_assign rfl) ?_
        refine TL_nil ?_
        refine TX_next ?_
        refine TC.sub (m' := [(6, vb false)]) ⟨rfl, trivial⟩ ?_
        refine TC.pull (is := []) (L' := []) rfl ?_
        refine TC_ret ?_
        have hrv := Option.some.inj H
        subst hrv
        exact TX_ret (rs := [.tmp 6]) (vs := [vb false]) rfl ⟨rfl, trivial⟩ (fun w' hs' => ⟨(), rfl, Step.left (Step.pulled (is := []) (A := []) hs' rfl)⟩)
      ·replace H := ite_f (of_decide_eq_false hc) H
       refine TL_skip rfl rfl rfl rfl rfl rfl rfl ?_
       refine TL_skip rfl rfl rfl rfl rfl rfl rfl ?_
       refine TL_skip rfl rfl rfl rfl rfl rfl rfl ?_
       refine TLv (V_pick (b := false) rfl rfl) ?_
       refine TLv (V_move rfl) ?_
       refine TL_skip rfl rfl rfl rfl rfl rfl rfl ?_
       refine TL_skip rfl rfl rfl rfl rfl rfl rfl ?_
       refine TL_skip rfl rfl rfl rfl rfl rfl rfl ?_
       refine TLv (V_pick (b := false) rfl rfl) ?_
       refine TLv (V_move rfl) ?_
       refine TL_skip rfl rfl rfl rfl rfl rfl rfl ?_
       refine TL_skip rfl rfl rfl rfl rfl rfl rfl ?_
       refine TL_skip rfl rfl rfl rfl rfl rfl rfl ?_
       refine TLv (V_pick (b := false) rfl rfl) ?_
       refine TLv (V_assign rfl) ?_
       refine TL_nil ?_
       refine TX_next ?_
       refine TC.sub (m' := [(6, vb false)]) ⟨rfl, trivial⟩ ?_
       refine TC.pull (is := []) (L' := []) rfl ?_
       refine TC_ret ?_
       have hrv := Option.some.inj H
       subst hrv
       exact TX_ret (rs := [.tmp 6]) (vs := [vb false]) rfl ⟨rfl, trivial⟩ (fun w' hs' => ⟨(), rfl, Step.left (Step.pulled (is := []) (A := []) hs' rfl)⟩)
     ·replace H := ite_f (of_decide_eq_false hc) H
      refine TL_skip rfl rfl rfl rfl rfl rfl rfl ?_
      refine TL_skip rfl rfl rfl rfl rfl rfl rfl ?_
      refine TL_skip rfl rfl rfl rfl rfl rfl rfl ?_
      refine TLv (V_pick (b := false) rfl rfl) ?_
      refine TLv (V_move rfl) ?_
      refine TL_skip rfl rfl rfl rfl rfl rfl rfl ?_
      refine TL_skip rfl rfl rfl rfl rfl rfl rfl ?_
      refine TL_skip rfl rfl rfl rfl rfl rfl rfl ?_
      refine TLv (V_pick (b := false) rfl rfl) ?_
      refine TLv (V_move rfl) ?_
      refine TL_skip rfl rfl rfl rfl rfl rfl rfl ?_
      refine TL_skip rfl rfl rfl rfl rfl rfl rfl ?_
      refine TL_skip rfl rfl rfl rfl rfl rfl rfl ?_
      refine TLv (V_pick (b := false) rfl rfl) ?_
      refine TLv (V_move rfl) ?_
      refine TL_skip rfl rfl rfl rfl rfl rfl rfl ?_
      refine TL_skip rfl rfl rfl rfl rfl rfl rfl ?_
      refine TL_skip rfl rfl rfl rfl rfl rfl rfl ?_
      refine TLv (V_pick (b := false) rfl rfl) ?_
      refine TLv (V_assign rfl) ?_
      refine TL_nil ?_
      refine TX_next ?_
      refine TC.sub (m' := [(6, vb false)]) ⟨rfl, trivial⟩ ?_
      refine TC.pull (is := []) (L' := []) rfl ?_
      refine TC_ret ?_
      have hrv := Option.some.inj H
      subst hrv
      exact TX_ret (rs := [.tmp 6]) (vs := [vb false]) rfl ⟨rfl, trivial⟩ (fun w' hs' => ⟨(), rfl, Step.left (Step.pulled (is := []) (A := []) hs' rfl)⟩)
    ·replace H := ite_f (of_decide_eq_false hc) H
     refine TL_skip rfl rfl rfl rfl rfl rfl rfl ?_
     refine TL_skip rfl rfl rfl rfl rfl rfl rfl ?_
     refine TL_skip rfl rfl rfl rfl rfl rfl rfl ?_
     refine TLv (V_pick (b := false) rfl rfl) ?_
     refine TLv (V_move rfl) ?_
     refine TL_skip rfl rfl rfl rfl rfl rfl rfl ?_
     refine TL_skip rfl rfl rfl rfl rfl rfl rfl ?_
     refine TL_skip rfl rfl rfl rfl rfl rfl rfl ?_
     refine TLv (V_pick (b := false) rfl rfl) ?_
     refine TLv (V_move rfl) ?_
     refine TL_skip rfl rfl rfl rfl rfl rfl rfl ?_
     refine TL_skip rfl rfl rfl rfl rfl rfl rfl ?_
     refine TL_skip rfl rfl rfl rfl rfl rfl rfl ?_
     refine TLv (V_pick (b := false) rfl rfl) ?_
     refine TLv (V_move rfl) ?_
     refine TL_skip rfl rfl rfl rfl rfl rfl rfl ?_
     refine TL_skip rfl rfl rfl rfl rfl rfl rfl ?_
     refine TL_skip rfl rfl rfl rfl rfl rfl rfl ?_
     refine TLv (V_pick (b := false) rfl rfl) ?_
     refine TLv (V_move rfl) ?_
     refine TL_skip rfl rfl rfl rfl rfl rfl rfl ?_
     refine TL_skip rfl rfl rfl rfl rfl rfl rfl ?_
     refine TL_skip rfl rfl rfl rfl rfl rfl rfl ?_
     refine TLv (V_pick (b := false) rfl rfl) ?_
     refine TLv (V_assign rfl) ?_
     refine TL_nil ?_
     refine TX_next ?_
     refine TC.sub (m' := [(6, vb false)]) ⟨rfl, trivial⟩ ?_
     refine TC.pull (is := []) (L' := []) rfl ?_
     refine TC_ret ?_
     have hrv := Option.some.inj H
     subst hrv
     exact TX_ret (rs := [.tmp 6]) (vs := [vb false]) rfl ⟨rfl, trivial⟩ (fun w' hs' => ⟨(), rfl, Step.left (Step.pulled (is := []) (A := []) hs' rfl)⟩)
  ·intro hJ
   replace H := Hj
   refine TL_fork (d := 55) (b := (decide (r_8 ≠ 0))) rfl (fun hc => ?_) (fun hc => ?_)
   ·replace H := ite_t (of_decide_eq_true hc) H
    refine TL_skip rfl rfl rfl rfl rfl rfl rfl ?_
    refine TL_skip rfl rfl rfl rfl rfl rfl rfl ?_
    refine TL_skip rfl rfl rfl rfl rfl rfl rfl ?_
    refine TLv (V_pick (b := true) rfl rfl) ?_
    refine TLv (V_move rfl) ?_
    refine TL_skip rfl rfl rfl rfl rfl rfl rfl ?_
    refine TL_skip rfl rfl rfl rfl rfl rfl rfl ?_
    refine TL_skip rfl rfl rfl rfl rfl rfl rfl ?_
    refine TLv (V_pick (b := true) rfl rfl) ?_
    refine TLv (V_move rfl) ?_
    refine TL_skip rfl rfl rfl rfl rfl rfl rfl ?_
    refine TL_skip rfl rfl rfl rfl rfl rfl rfl ?_
    refine TL_skip rfl rfl rfl rfl rfl rfl rfl ?_
    refine TLv (V_pick (b := true) rfl rfl) ?_
    refine TL_nil ?_
    refine TX.sub (m' := [(7, vs r_3.1), (9, vs r_5.1), (11, vs r_7.1), (69, vb true)]) ⟨rfl, rfl, rfl, rfl, trivial⟩ ?_
    refine TX.pull (is := []) (L' := []) rfl ?_
    obtain rfl := Option.some.inj H
    exact hJ ()
   ·replace H := ite_f (of_decide_eq_false hc) H
    refine TL_want rfl rfl rfl rfl rfl rfl (V_move rfl) ?_
    obtain ⟨r_20, hr_20, H⟩ := bind_elim H
    refine TL_wantE rfl rfl rfl rfl rfl rfl (E_c0 (F20_calls r_5.2 r_20 hr_20) Try.call20 .z) (fun g_20 => ?_)
    refine TL_want rfl rfl rfl rfl rfl rfl (V_bin rfl rfl (fun w => neqI w r_20 0)) ?_
    refine TLv (V_pick (b := false) rfl rfl) ?_
    refine TLv (V_move rfl) ?_
    refine TL_fork (d := 60) (b := (decide (r_20 ≠ 0))) rfl (fun hc => ?_) (fun hc => ?_)
    ·replace H := ite_t (of_decide_eq_true hc) H
     refine TL_skip rfl rfl rfl rfl rfl rfl rfl ?_
     refine TL_skip rfl rfl rfl rfl rfl rfl rfl ?_
     refine TL_skip rfl rfl rfl rfl rfl rfl rfl ?_
     refine TLv (V_pick (b := true) rfl rfl) ?_
     refine TLv (V_move rfl) ?_
     refine TL_skip rfl rfl rfl rfl rfl rfl rfl ?_
     refine TL_skip rfl rfl rfl rfl rfl rfl rfl ?_
     refine TL_skip rfl rfl rfl rfl rfl rfl rfl ?_
     refine TLv (V_pick (b := true) rfl rfl) ?_
     refine TL_nil ?_
     refine TX.sub (m' := [(7, vs r_3.1), (9, vs r_5.1), (11, vs r_7.1), (69, vb true)]) ⟨rfl, rfl, rfl, rfl, trivial⟩ ?_
     refine TX.pull (is := []) (L' := []) rfl ?_
     obtain rfl := Option.some.inj H
     exact hJ ()
    ·replace H := ite_f (of_decide_eq_false hc) H
     refine TL_want rfl rfl rfl rfl rfl rfl (V_move rfl) ?_
     obtain ⟨r_21, hr_21, H⟩ := bind_elim H
     refine TL_wantE rfl rfl rfl rfl rfl rfl (E_c0 (F20_calls r_7.2 r_21 hr_21) Try.call20 .z) (fun g_21 => ?_)
     refine TL_want rfl rfl rfl rfl rfl rfl (V_bin rfl rfl (fun w => neqI w r_21 0)) ?_
     refine TLv (V_pick (b := false) rfl rfl) ?_
     refine TLv (V_move rfl) ?_
     refine TL_fork (d := 65) (b := (decide (r_21 ≠ 0))) rfl (fun hc => ?_) (fun hc => ?_)
     ·replace H := ite_t (of_decide_eq_true hc) H
      refine TL_skip rfl rfl rfl rfl rfl rfl rfl ?_
      refine TL_skip rfl rfl rfl rfl rfl rfl rfl ?_
      refine TL_skip rfl rfl rfl rfl rfl rfl rfl ?_
      refine TLv (V_pick (b := true) rfl rfl) ?_
      refine TL_nil ?_
      refine TX.sub (m' := [(7, vs r_3.1), (9, vs r_5.1), (11, vs r_7.1), (69, vb true)]) ⟨rfl, rfl, rfl, rfl, trivial⟩ ?_
      refine TX.pull (is := []) (L' := []) rfl ?_
      obtain rfl := Option.some.inj H
      exact hJ ()
     ·replace H := ite_f (of_decide_eq_false hc) H
      refine TL_want rfl rfl rfl rfl rfl rfl (V_move rfl) ?_
      refine TL_want rfl rfl rfl rfl rfl rfl (V_len_str rfl Try.underlying9) ?_
      refine TL_want rfl rfl rfl rfl rfl rfl (V_bin rfl rfl (fun w => neqI w ((r_5.1).length : Int) 65)) ?_
      refine TLv (V_pick (b := false) rfl rfl) ?_
      refine TL_nil ?_
      refine TX.sub (m' := [(7, vs r_3.1), (9, vs r_5.1), (11, vs r_7.1), (69, vb (decide (((r_5.1).length : Int) ≠ 65)))]) ⟨rfl, rfl, rfl, rfl, trivial⟩ ?_
      refine TX.pull (is := []) (L' := []) rfl ?_
      obtain rfl := Option.some.inj H
      exact hJ ()
end Go.Proofs
end

section
namespace Go.Kx
open Go Go.Proofs
open Go.Nt hiding n4
theorem encQ_head (q : Fp × Fp) : sub (encQ q) 0 33 = [4#8] ++ nb32 (toN q.1) := by
 show sub (([4#8] ++ nb32 (toN q.1)) ++ nb32 (toN q.2)) 0 33 = _
 have h33 : ([4#8] ++ nb32 (toN q.1)).length = 33 := by simp [nb32_len]
 rw [sub_app_l _ _ _ _ (by omega)]
 have := sub_all ([4#8] ++ nb32 (toN q.1))
 rwa [h33] at this
theorem neg_bytes {a : Nat} (h0 : 0 < a) (h1 : a < N256) : ∃ w, halberdref9_Calc 1 0 (nb32 0) (sub (encP (sG a)) 33 65) = some (w, 0) ∧ sub (encP (sG a)) 0 33 ++ w = encP (sG (N256 - a)) ∧ w.length = 32 := by
 obtain ⟨q, hq⟩ := sG_ne (mod_ne h0 h1)
 have hn : negP (sG a) = sG (N256 - a) := neg_sG (by omega)
 have hc := Calc_ex 1 0 Rd_P (by decide) (u := 0) (v := toN q.2) (by decide) (toN_lt _) (.inr rfl)
 rw [if_neg (by decide)] at hc
 refine ⟨nb32 ((0 + (P256 - toN q.2)) % P256), ?_, ?_, nb32_len _⟩
 ·rw [hq]
  show halberdref9_Calc 1 0 (nb32 0) (sub (encQ q) 33 65) = _
  rw [encQ_y]; exact hc
 ·rw [← hn, hq]
  show sub (encQ q) 0 33 ++ _ = encQ (q.1, -q.2)
  rw [encQ_head]
  have e : -q.2 = 0 - q.2 := by grind
  show _ = [4#8] ++ nb32 (toN q.1) ++ nb32 (toN (-q.2))
  rw [e, toN_sub, toN_0]
theorem PcurveRow_true (x y z : Int) : halberdlaw11_PcurveRow x y z = some true := by
 have hN := N_big
 have sc : ∀ x : Int, ∃ c, 0 < c ∧ c ≤ 1048576 ∧ halberdlaw11_Scalar (iop (· &&& ·) x 1048575) = some (nb32 c) := fun x => by
  have h := ScalarL_eq (iop (· &&& ·) x 1048575)
  have e : iop (· &&& ·) x 1048575 = x % 1048576 := and_maskP x 20 (by decide)
  have hb := scC_b (iop (· &&& ·) x 1048575)
  refine ⟨scC (iop (· &&& ·) x 1048575), hb.1, hb.2, ?_⟩
  have e2 : scN (iop (· &&& ·) x 1048575) = scC (iop (· &&& ·) x 1048575) := if_neg (by rw [e]; omega)
  rw [h, e2]
 obtain ⟨a, a0, a1, sa⟩ := sc x
 obtain ⟨b, b0, b1, sb⟩ := sc y
 obtain ⟨c, c0, c1, sc'⟩ := sc z
 have ma := mod_ne (c := a) a0 (by omega)
 have mb := mod_ne (c := b) b0 (by omega)
 have mc := mod_ne (c := c) c0 (by omega)
 have mab := mod_ne (c := a + b) (by omega) (by omega)
 have mba := mod_ne (c := b + a) (by omega) (by omega)
 have mbc := mod_ne (c := b + c) (by omega) (by omega)
 have mabc := mod_ne (c := a + b + c) (by omega) (by omega)
 have mabc' := mod_ne (c := a + (b + c)) (by omega) (by omega)
 have mn := mod_ne (c := N256 - b) (by omega) (by omega)
 have pa := Public_nb (c := a) a0 (by omega)
 have pb := Public_nb (c := b) b0 (by omega)
 have pc := Public_nb (c := c) c0 (by omega)
 have lb := encP_len mb
 obtain ⟨w, hw, ew, lw⟩ := neg_bytes (a := b) b0 (by omega)
 have eabn : a + b + (N256 - b) = a + N256 := by omega
 have habn : (a + b + (N256 - b)) % N256 ≠ 0 := by rw [eabn, Nat.add_mod_right]; exact ma
 have back := Add_nb mab mn habn
 have none_ := Add_nb0 mb mn (by rw [show b + (N256 - b) = N256 by omega, Nat.mod_self])
 have eback : sG (a + b + (N256 - b)) = sG a := by rw [eabn, ← sG_add, sG_ord, sum_none]
 rw [eback] at back
 unfold halberdlaw11_PcurveRow
 refine bind_i awake11 (if_n (by decide) (bind_i sa (bind_i pa (bind_i sb (bind_i pb (bind_i sc' (bind_i pc (bind_i (num0 _) (bind_i (v := false) ?_ (if_n (by decide) ?_))))))))))
 ·exact if_n (fun h => h rfl) (bind_i (num0 _) (if_n (fun h => h rfl) (bind_i (num0 _) (if_n (fun h => h rfl) (by simp [lb])))))
 ·refine bind_i (Add_nb ma mb mab) (bind_i (Add_nb mb ma mba) (bind_i (Add_nb mab mc mabc) (bind_i (Add_nb mb mc mbc) (bind_i (Add_nb ma mbc mabc') (if_i (by simp) (if_i (by dsimp only; omega) ?_))))))
  refine bind_i (v := (w, 0)) (by dsimp only; rw [lb, nb32_zero]; exact hw) (if_i (by dsimp only; omega) (if_i (by dsimp only; rw [sub_length (by omega), lw]; omega) ?_))
  refine bind_i (by dsimp only; rw [ew]; exact back) (if_i (by dsimp only; omega) (if_i (by dsimp only; rw [sub_length (by omega), lw]; omega) ?_))
  refine bind_i (by dsimp only; rw [ew]; exact none_) (if_i (by dsimp only; rw [Nat.add_comm b a]) (if_i (by dsimp only; rw [Nat.add_assoc]) ?_))
  exact bind_i (num0 _) (if_i rfl (if_i rfl (bind_i (num0 _) (if_i rfl (bind_i (num0 _) (by simp [ltt]))))))
end Go.Kx
end

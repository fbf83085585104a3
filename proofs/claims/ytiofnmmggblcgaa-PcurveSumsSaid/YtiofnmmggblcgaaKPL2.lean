/-
  Part KPL2 of the proofs of this seat: F4, PcL2.
-/
import Derived.Test.YtiofnmmggblcgaaK2
import Derived.Test.YtiofnmmggblcgaaKP4
import Derived.Test.YtiofnmmggblcgaaKP1
import Derived.Test.YtiofnmmggblcgaaKP3
set_option linter.unusedVariables false
set_option linter.unusedSimpArgs false
section
namespace Go.Proofs
open Go Go.Kx
def halberdlaw11_PcurveSums (x : Int) (y : Int) : Option (Bool) :=
 (halberdlaw11_awake).bind fun (r_1 : Bool) => (if (!r_1) = true then (some false) else ((halberdlaw11_Scalar x).bind fun (r_2 : Str) => ((halberdlaw11_Scalar y).bind fun (r_3 : Str) => ((halberdref9_Calc 0 1 r_2 r_3).bind fun (r_4 : Str × Int) => ((pcurve_Public r_2).bind fun (r_5 : Str × Int) => ((pcurve_Public r_3).bind fun (r_6 : Str × Int) => ((pcurve_Add r_5.1 r_6.1).bind fun (r_7 : Str × Int) => ((halberdlaw0_Num r_5.2).bind fun (r_8 : Int) => ((if r_8 ≠ 0 then (some true) else ((halberdlaw0_Num r_6.2).bind fun (r_18 : Int) => (if r_18 ≠ 0 then (some true) else ((pcurve_On r_5.1).bind fun (r_19 : Bool) => (if (!r_19) = true then (some true) else ((pcurve_On r_6.1).bind fun (r_20 : Bool) => (some (!r_20)))))))).bind fun (j1 : Bool) => (if j1 = true then (some false) else (if (List.replicate 32 0#8).length = 32 then (if r_4.1 = List.replicate 32 0#8 then ((halberdlaw0_Num r_7.2).bind fun (r_9 : Int) => ((if r_9 = 1100 then (ltt (decide (r_7.1 = ([] : Str))) fun (x1 : Bool) => (some x1)) else (some false)).bind fun (j2 : Bool) => (some j2))) else ((pcurve_Public r_4.1).bind fun (r_10 : Str × Int) => ((pcurve_Mul r_2 r_6.1).bind fun (r_11 : Str × Int) => ((pcurve_Mul r_3 r_5.1).bind fun (r_12 : Str × Int) => ((halberdlaw0_Num r_7.2).bind fun (r_13 : Int) => (if r_13 = 0 then ((halberdlaw0_Num r_10.2).bind fun (r_14 : Int) => (if r_14 = 0 then (if r_7.1 = r_10.1 then ((pcurve_On r_7.1).bind fun (r_15 : Bool) => (if r_15 = true then ((halberdlaw0_Num r_11.2).bind fun (r_16 : Int) => (if r_16 = 0 then ((halberdlaw0_Num r_12.2).bind fun (r_17 : Int) => (if r_17 = 0 then (ltt (decide (r_11.1 = r_12.1)) fun (x2 : Bool) => (some x2)) else (some false))) else (some false))) else (some false))) else (some false)) else (some false))) else (some false))))))) else none)))))))))))
set_option maxHeartbeats 4000000 in
set_option maxRecDepth 20000 in
theorem F4_calls (x : Int) (y : Int) (r : Bool) (H : halberdlaw11_PcurveSums x y = some r) :
  Does Try.prog 4 [vi x, vi y] [] [] (Γ := Unit) (fun g => vb r) (fun g => []) := by
 intro w hmem hro hd
 refine calls_of (N := 127) (m0 := [(0, vi x), (1, vi y)]) Try.func4 rfl Try.ntmps4 (argM_ok [vi x, vi y]) rfl hmem hro hd ?_
 unfold halberdlaw11_PcurveSums at H
 refine TC_seq ?_
 refine TC_region ?_
 refine TLv (V_assign rfl) ?_
 refine TL_nil ?_
 refine TX_next ?_
 refine TC_seq ?_
 refine TC_seq ?_
 refine TC_region ?_
 obtain ⟨r_1, hr_1, H⟩ := bind_elim H
 refine TLe (E_c0 (F22_calls r_1 hr_1) Try.call22 .z) (fun g_1 => ?_)
 refine TLv (V_un rfl (fun w => notB w r_1)) ?_
 refine TL_nil ?_
 refine TX_next ?_
 refine TC_cond (b := (!r_1)) rfl (fun hc => ?_) (fun hc => ?_)
 ·replace H := ite_t hc H
  refine TC_seq ?_
  refine TC_region ?_
  refine TLv (V_assign rfl) ?_
  refine TL_nil ?_
  refine TX_next ?_
  refine TC_ret ?_
  refine TX_then_ret ?_
  have hrv := Option.some.inj H
  subst hrv
  exact TX_ret (rs := [.tmp 4]) (vs := [vb false]) rfl ⟨rfl, trivial⟩ (fun w' hs' => ⟨(), rfl, Step.left (Step.pulled (is := []) (A := []) hs' rfl)⟩)
 ·replace H := ite_f (Bool.eq_false_iff.1 hc) H
  refine TC_skip ?_
  refine TX_next ?_
  refine TC_seq ?_
  refine TC_region ?_
  refine TLv (V_move rfl) ?_
  obtain ⟨r_2, hr_2, H⟩ := bind_elim H
  refine TLe (E_c0 (F23_calls x r_2 hr_2) Try.call23 .z) (fun g_2 => ?_)
  refine TLv (V_move rfl) ?_
  obtain ⟨r_3, hr_3, H⟩ := bind_elim H
  refine TLe (E_c0 (F23_calls y r_3 hr_3) Try.call23 .z) (fun g_3 => ?_)
  refine TLv (V_assign rfl) ?_
  refine TLv (V_assign rfl) ?_
  refine TL_nil ?_
  refine TX_next ?_
  refine TC_seq ?_
  refine TC_region ?_
  refine TLv (V_move rfl) ?_
  refine TLv (V_move rfl) ?_
  obtain ⟨r_4, hr_4, H⟩ := bind_elim H
  refine TLe (E_c0 (F24_calls 0 1 r_2 r_3 r_4 hr_4) Try.call24 .z) (fun g_4 => ?_)
  refine TLv (V_move rfl) ?_
  refine TLv V_ex ?_
  refine TLv V_ex ?_
  refine TLv (V_assign rfl) ?_
  refine TLv (V_assign rfl) ?_
  refine TL_nil ?_
  refine TX_next ?_
  refine TC_seq ?_
  refine TC_region ?_
  refine TLv (V_move rfl) ?_
  obtain ⟨r_5, hr_5, H⟩ := bind_elim H
  refine TLe (E_c0 (F13_calls r_2 r_5 hr_5) Try.call13 .z) (fun g_5 => ?_)
  refine TLv (V_move rfl) ?_
  refine TLv V_ex ?_
  refine TLv V_ex ?_
  refine TLv (V_assign rfl) ?_
  refine TLv (V_assign rfl) ?_
  refine TL_nil ?_
  refine TX_next ?_
  refine TC_seq ?_
  refine TC_region ?_
  refine TLv (V_move rfl) ?_
  obtain ⟨r_6, hr_6, H⟩ := bind_elim H
  refine TLe (E_c0 (F13_calls r_3 r_6 hr_6) Try.call13 .z) (fun g_6 => ?_)
  refine TLv (V_move rfl) ?_
  refine TLv V_ex ?_
  refine TLv V_ex ?_
  refine TLv (V_assign rfl) ?_
  refine TLv (V_assign rfl) ?_
  refine TL_nil ?_
  refine TX_next ?_
  refine TC.sub (m' := [(5, vs r_2), (6, vs r_3), (7, vs r_4.1), (9, vs r_5.1), (10, vi r_5.2), (11, vs r_6.1), (12, vi r_6.2)]) ⟨rfl, rfl, rfl, rfl, rfl, rfl, rfl, trivial⟩ ?_
  refine TC.pull (is := []) (L' := []) rfl ?_
  refine TC_seq ?_
  refine TC_region ?_
  refine TLv (V_move rfl) ?_
  refine TLv (V_move rfl) ?_
  obtain ⟨r_7, hr_7, H⟩ := bind_elim H
  refine TLe (E_c0 (F17_calls r_5.1 r_6.1 r_7 hr_7) Try.call17 .z) (fun g_7 => ?_)
  refine TLv (V_move rfl) ?_
  refine TLv V_ex ?_
  refine TLv V_ex ?_
  refine TLv (V_assign rfl) ?_
  refine TLv (V_assign rfl) ?_
  refine TL_nil ?_
  refine TX_next ?_
  refine TC_seq ?_
  refine TC_seq ?_
  refine TC_region ?_
  refine TLv (V_move rfl) ?_
  obtain ⟨r_8, hr_8, H⟩ := bind_elim H
  refine TLe (E_c0 (F20_calls r_5.2 r_8 hr_8) Try.call20 .z) (fun g_8 => ?_)
  refine TLv (V_bin rfl rfl (fun w => neqI w r_8 0)) ?_
  refine TLv (V_move rfl) ?_
  obtain ⟨j1, Hj, H⟩ := bind_elim H
  refine TL_join (Γ := Unit) (fun gj1 => [(5, vs r_2), (6, vs r_3), (7, vs r_4.1), (9, vs r_5.1), (11, vs r_6.1), (13, vs r_7.1), (14, vi r_7.2), (66, vb j1)]) (fun gj1 => []) ?_ ?_
  ·intro gj1
   refine TX_next ?_
   refine TC_cond (b := j1) rfl (fun hc => ?_) (fun hc => ?_)
   ·replace H := ite_t hc H
    refine TC_seq ?_
    refine TC_region ?_
    refine TLv (V_assign rfl) ?_
    refine TL_nil ?_
    refine TX_next ?_
    refine TC_ret ?_
    refine TX_then_ret ?_
    have hrv := Option.some.inj H
    subst hrv
    exact TX_ret (rs := [.tmp 4]) (vs := [vb false]) rfl ⟨rfl, trivial⟩ (fun w' hs' => ⟨(), rfl, Step.left (Step.pulled (is := []) (A := []) hs' rfl)⟩)
   ·replace H := ite_f (Bool.eq_false_iff.1 hc) H
    refine TC_skip ?_
    refine TX_next ?_
    refine TC_seq ?_
    refine TC_seq ?_
    refine TC_region ?_
    refine TLv (V_move rfl) ?_
    refine TLe (E_mk1 rfl rfl Try.underlying42 TryI.inf5 (z := v8 0#8) rfl rfl rfl (B := 1) rfl (by decide) (Int.le_refl _) (by decide) (by decide) (n' := 32) (c' := 32) rfl rfl (cs := e8 (List.replicate 32 0#8)) (rep_map (f := v8))) (fun b1 => ?_)
    obtain ⟨h1, H⟩ := if_elim H
    refine TLv (V_b2s rfl Try.underlying42 Try.underlying5 Try.underlying9 (.o 0) h1) ?_
    refine TLv (V_bin rfl rfl (fun w => eqlS w r_4.1 (List.replicate 32 0#8))) ?_
    refine TL_nil ?_
    refine TX_next ?_
    refine TC_cond (b := (decide (r_4.1 = List.replicate 32 0#8))) rfl (fun hc => ?_) (fun hc => ?_)
    ·replace H := ite_t (of_decide_eq_true hc) H
     refine TC_seq ?_
     refine TC_region ?_
     refine TLv (V_move rfl) ?_
     obtain ⟨r_9, hr_9, H⟩ := bind_elim H
     refine TLe (E_c0 (F20_calls r_7.2 r_9 hr_9) Try.call20 .z) (fun g_9 => ?_)
     refine TLv (V_bin rfl rfl (fun w => eqlI w r_9 1100)) ?_
     refine TLv (V_move rfl) ?_
     obtain ⟨j2, Hj, H⟩ := bind_elim H
     refine TL_join (Γ := Unit) (fun gj2 => [(4, vb j2)]) (fun gj2 => []) ?_ ?_
     ·intro gj2
      refine TX_next ?_
      refine TC_ret ?_
      refine TX_then_ret ?_
      have hrv := Option.some.inj H
      subst hrv
      exact TX_ret (rs := [.tmp 4]) (vs := [vb j2]) rfl ⟨rfl, trivial⟩ (fun w' hs' => ⟨(), rfl, Step.left (Step.pulled (is := []) (A := []) hs' rfl)⟩)
     ·intro hJ
      replace H := Hj
      refine TL_fork (d := 74) (b := (decide (r_9 = 1100))) rfl (fun hc => ?_) (fun hc => ?_)
      ·replace H := ite_t (of_decide_eq_true hc) H
       refine TL_want rfl rfl rfl rfl rfl rfl (V_move rfl) ?_
       refine TL_want rfl rfl rfl rfl rfl rfl (V_bin rfl rfl (fun w => eqlS w r_7.1 ([] : Str))) ?_
       refine TLv (V_pick (b := true) rfl rfl) ?_
       refine TLv (V_assign rfl) ?_
       obtain ⟨x1, hx1, H⟩ := ltt_elim H
       refine TL_re (d := 4) (v := vb (decide (r_7.1 = ([] : Str)))) (v' := vb x1) rfl (congrArg vb hx1) ?_
       refine TL_nil ?_
       refine TX.sub (m' := [(4, vb x1)]) ⟨rfl, trivial⟩ ?_
       refine TX.pull (is := []) (L' := []) rfl ?_
       obtain rfl := Option.some.inj H
       exact hJ ()
      ·replace H := ite_f (of_decide_eq_false hc) H
       refine TL_skip rfl rfl rfl rfl rfl rfl rfl ?_
       refine TL_skip rfl rfl rfl rfl rfl rfl rfl ?_
       refine TLv (V_pick (b := false) rfl rfl) ?_
       refine TLv (V_assign rfl) ?_
       refine TL_nil ?_
       refine TX.sub (m' := [(4, vb false)]) ⟨rfl, trivial⟩ ?_
       refine TX.pull (is := []) (L' := []) rfl ?_
       obtain rfl := Option.some.inj H
       exact hJ ()
    ·replace H := ite_f (of_decide_eq_false hc) H
     refine TC_skip ?_
     refine TX_next ?_
     refine TC_seq ?_
     refine TC_region ?_
     refine TLv (V_move rfl) ?_
     obtain ⟨r_10, hr_10, H⟩ := bind_elim H
     refine TLe (E_c0 (F13_calls r_4.1 r_10 hr_10) Try.call13 .z) (fun g_10 => ?_)
     refine TLv (V_move rfl) ?_
     refine TLv V_ex ?_
     refine TLv V_ex ?_
     refine TLv (V_assign rfl) ?_
     refine TLv (V_assign rfl) ?_
     refine TL_nil ?_
     refine TX_next ?_
     refine TC_seq ?_
     refine TC_region ?_
     refine TLv (V_move rfl) ?_
     refine TLv (V_move rfl) ?_
     obtain ⟨r_11, hr_11, H⟩ := bind_elim H
     refine TLe (E_c0 (F15_calls r_2 r_6.1 r_11 hr_11) Try.call15 .z) (fun g_11 => ?_)
     refine TLv (V_move rfl) ?_
     refine TLv V_ex ?_
     refine TLv V_ex ?_
     refine TLv (V_assign rfl) ?_
     refine TLv (V_assign rfl) ?_
     refine TL_nil ?_
     refine TX_next ?_
     refine TC_seq ?_
     refine TC_region ?_
     refine TLv (V_move rfl) ?_
     refine TLv (V_move rfl) ?_
     obtain ⟨r_12, hr_12, H⟩ := bind_elim H
     refine TLe (E_c0 (F15_calls r_3 r_5.1 r_12 hr_12) Try.call15 .z) (fun g_12 => ?_)
     refine TLv (V_move rfl) ?_
     refine TLv V_ex ?_
     refine TLv V_ex ?_
     refine TLv (V_assign rfl) ?_
     refine TLv (V_assign rfl) ?_
     refine TL_nil ?_
     refine TX_next ?_
     refine TC.sub (m' := [(13, vs r_7.1), (14, vi r_7.2), (15, vs r_10.1), (16, vi r_10.2), (17, vs r_11.1), (18, vi r_11.2), (19, vs r_12.1), (20, vi r_12.2)]) ⟨rfl, rfl, rfl, rfl, rfl, rfl, rfl, rfl, trivial⟩ ?_
     refine TC.pull (is := []) (L' := []) rfl ?_
     refine TC_seq ?_
     refine TC_region ?_
     refine TLv (V_move rfl) ?_
     obtain ⟨r_13, hr_13, H⟩ := bind_elim H
     refine TLe (E_c0 (F20_calls r_7.2 r_13 hr_13) Try.call20 .z) (fun g_13 => ?_)
     refine TLv (V_bin rfl rfl (fun w => eqlI w r_13 0)) ?_
     refine TLv (V_move rfl) ?_
     refine TL_fork (d := 98) (b := (decide (r_13 = 0))) rfl (fun hc => ?_) (fun hc => ?_)
     ·replace H := ite_t (of_decide_eq_true hc) H
      refine TL_want rfl rfl rfl rfl rfl rfl (V_move rfl) ?_
      obtain ⟨r_14, hr_14, H⟩ := bind_elim H
      refine TL_wantE rfl rfl rfl rfl rfl rfl (E_c0 (F20_calls r_10.2 r_14 hr_14) Try.call20 .z) (fun g_14 => ?_)
      refine TL_want rfl rfl rfl rfl rfl rfl (V_bin rfl rfl (fun w => eqlI w r_14 0)) ?_
      refine TLv (V_pick (b := true) rfl rfl) ?_
      refine TLv (V_move rfl) ?_
      refine TL_fork (d := 103) (b := (decide (r_14 = 0))) rfl (fun hc => ?_) (fun hc => ?_)
      ·replace H := ite_t (of_decide_eq_true hc) H
       refine TL_want rfl rfl rfl rfl rfl rfl (V_move rfl) ?_
       refine TL_want rfl rfl rfl rfl rfl rfl (V_move rfl) ?_
       refine TL_want rfl rfl rfl rfl rfl rfl (V_bin rfl rfl (fun w => eqlS w r_7.1 r_10.1)) ?_
       refine TLv (V_pick (b := true) rfl rfl) ?_
       refine TLv (V_move rfl) ?_
       refine TL_fork (d := 108) (b := (decide (r_7.1 = r_10.1))) rfl (fun hc => ?_) (fun hc => ?_)
       ·replace H := ite_t (of_decide_eq_true hc) H
        refine TL_want rfl rfl rfl rfl rfl rfl (V_move rfl) ?_
        obtain ⟨r_15, hr_15, H⟩ := bind_elim H
        refine TL_wantE rfl rfl rfl rfl rfl rfl (E_c0 (F21_calls r_7.1 r_15 hr_15) Try.call21 .z) (fun g_15 => ?_)
        refine TLv (V_pick (b := true) rfl rfl) ?_
        refine TLv (V_move rfl) ?_
        refine TL_fork (d := 112) (b := r_15) rfl (fun hc => ?_) (fun hc => ?_)
        ·replace H := ite_t hc H
         refine TL_want rfl rfl rfl rfl rfl rfl (V_move rfl) ?_
         obtain ⟨r_16, hr_16, H⟩ := bind_elim H
         refine TL_wantE rfl rfl rfl rfl rfl rfl (E_c0 (F20_calls r_11.2 r_16 hr_16) Try.call20 .z) (fun g_16 => ?_)
         refine TL_want rfl rfl rfl rfl rfl rfl (V_bin rfl rfl (fun w => eqlI w r_16 0)) ?_
         refine TLv (V_pick (b := true) rfl rfl) ?_
         refine TLv (V_move rfl) ?_
         refine TL_fork (d := 117) (b := (decide (r_16 = 0))) rfl (fun hc => ?_) (fun hc => ?_)
         ·replace H := ite_t (of_decide_eq_true hc) H
          refine TL_want rfl rfl rfl rfl rfl rfl (V_move rfl) ?_
          obtain ⟨r_17, hr_17, H⟩ := bind_elim H
          refine TL_wantE rfl rfl rfl rfl rfl rfl (E_c0 (F20_calls r_12.2 r_17 hr_17) Try.call20 .z) (fun g_17 => ?_)
          refine TL_want rfl rfl rfl rfl rfl rfl (V_bin rfl rfl (fun w => eqlI w r_17 0)) ?_
          refine TLv (V_pick (b := true) rfl rfl) ?_
          refine TLv (V_move rfl) ?_
          refine TL_fork (d := 122) (b := (decide (r_17 = 0))) rfl (fun hc => ?_) (fun hc => ?_)
          ·replace H := ite_t (of_decide_eq_true hc) H
           refine TL_want rfl rfl rfl rfl rfl rfl (V_move rfl) ?_
           refine TL_want rfl rfl rfl rfl rfl rfl (V_move rfl) ?_
           refine TL_want rfl rfl rfl rfl rfl rfl (V_bin rfl rfl (fun w => eqlS w r_11.1 r_12.1)) ?_
           refine TLv (V_pick (b := true) rfl rfl) ?_
           refine TLv (V_assign rfl) ?_
           obtain ⟨x2, hx2, H⟩ := ltt_elim H
           refine TL_re (d := 4) (v := vb (decide (r_11.1 = r_12.1))) (v' := vb x2) rfl (congrArg vb hx2) ?_
           refine TL_nil ?_
           refine TX_next ?_
           refine TC.sub (m' := [(4, vb x2)]) ⟨rfl, trivial⟩ ?_
           refine TC.pull (is := []) (L' := []) rfl ?_
           refine TC_ret ?_
           have hrv := Option.some.inj H
           subst hrv
           exact TX_ret (rs := [.tmp 4]) (vs := [vb x2]) rfl ⟨rfl, trivial⟩ (fun w' hs' => ⟨(), rfl, Step.left (Step.pulled (is := []) (A := []) hs' rfl)⟩)
          ·replace H := ite_f (of_decide_eq_false hc) H
           refine TL_skip rfl rfl rfl rfl rfl rfl rfl ?_
           refine TL_skip rfl rfl rfl rfl rfl rfl rfl ?_
           refine TL_skip rfl rfl rfl rfl rfl rfl rfl ?_
           refine TLv (V_pick (b := false) rfl rfl) ?_
           refine TLv (V_assign rfl) ?_
           refine TL_nil ?_
           refine TX_next ?_
           refine TC.sub (m' := [(4, vb false)]) ⟨rfl, trivial⟩ ?_
           refine TC.pull (is := []) (L' := []) rfl ?_
           refine TC_ret ?_
           have hrv := Option.some.inj H
           subst hrv
           exact TX_ret (rs := [.tmp 4]) (vs := [vb false]) rfl ⟨rfl, trivial⟩ (fun w' hs' => ⟨(), rfl, Step.left (Step.pulled (is := []) (A := []) hs' rfl)⟩)
         ·replace H := ite_f (of_decide_eq_false hc) H
          refine TL_skip rfl rfl rfl rfl rfl rfl rfl ?_
          refine TL_skip rfl rfl rfl rfl rfl rfl rfl ?_
          refine TL_skip rfl rfl rfl rfl rfl rfl rfl ?_
          refine TLv (V_pick (b := false) rfl rfl) ?_
          refine TLv (V_move rfl) ?_
          refine TL_skip rfl rfl rfl rfl rfl rfl rfl ?_
          refine TL_skip rfl rfl rfl rfl rfl rfl rfl ?_
          refine TL_skip rfl rfl rfl rfl rfl rfl rfl ?_
          refine TLv (V_pick (b := false) rfl rfl) ?_
          refine TLv (V_assign rfl) ?_
          refine TL_nil ?_
          refine TX_next ?_
          refine TC.sub (m' := [(4, vb false)]) ⟨rfl, trivial⟩ ?_
          refine TC.pull (is := []) (L' := []) rfl ?_
          refine TC_ret ?_
          have hrv := Option.some.inj H
          subst hrv
          exact TX_ret (rs := [.tmp 4]) (vs := [vb false]) rfl ⟨rfl, trivial⟩ (fun w' hs' => ⟨(), rfl, Step.left (Step.pulled (is := []) (A := []) hs' rfl)⟩)
        ·replace H := ite_f (Bool.eq_false_iff.1 hc) H
         refine TL_skip rfl rfl rfl rfl rfl rfl rfl ?_
         refine TL_skip rfl rfl rfl rfl rfl rfl rfl ?_
         refine TL_skip rfl rfl rfl rfl rfl rfl rfl ?_
         refine TLv (V_pick (b := false) rfl rfl) ?_
         refine TLv (V_move rfl) ?_
         refine TL_skip rfl rfl rfl rfl rfl rfl rfl ?_
         refine TL_skip rfl rfl rfl rfl rfl rfl rfl ?_
         refine TL_skip rfl rfl rfl rfl rfl rfl rfl ?_
         refine TLv (V_pick (b := false) rfl rfl) ?_
         refine TLv (V_move rfl) ?_
         refine TL_skip rfl rfl rfl rfl rfl rfl rfl ?_
         refine TL_skip rfl rfl rfl rfl rfl rfl rfl ?_
         refine TL_skip rfl rfl rfl rfl rfl rfl rfl ?_
         refine TLv (V_pick (b := false) rfl rfl) ?_
         refine TLv (V_assign rfl) ?_
         refine TL_nil ?_
         refine TX_next ?_
         refine TC.sub (m' := [(4, vb false)]) ⟨rfl, trivial⟩ ?_
         refine TC.pull (is := []) (L' := []) rfl ?_
         refine TC_ret ?_
         have hrv := Option.some.inj H
         subst hrv
         exact TX_ret (rs := [.tmp 4]) (vs := [vb false]) rfl ⟨rfl, trivial⟩ (fun w' hs' => ⟨(), rfl, Step.left (Step.pulled (is := []) (A := []) hs' rfl)⟩)
       ·replace H := ite_f (of_decide_eq_false hc) H
        refine TL_skip rfl rfl rfl rfl rfl rfl rfl ?_
        refine TL_skip rfl rfl rfl rfl rfl rfl rfl ?_
        refine TLv (V_pick (b := false) rfl rfl) ?_
        refine TLv (V_move rfl) ?_
        refine TL_skip rfl rfl rfl rfl rfl rfl rfl ?_
        refine TL_skip rfl rfl rfl rfl rfl rfl rfl ?_
        refine TL_skip rfl rfl rfl rfl rfl rfl rfl ?_
        refine TLv (V_pick (b := false) rfl rfl) ?_
        refine TLv (V_move rfl) ?_
        refine TL_skip rfl rfl rfl rfl rfl rfl rfl ?_
        refine TL_skip rfl rfl rfl rfl rfl rfl rfl ?_
        refine TL_skip rfl rfl rfl rfl rfl rfl rfl ?_
        refine TLv (V_pick (b := false) rfl rfl) ?_
        refine TLv (V_move rfl) ?_
        refine TL_skip rfl rfl rfl rfl rfl rfl rfl ?_
        refine TL_skip rfl rfl rfl rfl rfl rfl rfl ?_
        refine TL_skip rfl rfl rfl rfl rfl rfl rfl ?_
        refine TLv (V_pick (b := false) rfl rfl) ?_
        refine TLv (V_assign rfl) ?_
        refine TL_nil ?_
        refine TX_next ?_
        refine TC.sub (m' := [(4, vb false)]) ⟨rfl, trivial⟩ ?_
        refine TC.pull (is := []) (L' := []) rfl ?_
        refine TC_ret ?_
        have hrv := Option.some.inj H
        subst hrv
        exact TX_ret (rs := [.tmp 4]) (vs := [vb false]) rfl ⟨rfl, trivial⟩ (fun w' hs' => ⟨(), rfl, Step.left (Step.pulled (is := []) (A := []) hs' rfl)⟩)
      ·replace H := ite_f (of_decide_eq_false hc) H
       refine TL_skip rfl rfl rfl rfl rfl rfl rfl ?_
       refine TL_skip rfl rfl rfl rfl rfl rfl rfl ?_
       refine TL_skip rfl rfl rfl rfl rfl rfl rfl ?_
       refine TLv (V_pick (b := false) rfl rfl) ?_
       refine TLv (V_move rfl) ?_
       refine TL_skip rfl rfl rfl rfl rfl rfl rfl ?_
       refine TL_skip rfl rfl rfl rfl rfl rfl rfl ?_
       refine TLv (V_pick (b := false) rfl rfl) ?_
       refine TLv (V_move rfl) ?_
       refine TL_skip rfl rfl rfl rfl rfl rfl rfl ?_
       refine TL_skip rfl rfl rfl rfl rfl rfl rfl ?_
       refine TL_skip rfl rfl rfl rfl rfl rfl rfl ?_
       refine TLv (V_pick (b := false) rfl rfl) ?_
       refine TLv (V_move rfl) ?_
       refine TL_skip rfl rfl rfl rfl rfl rfl rfl ?_
       refine TL_skip rfl rfl rfl rfl rfl rfl rfl ?_
       refine TL_skip rfl rfl rfl rfl rfl rfl rfl ?_
       refine TLv (V_pick (b := false) rfl rfl) ?_
       refine TLv (V_move rfl) ?_
       refine TL_skip rfl rfl rfl rfl rfl rfl rfl ?_
       refine TL_skip rfl rfl rfl rfl rfl rfl rfl ?_
       refine TL_skip rfl rfl rfl rfl rfl rfl rfl ?_
       refine TLv (V_pick (b := false) rfl rfl) ?_
       refine TLv (V_assign rfl) ?_
       refine TL_nil ?_
       refine TX_next ?_
       refine TC.sub (m' := [(4, vb false)]) ⟨rfl, trivial⟩ ?_
       refine TC.pull (is := []) (L' := []) rfl ?_
       refine TC_ret ?_
       have hrv := Option.some.inj H
       subst hrv
       exact TX_ret (rs := [.tmp 4]) (vs := [vb false]) rfl ⟨rfl, trivial⟩ (fun w' hs' => ⟨(), rfl, Step.left (Step.pulled (is := []) (A := []) hs' rfl)⟩)
     ·replace H := ite_f (of_decide_eq_false hc) H
      refine TL_skip rfl rfl rfl rfl rfl rfl rfl ?_
      refine TL_skip rfl rfl rfl rfl rfl rfl rfl ?_
      refine TL_skip rfl rfl rfl rfl rfl rfl rfl ?_
      refine TLv (V_pick (b := false) rfl rfl) ?_
      refine TLv (V_move rfl) ?_
      refine TL_skip rfl rfl rfl rfl rfl rfl rfl ?_
      refine TL_skip rfl rfl rfl rfl rfl rfl rfl ?_
      refine TL_skip rfl rfl rfl rfl rfl rfl rfl ?_
      refine TLv (V_pick (b := false) rfl rfl) ?_
      refine TLv (V_move rfl) ?_
      refine TL_skip rfl rfl rfl rfl rfl rfl rfl ?_
      refine TL_skip rfl rfl rfl rfl rfl rfl rfl ?_
      refine TLv (V_pick (b := false) rfl rfl) ?_
      refine TLv (V_move rfl) ?_
      refine TL_skip rfl rfl rfl rfl rfl rfl rfl ?_
      refine TL_skip rfl rfl rfl rfl rfl rfl rfl ?_
      refine TL_skip rfl rfl rfl rfl rfl rfl rfl ?_
      refine TLv (V_pick (b := false) rfl rfl) ?_
      refine TLv (V_move rfl) ?_
      refine TL_skip rfl rfl rfl rfl rfl rfl rfl ?_
      refine TL_skip rfl rfl rfl rfl rfl rfl rfl ?_
      refine TL_skip rfl rfl rfl rfl rfl rfl rfl ?_
      refine TLv (V_pick (b := false) rfl rfl) ?_
      refine TLv (V_move rfl) ?_
      refine TL_skip rfl rfl rfl rfl rfl rfl rfl ?_
      refine TL_skip rfl rfl rfl rfl rfl rfl rfl ?_
      refine TL_skip rfl rfl rfl rfl rfl rfl rfl ?_
      refine TLv (V_pick (b := false) rfl rfl) ?_
      refine TLv (V_assign rfl) ?_
      refine TL_nil ?_
      refine TX_next ?_
      refine TC.sub (m' := [(4, vb false)]) ⟨rfl, trivial⟩ ?_
      refine TC.pull (is := []) (L' := []) rfl ?_
      refine TC_ret ?_
      have hrv := Option.some.inj H
      subst hrv
      exact TX_ret (rs := [.tmp 4]) (vs := [vb false]) rfl ⟨rfl, trivial⟩ (fun w' hs' => ⟨(), rfl, Step.left (Step.pulled (is := []) (A := []) hs' rfl)⟩)
  ·intro hJ
   replace H := Hj
   refine TL_fork (d := 52) (b := (decide (r_8 ≠ 0))) rfl (fun hc => ?_) (fun hc => ?_)
   ·replace H := ite_t (of_decide_eq_true hc) H
    refine TL_skip rfl rfl rfl rfl rfl rfl rfl ?_
    refine TL_skip rfl rfl rfl rfl rfl rfl rfl ?_
    refine TL_skip rfl rfl rfl rfl rfl rfl rfl ?_
    refine TLv (V_pick (b := true) rfl rfl) ?_
    refine TLv (V_move rfl) ?_
    refine TL_skip rfl rfl rfl rfl rfl rfl rfl ?_
    refine TL_skip rfl rfl rfl rfl rfl rfl rfl ?_
    refine TL_skip rfl rfl rfl rfl rfl rfl rfl ?_
    refine TLv (V_pick (b := true) rfl rfl) ?_
    refine TLv (V_move rfl) ?_
    refine TL_skip rfl rfl rfl rfl rfl rfl rfl ?_
    refine TL_skip rfl rfl rfl rfl rfl rfl rfl ?_
    refine TL_skip rfl rfl rfl rfl rfl rfl rfl ?_
    refine TLv (V_pick (b := true) rfl rfl) ?_
    refine TL_nil ?_
    refine TX.sub (m' := [(5, vs r_2), (6, vs r_3), (7, vs r_4.1), (9, vs r_5.1), (11, vs r_6.1), (13, vs r_7.1), (14, vi r_7.2), (66, vb true)]) ⟨rfl, rfl, rfl, rfl, rfl, rfl, rfl, rfl, trivial⟩ ?_
    refine TX.pull (is := []) (L' := []) rfl ?_
    obtain rfl := Option.some.inj H
    exact hJ ()
   ·replace H := ite_f (of_decide_eq_false hc) H
    refine TL_want rfl rfl rfl rfl rfl rfl (V_move rfl) ?_
    obtain ⟨r_18, hr_18, H⟩ := bind_elim H
    refine TL_wantE rfl rfl rfl rfl rfl rfl (E_c0 (F20_calls r_6.2 r_18 hr_18) Try.call20 .z) (fun g_18 => ?_)
    refine TL_want rfl rfl rfl rfl rfl rfl (V_bin rfl rfl (fun w => neqI w r_18 0)) ?_
    refine TLv (V_pick (b := false) rfl rfl) ?_
    refine TLv (V_move rfl) ?_
    refine TL_fork (d := 57) (b := (decide (r_18 ≠ 0))) rfl (fun hc => ?_) (fun hc => ?_)
    ·replace H := ite_t (of_decide_eq_true hc) H
     refine TL_skip rfl rfl rfl rfl rfl rfl rfl ?_
     refine TL_skip rfl rfl rfl rfl rfl rfl rfl ?_
     refine TL_skip rfl rfl rfl rfl rfl rfl rfl ?_
     refine TLv (V_pick (b := true) rfl rfl) ?_
     refine TLv (V_move rfl) ?_
     refine TL_skip rfl rfl rfl rfl rfl rfl rfl ?_
     refine TL_skip rfl rfl rfl rfl rfl rfl rfl ?_
     refine TL_skip rfl rfl rfl rfl rfl rfl rfl ?_
     refine TLv (V_pick (b := true) rfl rfl) ?_
     refine TL_nil ?_
     refine TX.sub (m' := [(5, vs r_2), (6, vs r_3), (7, vs r_4.1), (9, vs r_5.1), (11, vs r_6.1), (13, vs r_7.1), (14, vi r_7.2), (66, vb true)]) ⟨rfl, rfl, rfl, rfl, rfl, rfl, rfl, rfl, trivial⟩ ?_
     refine TX.pull (is := []) (L' := []) rfl ?_
     obtain rfl := Option.some.inj H
     exact hJ ()
    ·replace H := ite_f (of_decide_eq_false hc) H
     refine TL_want rfl rfl rfl rfl rfl rfl (V_move rfl) ?_
     obtain ⟨r_19, hr_19, H⟩ := bind_elim H
     refine TL_wantE rfl rfl rfl rfl rfl rfl (E_c0 (F21_calls r_5.1 r_19 hr_19) Try.call21 .z) (fun g_19 => ?_)
     refine TL_want rfl rfl rfl rfl rfl rfl (V_un rfl (fun w => notB w r_19)) ?_
     refine TLv (V_pick (b := false) rfl rfl) ?_
     refine TLv (V_move rfl) ?_
     refine TL_fork (d := 62) (b := (!r_19)) rfl (fun hc => ?_) (fun hc => ?_)
     ·replace H := ite_t hc H
      refine TL_skip rfl rfl rfl rfl rfl rfl rfl ?_
      refine TL_skip rfl rfl rfl rfl rfl rfl rfl ?_
      refine TL_skip rfl rfl rfl rfl rfl rfl rfl ?_
      refine TLv (V_pick (b := true) rfl rfl) ?_
      refine TL_nil ?_
      refine TX.sub (m' := [(5, vs r_2), (6, vs r_3), (7, vs r_4.1), (9, vs r_5.1), (11, vs r_6.1), (13, vs r_7.1), (14, vi r_7.2), (66, vb true)]) ⟨rfl, rfl, rfl, rfl, rfl, rfl, rfl, rfl, trivial⟩ ?_
      refine TX.pull (is := []) (L' := []) rfl ?_
      obtain rfl := Option.some.inj H
      exact hJ ()
     ·replace H := ite_f (Bool.eq_false_iff.1 hc) H
      refine TL_want rfl rfl rfl rfl rfl rfl (V_move rfl) ?_
      obtain ⟨r_20, hr_20, H⟩ := bind_elim H
      refine TL_wantE rfl rfl rfl rfl rfl rfl (E_c0 (F21_calls r_6.1 r_20 hr_20) Try.call21 .z) (fun g_20 => ?_)
      refine TL_want rfl rfl rfl rfl rfl rfl (V_un rfl (fun w => notB w r_20)) ?_
      refine TLv (V_pick (b := false) rfl rfl) ?_
      refine TL_nil ?_
      refine TX.sub (m' := [(5, vs r_2), (6, vs r_3), (7, vs r_4.1), (9, vs r_5.1), (11, vs r_6.1), (13, vs r_7.1), (14, vi r_7.2), (66, vb (!r_20))]) ⟨rfl, rfl, rfl, rfl, rfl, rfl, rfl, rfl, trivial⟩ ?_
      refine TX.pull (is := []) (L' := []) rfl ?_
      obtain rfl := Option.some.inj H
      exact hJ ()
end Go.Proofs
end

section
namespace Go.Kx
open Go Go.Proofs
open Go.Nt hiding n4
theorem PcurveSums_true (x y : Int) : halberdlaw11_PcurveSums x y = some true := by
 have hN := N_big
 have bx := scN_b x
 have by_ := scN_b y
 generalize hA : scN x = a at bx
 generalize hB : scN y = b at by_
 have sx := ScalarL_eq x
 have sy := ScalarL_eq y
 rw [hA] at sx
 rw [hB] at sy
 have ma := mod_ne bx.1 bx.2
 have mb := mod_ne by_.1 by_.2
 have calc1 := Calc_ex 0 1 Rd_N (by decide) bx.2 by_.2 (.inl rfl)
 rw [if_pos rfl] at calc1
 have pa := Public_nb bx.1 bx.2
 have pb := Public_nb by_.1 by_.2
 unfold halberdlaw11_PcurveSums
 refine bind_i awake11 (if_n (by decide) (bind_i sx (bind_i sy (bind_i calc1 (bind_i pa (bind_i pb ?_))))))
 dsimp only
 have flags : ∀ r7 : Str × Int, (if (0 : Int) ≠ 0 then some true else ((halberdlaw0_Num 0).bind fun (r_18 : Int) => (if r_18 ≠ 0 then (some true) else ((pcurve_On (encP (sG a))).bind fun (r_19 : Bool) => (if (!r_19) = true then (some true) else ((pcurve_On (encP (sG b))).bind fun (r_20 : Bool) => (some (!r_20)))))))) = some false := fun _ =>
  if_n (by decide) (bind_i (num0 _) (if_n (by decide) (bind_i (On_nb ma) (if_n (by decide) (bind_i (On_nb mb) rfl)))))
 by_cases hab : (a + b) % N256 = 0
 ·refine bind_i (Add_nb0 ma mb hab) (bind_i (num0 _) (bind_i (flags ([], 0)) (if_n (by decide) (if_i (by simp) (if_i (by rw [hab, nb32_zero]) ?_)))))
  exact bind_i (num0 _) (bind_i (v := true) (if_i rfl (by simp [ltt])) rfl)
 ·have hne : nb32 ((a + b) % N256) ≠ List.replicate 32 0#8 := fun h => by
   rw [nb32_zero] at h
   have := congrArg bnum h
   have l1 := Nat.mod_lt (a + b) (show 0 < N256 by omega)
   have l2 := md_N.lt
   rw [bnum_nb32 _ (by omega), bnum_nb32 _ (by omega)] at this
   exact hab this
  have ms : (a + b) % N256 % N256 ≠ 0 := by rw [Nat.mod_mod]; exact hab
  have ps := Public_nb (c := (a + b) % N256) (by omega) (Nat.mod_lt _ (by omega))
  rw [← sG_mod] at ps
  have u := Mul_nb bx.1 bx.2 mb
  have v := Mul_nb by_.1 by_.2 ma
  rw [Nat.mul_comm b a] at v
  refine bind_i (Add_nb ma mb hab) (bind_i (num0 _) (bind_i (flags ([], 0)) (if_n (by decide) (if_i (by simp) (if_n hne ?_)))))
  refine bind_i ps (bind_i u (bind_i v (bind_i (num0 _) (if_i rfl (bind_i (num0 _) (if_i rfl (if_i rfl (bind_i (On_nb hab) (if_i rfl (bind_i (num0 _) (if_i rfl (bind_i (num0 _) (if_i rfl ?_)))))))))))))
  simp [ltt]
end Go.Kx
end

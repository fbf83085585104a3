/-
  Part KPL1 of the proofs of this seat: F3, PcL1.
-/
import Derived.Test.YtiofnmmggblcgaaK2
import Derived.Test.YtiofnmmggblcgaaKP1
import Derived.Test.YtiofnmmggblcgaaKP2
import Derived.Test.YtiofnmmggblcgaaKP3
import Derived.Test.YtiofnmmggblcgaaKP4
set_option linter.unusedVariables false
set_option linter.unusedSimpArgs false
section
namespace Go.Proofs
open Go Go.Kx
open Vector (replicate)
def halberdlaw11_Pcurves (k : Str) (p : Str) (q : Str) : Option (Bool) :=
 (pcurve_Public k).bind fun (r_1 : Str × Int) => ((halberdref9_Public k).bind fun (r_2 : Str × Int) => ((pcurve_Mul k p).bind fun (r_3 : Str × Int) => ((halberdref9_Mul k p).bind fun (r_4 : Str × Int) => ((pcurve_Add p q).bind fun (r_5 : Str × Int) => ((halberdref9_Add p q).bind fun (r_6 : Str × Int) => ((halberdref9_Decode p).bind fun (r_7 : Vx 32 8 × Vx 32 8 × Vx 32 8 × Bool) => (if r_1.1 = r_2.1 then ((halberdlaw0_Num r_1.2).bind fun (r_8 : Int) => (if r_8 = r_2.2 then (if r_3.1 = r_4.1 then ((halberdlaw0_Num r_3.2).bind fun (r_9 : Int) => (if r_9 = r_4.2 then (if r_5.1 = r_6.1 then ((halberdlaw0_Num r_5.2).bind fun (r_10 : Int) => (if r_10 = r_6.2 then ((pcurve_On p).bind fun (r_11 : Bool) => (if (r_11 == r_7.2.2.2) = true then ((halberdlaw11_awake).bind fun (r_12 : Bool) => (some r_12)) else (some false))) else (some false))) else (some false)) else (some false))) else (some false)) else (some false))) else (some false))))))))
set_option maxHeartbeats 4000000 in
set_option maxRecDepth 20000 in
theorem F3_calls (k : Str) (p : Str) (q : Str) (r : Bool) (H : halberdlaw11_Pcurves k p q = some r) :
  Does Try.prog 3 [vs k, vs p, vs q] [] [] (Γ := Unit) (fun g => vb r) (fun g => []) := by
 intro w hmem hro hd
 refine calls_of (N := 100) (m0 := [(0, vs k), (1, vs p), (2, vs q)]) Try.func3 rfl Try.ntmps3 (argM_ok [vs k, vs p, vs q]) rfl hmem hro hd ?_
 unfold halberdlaw11_Pcurves at H
 refine TC_seq ?_
 refine TC_region ?_
 refine TLv (V_assign rfl) ?_
 refine TL_nil ?_
 refine TX_next ?_
 refine TC_seq ?_
 refine TC_region ?_
 refine TLv (V_move rfl) ?_
 obtain ⟨r_1, hr_1, H⟩ := bind_elim H
 refine TLe (E_c0 (F13_calls k r_1 hr_1) Try.call13 .z) (fun g_1 => ?_)
 refine TLv (V_move rfl) ?_
 refine TLv V_ex ?_
 refine TLv V_ex ?_
 refine TLv (V_assign rfl) ?_
 refine TLv (V_assign rfl) ?_
 refine TL_nil ?_
 refine TX_next ?_
 refine TC_seq ?_
 refine TC_region ?_
 refine TLv (V_move rfl) ?_
 obtain ⟨r_2, hr_2, H⟩ := bind_elim H
 refine TLe (E_c0 (F14_calls k r_2 hr_2) Try.call14 .z) (fun g_2 => ?_)
 refine TLv (V_move rfl) ?_
 refine TLv V_ex ?_
 refine TLv V_ex ?_
 refine TLv (V_assign rfl) ?_
 refine TLv (V_assign rfl) ?_
 refine TL_nil ?_
 refine TX_next ?_
 refine TC_seq ?_
 refine TC_region ?_
 refine TLv (V_move rfl) ?_
 refine TLv (V_move rfl) ?_
 obtain ⟨r_3, hr_3, H⟩ := bind_elim H
 refine TLe (E_c0 (F15_calls k p r_3 hr_3) Try.call15 .z) (fun g_3 => ?_)
 refine TLv (V_move rfl) ?_
 refine TLv V_ex ?_
 refine TLv V_ex ?_
 refine TLv (V_assign rfl) ?_
 refine TLv (V_assign rfl) ?_
 refine TL_nil ?_
 refine TX_next ?_
 refine TC_seq ?_
 refine TC_region ?_
 refine TLv (V_move rfl) ?_
 refine TLv (V_move rfl) ?_
 obtain ⟨r_4, hr_4, H⟩ := bind_elim H
 refine TLe (E_c0 (F16_calls k p r_4 hr_4) Try.call16 .z) (fun g_4 => ?_)
 refine TLv (V_move rfl) ?_
 refine TLv V_ex ?_
 refine TLv V_ex ?_
 refine TLv (V_assign rfl) ?_
 refine TLv (V_assign rfl) ?_
 refine TL_nil ?_
 refine TX_next ?_
 refine TC.sub (m' := [(1, vs p), (2, vs q), (7, vs r_1.1), (8, vi r_1.2), (9, vs r_2.1), (10, vi r_2.2), (11, vs r_3.1), (12, vi r_3.2), (13, vs r_4.1), (14, vi r_4.2)]) ⟨rfl, rfl, rfl, rfl, rfl, rfl, rfl, rfl, rfl, rfl, trivial⟩ ?_
 refine TC.pull (is := []) (L' := []) rfl ?_
 refine TC_seq ?_
 refine TC_region ?_
 refine TLv (V_move rfl) ?_
 refine TLv (V_move rfl) ?_
 obtain ⟨r_5, hr_5, H⟩ := bind_elim H
 refine TLe (E_c0 (F17_calls p q r_5 hr_5) Try.call17 .z) (fun g_5 => ?_)
 refine TLv (V_move rfl) ?_
 refine TLv V_ex ?_
 refine TLv V_ex ?_
 refine TLv (V_assign rfl) ?_
 refine TLv (V_assign rfl) ?_
 refine TL_nil ?_
 refine TX_next ?_
 refine TC_seq ?_
 refine TC_region ?_
 refine TLv (V_move rfl) ?_
 refine TLv (V_move rfl) ?_
 obtain ⟨r_6, hr_6, H⟩ := bind_elim H
 refine TLe (E_c0 (F18_calls p q r_6 hr_6) Try.call18 .z) (fun g_6 => ?_)
 refine TLv (V_move rfl) ?_
 refine TLv V_ex ?_
 refine TLv V_ex ?_
 refine TLv (V_assign rfl) ?_
 refine TLv (V_assign rfl) ?_
 refine TL_nil ?_
 refine TX_next ?_
 refine TC_seq ?_
 refine TC_region ?_
 refine TLv (V_move rfl) ?_
 obtain ⟨r_7, hr_7, H⟩ := bind_elim H
 refine TLe (E_c0 (F19_calls p r_7 hr_7) Try.call19 .z) (fun g_7 => ?_)
 refine TLv (V_move rfl) ?_
 refine TLv V_ex ?_
 refine TLv V_ex ?_
 refine TLe (E_allocP [(8, e32 ((replicate 8 0#32).toList)), (8, e32 ((replicate 8 0#32).toList)), (8, e32 ((replicate 8 0#32).toList))] TryI.inf33 TryI.zer33 ⟨(lenV (f := v32) (replicate 8 0#32)), (lenV (f := v32) (replicate 8 0#32)), (lenV (f := v32) (replicate 8 0#32)), trivial⟩) (fun b1 => ?_)
 refine TLn (E_sp (b := b1) (o := 0) [0, 0, 0] [(8, e32 ((replicate 8 0#32).toList)), (8, e32 ((replicate 8 0#32).toList)), (8, e32 ((replicate 8 0#32).toList))] [(8, e32 r_7.1.toList), (8, e32 r_7.2.1.toList), (8, e32 r_7.2.2.1.toList)] rfl TryI.inf33 ⟨(lenV (f := v32) (replicate 8 0#32)), (lenV (f := v32) (replicate 8 0#32)), (lenV (f := v32) (replicate 8 0#32)), trivial⟩ ⟨(lenV (f := v32) r_7.1), (lenV (f := v32) r_7.2.1), (lenV (f := v32) r_7.2.2.1), trivial⟩ ⟨(OneC.map (fun _ => rfl) _), (OneC.map (fun _ => rfl) _), (OneC.map (fun _ => rfl) _), trivial⟩) (fun _ => ?_)
 refine TLv (V_assign rfl) ?_
 refine TL_nil ?_
 refine TX_next ?_
 refine TC.sub (m' := [(1, vs p), (7, vs r_1.1), (8, vi r_1.2), (9, vs r_2.1), (10, vi r_2.2), (11, vs r_3.1), (12, vi r_3.2), (13, vs r_4.1), (14, vi r_4.2), (15, vs r_5.1), (16, vi r_5.2), (17, vs r_6.1), (18, vi r_6.2), (20, vb r_7.2.2.2)]) ⟨rfl, rfl, rfl, rfl, rfl, rfl, rfl, rfl, rfl, rfl, rfl, rfl, rfl, rfl, trivial⟩ ?_
 refine TC.pull (is := []) (L' := []) rfl ?_
 refine TC_seq ?_
 refine TC_region ?_
 refine TLv (V_move rfl) ?_
 refine TLv (V_move rfl) ?_
 refine TLv (V_bin rfl rfl (fun w => eqlS w r_1.1 r_2.1)) ?_
 refine TLv (V_move rfl) ?_
 refine TL_fork (d := 63) (b := (decide (r_1.1 = r_2.1))) rfl (fun hc => ?_) (fun hc => ?_)
 ·replace H := ite_t (of_decide_eq_true hc) H
  refine TL_want rfl rfl rfl rfl rfl rfl (V_move rfl) ?_
  obtain ⟨r_8, hr_8, H⟩ := bind_elim H
  refine TL_wantE rfl rfl rfl rfl rfl rfl (E_c0 (F20_calls r_1.2 r_8 hr_8) Try.call20 .z) (fun g_8 => ?_)
  refine TL_want rfl rfl rfl rfl rfl rfl (V_move rfl) ?_
  refine TL_want rfl rfl rfl rfl rfl rfl (V_bin rfl rfl (fun w => eqlI w r_8 r_2.2)) ?_
  refine TLv (V_pick (b := true) rfl rfl) ?_
  refine TLv (V_move rfl) ?_
  refine TL_fork (d := 69) (b := (decide (r_8 = r_2.2))) rfl (fun hc => ?_) (fun hc => ?_)
  ·replace H := ite_t (of_decide_eq_true hc) H
   refine TL_want rfl rfl rfl rfl rfl rfl (V_move rfl) ?_
   refine TL_want rfl rfl rfl rfl rfl rfl (V_move rfl) ?_
   refine TL_want rfl rfl rfl rfl rfl rfl (V_bin rfl rfl (fun w => eqlS w r_3.1 r_4.1)) ?_
   refine TLv (V_pick (b := true) rfl rfl) ?_
   refine TLv (V_move rfl) ?_
   refine TL_fork (d := 74) (b := (decide (r_3.1 = r_4.1))) rfl (fun hc => ?_) (fun hc => ?_)
   ·replace H := ite_t (of_decide_eq_true hc) H
    refine TL_want rfl rfl rfl rfl rfl rfl (V_move rfl) ?_
    obtain ⟨r_9, hr_9, H⟩ := bind_elim H
    refine TL_wantE rfl rfl rfl rfl rfl rfl (E_c0 (F20_calls r_3.2 r_9 hr_9) Try.call20 .z) (fun g_9 => ?_)
    refine TL_want rfl rfl rfl rfl rfl rfl (V_move rfl) ?_
    refine TL_want rfl rfl rfl rfl rfl rfl (V_bin rfl rfl (fun w => eqlI w r_9 r_4.2)) ?_
    refine TLv (V_pick (b := true) rfl rfl) ?_
    refine TLv (V_move rfl) ?_
    refine TL_fork (d := 80) (b := (decide (r_9 = r_4.2))) rfl (fun hc => ?_) (fun hc => ?_)
    ·replace H := ite_t (of_decide_eq_true hc) H
     refine TL_want rfl rfl rfl rfl rfl rfl (V_move rfl) ?_
     refine TL_want rfl rfl rfl rfl rfl rfl (V_move rfl) ?_
     refine TL_want rfl rfl rfl rfl rfl rfl (V_bin rfl rfl (fun w => eqlS w r_5.1 r_6.1)) ?_
     refine TLv (V_pick (b := true) rfl rfl) ?_
     refine TLv (V_move rfl) ?_
     refine TL_fork (d := 85) (b := (decide (r_5.1 = r_6.1))) rfl (fun hc => ?_) (fun hc => ?_)
     ·replace H := ite_t (of_decide_eq_true hc) H
      refine TL_want rfl rfl rfl rfl rfl rfl (V_move rfl) ?_
      obtain ⟨r_10, hr_10, H⟩ := bind_elim H
      refine TL_wantE rfl rfl rfl rfl rfl rfl (E_c0 (F20_calls r_5.2 r_10 hr_10) Try.call20 .z) (fun g_10 => ?_)
      refine TL_want rfl rfl rfl rfl rfl rfl (V_move rfl) ?_
      refine TL_want rfl rfl rfl rfl rfl rfl (V_bin rfl rfl (fun w => eqlI w r_10 r_6.2)) ?_
      refine TLv (V_pick (b := true) rfl rfl) ?_
      refine TLv (V_move rfl) ?_
      refine TL_fork (d := 91) (b := (decide (r_10 = r_6.2))) rfl (fun hc => ?_) (fun hc => ?_)
      ·replace H := ite_t (of_decide_eq_true hc) H
       refine TL_want rfl rfl rfl rfl rfl rfl (V_move rfl) ?_
       obtain ⟨r_11, hr_11, H⟩ := bind_elim H
       refine TL_wantE rfl rfl rfl rfl rfl rfl (E_c0 (F21_calls p r_11 hr_11) Try.call21 .z) (fun g_11 => ?_)
       refine TL_want rfl rfl rfl rfl rfl rfl (V_move rfl) ?_
       refine TL_want rfl rfl rfl rfl rfl rfl (V_bin rfl rfl (fun w => eqlB w r_11 r_7.2.2.2 Try.underlying4)) ?_
       refine TLv (V_pick (b := true) rfl rfl) ?_
       refine TLv (V_move rfl) ?_
       refine TL_fork (d := 97) (b := (r_11 == r_7.2.2.2)) rfl (fun hc => ?_) (fun hc => ?_)
       ·replace H := ite_t hc H
        obtain ⟨r_12, hr_12, H⟩ := bind_elim H
        refine TL_wantE rfl rfl rfl rfl rfl rfl (E_c0 (F22_calls r_12 hr_12) Try.call22 .z) (fun g_12 => ?_)
        refine TLv (V_pick (b := true) rfl rfl) ?_
        refine TLv (V_assign rfl) ?_
        refine TL_nil ?_
        refine TX_next ?_
        refine TC.sub (m' := [(6, vb r_12)]) ⟨rfl, trivial⟩ ?_
        refine TC.pull (is := []) (L' := []) rfl ?_
        refine TC_ret ?_
        have hrv := Option.some.inj H
        subst hrv
        exact TX_ret (rs := [.tmp 6]) (vs := [vb r_12]) rfl ⟨rfl, trivial⟩ (fun w' hs' => ⟨(), rfl, Step.left (Step.pulled (is := []) (A := []) hs' rfl)⟩)
       ·replace H := ite_f (Bool.eq_false_iff.1 hc) H
        refine TL_skip rfl rfl rfl rfl rfl rfl rfl ?_
        refine TLv (V_pick (b := false) rfl rfl) ?_
        refine TLv (V_assign rfl) ?_
        refine TL_nil ?_
        refine TX_next ?_
        refine TC.sub (m' := [(6, vb false)]) ⟨rfl, trivial⟩ ?_
        refine TC.pull (is := []) (L' := []) rfl ?_
        refine TC_ret ?_
        have hrv := Option.some.inj H
        subst hrv
        exact TX_ret (rs := [.tmp 6]) (vs := [vb false]) rfl ⟨rfl, trivial⟩ (fun w' hs' => ⟨(), rfl, Step.left (Step.pulled (is := []) (A := []) hs' rfl)⟩)
      ·replace H := ite_f (of_decide_eq_false hc) H
       refine TL_skip rfl rfl rfl rfl rfl rfl rfl ?_
       refine TL_skip rfl rfl rfl rfl rfl rfl rfl ?_
       refine TL_skip rfl rfl rfl rfl rfl rfl rfl ?_
       refine TL_skip rfl rfl rfl rfl rfl rfl rfl ?_
       refine TLv (V_pick (b := false) rfl rfl) ?_
       refine TLv (V_move rfl) ?_
       refine TL_skip rfl rfl rfl rfl rfl rfl rfl ?_
       refine TLv (V_pick (b := false) rfl rfl) ?_
       refine TLv (V_assign rfl) ?_
       refine TL_nil ?_
       refine TX_next ?_
       refine TC.sub (m' := [(6, vb false)]) ⟨rfl, trivial⟩ ?_
       refine TC.pull (is := []) (L' := []) rfl ?_
       refine TC_ret ?_
       have hrv := Option.some.inj H
       subst hrv
       exact TX_ret (rs := [.tmp 6]) (vs := [vb false]) rfl ⟨rfl, trivial⟩ (fun w' hs' => ⟨(), rfl, Step.left (Step.pulled (is := []) (A := []) hs' rfl)⟩)
     ·replace H := ite_f (of_decide_eq_false hc) H
      refine TL_skip rfl rfl rfl rfl rfl rfl rfl ?_
      refine TL_skip rfl rfl rfl rfl rfl rfl rfl ?_
      refine TL_skip rfl rfl rfl rfl rfl rfl rfl ?_
      refine TL_skip rfl rfl rfl rfl rfl rfl rfl ?_
      refine TLv (V_pick (b := false) rfl rfl) ?_
      refine TLv (V_move rfl) ?_
      refine TL_skip rfl rfl rfl rfl rfl rfl rfl ?_
      refine TL_skip rfl rfl rfl rfl rfl rfl rfl ?_
      refine TL_skip rfl rfl rfl rfl rfl rfl rfl ?_
      refine TL_skip rfl rfl rfl rfl rfl rfl rfl ?_
      refine TLv (V_pick (b := false) rfl rfl) ?_
      refine TLv (V_move rfl) ?_
      refine TL_skip rfl rfl rfl rfl rfl rfl rfl ?_
      refine TLv (V_pick (b := false) rfl rfl) ?_
      refine TLv (V_assign rfl) ?_
      refine TL_nil ?_
      refine TX_next ?_
      refine TC.sub (m' := [(6, vb false)]) ⟨rfl, trivial⟩ ?_
      refine TC.pull (is := []) (L' := []) rfl ?_
      refine TC_ret ?_
      have hrv := Option.some.inj H
      subst hrv
      exact TX_ret (rs := [.tmp 6]) (vs := [vb false]) rfl ⟨rfl, trivial⟩ (fun w' hs' => ⟨(), rfl, Step.left (Step.pulled (is := []) (A := []) hs' rfl)⟩)
    ·replace H := ite_f (of_decide_eq_false hc) H
     refine TL_skip rfl rfl rfl rfl rfl rfl rfl ?_
     refine TL_skip rfl rfl rfl rfl rfl rfl rfl ?_
     refine TL_skip rfl rfl rfl rfl rfl rfl rfl ?_
     refine TLv (V_pick (b := false) rfl rfl) ?_
     refine TLv (V_move rfl) ?_
     refine TL_skip rfl rfl rfl rfl rfl rfl rfl ?_
     refine TL_skip rfl rfl rfl rfl rfl rfl rfl ?_
     refine TL_skip rfl rfl rfl rfl rfl rfl rfl ?_
     refine TL_skip rfl rfl rfl rfl rfl rfl rfl ?_
     refine TLv (V_pick (b := false) rfl rfl) ?_
     refine TLv (V_move rfl) ?_
     refine TL_skip rfl rfl rfl rfl rfl rfl rfl ?_
     refine TL_skip rfl rfl rfl rfl rfl rfl rfl ?_
     refine TL_skip rfl rfl rfl rfl rfl rfl rfl ?_
     refine TL_skip rfl rfl rfl rfl rfl rfl rfl ?_
     refine TLv (V_pick (b := false) rfl rfl) ?_
     refine TLv (V_move rfl) ?_
     refine TL_skip rfl rfl rfl rfl rfl rfl rfl ?_
     refine TLv (V_pick (b := false) rfl rfl) ?_
     refine TLv (V_assign rfl) ?_
     refine TL_nil ?_
     refine TX_next ?_
     refine TC.sub (m' := [(6, vb false)]) ⟨rfl, trivial⟩ ?_
     refine TC.pull (is := []) (L' := []) rfl ?_
     refine TC_ret ?_
     have hrv := Option.some.inj H
     subst hrv
     exact TX_ret (rs := [.tmp 6]) (vs := [vb false]) rfl ⟨rfl, trivial⟩ (fun w' hs' => ⟨(), rfl, Step.left (Step.pulled (is := []) (A := []) hs' rfl)⟩)
   ·replace H := ite_f (of_decide_eq_false hc) H
    refine TL_skip rfl rfl rfl rfl rfl rfl rfl ?_
    refine TL_skip rfl rfl rfl rfl rfl rfl rfl ?_
    refine TL_skip rfl rfl rfl rfl rfl rfl rfl ?_
    refine TL_skip rfl rfl rfl rfl rfl rfl rfl ?_
    refine TLv (V_pick (b := false) rfl rfl) ?_
    refine TLv (V_move rfl) ?_
    refine TL_skip rfl rfl rfl rfl rfl rfl rfl ?_
    refine TL_skip rfl rfl rfl rfl rfl rfl rfl ?_
    refine TL_skip rfl rfl rfl rfl rfl rfl rfl ?_
    refine TLv (V_pick (b := false) rfl rfl) ?_
    refine TLv (V_move rfl) ?_
    refine TL_skip rfl rfl rfl rfl rfl rfl rfl ?_
    refine TL_skip rfl rfl rfl rfl rfl rfl rfl ?_
    refine TL_skip rfl rfl rfl rfl rfl rfl rfl ?_
    refine TL_skip rfl rfl rfl rfl rfl rfl rfl ?_
    refine TLv (V_pick (b := false) rfl rfl) ?_
    refine TLv (V_move rfl) ?_
    refine TL_skip rfl rfl rfl rfl rfl rfl rfl ?_
    refine TL_skip rfl rfl rfl rfl rfl rfl rfl ?_
    refine TL_skip rfl rfl rfl rfl rfl rfl rfl ?_
    refine TL_skip rfl rfl rfl rfl rfl rfl rfl ?_
    refine TLv (V_pick (b := false) rfl rfl) ?_
    refine TLv (V_move rfl) ?_
    refine TL_skip rfl rfl rfl rfl rfl rfl rfl ?_
    refine TLv (V_pick (b := false) rfl rfl) ?_
    refine TLv (V_assign rfl) ?_
    refine TL_nil ?_
    refine TX_next ?_
    refine TC.sub (m' := [(6, vb false)]) ⟨rfl, trivial⟩ ?_
    refine TC.pull (is := []) (L' := []) rfl ?_
    refine TC_ret ?_
    have hrv := Option.some.inj H
    subst hrv
    exact TX_ret (rs := [.tmp 6]) (vs := [vb false]) rfl ⟨rfl, trivial⟩ (fun w' hs' => ⟨(), rfl, Step.left (Step.pulled (is := []) (A := []) hs' rfl)⟩)
  ·replace H := ite_f (of_decide_eq_false hc) H
   refine TL_skip rfl rfl rfl rfl rfl rfl rfl ?_
   refine TL_skip rfl rfl rfl rfl rfl rfl rfl ?_
   refine TL_skip rfl rfl rfl rfl rfl rfl rfl ?_
   refine TLv (V_pick (b := false) rfl rfl) ?_
   refine TLv (V_move rfl) ?_
   refine TL_skip rfl rfl rfl rfl rfl rfl rfl ?_
   refine TL_skip rfl rfl rfl rfl rfl rfl rfl ?_
   refine TL_skip rfl rfl rfl rfl rfl rfl rfl ?_
   refine TL_skip rfl rfl rfl rfl rfl rfl rfl ?_
   refine TLv (V_pick (b := false) rfl rfl) ?_
   refine TLv (V_move rfl) ?_
   refine TL_skip rfl rfl rfl rfl rfl rfl rfl ?_
   refine TL_skip rfl rfl rfl rfl rfl rfl rfl ?_
   refine TL_skip rfl rfl rfl rfl rfl rfl rfl ?_
   refine TLv (V_pick (b := false) rfl rfl) ?_
   refine TLv (V_move rfl) ?_
   refine TL_skip rfl rfl rfl rfl rfl rfl rfl ?_
   refine TL_skip rfl rfl rfl rfl rfl rfl rfl ?_
   refine TL_skip rfl rfl rfl rfl rfl rfl rfl ?_
   refine TL_skip rfl rfl rfl rfl rfl rfl rfl ?_
   refine TLv (V_pick (b := false) rfl rfl) ?_
   refine TLv (V_move rfl) ?_
   refine TL_skip rfl rfl rfl rfl rfl rfl rfl ?_
   refine TL_skip rfl rfl rfl rfl rfl rfl rfl ?_
   refine TL_skip rfl rfl rfl rfl rfl rfl rfl ?_
   refine TL_skip rfl rfl rfl rfl rfl rfl rfl ?_
   refine TLv (V_pick (b := false) rfl rfl) ?_
   refine TLv (V_move rfl) ?_
   refine TL_skip rfl rfl rfl rfl rfl rfl rfl ?_
   refine TLv (V_pick (b := false) rfl rfl) ?_
   refine TLv (V_assign rfl) ?_
   refine TL_nil ?_
   refine TX_next ?_
   refine TC.sub (m' := [(6, vb false)]) ⟨rfl, trivial⟩ ?_
   refine TC.pull (is := []) (L' := []) rfl ?_
   refine TC_ret ?_
   have hrv := Option.some.inj H
   subst hrv
   exact TX_ret (rs := [.tmp 6]) (vs := [vb false]) rfl ⟨rfl, trivial⟩ (fun w' hs' => ⟨(), rfl, Step.left (Step.pulled (is := []) (A := []) hs' rfl)⟩)
 ·replace H := ite_f (of_decide_eq_false hc) H
  refine TL_skip rfl rfl rfl rfl rfl rfl rfl ?_
  refine TL_skip rfl rfl rfl rfl rfl rfl rfl ?_
  refine TL_skip rfl rfl rfl rfl rfl rfl rfl ?_
  refine TL_skip rfl rfl rfl rfl rfl rfl rfl ?_
  refine TLv (V_pick (b := false) rfl rfl) ?_
  refine TLv (V_move rfl) ?_
  refine TL_skip rfl rfl rfl rfl rfl rfl rfl ?_
  refine TL_skip rfl rfl rfl rfl rfl rfl rfl ?_
  refine TL_skip rfl rfl rfl rfl rfl rfl rfl ?_
  refine TLv (V_pick (b := false) rfl rfl) ?_
  refine TLv (V_move rfl) ?_
  refine TL_skip rfl rfl rfl rfl rfl rfl rfl ?_
  refine TL_skip rfl rfl rfl rfl rfl rfl rfl ?_
  refine TL_skip rfl rfl rfl rfl rfl rfl rfl ?_
  refine TL_skip rfl rfl rfl rfl rfl rfl rfl ?_
  refine TLv (V_pick (b := false) rfl rfl) ?_
  refine TLv (V_move rfl) ?_
  refine TL_skip rfl rfl rfl rfl rfl rfl rfl ?_
  refine TL_skip rfl rfl rfl rfl rfl rfl rfl ?_
  refine TL_skip rfl rfl rfl rfl rfl rfl rfl ?_
  refine TLv (V_pick (b := false) rfl rfl) ?_
  refine TLv (V_move rfl) ?_
  refine TL_skip rfl rfl rfl rfl rfl rfl rfl ?_
  refine TL_skip rfl rfl rfl rfl rfl rfl rfl ?_
  refine TL_skip rfl rfl rfl rfl rfl rfl rfl ?_
  refine TL_skip rfl rfl rfl rfl rfl rfl rfl ?_
  refine TLv (V_pick (b := false) rfl rfl) ?_
  refine TLv (V_move rfl) ?_
  refine TL_skip rfl rfl rfl rfl rfl rfl rfl ?_
  refine TL_skip rfl rfl rfl rfl rfl rfl rfl ?_
  refine TL_skip rfl rfl rfl rfl rfl rfl rfl ?_
  refine TL_skip rfl rfl rfl rfl rfl rfl rfl ?_
  refine TLv (V_pick (b := false) rfl rfl) ?_
  refine TLv (V_move rfl) ?_
  refine TL_skip rfl rfl rfl rfl rfl rfl rfl ?_
  refine TLv (V_pick (b := false) rfl rfl) ?_
  refine TLv (V_assign rfl) ?_
  refine TL_nil ?_
  refine TX_next ?_
  refine TC.sub (m' := [(6, vb false)]) ⟨rfl, trivial⟩ ?_
  refine TC.pull (is := []) (L' := []) rfl ?_
  refine TC_ret ?_
  have hrv := Option.some.inj H
  subst hrv
  exact TX_ret (rs := [.tmp 6]) (vs := [vb false]) rfl ⟨rfl, trivial⟩ (fun w' hs' => ⟨(), rfl, Step.left (Step.pulled (is := []) (A := []) hs' rfl)⟩)
end Go.Proofs
end

section
namespace Go.Kx
open Go Go.Proofs
open Go.Nt hiding n4
theorem Pcurves_true (k p q : Str) : halberdlaw11_Pcurves k p q = some true := by
 have hP : ∃ v, pcurve_Public k = some v ∧ halberdref9_Public k = some v := by
  by_cases h : isSc k
  ·exact ⟨_, Public_is k h, rPublic_is k h⟩
  ·exact ⟨_, Public_no k h, rPublic_no k h⟩
 have hM : ∃ v, pcurve_Mul k p = some v ∧ halberdref9_Mul k p = some v := by
  by_cases h : isSc k ∧ isPt p
  ·obtain ⟨a, z, -, -, hz, -, rfl⟩ := pt_cases p h.2
   exact ⟨_, Mul_is k h.1 hz, rMul_is k h.1 hz⟩
  ·exact ⟨_, Mul_no k p h, rMul_no k p h⟩
 have hA : ∃ v, pcurve_Add p q = some v ∧ halberdref9_Add p q = some v := by
  by_cases h : isPt p ∧ isPt q
  ·obtain ⟨a, z, -, -, hz, -, rfl⟩ := pt_cases p h.1
   obtain ⟨b, y, -, -, hy, -, rfl⟩ := pt_cases q h.2
   exact ⟨_, Add_is hz hy, rAdd_is hz hy⟩
  ·exact ⟨_, Add_no p q h, rAdd_no p q h⟩
 obtain ⟨v1, p1, p2⟩ := hP
 obtain ⟨v2, m1, m2⟩ := hM
 obtain ⟨v3, a1, a2⟩ := hA
 obtain ⟨X, Y, Z, d, -⟩ := Decode_ex p
 unfold halberdlaw11_Pcurves
 refine bind_i p1 (bind_i p2 (bind_i m1 (bind_i m2 (bind_i a1 (bind_i a2 (bind_i d ?_))))))
 refine if_i rfl (bind_i (num0 _) (if_i rfl (if_i rfl (bind_i (num0 _) (if_i rfl (if_i rfl (bind_i (num0 _) (if_i rfl (bind_i (On_eq p) (if_i ?_ (bind_i awake11 rfl)))))))))))
 simp
end Go.Kx
end

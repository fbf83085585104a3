/-
  Part KXL2 of the proofs of this seat: F6, SchL2.
-/
import Derived.Test.YtfihcdfpjleimaaK2
import Derived.Test.YtfihcdfpjleimaaKX2
import Derived.Test.YtfihcdfpjleimaaKX3
section
namespace Go.Proofs
open Go Go.Kx
set_option linter.unusedVariables false
set_option linter.unusedSimpArgs false
def halberdlaw19_SchedMacs (suite : Int) (secret : Str) (label : Str) (s_ : Str) (size : Int) : Option (Bool) :=
  (sched_Finished suite secret s_).bind fun (r_1 : Str × Int) => ((halberdref19_Finished suite secret s_).bind fun (r_2 : Str × Int) => ((sched_Binder suite secret s_).bind fun (r_3 : Str × Int) => ((halberdref19_Binder suite secret s_).bind fun (r_4 : Str × Int) => ((sched_Export suite secret label s_ size).bind fun (r_5 : Str × Int) => ((halberdref19_Export suite secret label s_ size).bind fun (r_6 : Str × Int) => (if r_1.1 = r_2.1 then ((halberdlaw0_Num r_1.2).bind fun (r_7 : Int) => (if r_7 = r_2.2 then (if r_3.1 = r_4.1 then ((halberdlaw0_Num r_3.2).bind fun (r_8 : Int) => (if r_8 = r_4.2 then (if r_5.1 = r_6.1 then ((halberdlaw0_Num r_5.2).bind fun (r_9 : Int) => (if r_9 = r_6.2 then ((halberdlaw19_awake).bind fun (r_10 : Bool) => (some r_10)) else (some false))) else (some false)) else (some false))) else (some false)) else (some false))) else (some false)))))))

set_option maxHeartbeats 4000000 in
set_option maxRecDepth 20000 in
theorem F6_calls (suite : Int) (secret : Str) (label : Str) (s_ : Str) (size : Int) (r : Bool) (H : halberdlaw19_SchedMacs suite secret label s_ size = some r) :
    Does Try.prog 6 [vi suite, vs secret, vs label, vs s_, vi size] [] [] (Γ := Unit) (fun g => vb r) (fun g => []) := by
  intro w hmem hro hd
  refine calls_of (N := 103) (m0 := [(0, vi suite), (1, vs secret), (2, vs label), (3, vs s_), (4, vi size)]) Try.func6 rfl Try.ntmps6 (argM_ok [vi suite, vs secret, vs label, vs s_, vi size]) rfl hmem hro hd ?_
  unfold halberdlaw19_SchedMacs at H
  refine TC_seq ?_
  refine TC_region ?_
  refine TL_v rfl rfl rfl (V_assign rfl) ?_
  refine TL_nil ?_
  refine TX_next ?_
  refine TC_seq ?_
  refine TC_region ?_
  refine TL_v rfl rfl rfl (V_move rfl) ?_
  refine TL_v rfl rfl rfl (V_move rfl) ?_
  refine TL_v rfl rfl rfl (V_move rfl) ?_
  obtain ⟨r_1, hr_1, H⟩ := bind_elim H
  refine TL_e rfl rfl rfl (E_call (Γ := Unit) (val := fun g => Value.tuple [vs r_1.1, vi r_1.2].toArray) (mem := fun g => []) (vs := [vi suite, vs secret, vs s_]) (Lin := []) (Ro := []) (is := []) rfl Try.call24 (F24_calls suite secret s_ r_1 hr_1) rfl trivial) (fun g_1 => ?_)
  refine TL_v rfl rfl rfl (V_move rfl) ?_
  refine TL_v rfl rfl rfl (V_extract (vs := [vs r_1.1, vi r_1.2]) rfl rfl) ?_
  refine TL_v rfl rfl rfl (V_extract (vs := [vs r_1.1, vi r_1.2]) rfl rfl) ?_
  refine TL_v rfl rfl rfl (V_assign rfl) ?_
  refine TL_v rfl rfl rfl (V_assign rfl) ?_
  refine TL_nil ?_
  refine TX_next ?_
  refine TC_seq ?_
  refine TC_region ?_
  refine TL_v rfl rfl rfl (V_move rfl) ?_
  refine TL_v rfl rfl rfl (V_move rfl) ?_
  refine TL_v rfl rfl rfl (V_move rfl) ?_
  obtain ⟨r_2, hr_2, H⟩ := bind_elim H
  refine TL_e rfl rfl rfl (E_call (Γ := Unit) (val := fun g => Value.tuple [vs r_2.1, vi r_2.2].toArray) (mem := fun g => []) (vs := [vi suite, vs secret, vs s_]) (Lin := []) (Ro := []) (is := []) rfl Try.call26 (F26_calls suite secret s_ r_2 hr_2) rfl trivial) (fun g_2 => ?_)
  refine TL_v rfl rfl rfl (V_move rfl) ?_
  refine TL_v rfl rfl rfl (V_extract (vs := [vs r_2.1, vi r_2.2]) rfl rfl) ?_
  refine TL_v rfl rfl rfl (V_extract (vs := [vs r_2.1, vi r_2.2]) rfl rfl) ?_
  refine TL_v rfl rfl rfl (V_assign rfl) ?_
  refine TL_v rfl rfl rfl (V_assign rfl) ?_
  refine TL_nil ?_
  refine TX_next ?_
  refine TC_seq ?_
  refine TC_region ?_
  refine TL_v rfl rfl rfl (V_move rfl) ?_
  refine TL_v rfl rfl rfl (V_move rfl) ?_
  refine TL_v rfl rfl rfl (V_move rfl) ?_
  obtain ⟨r_3, hr_3, H⟩ := bind_elim H
  refine TL_e rfl rfl rfl (E_call (Γ := Unit) (val := fun g => Value.tuple [vs r_3.1, vi r_3.2].toArray) (mem := fun g => []) (vs := [vi suite, vs secret, vs s_]) (Lin := []) (Ro := []) (is := []) rfl Try.call27 (F27_calls suite secret s_ r_3 hr_3) rfl trivial) (fun g_3 => ?_)
  refine TL_v rfl rfl rfl (V_move rfl) ?_
  refine TL_v rfl rfl rfl (V_extract (vs := [vs r_3.1, vi r_3.2]) rfl rfl) ?_
  refine TL_v rfl rfl rfl (V_extract (vs := [vs r_3.1, vi r_3.2]) rfl rfl) ?_
  refine TL_v rfl rfl rfl (V_assign rfl) ?_
  refine TL_v rfl rfl rfl (V_assign rfl) ?_
  refine TL_nil ?_
  refine TX_next ?_
  refine TC.sub (m' := [(0, vi suite), (1, vs secret), (2, vs label), (3, vs s_), (4, vi size), (11, vs r_1.1), (12, vi r_1.2), (13, vs r_2.1), (14, vi r_2.2), (15, vs r_3.1), (16, vi r_3.2)]) ⟨rfl, rfl, rfl, rfl, rfl, rfl, rfl, rfl, rfl, rfl, rfl, trivial⟩ ?_
  refine TC_seq ?_
  refine TC_region ?_
  refine TL_v rfl rfl rfl (V_move rfl) ?_
  refine TL_v rfl rfl rfl (V_move rfl) ?_
  refine TL_v rfl rfl rfl (V_move rfl) ?_
  obtain ⟨r_4, hr_4, H⟩ := bind_elim H
  refine TL_e rfl rfl rfl (E_call (Γ := Unit) (val := fun g => Value.tuple [vs r_4.1, vi r_4.2].toArray) (mem := fun g => []) (vs := [vi suite, vs secret, vs s_]) (Lin := []) (Ro := []) (is := []) rfl Try.call28 (F28_calls suite secret s_ r_4 hr_4) rfl trivial) (fun g_4 => ?_)
  refine TL_v rfl rfl rfl (V_move rfl) ?_
  refine TL_v rfl rfl rfl (V_extract (vs := [vs r_4.1, vi r_4.2]) rfl rfl) ?_
  refine TL_v rfl rfl rfl (V_extract (vs := [vs r_4.1, vi r_4.2]) rfl rfl) ?_
  refine TL_v rfl rfl rfl (V_assign rfl) ?_
  refine TL_v rfl rfl rfl (V_assign rfl) ?_
  refine TL_nil ?_
  refine TX_next ?_
  refine TC_seq ?_
  refine TC_region ?_
  refine TL_v rfl rfl rfl (V_move rfl) ?_
  refine TL_v rfl rfl rfl (V_move rfl) ?_
  refine TL_v rfl rfl rfl (V_move rfl) ?_
  refine TL_v rfl rfl rfl (V_move rfl) ?_
  refine TL_v rfl rfl rfl (V_move rfl) ?_
  obtain ⟨r_5, hr_5, H⟩ := bind_elim H
  refine TL_e rfl rfl rfl (E_call (Γ := Unit) (val := fun g => Value.tuple [vs r_5.1, vi r_5.2].toArray) (mem := fun g => []) (vs := [vi suite, vs secret, vs label, vs s_, vi size]) (Lin := []) (Ro := []) (is := []) rfl Try.call29 (F29_calls suite secret label s_ size r_5 hr_5) rfl trivial) (fun g_5 => ?_)
  refine TL_v rfl rfl rfl (V_move rfl) ?_
  refine TL_v rfl rfl rfl (V_extract (vs := [vs r_5.1, vi r_5.2]) rfl rfl) ?_
  refine TL_v rfl rfl rfl (V_extract (vs := [vs r_5.1, vi r_5.2]) rfl rfl) ?_
  refine TL_v rfl rfl rfl (V_assign rfl) ?_
  refine TL_v rfl rfl rfl (V_assign rfl) ?_
  refine TL_nil ?_
  refine TX_next ?_
  refine TC.sub (m' := [(0, vi suite), (1, vs secret), (2, vs label), (3, vs s_), (4, vi size), (11, vs r_1.1), (12, vi r_1.2), (13, vs r_2.1), (14, vi r_2.2), (15, vs r_3.1), (16, vi r_3.2), (17, vs r_4.1), (18, vi r_4.2), (19, vs r_5.1), (20, vi r_5.2)]) ⟨rfl, rfl, rfl, rfl, rfl, rfl, rfl, rfl, rfl, rfl, rfl, rfl, rfl, rfl, rfl, trivial⟩ ?_
  refine TC_seq ?_
  refine TC_region ?_
  refine TL_v rfl rfl rfl (V_move rfl) ?_
  refine TL_v rfl rfl rfl (V_move rfl) ?_
  refine TL_v rfl rfl rfl (V_move rfl) ?_
  refine TL_v rfl rfl rfl (V_move rfl) ?_
  refine TL_v rfl rfl rfl (V_move rfl) ?_
  obtain ⟨r_6, hr_6, H⟩ := bind_elim H
  refine TL_e rfl rfl rfl (E_call (Γ := Unit) (val := fun g => Value.tuple [vs r_6.1, vi r_6.2].toArray) (mem := fun g => []) (vs := [vi suite, vs secret, vs label, vs s_, vi size]) (Lin := []) (Ro := []) (is := []) rfl Try.call30 (F30_calls suite secret label s_ size r_6 hr_6) rfl trivial) (fun g_6 => ?_)
  refine TL_v rfl rfl rfl (V_move rfl) ?_
  refine TL_v rfl rfl rfl (V_extract (vs := [vs r_6.1, vi r_6.2]) rfl rfl) ?_
  refine TL_v rfl rfl rfl (V_extract (vs := [vs r_6.1, vi r_6.2]) rfl rfl) ?_
  refine TL_v rfl rfl rfl (V_assign rfl) ?_
  refine TL_v rfl rfl rfl (V_assign rfl) ?_
  refine TL_nil ?_
  refine TX_next ?_
  refine TC_seq ?_
  refine TC_region ?_
  refine TL_v rfl rfl rfl (V_move rfl) ?_
  refine TL_v rfl rfl rfl (V_move rfl) ?_
  refine TL_v rfl rfl rfl (V_bin rfl rfl (fun w => eqlS w r_1.1 r_2.1)) ?_
  refine TL_v rfl rfl rfl (V_move rfl) ?_
  refine TL_fork (d := 72) (b := (decide (r_1.1 = r_2.1))) rfl (fun hc => ?_) (fun hc => ?_)
  · replace H := ite_t (of_decide_eq_true hc) H
    refine TL_want rfl rfl rfl rfl rfl rfl (V_move rfl) ?_
    obtain ⟨r_7, hr_7, H⟩ := bind_elim H
    refine TL_wantE rfl rfl rfl rfl rfl rfl (E_call (Γ := Unit) (val := fun g => vi r_7) (mem := fun g => []) (vs := [vi r_1.2]) (Lin := []) (Ro := []) (is := []) rfl Try.call21 (F21_calls r_1.2 r_7 hr_7) rfl trivial) (fun g_7 => ?_)
    refine TL_want rfl rfl rfl rfl rfl rfl (V_move rfl) ?_
    refine TL_want rfl rfl rfl rfl rfl rfl (V_bin rfl rfl (fun w => eqlI w r_7 r_2.2)) ?_
    refine TL_v rfl rfl rfl (V_pick (b := true) rfl rfl) ?_
    refine TL_v rfl rfl rfl (V_move rfl) ?_
    refine TL_fork (d := 78) (b := (decide (r_7 = r_2.2))) rfl (fun hc => ?_) (fun hc => ?_)
    · replace H := ite_t (of_decide_eq_true hc) H
      refine TL_want rfl rfl rfl rfl rfl rfl (V_move rfl) ?_
      refine TL_want rfl rfl rfl rfl rfl rfl (V_move rfl) ?_
      refine TL_want rfl rfl rfl rfl rfl rfl (V_bin rfl rfl (fun w => eqlS w r_3.1 r_4.1)) ?_
      refine TL_v rfl rfl rfl (V_pick (b := true) rfl rfl) ?_
      refine TL_v rfl rfl rfl (V_move rfl) ?_
      refine TL_fork (d := 83) (b := (decide (r_3.1 = r_4.1))) rfl (fun hc => ?_) (fun hc => ?_)
      · replace H := ite_t (of_decide_eq_true hc) H
        refine TL_want rfl rfl rfl rfl rfl rfl (V_move rfl) ?_
        obtain ⟨r_8, hr_8, H⟩ := bind_elim H
        refine TL_wantE rfl rfl rfl rfl rfl rfl (E_call (Γ := Unit) (val := fun g => vi r_8) (mem := fun g => []) (vs := [vi r_3.2]) (Lin := []) (Ro := []) (is := []) rfl Try.call21 (F21_calls r_3.2 r_8 hr_8) rfl trivial) (fun g_8 => ?_)
        refine TL_want rfl rfl rfl rfl rfl rfl (V_move rfl) ?_
        refine TL_want rfl rfl rfl rfl rfl rfl (V_bin rfl rfl (fun w => eqlI w r_8 r_4.2)) ?_
        refine TL_v rfl rfl rfl (V_pick (b := true) rfl rfl) ?_
        refine TL_v rfl rfl rfl (V_move rfl) ?_
        refine TL_fork (d := 89) (b := (decide (r_8 = r_4.2))) rfl (fun hc => ?_) (fun hc => ?_)
        · replace H := ite_t (of_decide_eq_true hc) H
          refine TL_want rfl rfl rfl rfl rfl rfl (V_move rfl) ?_
          refine TL_want rfl rfl rfl rfl rfl rfl (V_move rfl) ?_
          refine TL_want rfl rfl rfl rfl rfl rfl (V_bin rfl rfl (fun w => eqlS w r_5.1 r_6.1)) ?_
          refine TL_v rfl rfl rfl (V_pick (b := true) rfl rfl) ?_
          refine TL_v rfl rfl rfl (V_move rfl) ?_
          refine TL_fork (d := 94) (b := (decide (r_5.1 = r_6.1))) rfl (fun hc => ?_) (fun hc => ?_)
          · replace H := ite_t (of_decide_eq_true hc) H
            refine TL_want rfl rfl rfl rfl rfl rfl (V_move rfl) ?_
            obtain ⟨r_9, hr_9, H⟩ := bind_elim H
            refine TL_wantE rfl rfl rfl rfl rfl rfl (E_call (Γ := Unit) (val := fun g => vi r_9) (mem := fun g => []) (vs := [vi r_5.2]) (Lin := []) (Ro := []) (is := []) rfl Try.call21 (F21_calls r_5.2 r_9 hr_9) rfl trivial) (fun g_9 => ?_)
            refine TL_want rfl rfl rfl rfl rfl rfl (V_move rfl) ?_
            refine TL_want rfl rfl rfl rfl rfl rfl (V_bin rfl rfl (fun w => eqlI w r_9 r_6.2)) ?_
            refine TL_v rfl rfl rfl (V_pick (b := true) rfl rfl) ?_
            refine TL_v rfl rfl rfl (V_move rfl) ?_
            refine TL_fork (d := 100) (b := (decide (r_9 = r_6.2))) rfl (fun hc => ?_) (fun hc => ?_)
            · replace H := ite_t (of_decide_eq_true hc) H
              obtain ⟨r_10, hr_10, H⟩ := bind_elim H
              refine TL_wantE rfl rfl rfl rfl rfl rfl (E_call (Γ := Unit) (val := fun g => vb r_10) (mem := fun g => []) (vs := []) (Lin := []) (Ro := []) (is := []) rfl Try.call22 (F22_calls r_10 hr_10) rfl trivial) (fun g_10 => ?_)
              refine TL_v rfl rfl rfl (V_pick (b := true) rfl rfl) ?_
              refine TL_v rfl rfl rfl (V_assign rfl) ?_
              refine TL_nil ?_
              refine TX_next ?_
              refine TC.sub (m' := [(10, vb r_10)]) ⟨rfl, trivial⟩ ?_
              refine TC_ret ?_
              have hrv := Option.some.inj H
              subst hrv
              exact TX_ret (rs := [.tmp 10]) (vs := [vb r_10]) rfl ⟨rfl, trivial⟩ (fun w' hs' => ⟨(), rfl, Step.left (Step.pulled (is := []) (A := []) hs' rfl)⟩)
            · replace H := ite_f (of_decide_eq_false hc) H
              refine TL_skip rfl rfl rfl rfl rfl rfl rfl ?_
              refine TL_v rfl rfl rfl (V_pick (b := false) rfl rfl) ?_
              refine TL_v rfl rfl rfl (V_assign rfl) ?_
              refine TL_nil ?_
              refine TX_next ?_
              refine TC.sub (m' := [(10, vb false)]) ⟨rfl, trivial⟩ ?_
              refine TC_ret ?_
              have hrv := Option.some.inj H
              subst hrv
              exact TX_ret (rs := [.tmp 10]) (vs := [vb false]) rfl ⟨rfl, trivial⟩ (fun w' hs' => ⟨(), rfl, Step.left (Step.pulled (is := []) (A := []) hs' rfl)⟩)
          · replace H := ite_f (of_decide_eq_false hc) H
            refine TL_skip rfl rfl rfl rfl rfl rfl rfl ?_
            refine TL_skip rfl rfl rfl rfl rfl rfl rfl ?_
            refine TL_skip rfl rfl rfl rfl rfl rfl rfl ?_
            refine TL_skip rfl rfl rfl rfl rfl rfl rfl ?_
            refine TL_v rfl rfl rfl (V_pick (b := false) rfl rfl) ?_
            refine TL_v rfl rfl rfl (V_move rfl) ?_
            refine TL_skip rfl rfl rfl rfl rfl rfl rfl ?_
            refine TL_v rfl rfl rfl (V_pick (b := false) rfl rfl) ?_
            refine TL_v rfl rfl rfl (V_assign rfl) ?_
            refine TL_nil ?_
            refine TX_next ?_
            refine TC.sub (m' := [(10, vb false)]) ⟨rfl, trivial⟩ ?_
            refine TC_ret ?_
            have hrv := Option.some.inj H
            subst hrv
            exact TX_ret (rs := [.tmp 10]) (vs := [vb false]) rfl ⟨rfl, trivial⟩ (fun w' hs' => ⟨(), rfl, Step.left (Step.pulled (is := []) (A := []) hs' rfl)⟩)
        · replace H := ite_f (of_decide_eq_false hc) H
          refine TL_skip rfl rfl rfl rfl rfl rfl rfl ?_
          refine TL_skip rfl rfl rfl rfl rfl rfl rfl ?_
          refine TL_skip rfl rfl rfl rfl rfl rfl rfl ?_
          refine TL_v rfl rfl rfl (V_pick (b := false) rfl rfl) ?_
          refine TL_v rfl rfl rfl (V_move rfl) ?_
          refine TL_skip rfl rfl rfl rfl rfl rfl rfl ?_
          refine TL_skip rfl rfl rfl rfl rfl rfl rfl ?_
          refine TL_skip rfl rfl rfl rfl rfl rfl rfl ?_
          refine TL_skip rfl rfl rfl rfl rfl rfl rfl ?_
          refine TL_v rfl rfl rfl (V_pick (b := false) rfl rfl) ?_
          refine TL_v rfl rfl rfl (V_move rfl) ?_
          refine TL_skip rfl rfl rfl rfl rfl rfl rfl ?_
          refine TL_v rfl rfl rfl (V_pick (b := false) rfl rfl) ?_
          refine TL_v rfl rfl rfl (V_assign rfl) ?_
          refine TL_nil ?_
          refine TX_next ?_
          refine TC.sub (m' := [(10, vb false)]) ⟨rfl, trivial⟩ ?_
          refine TC_ret ?_
          have hrv := Option.some.inj H
          subst hrv
          exact TX_ret (rs := [.tmp 10]) (vs := [vb false]) rfl ⟨rfl, trivial⟩ (fun w' hs' => ⟨(), rfl, Step.left (Step.pulled (is := []) (A := []) hs' rfl)⟩)
      · replace H := ite_f (of_decide_eq_false hc) H
        refine TL_skip rfl rfl rfl rfl rfl rfl rfl ?_
        refine TL_skip rfl rfl rfl rfl rfl rfl rfl ?_
        refine TL_skip rfl rfl rfl rfl rfl rfl rfl ?_
        refine TL_skip rfl rfl rfl rfl rfl rfl rfl ?_
        refine TL_v rfl rfl rfl (V_pick (b := false) rfl rfl) ?_
        refine TL_v rfl rfl rfl (V_move rfl) ?_
        refine TL_skip rfl rfl rfl rfl rfl rfl rfl ?_
        refine TL_skip rfl rfl rfl rfl rfl rfl rfl ?_
        refine TL_skip rfl rfl rfl rfl rfl rfl rfl ?_
        refine TL_v rfl rfl rfl (V_pick (b := false) rfl rfl) ?_
        refine TL_v rfl rfl rfl (V_move rfl) ?_
        refine TL_skip rfl rfl rfl rfl rfl rfl rfl ?_
        refine TL_skip rfl rfl rfl rfl rfl rfl rfl ?_
        refine TL_skip rfl rfl rfl rfl rfl rfl rfl ?_
        refine TL_skip rfl rfl rfl rfl rfl rfl rfl ?_
        refine TL_v rfl rfl rfl (V_pick (b := false) rfl rfl) ?_
        refine TL_v rfl rfl rfl (V_move rfl) ?_
        refine TL_skip rfl rfl rfl rfl rfl rfl rfl ?_
        refine TL_v rfl rfl rfl (V_pick (b := false) rfl rfl) ?_
        refine TL_v rfl rfl rfl (V_assign rfl) ?_
        refine TL_nil ?_
        refine TX_next ?_
        refine TC.sub (m' := [(10, vb false)]) ⟨rfl, trivial⟩ ?_
        refine TC_ret ?_
        have hrv := Option.some.inj H
        subst hrv
        exact TX_ret (rs := [.tmp 10]) (vs := [vb false]) rfl ⟨rfl, trivial⟩ (fun w' hs' => ⟨(), rfl, Step.left (Step.pulled (is := []) (A := []) hs' rfl)⟩)
    · replace H := ite_f (of_decide_eq_false hc) H
      refine TL_skip rfl rfl rfl rfl rfl rfl rfl ?_
      refine TL_skip rfl rfl rfl rfl rfl rfl rfl ?_
      refine TL_skip rfl rfl rfl rfl rfl rfl rfl ?_
      refine TL_v rfl rfl rfl (V_pick (b := false) rfl rfl) ?_
      refine TL_v rfl rfl rfl (V_move rfl) ?_
      refine TL_skip rfl rfl rfl rfl rfl rfl rfl ?_
      refine TL_skip rfl rfl rfl rfl rfl rfl rfl ?_
      refine TL_skip rfl rfl rfl rfl rfl rfl rfl ?_
      refine TL_skip rfl rfl rfl rfl rfl rfl rfl ?_
      refine TL_v rfl rfl rfl (V_pick (b := false) rfl rfl) ?_
      refine TL_v rfl rfl rfl (V_move rfl) ?_
      refine TL_skip rfl rfl rfl rfl rfl rfl rfl ?_
      refine TL_skip rfl rfl rfl rfl rfl rfl rfl ?_
      refine TL_skip rfl rfl rfl rfl rfl rfl rfl ?_
      refine TL_v rfl rfl rfl (V_pick (b := false) rfl rfl) ?_
      refine TL_v rfl rfl rfl (V_move rfl) ?_
      refine TL_skip rfl rfl rfl rfl rfl rfl rfl ?_
      refine TL_skip rfl rfl rfl rfl rfl rfl rfl ?_
      refine TL_skip rfl rfl rfl rfl rfl rfl rfl ?_
      refine TL_skip rfl rfl rfl rfl rfl rfl rfl ?_
      refine TL_v rfl rfl rfl (V_pick (b := false) rfl rfl) ?_
      refine TL_v rfl rfl rfl (V_move rfl) ?_
      refine TL_skip rfl rfl rfl rfl rfl rfl rfl ?_
      refine TL_v rfl rfl rfl (V_pick (b := false) rfl rfl) ?_
      refine TL_v rfl rfl rfl (V_assign rfl) ?_
      refine TL_nil ?_
      refine TX_next ?_
      refine TC.sub (m' := [(10, vb false)]) ⟨rfl, trivial⟩ ?_
      refine TC_ret ?_
      have hrv := Option.some.inj H
      subst hrv
      exact TX_ret (rs := [.tmp 10]) (vs := [vb false]) rfl ⟨rfl, trivial⟩ (fun w' hs' => ⟨(), rfl, Step.left (Step.pulled (is := []) (A := []) hs' rfl)⟩)
  · replace H := ite_f (of_decide_eq_false hc) H
    refine TL_skip rfl rfl rfl rfl rfl rfl rfl ?_
    refine TL_skip rfl rfl rfl rfl rfl rfl rfl ?_
    refine TL_skip rfl rfl rfl rfl rfl rfl rfl ?_
    refine TL_skip rfl rfl rfl rfl rfl rfl rfl ?_
    refine TL_v rfl rfl rfl (V_pick (b := false) rfl rfl) ?_
    refine TL_v rfl rfl rfl (V_move rfl) ?_
    refine TL_skip rfl rfl rfl rfl rfl rfl rfl ?_
    refine TL_skip rfl rfl rfl rfl rfl rfl rfl ?_
    refine TL_skip rfl rfl rfl rfl rfl rfl rfl ?_
    refine TL_v rfl rfl rfl (V_pick (b := false) rfl rfl) ?_
    refine TL_v rfl rfl rfl (V_move rfl) ?_
    refine TL_skip rfl rfl rfl rfl rfl rfl rfl ?_
    refine TL_skip rfl rfl rfl rfl rfl rfl rfl ?_
    refine TL_skip rfl rfl rfl rfl rfl rfl rfl ?_
    refine TL_skip rfl rfl rfl rfl rfl rfl rfl ?_
    refine TL_v rfl rfl rfl (V_pick (b := false) rfl rfl) ?_
    refine TL_v rfl rfl rfl (V_move rfl) ?_
    refine TL_skip rfl rfl rfl rfl rfl rfl rfl ?_
    refine TL_skip rfl rfl rfl rfl rfl rfl rfl ?_
    refine TL_skip rfl rfl rfl rfl rfl rfl rfl ?_
    refine TL_v rfl rfl rfl (V_pick (b := false) rfl rfl) ?_
    refine TL_v rfl rfl rfl (V_move rfl) ?_
    refine TL_skip rfl rfl rfl rfl rfl rfl rfl ?_
    refine TL_skip rfl rfl rfl rfl rfl rfl rfl ?_
    refine TL_skip rfl rfl rfl rfl rfl rfl rfl ?_
    refine TL_skip rfl rfl rfl rfl rfl rfl rfl ?_
    refine TL_v rfl rfl rfl (V_pick (b := false) rfl rfl) ?_
    refine TL_v rfl rfl rfl (V_move rfl) ?_
    refine TL_skip rfl rfl rfl rfl rfl rfl rfl ?_
    refine TL_v rfl rfl rfl (V_pick (b := false) rfl rfl) ?_
    refine TL_v rfl rfl rfl (V_assign rfl) ?_
    refine TL_nil ?_
    refine TX_next ?_
    refine TC.sub (m' := [(10, vb false)]) ⟨rfl, trivial⟩ ?_
    refine TC_ret ?_
    have hrv := Option.some.inj H
    subst hrv
    exact TX_ret (rs := [.tmp 10]) (vs := [vb false]) rfl ⟨rfl, trivial⟩ (fun w' hs' => ⟨(), rfl, Step.left (Step.pulled (is := []) (A := []) hs' rfl)⟩)

end Go.Proofs
end

section
/-
  The law SchedMacs of the key schedule.
-/
namespace Go.Proofs
open Go Go.Kx
set_option linter.unusedVariables false
set_option linter.unusedSimpArgs false
theorem SchedMacs_true (suite : Int) (secret label s : Str) (size : Int) (h1 : secret.length ≤ 140737488351232) (h3 : s.length ≤ 140737488351232) : halberdlaw19_SchedMacs suite secret label s size = some true := by
  unfold halberdlaw19_SchedMacs
  refine bind_i (Finished_eq suite secret s (by omega) (by omega)) (bind_i (FinishedR_eq suite secret s (by omega) (by omega)) (bind_i (Binder_eq suite secret s h1 (by omega)) (bind_i (BinderR_eq suite secret s h1 (by omega)) (bind_i (Export_eq suite secret label s size (by omega) (by omega)) (bind_i (ExportR_eq suite secret label s size (by omega) (by omega)) ?_)))))
  exact if_i rfl (bind_i (num_eq _) (if_i rfl (if_i rfl (bind_i (num_eq _) (if_i rfl (if_i rfl (bind_i (num_eq _) (if_i rfl (bind_i awake19 rfl)))))))))
end Go.Proofs
end

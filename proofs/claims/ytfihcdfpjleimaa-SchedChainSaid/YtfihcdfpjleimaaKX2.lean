/-
  Part KX2 of the proofs of this seat: F24, F26, F27, F28, F29, F30, F22.
-/
import Derived.Test.YtfihcdfpjleimaaK2
import Derived.Test.YtfihcdfpjleimaaKX1
import Derived.Test.YtfihcdfpjleimaaKH1
import Derived.Test.YtfihcdfpjleimaaKS3
section
namespace Go.Proofs
open Go Go.Kx
set_option linter.unusedVariables false
set_option linter.unusedSimpArgs false
def sched_Finished (suite : Int) (secret : Str) (hash : Str) : Option (Str × Int) :=
  (sched_Derive suite secret ([102#8, 105#8, 110#8, 105#8, 115#8, 104#8, 101#8, 100#8] : Str) ([] : Str)).bind fun (r_1 : Str × Int) => (if r_1.2 ≠ 0 then (some (([] : Str), r_1.2)) else ((sched_Bits suite).bind fun (r_2 : Int × Int) => ((hkdf_Hmac r_2.1 r_1.1 hash).bind fun (r_3 : Str × Int) => (some (r_3.1, r_3.2)))))

set_option maxHeartbeats 4000000 in
set_option maxRecDepth 20000 in
theorem F24_calls (suite : Int) (secret : Str) (hash : Str) (r : Str × Int) (H : sched_Finished suite secret hash = some r) :
    Does Try.prog 24 [vi suite, vs secret, vs hash] [] [] (Γ := Unit) (fun g => Value.tuple [vs r.1, vi r.2].toArray) (fun g => []) := by
  intro w hmem hro hd
  refine calls_of (N := 32) (m0 := [(0, vi suite), (1, vs secret), (2, vs hash)]) Try.func24 rfl Try.ntmps24 (argM_ok [vi suite, vs secret, vs hash]) rfl hmem hro hd ?_
  unfold sched_Finished at H
  refine TC_seq ?_
  refine TC_region ?_
  refine TL_v rfl rfl rfl (V_assign rfl) ?_
  refine TL_v rfl rfl rfl (V_assign rfl) ?_
  refine TL_nil ?_
  refine TX_next ?_
  refine TC_seq ?_
  refine TC_region ?_
  refine TL_v rfl rfl rfl (V_move rfl) ?_
  refine TL_v rfl rfl rfl (V_move rfl) ?_
  obtain ⟨r_1, hr_1, H⟩ := bind_elim H
  refine TL_e rfl rfl rfl (E_call (Γ := Unit) (val := fun g => Value.tuple [vs r_1.1, vi r_1.2].toArray) (mem := fun g => []) (vs := [vi suite, vs secret, vs ([102#8, 105#8, 110#8, 105#8, 115#8, 104#8, 101#8, 100#8] : Str), vs ([] : Str)]) (Lin := []) (Ro := []) (is := []) rfl Try.call11 (F11_calls suite secret ([102#8, 105#8, 110#8, 105#8, 115#8, 104#8, 101#8, 100#8] : Str) ([] : Str) r_1 hr_1) rfl trivial) (fun g_1 => ?_)
  refine TL_v rfl rfl rfl (V_move rfl) ?_
  refine TL_v rfl rfl rfl (V_extract (vs := [vs r_1.1, vi r_1.2]) rfl rfl) ?_
  refine TL_v rfl rfl rfl (V_extract (vs := [vs r_1.1, vi r_1.2]) rfl rfl) ?_
  refine TL_v rfl rfl rfl (V_assign rfl) ?_
  refine TL_v rfl rfl rfl (V_assign rfl) ?_
  refine TL_nil ?_
  refine TX_next ?_
  refine TC_seq ?_
  refine TC_seq ?_
  refine TC_region ?_
  refine TL_v rfl rfl rfl (V_move rfl) ?_
  refine TL_v rfl rfl rfl (V_bin rfl rfl (fun w => neqI w r_1.2 0)) ?_
  refine TL_nil ?_
  refine TX_next ?_
  refine TC_cond (b := (decide (r_1.2 ≠ 0))) rfl (fun hc => ?_) (fun hc => ?_)
  · replace H := ite_t (of_decide_eq_true hc) H
    refine TC_seq ?_
    refine TC_region ?_
    refine TL_v rfl rfl rfl (V_move rfl) ?_
    refine TL_v rfl rfl rfl (V_assign rfl) ?_
    refine TL_v rfl rfl rfl (V_assign rfl) ?_
    refine TL_nil ?_
    refine TX_next ?_
    refine TC_ret ?_
    refine TX_then_ret ?_
    have hrv := Option.some.inj H
    subst hrv
    exact TX_ret (rs := [.tmp 6, .tmp 7]) (vs := [vs ([] : Str), vi r_1.2]) rfl ⟨rfl, rfl, trivial⟩ (fun w' hs' => ⟨(), rfl, Step.left (Step.pulled (is := []) (A := []) hs' rfl)⟩)
  · replace H := ite_f (of_decide_eq_false hc) H
    refine TC_skip ?_
    refine TX_next ?_
    refine TC_seq ?_
    refine TC_region ?_
    refine TL_v rfl rfl rfl (V_move rfl) ?_
    obtain ⟨r_2, hr_2, H⟩ := bind_elim H
    refine TL_e rfl rfl rfl (E_call (Γ := Unit) (val := fun g => Value.tuple [vi r_2.1, vi r_2.2].toArray) (mem := fun g => []) (vs := [vi suite]) (Lin := []) (Ro := []) (is := []) rfl Try.call9 (F9_calls suite r_2 hr_2) rfl trivial) (fun g_2 => ?_)
    refine TL_v rfl rfl rfl (V_move rfl) ?_
    refine TL_v rfl rfl rfl (V_extract (vs := [vi r_2.1, vi r_2.2]) rfl rfl) ?_
    refine TL_v rfl rfl rfl (V_extract (vs := [vi r_2.1, vi r_2.2]) rfl rfl) ?_
    refine TL_v rfl rfl rfl (V_assign rfl) ?_
    refine TL_v rfl rfl rfl (V_assign rfl) ?_
    refine TL_nil ?_
    refine TX_next ?_
    refine TC_seq ?_
    refine TC_region ?_
    refine TL_v rfl rfl rfl (V_move rfl) ?_
    refine TL_v rfl rfl rfl (V_move rfl) ?_
    refine TL_v rfl rfl rfl (V_move rfl) ?_
    obtain ⟨r_3, hr_3, H⟩ := bind_elim H
    refine TL_e rfl rfl rfl (E_call (Γ := Unit) (val := fun g => Value.tuple [vs r_3.1, vi r_3.2].toArray) (mem := fun g => []) (vs := [vi r_2.1, vs r_1.1, vs hash]) (Lin := []) (Ro := []) (is := []) rfl Try.call43 (F43_calls r_2.1 r_1.1 hash r_3 hr_3) rfl trivial) (fun g_3 => ?_)
    refine TL_v rfl rfl rfl (V_extract (vs := [vs r_3.1, vi r_3.2]) rfl rfl) ?_
    refine TL_v rfl rfl rfl (V_extract (vs := [vs r_3.1, vi r_3.2]) rfl rfl) ?_
    refine TL_v rfl rfl rfl (V_assign rfl) ?_
    refine TL_v rfl rfl rfl (V_assign rfl) ?_
    refine TL_nil ?_
    refine TX_next ?_
    refine TC_ret ?_
    have hrv := Option.some.inj H
    subst hrv
    exact TX_ret (rs := [.tmp 6, .tmp 7]) (vs := [vs r_3.1, vi r_3.2]) rfl ⟨rfl, rfl, trivial⟩ (fun w' hs' => ⟨(), rfl, Step.left (Step.pulled (is := []) (A := []) hs' rfl)⟩)

end Go.Proofs
end

section
namespace Go.Proofs
open Go Go.Kx
set_option linter.unusedVariables false
set_option linter.unusedSimpArgs false
def halberdref19_Finished (suite : Int) (secret : Str) (hash : Str) : Option (Str × Int) :=
  (halberdref19_Bits suite).bind fun (r_1 : Int × Int) => (if r_1.2 ≠ 0 then (some (([] : Str), r_1.2)) else ((halberdref19_Derive suite secret ([102#8, 105#8, 110#8, 105#8, 115#8, 104#8, 101#8, 100#8] : Str) ([] : Str)).bind fun (r_2 : Str × Int) => ((halberdref1_Mac r_1.1 r_2.1 hash).bind fun (r_3 : Str) => (some (r_3, 0)))))

set_option maxHeartbeats 4000000 in
set_option maxRecDepth 20000 in
theorem F26_calls (suite : Int) (secret : Str) (hash : Str) (r : Str × Int) (H : halberdref19_Finished suite secret hash = some r) :
    Does Try.prog 26 [vi suite, vs secret, vs hash] [] [] (Γ := Unit) (fun g => Value.tuple [vs r.1, vi r.2].toArray) (fun g => []) := by
  intro w hmem hro hd
  refine calls_of (N := 30) (m0 := [(0, vi suite), (1, vs secret), (2, vs hash)]) Try.func26 rfl Try.ntmps26 (argM_ok [vi suite, vs secret, vs hash]) rfl hmem hro hd ?_
  unfold halberdref19_Finished at H
  refine TC_seq ?_
  refine TC_region ?_
  refine TL_v rfl rfl rfl (V_assign rfl) ?_
  refine TL_v rfl rfl rfl (V_assign rfl) ?_
  refine TL_nil ?_
  refine TX_next ?_
  refine TC_seq ?_
  refine TC_region ?_
  refine TL_v rfl rfl rfl (V_move rfl) ?_
  obtain ⟨r_1, hr_1, H⟩ := bind_elim H
  refine TL_e rfl rfl rfl (E_call (Γ := Unit) (val := fun g => Value.tuple [vi r_1.1, vi r_1.2].toArray) (mem := fun g => []) (vs := [vi suite]) (Lin := []) (Ro := []) (is := []) rfl Try.call10 (F10_calls suite r_1 hr_1) rfl trivial) (fun g_1 => ?_)
  refine TL_v rfl rfl rfl (V_move rfl) ?_
  refine TL_v rfl rfl rfl (V_extract (vs := [vi r_1.1, vi r_1.2]) rfl rfl) ?_
  refine TL_v rfl rfl rfl (V_extract (vs := [vi r_1.1, vi r_1.2]) rfl rfl) ?_
  refine TL_v rfl rfl rfl (V_assign rfl) ?_
  refine TL_v rfl rfl rfl (V_assign rfl) ?_
  refine TL_nil ?_
  refine TX_next ?_
  refine TC_seq ?_
  refine TC_seq ?_
  refine TC_region ?_
  refine TL_v rfl rfl rfl (V_move rfl) ?_
  refine TL_v rfl rfl rfl (V_bin rfl rfl (fun w => neqI w r_1.2 0)) ?_
  refine TL_nil ?_
  refine TX_next ?_
  refine TC_cond (b := (decide (r_1.2 ≠ 0))) rfl (fun hc => ?_) (fun hc => ?_)
  · replace H := ite_t (of_decide_eq_true hc) H
    refine TC_seq ?_
    refine TC_region ?_
    refine TL_v rfl rfl rfl (V_move rfl) ?_
    refine TL_v rfl rfl rfl (V_assign rfl) ?_
    refine TL_v rfl rfl rfl (V_assign rfl) ?_
    refine TL_nil ?_
    refine TX_next ?_
    refine TC_ret ?_
    refine TX_then_ret ?_
    have hrv := Option.some.inj H
    subst hrv
    exact TX_ret (rs := [.tmp 6, .tmp 7]) (vs := [vs ([] : Str), vi r_1.2]) rfl ⟨rfl, rfl, trivial⟩ (fun w' hs' => ⟨(), rfl, Step.left (Step.pulled (is := []) (A := []) hs' rfl)⟩)
  · replace H := ite_f (of_decide_eq_false hc) H
    refine TC_skip ?_
    refine TX_next ?_
    refine TC_seq ?_
    refine TC_region ?_
    refine TL_v rfl rfl rfl (V_move rfl) ?_
    refine TL_v rfl rfl rfl (V_move rfl) ?_
    obtain ⟨r_2, hr_2, H⟩ := bind_elim H
    refine TL_e rfl rfl rfl (E_call (Γ := Unit) (val := fun g => Value.tuple [vs r_2.1, vi r_2.2].toArray) (mem := fun g => []) (vs := [vi suite, vs secret, vs ([102#8, 105#8, 110#8, 105#8, 115#8, 104#8, 101#8, 100#8] : Str), vs ([] : Str)]) (Lin := []) (Ro := []) (is := []) rfl Try.call12 (F12_calls suite secret ([102#8, 105#8, 110#8, 105#8, 115#8, 104#8, 101#8, 100#8] : Str) ([] : Str) r_2 hr_2) rfl trivial) (fun g_2 => ?_)
    refine TL_v rfl rfl rfl (V_move rfl) ?_
    refine TL_v rfl rfl rfl (V_extract (vs := [vs r_2.1, vi r_2.2]) rfl rfl) ?_
    refine TL_v rfl rfl rfl (V_extract (vs := [vs r_2.1, vi r_2.2]) rfl rfl) ?_
    refine TL_v rfl rfl rfl (V_assign rfl) ?_
    refine TL_v rfl rfl rfl (V_assign rfl) ?_
    refine TL_nil ?_
    refine TX_next ?_
    refine TC_seq ?_
    refine TC_region ?_
    refine TL_v rfl rfl rfl (V_move rfl) ?_
    refine TL_v rfl rfl rfl (V_move rfl) ?_
    refine TL_v rfl rfl rfl (V_move rfl) ?_
    obtain ⟨r_3, hr_3, H⟩ := bind_elim H
    refine TL_e rfl rfl rfl (E_call (Γ := Unit) (val := fun g => vs r_3) (mem := fun g => []) (vs := [vi r_1.1, vs r_2.1, vs hash]) (Lin := []) (Ro := []) (is := []) rfl Try.call25 (F25_calls r_1.1 r_2.1 hash r_3 hr_3) rfl trivial) (fun g_3 => ?_)
    refine TL_v rfl rfl rfl (V_assign rfl) ?_
    refine TL_v rfl rfl rfl (V_assign rfl) ?_
    refine TL_nil ?_
    refine TX_next ?_
    refine TC_ret ?_
    have hrv := Option.some.inj H
    subst hrv
    exact TX_ret (rs := [.tmp 6, .tmp 7]) (vs := [vs r_3, vi 0]) rfl ⟨rfl, rfl, trivial⟩ (fun w' hs' => ⟨(), rfl, Step.left (Step.pulled (is := []) (A := []) hs' rfl)⟩)

end Go.Proofs
end

section
namespace Go.Proofs
open Go Go.Kx
set_option linter.unusedVariables false
set_option linter.unusedSimpArgs false
def sched_Binder (suite : Int) (psk : Str) (hash : Str) : Option (Str × Int) :=
  (sched_Early suite psk).bind fun (r_1 : Str × Int) => (if r_1.2 ≠ 0 then (some (([] : Str), r_1.2)) else ((sched_Hash suite ([] : Str)).bind fun (r_2 : Str) => ((sched_Derive suite r_1.1 ([114#8, 101#8, 115#8, 32#8, 98#8, 105#8, 110#8, 100#8, 101#8, 114#8] : Str) r_2).bind fun (r_3 : Str × Int) => ((sched_Finished suite r_3.1 hash).bind fun (r_4 : Str × Int) => (some (r_4.1, r_4.2))))))

set_option maxHeartbeats 4000000 in
set_option maxRecDepth 20000 in
theorem F27_calls (suite : Int) (psk : Str) (hash : Str) (r : Str × Int) (H : sched_Binder suite psk hash = some r) :
    Does Try.prog 27 [vi suite, vs psk, vs hash] [] [] (Γ := Unit) (fun g => Value.tuple [vs r.1, vi r.2].toArray) (fun g => []) := by
  intro w hmem hro hd
  refine calls_of (N := 35) (m0 := [(0, vi suite), (1, vs psk), (2, vs hash)]) Try.func27 rfl Try.ntmps27 (argM_ok [vi suite, vs psk, vs hash]) rfl hmem hro hd ?_
  unfold sched_Binder at H
  refine TC_seq ?_
  refine TC_region ?_
  refine TL_v rfl rfl rfl (V_assign rfl) ?_
  refine TL_v rfl rfl rfl (V_assign rfl) ?_
  refine TL_nil ?_
  refine TX_next ?_
  refine TC_seq ?_
  refine TC_region ?_
  refine TL_v rfl rfl rfl (V_move rfl) ?_
  refine TL_v rfl rfl rfl (V_move rfl) ?_
  obtain ⟨r_1, hr_1, H⟩ := bind_elim H
  refine TL_e rfl rfl rfl (E_call (Γ := Unit) (val := fun g => Value.tuple [vs r_1.1, vi r_1.2].toArray) (mem := fun g => []) (vs := [vi suite, vs psk]) (Lin := []) (Ro := []) (is := []) rfl Try.call13 (F13_calls suite psk r_1 hr_1) rfl trivial) (fun g_1 => ?_)
  refine TL_v rfl rfl rfl (V_move rfl) ?_
  refine TL_v rfl rfl rfl (V_extract (vs := [vs r_1.1, vi r_1.2]) rfl rfl) ?_
  refine TL_v rfl rfl rfl (V_extract (vs := [vs r_1.1, vi r_1.2]) rfl rfl) ?_
  refine TL_v rfl rfl rfl (V_assign rfl) ?_
  refine TL_v rfl rfl rfl (V_assign rfl) ?_
  refine TL_nil ?_
  refine TX_next ?_
  refine TC_seq ?_
  refine TC_seq ?_
  refine TC_region ?_
  refine TL_v rfl rfl rfl (V_move rfl) ?_
  refine TL_v rfl rfl rfl (V_bin rfl rfl (fun w => neqI w r_1.2 0)) ?_
  refine TL_nil ?_
  refine TX_next ?_
  refine TC_cond (b := (decide (r_1.2 ≠ 0))) rfl (fun hc => ?_) (fun hc => ?_)
  · replace H := ite_t (of_decide_eq_true hc) H
    refine TC_seq ?_
    refine TC_region ?_
    refine TL_v rfl rfl rfl (V_move rfl) ?_
    refine TL_v rfl rfl rfl (V_assign rfl) ?_
    refine TL_v rfl rfl rfl (V_assign rfl) ?_
    refine TL_nil ?_
    refine TX_next ?_
    refine TC_ret ?_
    refine TX_then_ret ?_
    have hrv := Option.some.inj H
    subst hrv
    exact TX_ret (rs := [.tmp 6, .tmp 7]) (vs := [vs ([] : Str), vi r_1.2]) rfl ⟨rfl, rfl, trivial⟩ (fun w' hs' => ⟨(), rfl, Step.left (Step.pulled (is := []) (A := []) hs' rfl)⟩)
  · replace H := ite_f (of_decide_eq_false hc) H
    refine TC_skip ?_
    refine TX_next ?_
    refine TC_seq ?_
    refine TC_region ?_
    refine TL_v rfl rfl rfl (V_move rfl) ?_
    refine TL_v rfl rfl rfl (V_move rfl) ?_
    refine TL_v rfl rfl rfl (V_move rfl) ?_
    obtain ⟨r_2, hr_2, H⟩ := bind_elim H
    refine TL_e rfl rfl rfl (E_call (Γ := Unit) (val := fun g => vs r_2) (mem := fun g => []) (vs := [vi suite, vs ([] : Str)]) (Lin := []) (Ro := []) (is := []) rfl Try.call38 (F38_calls suite ([] : Str) r_2 hr_2) rfl trivial) (fun g_2 => ?_)
    obtain ⟨r_3, hr_3, H⟩ := bind_elim H
    refine TL_e rfl rfl rfl (E_call (Γ := Unit) (val := fun g => Value.tuple [vs r_3.1, vi r_3.2].toArray) (mem := fun g => []) (vs := [vi suite, vs r_1.1, vs ([114#8, 101#8, 115#8, 32#8, 98#8, 105#8, 110#8, 100#8, 101#8, 114#8] : Str), vs r_2]) (Lin := []) (Ro := []) (is := []) rfl Try.call11 (F11_calls suite r_1.1 ([114#8, 101#8, 115#8, 32#8, 98#8, 105#8, 110#8, 100#8, 101#8, 114#8] : Str) r_2 r_3 hr_3) rfl trivial) (fun g_3 => ?_)
    refine TL_v rfl rfl rfl (V_move rfl) ?_
    refine TL_v rfl rfl rfl (V_extract (vs := [vs r_3.1, vi r_3.2]) rfl rfl) ?_
    refine TL_v rfl rfl rfl (V_extract (vs := [vs r_3.1, vi r_3.2]) rfl rfl) ?_
    refine TL_v rfl rfl rfl (V_assign rfl) ?_
    refine TL_v rfl rfl rfl (V_assign rfl) ?_
    refine TL_nil ?_
    refine TX_next ?_
    refine TC_seq ?_
    refine TC_region ?_
    refine TL_v rfl rfl rfl (V_move rfl) ?_
    refine TL_v rfl rfl rfl (V_move rfl) ?_
    refine TL_v rfl rfl rfl (V_move rfl) ?_
    obtain ⟨r_4, hr_4, H⟩ := bind_elim H
    refine TL_e rfl rfl rfl (E_call (Γ := Unit) (val := fun g => Value.tuple [vs r_4.1, vi r_4.2].toArray) (mem := fun g => []) (vs := [vi suite, vs r_3.1, vs hash]) (Lin := []) (Ro := []) (is := []) rfl Try.call24 (F24_calls suite r_3.1 hash r_4 hr_4) rfl trivial) (fun g_4 => ?_)
    refine TL_v rfl rfl rfl (V_extract (vs := [vs r_4.1, vi r_4.2]) rfl rfl) ?_
    refine TL_v rfl rfl rfl (V_extract (vs := [vs r_4.1, vi r_4.2]) rfl rfl) ?_
    refine TL_v rfl rfl rfl (V_assign rfl) ?_
    refine TL_v rfl rfl rfl (V_assign rfl) ?_
    refine TL_nil ?_
    refine TX_next ?_
    refine TC.sub (m' := [(6, vs r_4.1), (7, vi r_4.2)]) ⟨rfl, rfl, trivial⟩ ?_
    refine TC_ret ?_
    have hrv := Option.some.inj H
    subst hrv
    exact TX_ret (rs := [.tmp 6, .tmp 7]) (vs := [vs r_4.1, vi r_4.2]) rfl ⟨rfl, rfl, trivial⟩ (fun w' hs' => ⟨(), rfl, Step.left (Step.pulled (is := []) (A := []) hs' rfl)⟩)

end Go.Proofs
end

section
namespace Go.Proofs
open Go Go.Kx
set_option linter.unusedVariables false
set_option linter.unusedSimpArgs false
def halberdref19_Binder (suite : Int) (psk : Str) (hash : Str) : Option (Str × Int) :=
  (halberdref19_Early suite psk).bind fun (r_1 : Str × Int) => (if r_1.2 ≠ 0 then (some (([] : Str), r_1.2)) else ((halberdref19_Empty suite).bind fun (r_2 : Str) => ((halberdref19_Derive suite r_1.1 ([114#8, 101#8, 115#8, 32#8, 98#8, 105#8, 110#8, 100#8, 101#8, 114#8] : Str) r_2).bind fun (r_3 : Str × Int) => ((halberdref19_Finished suite r_3.1 hash).bind fun (r_4 : Str × Int) => (some (r_4.1, r_4.2))))))

set_option maxHeartbeats 4000000 in
set_option maxRecDepth 20000 in
theorem F28_calls (suite : Int) (psk : Str) (hash : Str) (r : Str × Int) (H : halberdref19_Binder suite psk hash = some r) :
    Does Try.prog 28 [vi suite, vs psk, vs hash] [] [] (Γ := Unit) (fun g => Value.tuple [vs r.1, vi r.2].toArray) (fun g => []) := by
  intro w hmem hro hd
  refine calls_of (N := 35) (m0 := [(0, vi suite), (1, vs psk), (2, vs hash)]) Try.func28 rfl Try.ntmps28 (argM_ok [vi suite, vs psk, vs hash]) rfl hmem hro hd ?_
  unfold halberdref19_Binder at H
  refine TC_seq ?_
  refine TC_region ?_
  refine TL_v rfl rfl rfl (V_assign rfl) ?_
  refine TL_v rfl rfl rfl (V_assign rfl) ?_
  refine TL_nil ?_
  refine TX_next ?_
  refine TC_seq ?_
  refine TC_region ?_
  refine TL_v rfl rfl rfl (V_move rfl) ?_
  refine TL_v rfl rfl rfl (V_move rfl) ?_
  obtain ⟨r_1, hr_1, H⟩ := bind_elim H
  refine TL_e rfl rfl rfl (E_call (Γ := Unit) (val := fun g => Value.tuple [vs r_1.1, vi r_1.2].toArray) (mem := fun g => []) (vs := [vi suite, vs psk]) (Lin := []) (Ro := []) (is := []) rfl Try.call14 (F14_calls suite psk r_1 hr_1) rfl trivial) (fun g_1 => ?_)
  refine TL_v rfl rfl rfl (V_move rfl) ?_
  refine TL_v rfl rfl rfl (V_extract (vs := [vs r_1.1, vi r_1.2]) rfl rfl) ?_
  refine TL_v rfl rfl rfl (V_extract (vs := [vs r_1.1, vi r_1.2]) rfl rfl) ?_
  refine TL_v rfl rfl rfl (V_assign rfl) ?_
  refine TL_v rfl rfl rfl (V_assign rfl) ?_
  refine TL_nil ?_
  refine TX_next ?_
  refine TC_seq ?_
  refine TC_seq ?_
  refine TC_region ?_
  refine TL_v rfl rfl rfl (V_move rfl) ?_
  refine TL_v rfl rfl rfl (V_bin rfl rfl (fun w => neqI w r_1.2 0)) ?_
  refine TL_nil ?_
  refine TX_next ?_
  refine TC_cond (b := (decide (r_1.2 ≠ 0))) rfl (fun hc => ?_) (fun hc => ?_)
  · replace H := ite_t (of_decide_eq_true hc) H
    refine TC_seq ?_
    refine TC_region ?_
    refine TL_v rfl rfl rfl (V_move rfl) ?_
    refine TL_v rfl rfl rfl (V_assign rfl) ?_
    refine TL_v rfl rfl rfl (V_assign rfl) ?_
    refine TL_nil ?_
    refine TX_next ?_
    refine TC_ret ?_
    refine TX_then_ret ?_
    have hrv := Option.some.inj H
    subst hrv
    exact TX_ret (rs := [.tmp 6, .tmp 7]) (vs := [vs ([] : Str), vi r_1.2]) rfl ⟨rfl, rfl, trivial⟩ (fun w' hs' => ⟨(), rfl, Step.left (Step.pulled (is := []) (A := []) hs' rfl)⟩)
  · replace H := ite_f (of_decide_eq_false hc) H
    refine TC_skip ?_
    refine TX_next ?_
    refine TC_seq ?_
    refine TC_region ?_
    refine TL_v rfl rfl rfl (V_move rfl) ?_
    refine TL_v rfl rfl rfl (V_move rfl) ?_
    refine TL_v rfl rfl rfl (V_move rfl) ?_
    obtain ⟨r_2, hr_2, H⟩ := bind_elim H
    refine TL_e rfl rfl rfl (E_call (Γ := Unit) (val := fun g => vs r_2) (mem := fun g => []) (vs := [vi suite]) (Lin := []) (Ro := []) (is := []) rfl Try.call39 (F39_calls suite r_2 hr_2) rfl trivial) (fun g_2 => ?_)
    obtain ⟨r_3, hr_3, H⟩ := bind_elim H
    refine TL_e rfl rfl rfl (E_call (Γ := Unit) (val := fun g => Value.tuple [vs r_3.1, vi r_3.2].toArray) (mem := fun g => []) (vs := [vi suite, vs r_1.1, vs ([114#8, 101#8, 115#8, 32#8, 98#8, 105#8, 110#8, 100#8, 101#8, 114#8] : Str), vs r_2]) (Lin := []) (Ro := []) (is := []) rfl Try.call12 (F12_calls suite r_1.1 ([114#8, 101#8, 115#8, 32#8, 98#8, 105#8, 110#8, 100#8, 101#8, 114#8] : Str) r_2 r_3 hr_3) rfl trivial) (fun g_3 => ?_)
    refine TL_v rfl rfl rfl (V_move rfl) ?_
    refine TL_v rfl rfl rfl (V_extract (vs := [vs r_3.1, vi r_3.2]) rfl rfl) ?_
    refine TL_v rfl rfl rfl (V_extract (vs := [vs r_3.1, vi r_3.2]) rfl rfl) ?_
    refine TL_v rfl rfl rfl (V_assign rfl) ?_
    refine TL_v rfl rfl rfl (V_assign rfl) ?_
    refine TL_nil ?_
    refine TX_next ?_
    refine TC_seq ?_
    refine TC_region ?_
    refine TL_v rfl rfl rfl (V_move rfl) ?_
    refine TL_v rfl rfl rfl (V_move rfl) ?_
    refine TL_v rfl rfl rfl (V_move rfl) ?_
    obtain ⟨r_4, hr_4, H⟩ := bind_elim H
    refine TL_e rfl rfl rfl (E_call (Γ := Unit) (val := fun g => Value.tuple [vs r_4.1, vi r_4.2].toArray) (mem := fun g => []) (vs := [vi suite, vs r_3.1, vs hash]) (Lin := []) (Ro := []) (is := []) rfl Try.call26 (F26_calls suite r_3.1 hash r_4 hr_4) rfl trivial) (fun g_4 => ?_)
    refine TL_v rfl rfl rfl (V_extract (vs := [vs r_4.1, vi r_4.2]) rfl rfl) ?_
    refine TL_v rfl rfl rfl (V_extract (vs := [vs r_4.1, vi r_4.2]) rfl rfl) ?_
    refine TL_v rfl rfl rfl (V_assign rfl) ?_
    refine TL_v rfl rfl rfl (V_assign rfl) ?_
    refine TL_nil ?_
    refine TX_next ?_
    refine TC.sub (m' := [(6, vs r_4.1), (7, vi r_4.2)]) ⟨rfl, rfl, trivial⟩ ?_
    refine TC_ret ?_
    have hrv := Option.some.inj H
    subst hrv
    exact TX_ret (rs := [.tmp 6, .tmp 7]) (vs := [vs r_4.1, vi r_4.2]) rfl ⟨rfl, rfl, trivial⟩ (fun w' hs' => ⟨(), rfl, Step.left (Step.pulled (is := []) (A := []) hs' rfl)⟩)

end Go.Proofs
end

section
namespace Go.Proofs
open Go Go.Kx
set_option linter.unusedVariables false
set_option linter.unusedSimpArgs false
def sched_Export (suite : Int) (secret : Str) (name : Str) (context : Str) (size : Int) : Option (Str × Int) :=
  (sched_Hash suite ([] : Str)).bind fun (r_1 : Str) => ((sched_Derive suite secret name r_1).bind fun (r_2 : Str × Int) => (if r_2.2 ≠ 0 then (some (([] : Str), r_2.2)) else ((sched_Hash suite context).bind fun (r_3 : Str) => ((sched_label suite r_2.1 ([101#8, 120#8, 112#8, 111#8, 114#8, 116#8, 101#8, 114#8] : Str) r_3 size).bind fun (r_4 : Str × Int) => (some (r_4.1, r_4.2))))))

set_option maxHeartbeats 4000000 in
set_option maxRecDepth 20000 in
theorem F29_calls (suite : Int) (secret : Str) (name : Str) (context : Str) (size : Int) (r : Str × Int) (H : sched_Export suite secret name context size = some r) :
    Does Try.prog 29 [vi suite, vs secret, vs name, vs context, vi size] [] [] (Γ := Unit) (fun g => Value.tuple [vs r.1, vi r.2].toArray) (fun g => []) := by
  intro w hmem hro hd
  refine calls_of (N := 35) (m0 := [(0, vi suite), (1, vs secret), (2, vs name), (3, vs context), (4, vi size)]) Try.func29 rfl Try.ntmps29 (argM_ok [vi suite, vs secret, vs name, vs context, vi size]) rfl hmem hro hd ?_
  unfold sched_Export at H
  refine TC_seq ?_
  refine TC_region ?_
  refine TL_v rfl rfl rfl (V_assign rfl) ?_
  refine TL_v rfl rfl rfl (V_assign rfl) ?_
  refine TL_nil ?_
  refine TX_next ?_
  refine TC_seq ?_
  refine TC_region ?_
  refine TL_v rfl rfl rfl (V_move rfl) ?_
  refine TL_v rfl rfl rfl (V_move rfl) ?_
  refine TL_v rfl rfl rfl (V_move rfl) ?_
  refine TL_v rfl rfl rfl (V_move rfl) ?_
  obtain ⟨r_1, hr_1, H⟩ := bind_elim H
  refine TL_e rfl rfl rfl (E_call (Γ := Unit) (val := fun g => vs r_1) (mem := fun g => []) (vs := [vi suite, vs ([] : Str)]) (Lin := []) (Ro := []) (is := []) rfl Try.call38 (F38_calls suite ([] : Str) r_1 hr_1) rfl trivial) (fun g_1 => ?_)
  obtain ⟨r_2, hr_2, H⟩ := bind_elim H
  refine TL_e rfl rfl rfl (E_call (Γ := Unit) (val := fun g => Value.tuple [vs r_2.1, vi r_2.2].toArray) (mem := fun g => []) (vs := [vi suite, vs secret, vs name, vs r_1]) (Lin := []) (Ro := []) (is := []) rfl Try.call11 (F11_calls suite secret name r_1 r_2 hr_2) rfl trivial) (fun g_2 => ?_)
  refine TL_v rfl rfl rfl (V_move rfl) ?_
  refine TL_v rfl rfl rfl (V_extract (vs := [vs r_2.1, vi r_2.2]) rfl rfl) ?_
  refine TL_v rfl rfl rfl (V_extract (vs := [vs r_2.1, vi r_2.2]) rfl rfl) ?_
  refine TL_v rfl rfl rfl (V_assign rfl) ?_
  refine TL_v rfl rfl rfl (V_assign rfl) ?_
  refine TL_nil ?_
  refine TX_next ?_
  refine TC_seq ?_
  refine TC_seq ?_
  refine TC_region ?_
  refine TL_v rfl rfl rfl (V_move rfl) ?_
  refine TL_v rfl rfl rfl (V_bin rfl rfl (fun w => neqI w r_2.2 0)) ?_
  refine TL_nil ?_
  refine TX_next ?_
  refine TC_cond (b := (decide (r_2.2 ≠ 0))) rfl (fun hc => ?_) (fun hc => ?_)
  · replace H := ite_t (of_decide_eq_true hc) H
    refine TC_seq ?_
    refine TC_region ?_
    refine TL_v rfl rfl rfl (V_move rfl) ?_
    refine TL_v rfl rfl rfl (V_assign rfl) ?_
    refine TL_v rfl rfl rfl (V_assign rfl) ?_
    refine TL_nil ?_
    refine TX_next ?_
    refine TC_ret ?_
    refine TX_then_ret ?_
    have hrv := Option.some.inj H
    subst hrv
    exact TX_ret (rs := [.tmp 10, .tmp 11]) (vs := [vs ([] : Str), vi r_2.2]) rfl ⟨rfl, rfl, trivial⟩ (fun w' hs' => ⟨(), rfl, Step.left (Step.pulled (is := []) (A := []) hs' rfl)⟩)
  · replace H := ite_f (of_decide_eq_false hc) H
    refine TC_skip ?_
    refine TX_next ?_
    refine TC_seq ?_
    refine TC_region ?_
    refine TL_v rfl rfl rfl (V_move rfl) ?_
    refine TL_v rfl rfl rfl (V_move rfl) ?_
    refine TL_v rfl rfl rfl (V_move rfl) ?_
    refine TL_v rfl rfl rfl (V_move rfl) ?_
    obtain ⟨r_3, hr_3, H⟩ := bind_elim H
    refine TL_e rfl rfl rfl (E_call (Γ := Unit) (val := fun g => vs r_3) (mem := fun g => []) (vs := [vi suite, vs context]) (Lin := []) (Ro := []) (is := []) rfl Try.call38 (F38_calls suite context r_3 hr_3) rfl trivial) (fun g_3 => ?_)
    refine TL_v rfl rfl rfl (V_move rfl) ?_
    obtain ⟨r_4, hr_4, H⟩ := bind_elim H
    refine TL_e rfl rfl rfl (E_call (Γ := Unit) (val := fun g => Value.tuple [vs r_4.1, vi r_4.2].toArray) (mem := fun g => []) (vs := [vi suite, vs r_2.1, vs ([101#8, 120#8, 112#8, 111#8, 114#8, 116#8, 101#8, 114#8] : Str), vs r_3, vi size]) (Lin := []) (Ro := []) (is := []) rfl Try.call34 (F34_calls suite r_2.1 ([101#8, 120#8, 112#8, 111#8, 114#8, 116#8, 101#8, 114#8] : Str) r_3 size r_4 hr_4) rfl trivial) (fun g_4 => ?_)
    refine TL_v rfl rfl rfl (V_extract (vs := [vs r_4.1, vi r_4.2]) rfl rfl) ?_
    refine TL_v rfl rfl rfl (V_extract (vs := [vs r_4.1, vi r_4.2]) rfl rfl) ?_
    refine TL_v rfl rfl rfl (V_assign rfl) ?_
    refine TL_v rfl rfl rfl (V_assign rfl) ?_
    refine TL_nil ?_
    refine TX_next ?_
    refine TC.sub (m' := [(10, vs r_4.1), (11, vi r_4.2)]) ⟨rfl, rfl, trivial⟩ ?_
    refine TC_ret ?_
    have hrv := Option.some.inj H
    subst hrv
    exact TX_ret (rs := [.tmp 10, .tmp 11]) (vs := [vs r_4.1, vi r_4.2]) rfl ⟨rfl, rfl, trivial⟩ (fun w' hs' => ⟨(), rfl, Step.left (Step.pulled (is := []) (A := []) hs' rfl)⟩)

end Go.Proofs
end

section
namespace Go.Proofs
open Go Go.Kx
set_option linter.unusedVariables false
set_option linter.unusedSimpArgs false
def halberdref19_Export (suite : Int) (secret : Str) (label : Str) (context : Str) (size : Int) : Option (Str × Int) :=
  (halberdref19_Bits suite).bind fun (r_1 : Int × Int) => (if r_1.2 ≠ 0 then (some (([] : Str), r_1.2)) else ((halberdref19_Empty suite).bind fun (r_2 : Str) => ((halberdref19_Derive suite secret label r_2).bind fun (r_3 : Str × Int) => (if r_3.2 ≠ 0 then (some (([] : Str), r_3.2)) else ((halberdref1_Hash r_1.1 context).bind fun (r_4 : Str) => ((halberdref19_Label suite r_3.1 ([101#8, 120#8, 112#8, 111#8, 114#8, 116#8, 101#8, 114#8] : Str) r_4 size).bind fun (r_5 : Str × Int) => (some (r_5.1, r_5.2))))))))

set_option maxHeartbeats 4000000 in
set_option maxRecDepth 20000 in
theorem F30_calls (suite : Int) (secret : Str) (label : Str) (context : Str) (size : Int) (r : Str × Int) (H : halberdref19_Export suite secret label context size = some r) :
    Does Try.prog 30 [vi suite, vs secret, vs label, vs context, vi size] [] [] (Γ := Unit) (fun g => Value.tuple [vs r.1, vi r.2].toArray) (fun g => []) := by
  intro w hmem hro hd
  refine calls_of (N := 45) (m0 := [(0, vi suite), (1, vs secret), (2, vs label), (3, vs context), (4, vi size)]) Try.func30 rfl Try.ntmps30 (argM_ok [vi suite, vs secret, vs label, vs context, vi size]) rfl hmem hro hd ?_
  unfold halberdref19_Export at H
  refine TC_seq ?_
  refine TC_region ?_
  refine TL_v rfl rfl rfl (V_assign rfl) ?_
  refine TL_v rfl rfl rfl (V_assign rfl) ?_
  refine TL_nil ?_
  refine TX_next ?_
  refine TC_seq ?_
  refine TC_region ?_
  refine TL_v rfl rfl rfl (V_move rfl) ?_
  obtain ⟨r_1, hr_1, H⟩ := bind_elim H
  refine TL_e rfl rfl rfl (E_call (Γ := Unit) (val := fun g => Value.tuple [vi r_1.1, vi r_1.2].toArray) (mem := fun g => []) (vs := [vi suite]) (Lin := []) (Ro := []) (is := []) rfl Try.call10 (F10_calls suite r_1 hr_1) rfl trivial) (fun g_1 => ?_)
  refine TL_v rfl rfl rfl (V_move rfl) ?_
  refine TL_v rfl rfl rfl (V_extract (vs := [vi r_1.1, vi r_1.2]) rfl rfl) ?_
  refine TL_v rfl rfl rfl (V_extract (vs := [vi r_1.1, vi r_1.2]) rfl rfl) ?_
  refine TL_v rfl rfl rfl (V_assign rfl) ?_
  refine TL_v rfl rfl rfl (V_assign rfl) ?_
  refine TL_nil ?_
  refine TX_next ?_
  refine TC_seq ?_
  refine TC_seq ?_
  refine TC_region ?_
  refine TL_v rfl rfl rfl (V_move rfl) ?_
  refine TL_v rfl rfl rfl (V_bin rfl rfl (fun w => neqI w r_1.2 0)) ?_
  refine TL_nil ?_
  refine TX_next ?_
  refine TC_cond (b := (decide (r_1.2 ≠ 0))) rfl (fun hc => ?_) (fun hc => ?_)
  · replace H := ite_t (of_decide_eq_true hc) H
    refine TC_seq ?_
    refine TC_region ?_
    refine TL_v rfl rfl rfl (V_move rfl) ?_
    refine TL_v rfl rfl rfl (V_assign rfl) ?_
    refine TL_v rfl rfl rfl (V_assign rfl) ?_
    refine TL_nil ?_
    refine TX_next ?_
    refine TC_ret ?_
    refine TX_then_ret ?_
    have hrv := Option.some.inj H
    subst hrv
    exact TX_ret (rs := [.tmp 10, .tmp 11]) (vs := [vs ([] : Str), vi r_1.2]) rfl ⟨rfl, rfl, trivial⟩ (fun w' hs' => ⟨(), rfl, Step.left (Step.pulled (is := []) (A := []) hs' rfl)⟩)
  · replace H := ite_f (of_decide_eq_false hc) H
    refine TC_skip ?_
    refine TX_next ?_
    refine TC_seq ?_
    refine TC_region ?_
    refine TL_v rfl rfl rfl (V_move rfl) ?_
    refine TL_v rfl rfl rfl (V_move rfl) ?_
    refine TL_v rfl rfl rfl (V_move rfl) ?_
    refine TL_v rfl rfl rfl (V_move rfl) ?_
    obtain ⟨r_2, hr_2, H⟩ := bind_elim H
    refine TL_e rfl rfl rfl (E_call (Γ := Unit) (val := fun g => vs r_2) (mem := fun g => []) (vs := [vi suite]) (Lin := []) (Ro := []) (is := []) rfl Try.call39 (F39_calls suite r_2 hr_2) rfl trivial) (fun g_2 => ?_)
    obtain ⟨r_3, hr_3, H⟩ := bind_elim H
    refine TL_e rfl rfl rfl (E_call (Γ := Unit) (val := fun g => Value.tuple [vs r_3.1, vi r_3.2].toArray) (mem := fun g => []) (vs := [vi suite, vs secret, vs label, vs r_2]) (Lin := []) (Ro := []) (is := []) rfl Try.call12 (F12_calls suite secret label r_2 r_3 hr_3) rfl trivial) (fun g_3 => ?_)
    refine TL_v rfl rfl rfl (V_move rfl) ?_
    refine TL_v rfl rfl rfl (V_extract (vs := [vs r_3.1, vi r_3.2]) rfl rfl) ?_
    refine TL_v rfl rfl rfl (V_extract (vs := [vs r_3.1, vi r_3.2]) rfl rfl) ?_
    refine TL_v rfl rfl rfl (V_assign rfl) ?_
    refine TL_v rfl rfl rfl (V_assign rfl) ?_
    refine TL_nil ?_
    refine TX_next ?_
    refine TC_seq ?_
    refine TC_seq ?_
    refine TC_region ?_
    refine TL_v rfl rfl rfl (V_move rfl) ?_
    refine TL_v rfl rfl rfl (V_bin rfl rfl (fun w => neqI w r_3.2 0)) ?_
    refine TL_nil ?_
    refine TX_next ?_
    refine TC_cond (b := (decide (r_3.2 ≠ 0))) rfl (fun hc => ?_) (fun hc => ?_)
    · replace H := ite_t (of_decide_eq_true hc) H
      refine TC_seq ?_
      refine TC_region ?_
      refine TL_v rfl rfl rfl (V_move rfl) ?_
      refine TL_v rfl rfl rfl (V_assign rfl) ?_
      refine TL_v rfl rfl rfl (V_assign rfl) ?_
      refine TL_nil ?_
      refine TX_next ?_
      refine TC.sub (m' := [(10, vs ([] : Str)), (11, vi r_3.2)]) ⟨rfl, rfl, trivial⟩ ?_
      refine TC_ret ?_
      refine TX_then_ret ?_
      have hrv := Option.some.inj H
      subst hrv
      exact TX_ret (rs := [.tmp 10, .tmp 11]) (vs := [vs ([] : Str), vi r_3.2]) rfl ⟨rfl, rfl, trivial⟩ (fun w' hs' => ⟨(), rfl, Step.left (Step.pulled (is := []) (A := []) hs' rfl)⟩)
    · replace H := ite_f (of_decide_eq_false hc) H
      refine TC_skip ?_
      refine TX_next ?_
      refine TC_seq ?_
      refine TC_region ?_
      refine TL_v rfl rfl rfl (V_move rfl) ?_
      refine TL_v rfl rfl rfl (V_move rfl) ?_
      refine TL_v rfl rfl rfl (V_move rfl) ?_
      refine TL_v rfl rfl rfl (V_move rfl) ?_
      obtain ⟨r_4, hr_4, H⟩ := bind_elim H
      refine TL_e rfl rfl rfl (E_call (Γ := Unit) (val := fun g => vs r_4) (mem := fun g => []) (vs := [vi r_1.1, vs context]) (Lin := []) (Ro := []) (is := []) rfl Try.call31 (F31_calls r_1.1 context r_4 hr_4) rfl trivial) (fun g_4 => ?_)
      refine TL_v rfl rfl rfl (V_move rfl) ?_
      obtain ⟨r_5, hr_5, H⟩ := bind_elim H
      refine TL_e rfl rfl rfl (E_call (Γ := Unit) (val := fun g => Value.tuple [vs r_5.1, vi r_5.2].toArray) (mem := fun g => []) (vs := [vi suite, vs r_3.1, vs ([101#8, 120#8, 112#8, 111#8, 114#8, 116#8, 101#8, 114#8] : Str), vs r_4, vi size]) (Lin := []) (Ro := []) (is := []) rfl Try.call35 (F35_calls suite r_3.1 ([101#8, 120#8, 112#8, 111#8, 114#8, 116#8, 101#8, 114#8] : Str) r_4 size r_5 hr_5) rfl trivial) (fun g_5 => ?_)
      refine TL_v rfl rfl rfl (V_extract (vs := [vs r_5.1, vi r_5.2]) rfl rfl) ?_
      refine TL_v rfl rfl rfl (V_extract (vs := [vs r_5.1, vi r_5.2]) rfl rfl) ?_
      refine TL_v rfl rfl rfl (V_assign rfl) ?_
      refine TL_v rfl rfl rfl (V_assign rfl) ?_
      refine TL_nil ?_
      refine TX_next ?_
      refine TC.sub (m' := [(10, vs r_5.1), (11, vi r_5.2)]) ⟨rfl, rfl, trivial⟩ ?_
      refine TC_ret ?_
      have hrv := Option.some.inj H
      subst hrv
      exact TX_ret (rs := [.tmp 10, .tmp 11]) (vs := [vs r_5.1, vi r_5.2]) rfl ⟨rfl, rfl, trivial⟩ (fun w' hs' => ⟨(), rfl, Step.left (Step.pulled (is := []) (A := []) hs' rfl)⟩)

end Go.Proofs
end

section
namespace Go.Proofs
open Go Go.Kx
set_option linter.unusedVariables false
set_option linter.unusedSimpArgs false
def halberdlaw19_awake : Option (Bool) :=
  (sched_Bits 4866).bind fun (r_1 : Int × Int) => ((sched_Early 4865 ([] : Str)).bind fun (r_2 : Str × Int) => ((sched_Mix 4865 r_2.1 ([] : Str)).bind fun (r_3 : Str × Int) => ((sched_Keys 4867 r_3.1).bind fun (r_4 : Str × Str × Int) => ((sched_Next 7 ([] : Str)).bind fun (r_5 : Str × Int) => (if r_1.1 = 384 then ((halberdlaw0_Num r_1.2).bind fun (r_6 : Int) => (if r_6 = 0 then (if ((r_2.1).length : Int) = 32 then (if 0 ≤ (0 : Int) ∧ (0 : Int) < ((r_2.1).length : Int) then (if (sg r_2.1 0) = 51#8 then (if 0 ≤ (1 : Int) ∧ (1 : Int) < ((r_2.1).length : Int) then (if (sg r_2.1 1) = 173#8 then ((halberdlaw0_Num r_2.2).bind fun (r_7 : Int) => (if r_7 = 0 then (if ((r_3.1).length : Int) = 32 then ((halberdlaw0_Num r_3.2).bind fun (r_8 : Int) => (if r_8 = 0 then (if ((r_4.1).length : Int) = 32 then (if ((r_4.2.1).length : Int) = 12 then ((halberdlaw0_Num r_4.2.2).bind fun (r_9 : Int) => (if r_9 = 0 then ((halberdlaw0_Num r_5.2).bind fun (r_10 : Int) => (ltt (decide (r_10 = 1900)) fun (x1 : Bool) => (some x1))) else (some false))) else (some false)) else (some false)) else (some false))) else (some false)) else (some false))) else (some false)) else none) else (some false)) else none) else (some false)) else (some false))) else (some false))))))

set_option maxHeartbeats 4000000 in
set_option maxRecDepth 20000 in
theorem F22_calls (r : Bool) (H : halberdlaw19_awake = some r) :
    Does Try.prog 22 [] [] [] (Γ := Unit) (fun g => vb r) (fun g => []) := by
  intro w hmem hro hd
  refine calls_of (N := 92) (m0 := []) Try.func22 rfl Try.ntmps22 (argM_ok []) rfl hmem hro hd ?_
  unfold halberdlaw19_awake at H
  refine TC_seq ?_
  refine TC_region ?_
  refine TL_v rfl rfl rfl (V_assign rfl) ?_
  refine TL_nil ?_
  refine TX_next ?_
  refine TC_seq ?_
  refine TC_region ?_
  obtain ⟨r_1, hr_1, H⟩ := bind_elim H
  refine TL_e rfl rfl rfl (E_call (Γ := Unit) (val := fun g => Value.tuple [vi r_1.1, vi r_1.2].toArray) (mem := fun g => []) (vs := [vi 4866]) (Lin := []) (Ro := []) (is := []) rfl Try.call9 (F9_calls 4866 r_1 hr_1) rfl trivial) (fun g_1 => ?_)
  refine TL_v rfl rfl rfl (V_move rfl) ?_
  refine TL_v rfl rfl rfl (V_extract (vs := [vi r_1.1, vi r_1.2]) rfl rfl) ?_
  refine TL_v rfl rfl rfl (V_extract (vs := [vi r_1.1, vi r_1.2]) rfl rfl) ?_
  refine TL_v rfl rfl rfl (V_assign rfl) ?_
  refine TL_v rfl rfl rfl (V_assign rfl) ?_
  refine TL_nil ?_
  refine TX_next ?_
  refine TC_seq ?_
  refine TC_region ?_
  obtain ⟨r_2, hr_2, H⟩ := bind_elim H
  refine TL_e rfl rfl rfl (E_call (Γ := Unit) (val := fun g => Value.tuple [vs r_2.1, vi r_2.2].toArray) (mem := fun g => []) (vs := [vi 4865, vs ([] : Str)]) (Lin := []) (Ro := []) (is := []) rfl Try.call13 (F13_calls 4865 ([] : Str) r_2 hr_2) rfl trivial) (fun g_2 => ?_)
  refine TL_v rfl rfl rfl (V_move rfl) ?_
  refine TL_v rfl rfl rfl (V_extract (vs := [vs r_2.1, vi r_2.2]) rfl rfl) ?_
  refine TL_v rfl rfl rfl (V_extract (vs := [vs r_2.1, vi r_2.2]) rfl rfl) ?_
  refine TL_v rfl rfl rfl (V_assign rfl) ?_
  refine TL_v rfl rfl rfl (V_assign rfl) ?_
  refine TL_nil ?_
  refine TX_next ?_
  refine TC_seq ?_
  refine TC_region ?_
  refine TL_v rfl rfl rfl (V_move rfl) ?_
  obtain ⟨r_3, hr_3, H⟩ := bind_elim H
  refine TL_e rfl rfl rfl (E_call (Γ := Unit) (val := fun g => Value.tuple [vs r_3.1, vi r_3.2].toArray) (mem := fun g => []) (vs := [vi 4865, vs r_2.1, vs ([] : Str)]) (Lin := []) (Ro := []) (is := []) rfl Try.call15 (F15_calls 4865 r_2.1 ([] : Str) r_3 hr_3) rfl trivial) (fun g_3 => ?_)
  refine TL_v rfl rfl rfl (V_move rfl) ?_
  refine TL_v rfl rfl rfl (V_extract (vs := [vs r_3.1, vi r_3.2]) rfl rfl) ?_
  refine TL_v rfl rfl rfl (V_extract (vs := [vs r_3.1, vi r_3.2]) rfl rfl) ?_
  refine TL_v rfl rfl rfl (V_assign rfl) ?_
  refine TL_v rfl rfl rfl (V_assign rfl) ?_
  refine TL_nil ?_
  refine TX_next ?_
  refine TC_seq ?_
  refine TC_region ?_
  refine TL_v rfl rfl rfl (V_move rfl) ?_
  obtain ⟨r_4, hr_4, H⟩ := bind_elim H
  refine TL_e rfl rfl rfl (E_call (Γ := Unit) (val := fun g => Value.tuple [vs r_4.1, vs r_4.2.1, vi r_4.2.2].toArray) (mem := fun g => []) (vs := [vi 4867, vs r_3.1]) (Lin := []) (Ro := []) (is := []) rfl Try.call17 (F17_calls 4867 r_3.1 r_4 hr_4) rfl trivial) (fun g_4 => ?_)
  refine TL_v rfl rfl rfl (V_move rfl) ?_
  refine TL_v rfl rfl rfl (V_extract (vs := [vs r_4.1, vs r_4.2.1, vi r_4.2.2]) rfl rfl) ?_
  refine TL_v rfl rfl rfl (V_extract (vs := [vs r_4.1, vs r_4.2.1, vi r_4.2.2]) rfl rfl) ?_
  refine TL_v rfl rfl rfl (V_extract (vs := [vs r_4.1, vs r_4.2.1, vi r_4.2.2]) rfl rfl) ?_
  refine TL_v rfl rfl rfl (V_assign rfl) ?_
  refine TL_v rfl rfl rfl (V_assign rfl) ?_
  refine TL_v rfl rfl rfl (V_assign rfl) ?_
  refine TL_nil ?_
  refine TX_next ?_
  refine TC_seq ?_
  refine TC_region ?_
  obtain ⟨r_5, hr_5, H⟩ := bind_elim H
  refine TL_e rfl rfl rfl (E_call (Γ := Unit) (val := fun g => Value.tuple [vs r_5.1, vi r_5.2].toArray) (mem := fun g => []) (vs := [vi 7, vs ([] : Str)]) (Lin := []) (Ro := []) (is := []) rfl Try.call19 (F19_calls 7 ([] : Str) r_5 hr_5) rfl trivial) (fun g_5 => ?_)
  refine TL_v rfl rfl rfl (V_move rfl) ?_
  refine TL_v rfl rfl rfl (V_extract (vs := [vs r_5.1, vi r_5.2]) rfl rfl) ?_
  refine TL_v rfl rfl rfl (V_extract (vs := [vs r_5.1, vi r_5.2]) rfl rfl) ?_
  refine TL_v rfl rfl rfl (V_assign rfl) ?_
  refine TL_v rfl rfl rfl (V_assign rfl) ?_
  refine TL_nil ?_
  refine TX_next ?_
  refine TC.sub (m' := [(1, vi r_1.1), (2, vi r_1.2), (3, vs r_2.1), (4, vi r_2.2), (5, vs r_3.1), (6, vi r_3.2), (7, vs r_4.1), (8, vs r_4.2.1), (9, vi r_4.2.2), (11, vi r_5.2)]) ⟨rfl, rfl, rfl, rfl, rfl, rfl, rfl, rfl, rfl, rfl, trivial⟩ ?_
  refine TC_seq ?_
  refine TC_region ?_
  refine TL_v rfl rfl rfl (V_move rfl) ?_
  refine TL_v rfl rfl rfl (V_bin rfl rfl (fun w => eqlI w r_1.1 384)) ?_
  refine TL_v rfl rfl rfl (V_move rfl) ?_
  refine TL_fork (d := 37) (b := (decide (r_1.1 = 384))) rfl (fun hc => ?_) (fun hc => ?_)
  · replace H := ite_t (of_decide_eq_true hc) H
    refine TL_want rfl rfl rfl rfl rfl rfl (V_move rfl) ?_
    obtain ⟨r_6, hr_6, H⟩ := bind_elim H
    refine TL_wantE rfl rfl rfl rfl rfl rfl (E_call (Γ := Unit) (val := fun g => vi r_6) (mem := fun g => []) (vs := [vi r_1.2]) (Lin := []) (Ro := []) (is := []) rfl Try.call21 (F21_calls r_1.2 r_6 hr_6) rfl trivial) (fun g_6 => ?_)
    refine TL_want rfl rfl rfl rfl rfl rfl (V_bin rfl rfl (fun w => eqlI w r_6 0)) ?_
    refine TL_v rfl rfl rfl (V_pick (b := true) rfl rfl) ?_
    refine TL_v rfl rfl rfl (V_move rfl) ?_
    refine TL_fork (d := 42) (b := (decide (r_6 = 0))) rfl (fun hc => ?_) (fun hc => ?_)
    · replace H := ite_t (of_decide_eq_true hc) H
      refine TL_want rfl rfl rfl rfl rfl rfl (V_move rfl) ?_
      refine TL_want rfl rfl rfl rfl rfl rfl (V_len_str rfl Try.underlying9) ?_
      refine TL_want rfl rfl rfl rfl rfl rfl (V_bin rfl rfl (fun w => eqlI w ((r_2.1).length : Int) 32)) ?_
      refine TL_v rfl rfl rfl (V_pick (b := true) rfl rfl) ?_
      refine TL_v rfl rfl rfl (V_move rfl) ?_
      refine TL_fork (d := 47) (b := (decide (((r_2.1).length : Int) = 32))) rfl (fun hc => ?_) (fun hc => ?_)
      · replace H := ite_t (of_decide_eq_true hc) H
        refine TL_want rfl rfl rfl rfl rfl rfl (V_move rfl) ?_
        obtain ⟨h1, H⟩ := if_elim H
        refine TL_want rfl rfl rfl rfl rfl rfl (V_idxStr rfl rfl (i := 0) Try.underlying9 h1.1 h1.2) ?_
        refine TL_want rfl rfl rfl rfl rfl rfl (V_bin rfl rfl (fun w => eql8 w (sg r_2.1 0) 51#8)) ?_
        refine TL_v rfl rfl rfl (V_pick (b := true) rfl rfl) ?_
        refine TL_v rfl rfl rfl (V_move rfl) ?_
        refine TL_fork (d := 52) (b := (decide ((sg r_2.1 0) = 51#8))) rfl (fun hc => ?_) (fun hc => ?_)
        · replace H := ite_t (of_decide_eq_true hc) H
          refine TL_want rfl rfl rfl rfl rfl rfl (V_move rfl) ?_
          obtain ⟨h2, H⟩ := if_elim H
          refine TL_want rfl rfl rfl rfl rfl rfl (V_idxStr rfl rfl (i := 1) Try.underlying9 h2.1 h2.2) ?_
          refine TL_want rfl rfl rfl rfl rfl rfl (V_bin rfl rfl (fun w => eql8 w (sg r_2.1 1) 173#8)) ?_
          refine TL_v rfl rfl rfl (V_pick (b := true) rfl rfl) ?_
          refine TL_v rfl rfl rfl (V_move rfl) ?_
          refine TL_fork (d := 57) (b := (decide ((sg r_2.1 1) = 173#8))) rfl (fun hc => ?_) (fun hc => ?_)
          · replace H := ite_t (of_decide_eq_true hc) H
            refine TL_want rfl rfl rfl rfl rfl rfl (V_move rfl) ?_
            obtain ⟨r_7, hr_7, H⟩ := bind_elim H
            refine TL_wantE rfl rfl rfl rfl rfl rfl (E_call (Γ := Unit) (val := fun g => vi r_7) (mem := fun g => []) (vs := [vi r_2.2]) (Lin := []) (Ro := []) (is := []) rfl Try.call21 (F21_calls r_2.2 r_7 hr_7) rfl trivial) (fun g_7 => ?_)
            refine TL_want rfl rfl rfl rfl rfl rfl (V_bin rfl rfl (fun w => eqlI w r_7 0)) ?_
            refine TL_v rfl rfl rfl (V_pick (b := true) rfl rfl) ?_
            refine TL_v rfl rfl rfl (V_move rfl) ?_
            refine TL_fork (d := 62) (b := (decide (r_7 = 0))) rfl (fun hc => ?_) (fun hc => ?_)
            · replace H := ite_t (of_decide_eq_true hc) H
              refine TL_want rfl rfl rfl rfl rfl rfl (V_move rfl) ?_
              refine TL_want rfl rfl rfl rfl rfl rfl (V_len_str rfl Try.underlying9) ?_
              refine TL_want rfl rfl rfl rfl rfl rfl (V_bin rfl rfl (fun w => eqlI w ((r_3.1).length : Int) 32)) ?_
              refine TL_v rfl rfl rfl (V_pick (b := true) rfl rfl) ?_
              refine TL_v rfl rfl rfl (V_move rfl) ?_
              refine TL_fork (d := 67) (b := (decide (((r_3.1).length : Int) = 32))) rfl (fun hc => ?_) (fun hc => ?_)
              · replace H := ite_t (of_decide_eq_true hc) H
                refine TL_want rfl rfl rfl rfl rfl rfl (V_move rfl) ?_
                obtain ⟨r_8, hr_8, H⟩ := bind_elim H
                refine TL_wantE rfl rfl rfl rfl rfl rfl (E_call (Γ := Unit) (val := fun g => vi r_8) (mem := fun g => []) (vs := [vi r_3.2]) (Lin := []) (Ro := []) (is := []) rfl Try.call21 (F21_calls r_3.2 r_8 hr_8) rfl trivial) (fun g_8 => ?_)
                refine TL_want rfl rfl rfl rfl rfl rfl (V_bin rfl rfl (fun w => eqlI w r_8 0)) ?_
                refine TL_v rfl rfl rfl (V_pick (b := true) rfl rfl) ?_
                refine TL_v rfl rfl rfl (V_move rfl) ?_
                refine TL_fork (d := 72) (b := (decide (r_8 = 0))) rfl (fun hc => ?_) (fun hc => ?_)
                · replace H := ite_t (of_decide_eq_true hc) H
                  refine TL_want rfl rfl rfl rfl rfl rfl (V_move rfl) ?_
                  refine TL_want rfl rfl rfl rfl rfl rfl (V_len_str rfl Try.underlying9) ?_
                  refine TL_want rfl rfl rfl rfl rfl rfl (V_bin rfl rfl (fun w => eqlI w ((r_4.1).length : Int) 32)) ?_
                  refine TL_v rfl rfl rfl (V_pick (b := true) rfl rfl) ?_
                  refine TL_v rfl rfl rfl (V_move rfl) ?_
                  refine TL_fork (d := 77) (b := (decide (((r_4.1).length : Int) = 32))) rfl (fun hc => ?_) (fun hc => ?_)
                  · replace H := ite_t (of_decide_eq_true hc) H
                    refine TL_want rfl rfl rfl rfl rfl rfl (V_move rfl) ?_
                    refine TL_want rfl rfl rfl rfl rfl rfl (V_len_str rfl Try.underlying9) ?_
                    refine TL_want rfl rfl rfl rfl rfl rfl (V_bin rfl rfl (fun w => eqlI w ((r_4.2.1).length : Int) 12)) ?_
                    refine TL_v rfl rfl rfl (V_pick (b := true) rfl rfl) ?_
                    refine TL_v rfl rfl rfl (V_move rfl) ?_
                    refine TL_fork (d := 82) (b := (decide (((r_4.2.1).length : Int) = 12))) rfl (fun hc => ?_) (fun hc => ?_)
                    · replace H := ite_t (of_decide_eq_true hc) H
                      refine TL_want rfl rfl rfl rfl rfl rfl (V_move rfl) ?_
                      obtain ⟨r_9, hr_9, H⟩ := bind_elim H
                      refine TL_wantE rfl rfl rfl rfl rfl rfl (E_call (Γ := Unit) (val := fun g => vi r_9) (mem := fun g => []) (vs := [vi r_4.2.2]) (Lin := []) (Ro := []) (is := []) rfl Try.call21 (F21_calls r_4.2.2 r_9 hr_9) rfl trivial) (fun g_9 => ?_)
                      refine TL_want rfl rfl rfl rfl rfl rfl (V_bin rfl rfl (fun w => eqlI w r_9 0)) ?_
                      refine TL_v rfl rfl rfl (V_pick (b := true) rfl rfl) ?_
                      refine TL_v rfl rfl rfl (V_move rfl) ?_
                      refine TL_fork (d := 87) (b := (decide (r_9 = 0))) rfl (fun hc => ?_) (fun hc => ?_)
                      · replace H := ite_t (of_decide_eq_true hc) H
                        refine TL_want rfl rfl rfl rfl rfl rfl (V_move rfl) ?_
                        obtain ⟨r_10, hr_10, H⟩ := bind_elim H
                        refine TL_wantE rfl rfl rfl rfl rfl rfl (E_call (Γ := Unit) (val := fun g => vi r_10) (mem := fun g => []) (vs := [vi r_5.2]) (Lin := []) (Ro := []) (is := []) rfl Try.call21 (F21_calls r_5.2 r_10 hr_10) rfl trivial) (fun g_10 => ?_)
                        refine TL_want rfl rfl rfl rfl rfl rfl (V_bin rfl rfl (fun w => eqlI w r_10 1900)) ?_
                        refine TL_v rfl rfl rfl (V_pick (b := true) rfl rfl) ?_
                        refine TL_v rfl rfl rfl (V_assign rfl) ?_
                        obtain ⟨x1, hx1, H⟩ := ltt_elim H
                        refine TL_re (d := 0) (v := vb (decide (r_10 = 1900))) (v' := vb x1) rfl (congrArg vb hx1) ?_
                        refine TL_nil ?_
                        refine TX_next ?_
                        refine TC.sub (m' := [(0, vb x1)]) ⟨rfl, trivial⟩ ?_
                        refine TC_ret ?_
                        have hrv := Option.some.inj H
                        subst hrv
                        exact TX_ret (rs := [.tmp 0]) (vs := [vb x1]) rfl ⟨rfl, trivial⟩ (fun w' hs' => ⟨(), rfl, Step.left (Step.pulled (is := []) (A := []) hs' rfl)⟩)
                      · replace H := ite_f (of_decide_eq_false hc) H
                        refine TL_skip rfl rfl rfl rfl rfl rfl rfl ?_
                        refine TL_skip rfl rfl rfl rfl rfl rfl rfl ?_
                        refine TL_skip rfl rfl rfl rfl rfl rfl rfl ?_
                        refine TL_v rfl rfl rfl (V_pick (b := false) rfl rfl) ?_
                        refine TL_v rfl rfl rfl (V_assign rfl) ?_
                        refine TL_nil ?_
                        refine TX_next ?_
                        refine TC.sub (m' := [(0, vb false)]) ⟨rfl, trivial⟩ ?_
                        refine TC_ret ?_
                        have hrv := Option.some.inj H
                        subst hrv
                        exact TX_ret (rs := [.tmp 0]) (vs := [vb false]) rfl ⟨rfl, trivial⟩ (fun w' hs' => ⟨(), rfl, Step.left (Step.pulled (is := []) (A := []) hs' rfl)⟩)
                    · replace H := ite_f (of_decide_eq_false hc) H
                      refine TL_skip rfl rfl rfl rfl rfl rfl rfl ?_
                      refine TL_skip rfl rfl rfl rfl rfl rfl rfl ?_
                      refine TL_skip rfl rfl rfl rfl rfl rfl rfl ?_
                      refine TL_v rfl rfl rfl (V_pick (b := false) rfl rfl) ?_
                      refine TL_v rfl rfl rfl (V_move rfl) ?_
                      refine TL_skip rfl rfl rfl rfl rfl rfl rfl ?_
                      refine TL_skip rfl rfl rfl rfl rfl rfl rfl ?_
                      refine TL_skip rfl rfl rfl rfl rfl rfl rfl ?_
                      refine TL_v rfl rfl rfl (V_pick (b := false) rfl rfl) ?_
                      refine TL_v rfl rfl rfl (V_assign rfl) ?_
                      refine TL_nil ?_
                      refine TX_next ?_
                      refine TC.sub (m' := [(0, vb false)]) ⟨rfl, trivial⟩ ?_
                      refine TC_ret ?_
                      have hrv := Option.some.inj H
                      subst hrv
                      exact TX_ret (rs := [.tmp 0]) (vs := [vb false]) rfl ⟨rfl, trivial⟩ (fun w' hs' => ⟨(), rfl, Step.left (Step.pulled (is := []) (A := []) hs' rfl)⟩)
                  · replace H := ite_f (of_decide_eq_false hc) H
                    refine TL_skip rfl rfl rfl rfl rfl rfl rfl ?_
                    refine TL_skip rfl rfl rfl rfl rfl rfl rfl ?_
                    refine TL_skip rfl rfl rfl rfl rfl rfl rfl ?_
                    refine TL_v rfl rfl rfl (V_pick (b := false) rfl rfl) ?_
                    refine TL_v rfl rfl rfl (V_move rfl) ?_
                    refine TL_skip rfl rfl rfl rfl rfl rfl rfl ?_
                    refine TL_skip rfl rfl rfl rfl rfl rfl rfl ?_
                    refine TL_skip rfl rfl rfl rfl rfl rfl rfl ?_
                    refine TL_v rfl rfl rfl (V_pick (b := false) rfl rfl) ?_
                    refine TL_v rfl rfl rfl (V_move rfl) ?_
                    refine TL_skip rfl rfl rfl rfl rfl rfl rfl ?_
                    refine TL_skip rfl rfl rfl rfl rfl rfl rfl ?_
                    refine TL_skip rfl rfl rfl rfl rfl rfl rfl ?_
                    refine TL_v rfl rfl rfl (V_pick (b := false) rfl rfl) ?_
                    refine TL_v rfl rfl rfl (V_assign rfl) ?_
                    refine TL_nil ?_
                    refine TX_next ?_
                    refine TC.sub (m' := [(0, vb false)]) ⟨rfl, trivial⟩ ?_
                    refine TC_ret ?_
                    have hrv := Option.some.inj H
                    subst hrv
                    exact TX_ret (rs := [.tmp 0]) (vs := [vb false]) rfl ⟨rfl, trivial⟩ (fun w' hs' => ⟨(), rfl, Step.left (Step.pulled (is := []) (A := []) hs' rfl)⟩)
                · replace H := ite_f (of_decide_eq_false hc) H
                  refine TL_skip rfl rfl rfl rfl rfl rfl rfl ?_
                  refine TL_skip rfl rfl rfl rfl rfl rfl rfl ?_
                  refine TL_skip rfl rfl rfl rfl rfl rfl rfl ?_
                  refine TL_v rfl rfl rfl (V_pick (b := false) rfl rfl) ?_
                  refine TL_v rfl rfl rfl (V_move rfl) ?_
                  refine TL_skip rfl rfl rfl rfl rfl rfl rfl ?_
                  refine TL_skip rfl rfl rfl rfl rfl rfl rfl ?_
                  refine TL_skip rfl rfl rfl rfl rfl rfl rfl ?_
                  refine TL_v rfl rfl rfl (V_pick (b := false) rfl rfl) ?_
                  refine TL_v rfl rfl rfl (V_move rfl) ?_
                  refine TL_skip rfl rfl rfl rfl rfl rfl rfl ?_
                  refine TL_skip rfl rfl rfl rfl rfl rfl rfl ?_
                  refine TL_skip rfl rfl rfl rfl rfl rfl rfl ?_
                  refine TL_v rfl rfl rfl (V_pick (b := false) rfl rfl) ?_
                  refine TL_v rfl rfl rfl (V_move rfl) ?_
                  refine TL_skip rfl rfl rfl rfl rfl rfl rfl ?_
                  refine TL_skip rfl rfl rfl rfl rfl rfl rfl ?_
                  refine TL_skip rfl rfl rfl rfl rfl rfl rfl ?_
                  refine TL_v rfl rfl rfl (V_pick (b := false) rfl rfl) ?_
                  refine TL_v rfl rfl rfl (V_assign rfl) ?_
                  refine TL_nil ?_
                  refine TX_next ?_
                  refine TC.sub (m' := [(0, vb false)]) ⟨rfl, trivial⟩ ?_
                  refine TC_ret ?_
                  have hrv := Option.some.inj H
                  subst hrv
                  exact TX_ret (rs := [.tmp 0]) (vs := [vb false]) rfl ⟨rfl, trivial⟩ (fun w' hs' => ⟨(), rfl, Step.left (Step.pulled (is := []) (A := []) hs' rfl)⟩)
              · replace H := ite_f (of_decide_eq_false hc) H
                refine TL_skip rfl rfl rfl rfl rfl rfl rfl ?_
                refine TL_skip rfl rfl rfl rfl rfl rfl rfl ?_
                refine TL_skip rfl rfl rfl rfl rfl rfl rfl ?_
                refine TL_v rfl rfl rfl (V_pick (b := false) rfl rfl) ?_
                refine TL_v rfl rfl rfl (V_move rfl) ?_
                refine TL_skip rfl rfl rfl rfl rfl rfl rfl ?_
                refine TL_skip rfl rfl rfl rfl rfl rfl rfl ?_
                refine TL_skip rfl rfl rfl rfl rfl rfl rfl ?_
                refine TL_v rfl rfl rfl (V_pick (b := false) rfl rfl) ?_
                refine TL_v rfl rfl rfl (V_move rfl) ?_
                refine TL_skip rfl rfl rfl rfl rfl rfl rfl ?_
                refine TL_skip rfl rfl rfl rfl rfl rfl rfl ?_
                refine TL_skip rfl rfl rfl rfl rfl rfl rfl ?_
                refine TL_v rfl rfl rfl (V_pick (b := false) rfl rfl) ?_
                refine TL_v rfl rfl rfl (V_move rfl) ?_
                refine TL_skip rfl rfl rfl rfl rfl rfl rfl ?_
                refine TL_skip rfl rfl rfl rfl rfl rfl rfl ?_
                refine TL_skip rfl rfl rfl rfl rfl rfl rfl ?_
                refine TL_v rfl rfl rfl (V_pick (b := false) rfl rfl) ?_
                refine TL_v rfl rfl rfl (V_move rfl) ?_
                refine TL_skip rfl rfl rfl rfl rfl rfl rfl ?_
                refine TL_skip rfl rfl rfl rfl rfl rfl rfl ?_
                refine TL_skip rfl rfl rfl rfl rfl rfl rfl ?_
                refine TL_v rfl rfl rfl (V_pick (b := false) rfl rfl) ?_
                refine TL_v rfl rfl rfl (V_assign rfl) ?_
                refine TL_nil ?_
                refine TX_next ?_
                refine TC.sub (m' := [(0, vb false)]) ⟨rfl, trivial⟩ ?_
                refine TC_ret ?_
                have hrv := Option.some.inj H
                subst hrv
                exact TX_ret (rs := [.tmp 0]) (vs := [vb false]) rfl ⟨rfl, trivial⟩ (fun w' hs' => ⟨(), rfl, Step.left (Step.pulled (is := []) (A := []) hs' rfl)⟩)
            · replace H := ite_f (of_decide_eq_false hc) H
              refine TL_skip rfl rfl rfl rfl rfl rfl rfl ?_
              refine TL_skip rfl rfl rfl rfl rfl rfl rfl ?_
              refine TL_skip rfl rfl rfl rfl rfl rfl rfl ?_
              refine TL_v rfl rfl rfl (V_pick (b := false) rfl rfl) ?_
              refine TL_v rfl rfl rfl (V_move rfl) ?_
              refine TL_skip rfl rfl rfl rfl rfl rfl rfl ?_
              refine TL_skip rfl rfl rfl rfl rfl rfl rfl ?_
              refine TL_skip rfl rfl rfl rfl rfl rfl rfl ?_
              refine TL_v rfl rfl rfl (V_pick (b := false) rfl rfl) ?_
              refine TL_v rfl rfl rfl (V_move rfl) ?_
              refine TL_skip rfl rfl rfl rfl rfl rfl rfl ?_
              refine TL_skip rfl rfl rfl rfl rfl rfl rfl ?_
              refine TL_skip rfl rfl rfl rfl rfl rfl rfl ?_
              refine TL_v rfl rfl rfl (V_pick (b := false) rfl rfl) ?_
              refine TL_v rfl rfl rfl (V_move rfl) ?_
              refine TL_skip rfl rfl rfl rfl rfl rfl rfl ?_
              refine TL_skip rfl rfl rfl rfl rfl rfl rfl ?_
              refine TL_skip rfl rfl rfl rfl rfl rfl rfl ?_
              refine TL_v rfl rfl rfl (V_pick (b := false) rfl rfl) ?_
              refine TL_v rfl rfl rfl (V_move rfl) ?_
              refine TL_skip rfl rfl rfl rfl rfl rfl rfl ?_
              refine TL_skip rfl rfl rfl rfl rfl rfl rfl ?_
              refine TL_skip rfl rfl rfl rfl rfl rfl rfl ?_
              refine TL_v rfl rfl rfl (V_pick (b := false) rfl rfl) ?_
              refine TL_v rfl rfl rfl (V_move rfl) ?_
              refine TL_skip rfl rfl rfl rfl rfl rfl rfl ?_
              refine TL_skip rfl rfl rfl rfl rfl rfl rfl ?_
              refine TL_skip rfl rfl rfl rfl rfl rfl rfl ?_
              refine TL_v rfl rfl rfl (V_pick (b := false) rfl rfl) ?_
              refine TL_v rfl rfl rfl (V_assign rfl) ?_
              refine TL_nil ?_
              refine TX_next ?_
              refine TC.sub (m' := [(0, vb false)]) ⟨rfl, trivial⟩ ?_
              refine TC_ret ?_
              have hrv := Option.some.inj H
              subst hrv
              exact TX_ret (rs := [.tmp 0]) (vs := [vb false]) rfl ⟨rfl, trivial⟩ (fun w' hs' => ⟨(), rfl, Step.left (Step.pulled (is := []) (A := []) hs' rfl)⟩)
          · replace H := ite_f (of_decide_eq_false hc) H
            refine TL_skip rfl rfl rfl rfl rfl rfl rfl ?_
            refine TL_skip rfl rfl rfl rfl rfl rfl rfl ?_
            refine TL_skip rfl rfl rfl rfl rfl rfl rfl ?_
            refine TL_v rfl rfl rfl (V_pick (b := false) rfl rfl) ?_
            refine TL_v rfl rfl rfl (V_move rfl) ?_
            refine TL_skip rfl rfl rfl rfl rfl rfl rfl ?_
            refine TL_skip rfl rfl rfl rfl rfl rfl rfl ?_
            refine TL_skip rfl rfl rfl rfl rfl rfl rfl ?_
            refine TL_v rfl rfl rfl (V_pick (b := false) rfl rfl) ?_
            refine TL_v rfl rfl rfl (V_move rfl) ?_
            refine TL_skip rfl rfl rfl rfl rfl rfl rfl ?_
            refine TL_skip rfl rfl rfl rfl rfl rfl rfl ?_
            refine TL_skip rfl rfl rfl rfl rfl rfl rfl ?_
            refine TL_v rfl rfl rfl (V_pick (b := false) rfl rfl) ?_
            refine TL_v rfl rfl rfl (V_move rfl) ?_
            refine TL_skip rfl rfl rfl rfl rfl rfl rfl ?_
            refine TL_skip rfl rfl rfl rfl rfl rfl rfl ?_
            refine TL_skip rfl rfl rfl rfl rfl rfl rfl ?_
            refine TL_v rfl rfl rfl (V_pick (b := false) rfl rfl) ?_
            refine TL_v rfl rfl rfl (V_move rfl) ?_
            refine TL_skip rfl rfl rfl rfl rfl rfl rfl ?_
            refine TL_skip rfl rfl rfl rfl rfl rfl rfl ?_
            refine TL_skip rfl rfl rfl rfl rfl rfl rfl ?_
            refine TL_v rfl rfl rfl (V_pick (b := false) rfl rfl) ?_
            refine TL_v rfl rfl rfl (V_move rfl) ?_
            refine TL_skip rfl rfl rfl rfl rfl rfl rfl ?_
            refine TL_skip rfl rfl rfl rfl rfl rfl rfl ?_
            refine TL_skip rfl rfl rfl rfl rfl rfl rfl ?_
            refine TL_v rfl rfl rfl (V_pick (b := false) rfl rfl) ?_
            refine TL_v rfl rfl rfl (V_move rfl) ?_
            refine TL_skip rfl rfl rfl rfl rfl rfl rfl ?_
            refine TL_skip rfl rfl rfl rfl rfl rfl rfl ?_
            refine TL_skip rfl rfl rfl rfl rfl rfl rfl ?_
            refine TL_v rfl rfl rfl (V_pick (b := false) rfl rfl) ?_
            refine TL_v rfl rfl rfl (V_assign rfl) ?_
            refine TL_nil ?_
            refine TX_next ?_
            refine TC.sub (m' := [(0, vb false)]) ⟨rfl, trivial⟩ ?_
            refine TC_ret ?_
            have hrv := Option.some.inj H
            subst hrv
            exact TX_ret (rs := [.tmp 0]) (vs := [vb false]) rfl ⟨rfl, trivial⟩ (fun w' hs' => ⟨(), rfl, Step.left (Step.pulled (is := []) (A := []) hs' rfl)⟩)
        · replace H := ite_f (of_decide_eq_false hc) H
          refine TL_skip rfl rfl rfl rfl rfl rfl rfl ?_
          refine TL_skip rfl rfl rfl rfl rfl rfl rfl ?_
          refine TL_skip rfl rfl rfl rfl rfl rfl rfl ?_
          refine TL_v rfl rfl rfl (V_pick (b := false) rfl rfl) ?_
          refine TL_v rfl rfl rfl (V_move rfl) ?_
          refine TL_skip rfl rfl rfl rfl rfl rfl rfl ?_
          refine TL_skip rfl rfl rfl rfl rfl rfl rfl ?_
          refine TL_skip rfl rfl rfl rfl rfl rfl rfl ?_
          refine TL_v rfl rfl rfl (V_pick (b := false) rfl rfl) ?_
          refine TL_v rfl rfl rfl (V_move rfl) ?_
          refine TL_skip rfl rfl rfl rfl rfl rfl rfl ?_
          refine TL_skip rfl rfl rfl rfl rfl rfl rfl ?_
          refine TL_skip rfl rfl rfl rfl rfl rfl rfl ?_
          refine TL_v rfl rfl rfl (V_pick (b := false) rfl rfl) ?_
          refine TL_v rfl rfl rfl (V_move rfl) ?_
          refine TL_skip rfl rfl rfl rfl rfl rfl rfl ?_
          refine TL_skip rfl rfl rfl rfl rfl rfl rfl ?_
          refine TL_skip rfl rfl rfl rfl rfl rfl rfl ?_
          refine TL_v rfl rfl rfl (V_pick (b := false) rfl rfl) ?_
          refine TL_v rfl rfl rfl (V_move rfl) ?_
          refine TL_skip rfl rfl rfl rfl rfl rfl rfl ?_
          refine TL_skip rfl rfl rfl rfl rfl rfl rfl ?_
          refine TL_skip rfl rfl rfl rfl rfl rfl rfl ?_
          refine TL_v rfl rfl rfl (V_pick (b := false) rfl rfl) ?_
          refine TL_v rfl rfl rfl (V_move rfl) ?_
          refine TL_skip rfl rfl rfl rfl rfl rfl rfl ?_
          refine TL_skip rfl rfl rfl rfl rfl rfl rfl ?_
          refine TL_skip rfl rfl rfl rfl rfl rfl rfl ?_
          refine TL_v rfl rfl rfl (V_pick (b := false) rfl rfl) ?_
          refine TL_v rfl rfl rfl (V_move rfl) ?_
          refine TL_skip rfl rfl rfl rfl rfl rfl rfl ?_
          refine TL_skip rfl rfl rfl rfl rfl rfl rfl ?_
          refine TL_skip rfl rfl rfl rfl rfl rfl rfl ?_
          refine TL_v rfl rfl rfl (V_pick (b := false) rfl rfl) ?_
          refine TL_v rfl rfl rfl (V_move rfl) ?_
          refine TL_skip rfl rfl rfl rfl rfl rfl rfl ?_
          refine TL_skip rfl rfl rfl rfl rfl rfl rfl ?_
          refine TL_skip rfl rfl rfl rfl rfl rfl rfl ?_
          refine TL_v rfl rfl rfl (V_pick (b := false) rfl rfl) ?_
          refine TL_v rfl rfl rfl (V_assign rfl) ?_
          refine TL_nil ?_
          refine TX_next ?_
          refine TC.sub (m' := [(0, vb false)]) ⟨rfl, trivial⟩ ?_
          refine TC_ret ?_
          have hrv := Option.some.inj H
          subst hrv
          exact TX_ret (rs := [.tmp 0]) (vs := [vb false]) rfl ⟨rfl, trivial⟩ (fun w' hs' => ⟨(), rfl, Step.left (Step.pulled (is := []) (A := []) hs' rfl)⟩)
      · replace H := ite_f (of_decide_eq_false hc) H
        refine TL_skip rfl rfl rfl rfl rfl rfl rfl ?_
        refine TL_skip rfl rfl rfl rfl rfl rfl rfl ?_
        refine TL_skip rfl rfl rfl rfl rfl rfl rfl ?_
        refine TL_v rfl rfl rfl (V_pick (b := false) rfl rfl) ?_
        refine TL_v rfl rfl rfl (V_move rfl) ?_
        refine TL_skip rfl rfl rfl rfl rfl rfl rfl ?_
        refine TL_skip rfl rfl rfl rfl rfl rfl rfl ?_
        refine TL_skip rfl rfl rfl rfl rfl rfl rfl ?_
        refine TL_v rfl rfl rfl (V_pick (b := false) rfl rfl) ?_
        refine TL_v rfl rfl rfl (V_move rfl) ?_
        refine TL_skip rfl rfl rfl rfl rfl rfl rfl ?_
        refine TL_skip rfl rfl rfl rfl rfl rfl rfl ?_
        refine TL_skip rfl rfl rfl rfl rfl rfl rfl ?_
        refine TL_v rfl rfl rfl (V_pick (b := false) rfl rfl) ?_
        refine TL_v rfl rfl rfl (V_move rfl) ?_
        refine TL_skip rfl rfl rfl rfl rfl rfl rfl ?_
        refine TL_skip rfl rfl rfl rfl rfl rfl rfl ?_
        refine TL_skip rfl rfl rfl rfl rfl rfl rfl ?_
        refine TL_v rfl rfl rfl (V_pick (b := false) rfl rfl) ?_
        refine TL_v rfl rfl rfl (V_move rfl) ?_
        refine TL_skip rfl rfl rfl rfl rfl rfl rfl ?_
        refine TL_skip rfl rfl rfl rfl rfl rfl rfl ?_
        refine TL_skip rfl rfl rfl rfl rfl rfl rfl ?_
        refine TL_v rfl rfl rfl (V_pick (b := false) rfl rfl) ?_
        refine TL_v rfl rfl rfl (V_move rfl) ?_
        refine TL_skip rfl rfl rfl rfl rfl rfl rfl ?_
        refine TL_skip rfl rfl rfl rfl rfl rfl rfl ?_
        refine TL_skip rfl rfl rfl rfl rfl rfl rfl ?_
        refine TL_v rfl rfl rfl (V_pick (b := false) rfl rfl) ?_
        refine TL_v rfl rfl rfl (V_move rfl) ?_
        refine TL_skip rfl rfl rfl rfl rfl rfl rfl ?_
        refine TL_skip rfl rfl rfl rfl rfl rfl rfl ?_
        refine TL_skip rfl rfl rfl rfl rfl rfl rfl ?_
        refine TL_v rfl rfl rfl (V_pick (b := false) rfl rfl) ?_
        refine TL_v rfl rfl rfl (V_move rfl) ?_
        refine TL_skip rfl rfl rfl rfl rfl rfl rfl ?_
        refine TL_skip rfl rfl rfl rfl rfl rfl rfl ?_
        refine TL_skip rfl rfl rfl rfl rfl rfl rfl ?_
        refine TL_v rfl rfl rfl (V_pick (b := false) rfl rfl) ?_
        refine TL_v rfl rfl rfl (V_move rfl) ?_
        refine TL_skip rfl rfl rfl rfl rfl rfl rfl ?_
        refine TL_skip rfl rfl rfl rfl rfl rfl rfl ?_
        refine TL_skip rfl rfl rfl rfl rfl rfl rfl ?_
        refine TL_v rfl rfl rfl (V_pick (b := false) rfl rfl) ?_
        refine TL_v rfl rfl rfl (V_assign rfl) ?_
        refine TL_nil ?_
        refine TX_next ?_
        refine TC.sub (m' := [(0, vb false)]) ⟨rfl, trivial⟩ ?_
        refine TC_ret ?_
        have hrv := Option.some.inj H
        subst hrv
        exact TX_ret (rs := [.tmp 0]) (vs := [vb false]) rfl ⟨rfl, trivial⟩ (fun w' hs' => ⟨(), rfl, Step.left (Step.pulled (is := []) (A := []) hs' rfl)⟩)
    · replace H := ite_f (of_decide_eq_false hc) H
      refine TL_skip rfl rfl rfl rfl rfl rfl rfl ?_
      refine TL_skip rfl rfl rfl rfl rfl rfl rfl ?_
      refine TL_skip rfl rfl rfl rfl rfl rfl rfl ?_
      refine TL_v rfl rfl rfl (V_pick (b := false) rfl rfl) ?_
      refine TL_v rfl rfl rfl (V_move rfl) ?_
      refine TL_skip rfl rfl rfl rfl rfl rfl rfl ?_
      refine TL_skip rfl rfl rfl rfl rfl rfl rfl ?_
      refine TL_skip rfl rfl rfl rfl rfl rfl rfl ?_
      refine TL_v rfl rfl rfl (V_pick (b := false) rfl rfl) ?_
      refine TL_v rfl rfl rfl (V_move rfl) ?_
      refine TL_skip rfl rfl rfl rfl rfl rfl rfl ?_
      refine TL_skip rfl rfl rfl rfl rfl rfl rfl ?_
      refine TL_skip rfl rfl rfl rfl rfl rfl rfl ?_
      refine TL_v rfl rfl rfl (V_pick (b := false) rfl rfl) ?_
      refine TL_v rfl rfl rfl (V_move rfl) ?_
      refine TL_skip rfl rfl rfl rfl rfl rfl rfl ?_
      refine TL_skip rfl rfl rfl rfl rfl rfl rfl ?_
      refine TL_skip rfl rfl rfl rfl rfl rfl rfl ?_
      refine TL_v rfl rfl rfl (V_pick (b := false) rfl rfl) ?_
      refine TL_v rfl rfl rfl (V_move rfl) ?_
      refine TL_skip rfl rfl rfl rfl rfl rfl rfl ?_
      refine TL_skip rfl rfl rfl rfl rfl rfl rfl ?_
      refine TL_skip rfl rfl rfl rfl rfl rfl rfl ?_
      refine TL_v rfl rfl rfl (V_pick (b := false) rfl rfl) ?_
      refine TL_v rfl rfl rfl (V_move rfl) ?_
      refine TL_skip rfl rfl rfl rfl rfl rfl rfl ?_
      refine TL_skip rfl rfl rfl rfl rfl rfl rfl ?_
      refine TL_skip rfl rfl rfl rfl rfl rfl rfl ?_
      refine TL_v rfl rfl rfl (V_pick (b := false) rfl rfl) ?_
      refine TL_v rfl rfl rfl (V_move rfl) ?_
      refine TL_skip rfl rfl rfl rfl rfl rfl rfl ?_
      refine TL_skip rfl rfl rfl rfl rfl rfl rfl ?_
      refine TL_skip rfl rfl rfl rfl rfl rfl rfl ?_
      refine TL_v rfl rfl rfl (V_pick (b := false) rfl rfl) ?_
      refine TL_v rfl rfl rfl (V_move rfl) ?_
      refine TL_skip rfl rfl rfl rfl rfl rfl rfl ?_
      refine TL_skip rfl rfl rfl rfl rfl rfl rfl ?_
      refine TL_skip rfl rfl rfl rfl rfl rfl rfl ?_
      refine TL_v rfl rfl rfl (V_pick (b := false) rfl rfl) ?_
      refine TL_v rfl rfl rfl (V_move rfl) ?_
      refine TL_skip rfl rfl rfl rfl rfl rfl rfl ?_
      refine TL_skip rfl rfl rfl rfl rfl rfl rfl ?_
      refine TL_skip rfl rfl rfl rfl rfl rfl rfl ?_
      refine TL_v rfl rfl rfl (V_pick (b := false) rfl rfl) ?_
      refine TL_v rfl rfl rfl (V_move rfl) ?_
      refine TL_skip rfl rfl rfl rfl rfl rfl rfl ?_
      refine TL_skip rfl rfl rfl rfl rfl rfl rfl ?_
      refine TL_skip rfl rfl rfl rfl rfl rfl rfl ?_
      refine TL_v rfl rfl rfl (V_pick (b := false) rfl rfl) ?_
      refine TL_v rfl rfl rfl (V_assign rfl) ?_
      refine TL_nil ?_
      refine TX_next ?_
      refine TC.sub (m' := [(0, vb false)]) ⟨rfl, trivial⟩ ?_
      refine TC_ret ?_
      have hrv := Option.some.inj H
      subst hrv
      exact TX_ret (rs := [.tmp 0]) (vs := [vb false]) rfl ⟨rfl, trivial⟩ (fun w' hs' => ⟨(), rfl, Step.left (Step.pulled (is := []) (A := []) hs' rfl)⟩)
  · replace H := ite_f (of_decide_eq_false hc) H
    refine TL_skip rfl rfl rfl rfl rfl rfl rfl ?_
    refine TL_skip rfl rfl rfl rfl rfl rfl rfl ?_
    refine TL_skip rfl rfl rfl rfl rfl rfl rfl ?_
    refine TL_v rfl rfl rfl (V_pick (b := false) rfl rfl) ?_
    refine TL_v rfl rfl rfl (V_move rfl) ?_
    refine TL_skip rfl rfl rfl rfl rfl rfl rfl ?_
    refine TL_skip rfl rfl rfl rfl rfl rfl rfl ?_
    refine TL_skip rfl rfl rfl rfl rfl rfl rfl ?_
    refine TL_v rfl rfl rfl (V_pick (b := false) rfl rfl) ?_
    refine TL_v rfl rfl rfl (V_move rfl) ?_
    refine TL_skip rfl rfl rfl rfl rfl rfl rfl ?_
    refine TL_skip rfl rfl rfl rfl rfl rfl rfl ?_
    refine TL_skip rfl rfl rfl rfl rfl rfl rfl ?_
    refine TL_v rfl rfl rfl (V_pick (b := false) rfl rfl) ?_
    refine TL_v rfl rfl rfl (V_move rfl) ?_
    refine TL_skip rfl rfl rfl rfl rfl rfl rfl ?_
    refine TL_skip rfl rfl rfl rfl rfl rfl rfl ?_
    refine TL_skip rfl rfl rfl rfl rfl rfl rfl ?_
    refine TL_v rfl rfl rfl (V_pick (b := false) rfl rfl) ?_
    refine TL_v rfl rfl rfl (V_move rfl) ?_
    refine TL_skip rfl rfl rfl rfl rfl rfl rfl ?_
    refine TL_skip rfl rfl rfl rfl rfl rfl rfl ?_
    refine TL_skip rfl rfl rfl rfl rfl rfl rfl ?_
    refine TL_v rfl rfl rfl (V_pick (b := false) rfl rfl) ?_
    refine TL_v rfl rfl rfl (V_move rfl) ?_
    refine TL_skip rfl rfl rfl rfl rfl rfl rfl ?_
    refine TL_skip rfl rfl rfl rfl rfl rfl rfl ?_
    refine TL_skip rfl rfl rfl rfl rfl rfl rfl ?_
    refine TL_v rfl rfl rfl (V_pick (b := false) rfl rfl) ?_
    refine TL_v rfl rfl rfl (V_move rfl) ?_
    refine TL_skip rfl rfl rfl rfl rfl rfl rfl ?_
    refine TL_skip rfl rfl rfl rfl rfl rfl rfl ?_
    refine TL_skip rfl rfl rfl rfl rfl rfl rfl ?_
    refine TL_v rfl rfl rfl (V_pick (b := false) rfl rfl) ?_
    refine TL_v rfl rfl rfl (V_move rfl) ?_
    refine TL_skip rfl rfl rfl rfl rfl rfl rfl ?_
    refine TL_skip rfl rfl rfl rfl rfl rfl rfl ?_
    refine TL_skip rfl rfl rfl rfl rfl rfl rfl ?_
    refine TL_v rfl rfl rfl (V_pick (b := false) rfl rfl) ?_
    refine TL_v rfl rfl rfl (V_move rfl) ?_
    refine TL_skip rfl rfl rfl rfl rfl rfl rfl ?_
    refine TL_skip rfl rfl rfl rfl rfl rfl rfl ?_
    refine TL_skip rfl rfl rfl rfl rfl rfl rfl ?_
    refine TL_v rfl rfl rfl (V_pick (b := false) rfl rfl) ?_
    refine TL_v rfl rfl rfl (V_move rfl) ?_
    refine TL_skip rfl rfl rfl rfl rfl rfl rfl ?_
    refine TL_skip rfl rfl rfl rfl rfl rfl rfl ?_
    refine TL_skip rfl rfl rfl rfl rfl rfl rfl ?_
    refine TL_v rfl rfl rfl (V_pick (b := false) rfl rfl) ?_
    refine TL_v rfl rfl rfl (V_move rfl) ?_
    refine TL_skip rfl rfl rfl rfl rfl rfl rfl ?_
    refine TL_skip rfl rfl rfl rfl rfl rfl rfl ?_
    refine TL_skip rfl rfl rfl rfl rfl rfl rfl ?_
    refine TL_v rfl rfl rfl (V_pick (b := false) rfl rfl) ?_
    refine TL_v rfl rfl rfl (V_assign rfl) ?_
    refine TL_nil ?_
    refine TX_next ?_
    refine TC.sub (m' := [(0, vb false)]) ⟨rfl, trivial⟩ ?_
    refine TC_ret ?_
    have hrv := Option.some.inj H
    subst hrv
    exact TX_ret (rs := [.tmp 0]) (vs := [vb false]) rfl ⟨rfl, trivial⟩ (fun w' hs' => ⟨(), rfl, Step.left (Step.pulled (is := []) (A := []) hs' rfl)⟩)

end Go.Proofs
end

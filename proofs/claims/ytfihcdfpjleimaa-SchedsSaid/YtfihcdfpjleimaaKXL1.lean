/-
  Part KXL1 of the proofs of this seat: F3, SchL1.
-/
import Derived.Test.YtfihcdfpjleimaaK2
import Derived.Test.YtfihcdfpjleimaaKX1
import Derived.Test.YtfihcdfpjleimaaKX2
import Derived.Test.YtfihcdfpjleimaaKX3
section
namespace Go.Proofs
open Go Go.Kx
set_option linter.unusedVariables false
set_option linter.unusedSimpArgs false
def halberdlaw19_Scheds (suite : Int) (secret : Str) (label : Str) (s_ : Str) : Option (Bool) :=
  (sched_Bits suite).bind fun (r_1 : Int × Int) => ((halberdref19_Bits suite).bind fun (r_2 : Int × Int) => ((sched_Derive suite secret label s_).bind fun (r_3 : Str × Int) => ((halberdref19_Derive suite secret label s_).bind fun (r_4 : Str × Int) => ((sched_Early suite secret).bind fun (r_5 : Str × Int) => ((halberdref19_Early suite secret).bind fun (r_6 : Str × Int) => ((sched_Mix suite secret s_).bind fun (r_7 : Str × Int) => ((halberdref19_Mix suite secret s_).bind fun (r_8 : Str × Int) => ((sched_Keys suite secret).bind fun (r_9 : Str × Str × Int) => ((halberdref19_Keys suite secret).bind fun (r_10 : Str × Str × Int) => ((sched_Next suite secret).bind fun (r_11 : Str × Int) => ((halberdref19_Next suite secret).bind fun (r_12 : Str × Int) => (if r_1.1 = r_2.1 then ((halberdlaw0_Num r_1.2).bind fun (r_13 : Int) => (if r_13 = r_2.2 then (if r_3.1 = r_4.1 then ((halberdlaw0_Num r_3.2).bind fun (r_14 : Int) => (if r_14 = r_4.2 then (if r_5.1 = r_6.1 then ((halberdlaw0_Num r_5.2).bind fun (r_15 : Int) => (if r_15 = r_6.2 then (if r_7.1 = r_8.1 then ((halberdlaw0_Num r_7.2).bind fun (r_16 : Int) => (if r_16 = r_8.2 then (if r_9.1 = r_10.1 then (if r_9.2.1 = r_10.2.1 then ((halberdlaw0_Num r_9.2.2).bind fun (r_17 : Int) => (if r_17 = r_10.2.2 then (if r_11.1 = r_12.1 then ((halberdlaw0_Num r_11.2).bind fun (r_18 : Int) => (if r_18 = r_12.2 then ((halberdlaw19_awake).bind fun (r_19 : Bool) => (some r_19)) else (some false))) else (some false)) else (some false))) else (some false)) else (some false)) else (some false))) else (some false)) else (some false))) else (some false)) else (some false))) else (some false)) else (some false))) else (some false)))))))))))))

set_option maxHeartbeats 4000000 in
set_option maxRecDepth 20000 in
theorem F3_calls (suite : Int) (secret : Str) (label : Str) (s_ : Str) (r : Bool) (H : halberdlaw19_Scheds suite secret label s_ = some r) :
    Does Try.prog 3 [vi suite, vs secret, vs label, vs s_] [] [] (Γ := Unit) (fun g => vb r) (fun g => []) := by
  intro w hmem hro hd
  refine calls_of (N := 185) (m0 := [(0, vi suite), (1, vs secret), (2, vs label), (3, vs s_)]) Try.func3 rfl Try.ntmps3 (argM_ok [vi suite, vs secret, vs label, vs s_]) rfl hmem hro hd ?_
  unfold halberdlaw19_Scheds at H
  refine TC_seq ?_
  refine TC_region ?_
  refine TL_v rfl rfl rfl (V_assign rfl) ?_
  refine TL_nil ?_
  refine TX_next ?_
  refine TC_seq ?_
  refine TC_region ?_
  refine TL_v rfl rfl rfl (V_move rfl) ?_
  obtain ⟨r_1, hr_1, H⟩ := bind_elim H
  refine TL_e rfl rfl rfl (E_call (Γ := Unit) (val := fun g => Value.tuple [vi r_1.1, vi r_1.2].toArray) (mem := fun g => []) (vs := [vi suite]) (Lin := []) (Ro := []) (is := []) rfl Try.call9 (F9_calls suite r_1 hr_1) rfl trivial) (fun g_1 => ?_)
  refine TL_v rfl rfl rfl (V_move rfl) ?_
  refine TL_v rfl rfl rfl (V_extract (vs := [vi r_1.1, vi r_1.2]) rfl rfl) ?_
  refine TL_v rfl rfl rfl (V_extract (vs := [vi r_1.1, vi r_1.2]) rfl rfl) ?_
  refine TL_v rfl rfl rfl (V_assign rfl) ?_
  refine TL_v rfl rfl rfl (V_assign rfl) ?_
  refine TL_nil ?_
  refine TX_next ?_
  refine TC_seq ?_
  refine TC_region ?_
  refine TL_v rfl rfl rfl (V_move rfl) ?_
  obtain ⟨r_2, hr_2, H⟩ := bind_elim H
  refine TL_e rfl rfl rfl (E_call (Γ := Unit) (val := fun g => Value.tuple [vi r_2.1, vi r_2.2].toArray) (mem := fun g => []) (vs := [vi suite]) (Lin := []) (Ro := []) (is := []) rfl Try.call10 (F10_calls suite r_2 hr_2) rfl trivial) (fun g_2 => ?_)
  refine TL_v rfl rfl rfl (V_move rfl) ?_
  refine TL_v rfl rfl rfl (V_extract (vs := [vi r_2.1, vi r_2.2]) rfl rfl) ?_
  refine TL_v rfl rfl rfl (V_extract (vs := [vi r_2.1, vi r_2.2]) rfl rfl) ?_
  refine TL_v rfl rfl rfl (V_assign rfl) ?_
  refine TL_v rfl rfl rfl (V_assign rfl) ?_
  refine TL_nil ?_
  refine TX_next ?_
  refine TC_seq ?_
  refine TC_region ?_
  refine TL_v rfl rfl rfl (V_move rfl) ?_
  refine TL_v rfl rfl rfl (V_move rfl) ?_
  refine TL_v rfl rfl rfl (V_move rfl) ?_
  refine TL_v rfl rfl rfl (V_move rfl) ?_
  obtain ⟨r_3, hr_3, H⟩ := bind_elim H
  refine TL_e rfl rfl rfl (E_call (Γ := Unit) (val := fun g => Value.tuple [vs r_3.1, vi r_3.2].toArray) (mem := fun g => []) (vs := [vi suite, vs secret, vs label, vs s_]) (Lin := []) (Ro := []) (is := []) rfl Try.call11 (F11_calls suite secret label s_ r_3 hr_3) rfl trivial) (fun g_3 => ?_)
  refine TL_v rfl rfl rfl (V_move rfl) ?_
  refine TL_v rfl rfl rfl (V_extract (vs := [vs r_3.1, vi r_3.2]) rfl rfl) ?_
  refine TL_v rfl rfl rfl (V_extract (vs := [vs r_3.1, vi r_3.2]) rfl rfl) ?_
  refine TL_v rfl rfl rfl (V_assign rfl) ?_
  refine TL_v rfl rfl rfl (V_assign rfl) ?_
  refine TL_nil ?_
  refine TX_next ?_
  refine TC_seq ?_
  refine TC_region ?_
  refine TL_v rfl rfl rfl (V_move rfl) ?_
  refine TL_v rfl rfl rfl (V_move rfl) ?_
  refine TL_v rfl rfl rfl (V_move rfl) ?_
  refine TL_v rfl rfl rfl (V_move rfl) ?_
  obtain ⟨r_4, hr_4, H⟩ := bind_elim H
  refine TL_e rfl rfl rfl (E_call (Γ := Unit) (val := fun g => Value.tuple [vs r_4.1, vi r_4.2].toArray) (mem := fun g => []) (vs := [vi suite, vs secret, vs label, vs s_]) (Lin := []) (Ro := []) (is := []) rfl Try.call12 (F12_calls suite secret label s_ r_4 hr_4) rfl trivial) (fun g_4 => ?_)
  refine TL_v rfl rfl rfl (V_move rfl) ?_
  refine TL_v rfl rfl rfl (V_extract (vs := [vs r_4.1, vi r_4.2]) rfl rfl) ?_
  refine TL_v rfl rfl rfl (V_extract (vs := [vs r_4.1, vi r_4.2]) rfl rfl) ?_
  refine TL_v rfl rfl rfl (V_assign rfl) ?_
  refine TL_v rfl rfl rfl (V_assign rfl) ?_
  refine TL_nil ?_
  refine TX_next ?_
  refine TC.sub (m' := [(0, vi suite), (1, vs secret), (3, vs s_), (9, vi r_1.1), (10, vi r_1.2), (11, vi r_2.1), (12, vi r_2.2), (13, vs r_3.1), (14, vi r_3.2), (15, vs r_4.1), (16, vi r_4.2)]) ⟨rfl, rfl, rfl, rfl, rfl, rfl, rfl, rfl, rfl, rfl, rfl, trivial⟩ ?_
  refine TC_seq ?_
  refine TC_region ?_
  refine TL_v rfl rfl rfl (V_move rfl) ?_
  refine TL_v rfl rfl rfl (V_move rfl) ?_
  obtain ⟨r_5, hr_5, H⟩ := bind_elim H
  refine TL_e rfl rfl rfl (E_call (Γ := Unit) (val := fun g => Value.tuple [vs r_5.1, vi r_5.2].toArray) (mem := fun g => []) (vs := [vi suite, vs secret]) (Lin := []) (Ro := []) (is := []) rfl Try.call13 (F13_calls suite secret r_5 hr_5) rfl trivial) (fun g_5 => ?_)
  refine TL_v rfl rfl rfl (V_move rfl) ?_
  refine TL_v rfl rfl rfl (V_extract (vs := [vs r_5.1, vi r_5.2]) rfl rfl) ?_
  refine TL_v rfl rfl rfl (V_extract (vs := [vs r_5.1, vi r_5.2]) rfl rfl) ?_
  refine TL_v rfl rfl rfl (V_assign rfl) ?_
  refine TL_v rfl rfl rfl (V_assign rfl) ?_
  refine TL_nil ?_
  refine TX_next ?_
  refine TC_seq ?_
  refine TC_region ?_
  refine TL_v rfl rfl rfl (V_move rfl) ?_
  refine TL_v rfl rfl rfl (V_move rfl) ?_
  obtain ⟨r_6, hr_6, H⟩ := bind_elim H
  refine TL_e rfl rfl rfl (E_call (Γ := Unit) (val := fun g => Value.tuple [vs r_6.1, vi r_6.2].toArray) (mem := fun g => []) (vs := [vi suite, vs secret]) (Lin := []) (Ro := []) (is := []) rfl Try.call14 (F14_calls suite secret r_6 hr_6) rfl trivial) (fun g_6 => ?_)
  refine TL_v rfl rfl rfl (V_move rfl) ?_
  refine TL_v rfl rfl rfl (V_extract (vs := [vs r_6.1, vi r_6.2]) rfl rfl) ?_
  refine TL_v rfl rfl rfl (V_extract (vs := [vs r_6.1, vi r_6.2]) rfl rfl) ?_
  refine TL_v rfl rfl rfl (V_assign rfl) ?_
  refine TL_v rfl rfl rfl (V_assign rfl) ?_
  refine TL_nil ?_
  refine TX_next ?_
  refine TC_seq ?_
  refine TC_region ?_
  refine TL_v rfl rfl rfl (V_move rfl) ?_
  refine TL_v rfl rfl rfl (V_move rfl) ?_
  refine TL_v rfl rfl rfl (V_move rfl) ?_
  obtain ⟨r_7, hr_7, H⟩ := bind_elim H
  refine TL_e rfl rfl rfl (E_call (Γ := Unit) (val := fun g => Value.tuple [vs r_7.1, vi r_7.2].toArray) (mem := fun g => []) (vs := [vi suite, vs secret, vs s_]) (Lin := []) (Ro := []) (is := []) rfl Try.call15 (F15_calls suite secret s_ r_7 hr_7) rfl trivial) (fun g_7 => ?_)
  refine TL_v rfl rfl rfl (V_move rfl) ?_
  refine TL_v rfl rfl rfl (V_extract (vs := [vs r_7.1, vi r_7.2]) rfl rfl) ?_
  refine TL_v rfl rfl rfl (V_extract (vs := [vs r_7.1, vi r_7.2]) rfl rfl) ?_
  refine TL_v rfl rfl rfl (V_assign rfl) ?_
  refine TL_v rfl rfl rfl (V_assign rfl) ?_
  refine TL_nil ?_
  refine TX_next ?_
  refine TC.sub (m' := [(0, vi suite), (1, vs secret), (3, vs s_), (9, vi r_1.1), (10, vi r_1.2), (11, vi r_2.1), (12, vi r_2.2), (13, vs r_3.1), (14, vi r_3.2), (15, vs r_4.1), (16, vi r_4.2), (17, vs r_5.1), (18, vi r_5.2), (19, vs r_6.1), (20, vi r_6.2), (21, vs r_7.1), (22, vi r_7.2)]) ⟨rfl, rfl, rfl, rfl, rfl, rfl, rfl, rfl, rfl, rfl, rfl, rfl, rfl, rfl, rfl, rfl, rfl, trivial⟩ ?_
  refine TC_seq ?_
  refine TC_region ?_
  refine TL_v rfl rfl rfl (V_move rfl) ?_
  refine TL_v rfl rfl rfl (V_move rfl) ?_
  refine TL_v rfl rfl rfl (V_move rfl) ?_
  obtain ⟨r_8, hr_8, H⟩ := bind_elim H
  refine TL_e rfl rfl rfl (E_call (Γ := Unit) (val := fun g => Value.tuple [vs r_8.1, vi r_8.2].toArray) (mem := fun g => []) (vs := [vi suite, vs secret, vs s_]) (Lin := []) (Ro := []) (is := []) rfl Try.call16 (F16_calls suite secret s_ r_8 hr_8) rfl trivial) (fun g_8 => ?_)
  refine TL_v rfl rfl rfl (V_move rfl) ?_
  refine TL_v rfl rfl rfl (V_extract (vs := [vs r_8.1, vi r_8.2]) rfl rfl) ?_
  refine TL_v rfl rfl rfl (V_extract (vs := [vs r_8.1, vi r_8.2]) rfl rfl) ?_
  refine TL_v rfl rfl rfl (V_assign rfl) ?_
  refine TL_v rfl rfl rfl (V_assign rfl) ?_
  refine TL_nil ?_
  refine TX_next ?_
  refine TC_seq ?_
  refine TC_region ?_
  refine TL_v rfl rfl rfl (V_move rfl) ?_
  refine TL_v rfl rfl rfl (V_move rfl) ?_
  obtain ⟨r_9, hr_9, H⟩ := bind_elim H
  refine TL_e rfl rfl rfl (E_call (Γ := Unit) (val := fun g => Value.tuple [vs r_9.1, vs r_9.2.1, vi r_9.2.2].toArray) (mem := fun g => []) (vs := [vi suite, vs secret]) (Lin := []) (Ro := []) (is := []) rfl Try.call17 (F17_calls suite secret r_9 hr_9) rfl trivial) (fun g_9 => ?_)
  refine TL_v rfl rfl rfl (V_move rfl) ?_
  refine TL_v rfl rfl rfl (V_extract (vs := [vs r_9.1, vs r_9.2.1, vi r_9.2.2]) rfl rfl) ?_
  refine TL_v rfl rfl rfl (V_extract (vs := [vs r_9.1, vs r_9.2.1, vi r_9.2.2]) rfl rfl) ?_
  refine TL_v rfl rfl rfl (V_extract (vs := [vs r_9.1, vs r_9.2.1, vi r_9.2.2]) rfl rfl) ?_
  refine TL_v rfl rfl rfl (V_assign rfl) ?_
  refine TL_v rfl rfl rfl (V_assign rfl) ?_
  refine TL_v rfl rfl rfl (V_assign rfl) ?_
  refine TL_nil ?_
  refine TX_next ?_
  refine TC.sub (m' := [(0, vi suite), (1, vs secret), (9, vi r_1.1), (10, vi r_1.2), (11, vi r_2.1), (12, vi r_2.2), (13, vs r_3.1), (14, vi r_3.2), (15, vs r_4.1), (16, vi r_4.2), (17, vs r_5.1), (18, vi r_5.2), (19, vs r_6.1), (20, vi r_6.2), (21, vs r_7.1), (22, vi r_7.2), (23, vs r_8.1), (24, vi r_8.2), (25, vs r_9.1), (26, vs r_9.2.1), (27, vi r_9.2.2)]) ⟨rfl, rfl, rfl, rfl, rfl, rfl, rfl, rfl, rfl, rfl, rfl, rfl, rfl, rfl, rfl, rfl, rfl, rfl, rfl, rfl, rfl, trivial⟩ ?_
  refine TC_seq ?_
  refine TC_region ?_
  refine TL_v rfl rfl rfl (V_move rfl) ?_
  refine TL_v rfl rfl rfl (V_move rfl) ?_
  obtain ⟨r_10, hr_10, H⟩ := bind_elim H
  refine TL_e rfl rfl rfl (E_call (Γ := Unit) (val := fun g => Value.tuple [vs r_10.1, vs r_10.2.1, vi r_10.2.2].toArray) (mem := fun g => []) (vs := [vi suite, vs secret]) (Lin := []) (Ro := []) (is := []) rfl Try.call18 (F18_calls suite secret r_10 hr_10) rfl trivial) (fun g_10 => ?_)
  refine TL_v rfl rfl rfl (V_move rfl) ?_
  refine TL_v rfl rfl rfl (V_extract (vs := [vs r_10.1, vs r_10.2.1, vi r_10.2.2]) rfl rfl) ?_
  refine TL_v rfl rfl rfl (V_extract (vs := [vs r_10.1, vs r_10.2.1, vi r_10.2.2]) rfl rfl) ?_
  refine TL_v rfl rfl rfl (V_extract (vs := [vs r_10.1, vs r_10.2.1, vi r_10.2.2]) rfl rfl) ?_
  refine TL_v rfl rfl rfl (V_assign rfl) ?_
  refine TL_v rfl rfl rfl (V_assign rfl) ?_
  refine TL_v rfl rfl rfl (V_assign rfl) ?_
  refine TL_nil ?_
  refine TX_next ?_
  refine TC.sub (m' := [(0, vi suite), (1, vs secret), (9, vi r_1.1), (10, vi r_1.2), (11, vi r_2.1), (12, vi r_2.2), (13, vs r_3.1), (14, vi r_3.2), (15, vs r_4.1), (16, vi r_4.2), (17, vs r_5.1), (18, vi r_5.2), (19, vs r_6.1), (20, vi r_6.2), (21, vs r_7.1), (22, vi r_7.2), (23, vs r_8.1), (24, vi r_8.2), (25, vs r_9.1), (26, vs r_9.2.1), (27, vi r_9.2.2), (28, vs r_10.1), (29, vs r_10.2.1), (30, vi r_10.2.2)]) ⟨rfl, rfl, rfl, rfl, rfl, rfl, rfl, rfl, rfl, rfl, rfl, rfl, rfl, rfl, rfl, rfl, rfl, rfl, rfl, rfl, rfl, rfl, rfl, rfl, trivial⟩ ?_
  refine TC_seq ?_
  refine TC_region ?_
  refine TL_v rfl rfl rfl (V_move rfl) ?_
  refine TL_v rfl rfl rfl (V_move rfl) ?_
  obtain ⟨r_11, hr_11, H⟩ := bind_elim H
  refine TL_e rfl rfl rfl (E_call (Γ := Unit) (val := fun g => Value.tuple [vs r_11.1, vi r_11.2].toArray) (mem := fun g => []) (vs := [vi suite, vs secret]) (Lin := []) (Ro := []) (is := []) rfl Try.call19 (F19_calls suite secret r_11 hr_11) rfl trivial) (fun g_11 => ?_)
  refine TL_v rfl rfl rfl (V_move rfl) ?_
  refine TL_v rfl rfl rfl (V_extract (vs := [vs r_11.1, vi r_11.2]) rfl rfl) ?_
  refine TL_v rfl rfl rfl (V_extract (vs := [vs r_11.1, vi r_11.2]) rfl rfl) ?_
  refine TL_v rfl rfl rfl (V_assign rfl) ?_
  refine TL_v rfl rfl rfl (V_assign rfl) ?_
  refine TL_nil ?_
  refine TX_next ?_
  refine TC.sub (m' := [(0, vi suite), (1, vs secret), (9, vi r_1.1), (10, vi r_1.2), (11, vi r_2.1), (12, vi r_2.2), (13, vs r_3.1), (14, vi r_3.2), (15, vs r_4.1), (16, vi r_4.2), (17, vs r_5.1), (18, vi r_5.2), (19, vs r_6.1), (20, vi r_6.2), (21, vs r_7.1), (22, vi r_7.2), (23, vs r_8.1), (24, vi r_8.2), (25, vs r_9.1), (26, vs r_9.2.1), (27, vi r_9.2.2), (28, vs r_10.1), (29, vs r_10.2.1), (30, vi r_10.2.2), (31, vs r_11.1), (32, vi r_11.2)]) ⟨rfl, rfl, rfl, rfl, rfl, rfl, rfl, rfl, rfl, rfl, rfl, rfl, rfl, rfl, rfl, rfl, rfl, rfl, rfl, rfl, rfl, rfl, rfl, rfl, rfl, rfl, trivial⟩ ?_
  refine TC_seq ?_
  refine TC_region ?_
  refine TL_v rfl rfl rfl (V_move rfl) ?_
  refine TL_v rfl rfl rfl (V_move rfl) ?_
  obtain ⟨r_12, hr_12, H⟩ := bind_elim H
  refine TL_e rfl rfl rfl (E_call (Γ := Unit) (val := fun g => Value.tuple [vs r_12.1, vi r_12.2].toArray) (mem := fun g => []) (vs := [vi suite, vs secret]) (Lin := []) (Ro := []) (is := []) rfl Try.call20 (F20_calls suite secret r_12 hr_12) rfl trivial) (fun g_12 => ?_)
  refine TL_v rfl rfl rfl (V_move rfl) ?_
  refine TL_v rfl rfl rfl (V_extract (vs := [vs r_12.1, vi r_12.2]) rfl rfl) ?_
  refine TL_v rfl rfl rfl (V_extract (vs := [vs r_12.1, vi r_12.2]) rfl rfl) ?_
  refine TL_v rfl rfl rfl (V_assign rfl) ?_
  refine TL_v rfl rfl rfl (V_assign rfl) ?_
  refine TL_nil ?_
  refine TX_next ?_
  refine TC.sub (m' := [(9, vi r_1.1), (10, vi r_1.2), (11, vi r_2.1), (12, vi r_2.2), (13, vs r_3.1), (14, vi r_3.2), (15, vs r_4.1), (16, vi r_4.2), (17, vs r_5.1), (18, vi r_5.2), (19, vs r_6.1), (20, vi r_6.2), (21, vs r_7.1), (22, vi r_7.2), (23, vs r_8.1), (24, vi r_8.2), (25, vs r_9.1), (26, vs r_9.2.1), (27, vi r_9.2.2), (28, vs r_10.1), (29, vs r_10.2.1), (30, vi r_10.2.2), (31, vs r_11.1), (32, vi r_11.2), (33, vs r_12.1), (34, vi r_12.2)]) ⟨rfl, rfl, rfl, rfl, rfl, rfl, rfl, rfl, rfl, rfl, rfl, rfl, rfl, rfl, rfl, rfl, rfl, rfl, rfl, rfl, rfl, rfl, rfl, rfl, rfl, rfl, trivial⟩ ?_
  refine TC_seq ?_
  refine TC_region ?_
  refine TL_v rfl rfl rfl (V_move rfl) ?_
  refine TL_v rfl rfl rfl (V_move rfl) ?_
  refine TL_v rfl rfl rfl (V_bin rfl rfl (fun w => eqlI w r_1.1 r_2.1)) ?_
  refine TL_v rfl rfl rfl (V_move rfl) ?_
  refine TL_fork (d := 116) (b := (decide (r_1.1 = r_2.1))) rfl (fun hc => ?_) (fun hc => ?_)
  · replace H := ite_t (of_decide_eq_true hc) H
    refine TL_want rfl rfl rfl rfl rfl rfl (V_move rfl) ?_
    obtain ⟨r_13, hr_13, H⟩ := bind_elim H
    refine TL_wantE rfl rfl rfl rfl rfl rfl (E_call (Γ := Unit) (val := fun g => vi r_13) (mem := fun g => []) (vs := [vi r_1.2]) (Lin := []) (Ro := []) (is := []) rfl Try.call21 (F21_calls r_1.2 r_13 hr_13) rfl trivial) (fun g_13 => ?_)
    refine TL_want rfl rfl rfl rfl rfl rfl (V_move rfl) ?_
    refine TL_want rfl rfl rfl rfl rfl rfl (V_bin rfl rfl (fun w => eqlI w r_13 r_2.2)) ?_
    refine TL_v rfl rfl rfl (V_pick (b := true) rfl rfl) ?_
    refine TL_v rfl rfl rfl (V_move rfl) ?_
    refine TL_fork (d := 122) (b := (decide (r_13 = r_2.2))) rfl (fun hc => ?_) (fun hc => ?_)
    · replace H := ite_t (of_decide_eq_true hc) H
      refine TL_want rfl rfl rfl rfl rfl rfl (V_move rfl) ?_
      refine TL_want rfl rfl rfl rfl rfl rfl (V_move rfl) ?_
      refine TL_want rfl rfl rfl rfl rfl rfl (V_bin rfl rfl (fun w => eqlS w r_3.1 r_4.1)) ?_
      refine TL_v rfl rfl rfl (V_pick (b := true) rfl rfl) ?_
      refine TL_v rfl rfl rfl (V_move rfl) ?_
      refine TL_fork (d := 127) (b := (decide (r_3.1 = r_4.1))) rfl (fun hc => ?_) (fun hc => ?_)
      · replace H := ite_t (of_decide_eq_true hc) H
        refine TL_want rfl rfl rfl rfl rfl rfl (V_move rfl) ?_
        obtain ⟨r_14, hr_14, H⟩ := bind_elim H
        refine TL_wantE rfl rfl rfl rfl rfl rfl (E_call (Γ := Unit) (val := fun g => vi r_14) (mem := fun g => []) (vs := [vi r_3.2]) (Lin := []) (Ro := []) (is := []) rfl Try.call21 (F21_calls r_3.2 r_14 hr_14) rfl trivial) (fun g_14 => ?_)
        refine TL_want rfl rfl rfl rfl rfl rfl (V_move rfl) ?_
        refine TL_want rfl rfl rfl rfl rfl rfl (V_bin rfl rfl (fun w => eqlI w r_14 r_4.2)) ?_
        refine TL_v rfl rfl rfl (V_pick (b := true) rfl rfl) ?_
        refine TL_v rfl rfl rfl (V_move rfl) ?_
        refine TL_fork (d := 133) (b := (decide (r_14 = r_4.2))) rfl (fun hc => ?_) (fun hc => ?_)
        · replace H := ite_t (of_decide_eq_true hc) H
          refine TL_want rfl rfl rfl rfl rfl rfl (V_move rfl) ?_
          refine TL_want rfl rfl rfl rfl rfl rfl (V_move rfl) ?_
          refine TL_want rfl rfl rfl rfl rfl rfl (V_bin rfl rfl (fun w => eqlS w r_5.1 r_6.1)) ?_
          refine TL_v rfl rfl rfl (V_pick (b := true) rfl rfl) ?_
          refine TL_v rfl rfl rfl (V_move rfl) ?_
          refine TL_fork (d := 138) (b := (decide (r_5.1 = r_6.1))) rfl (fun hc => ?_) (fun hc => ?_)
          · replace H := ite_t (of_decide_eq_true hc) H
            refine TL_want rfl rfl rfl rfl rfl rfl (V_move rfl) ?_
            obtain ⟨r_15, hr_15, H⟩ := bind_elim H
            refine TL_wantE rfl rfl rfl rfl rfl rfl (E_call (Γ := Unit) (val := fun g => vi r_15) (mem := fun g => []) (vs := [vi r_5.2]) (Lin := []) (Ro := []) (is := []) rfl Try.call21 (F21_calls r_5.2 r_15 hr_15) rfl trivial) (fun g_15 => ?_)
            refine TL_want rfl rfl rfl rfl rfl rfl (V_move rfl) ?_
            refine TL_want rfl rfl rfl rfl rfl rfl (V_bin rfl rfl (fun w => eqlI w r_15 r_6.2)) ?_
            refine TL_v rfl rfl rfl (V_pick (b := true) rfl rfl) ?_
            refine TL_v rfl rfl rfl (V_move rfl) ?_
            refine TL_fork (d := 144) (b := (decide (r_15 = r_6.2))) rfl (fun hc => ?_) (fun hc => ?_)
            · replace H := ite_t (of_decide_eq_true hc) H
              refine TL_want rfl rfl rfl rfl rfl rfl (V_move rfl) ?_
              refine TL_want rfl rfl rfl rfl rfl rfl (V_move rfl) ?_
              refine TL_want rfl rfl rfl rfl rfl rfl (V_bin rfl rfl (fun w => eqlS w r_7.1 r_8.1)) ?_
              refine TL_v rfl rfl rfl (V_pick (b := true) rfl rfl) ?_
              refine TL_v rfl rfl rfl (V_move rfl) ?_
              refine TL_fork (d := 149) (b := (decide (r_7.1 = r_8.1))) rfl (fun hc => ?_) (fun hc => ?_)
              · replace H := ite_t (of_decide_eq_true hc) H
                refine TL_want rfl rfl rfl rfl rfl rfl (V_move rfl) ?_
                obtain ⟨r_16, hr_16, H⟩ := bind_elim H
                refine TL_wantE rfl rfl rfl rfl rfl rfl (E_call (Γ := Unit) (val := fun g => vi r_16) (mem := fun g => []) (vs := [vi r_7.2]) (Lin := []) (Ro := []) (is := []) rfl Try.call21 (F21_calls r_7.2 r_16 hr_16) rfl trivial) (fun g_16 => ?_)
                refine TL_want rfl rfl rfl rfl rfl rfl (V_move rfl) ?_
                refine TL_want rfl rfl rfl rfl rfl rfl (V_bin rfl rfl (fun w => eqlI w r_16 r_8.2)) ?_
                refine TL_v rfl rfl rfl (V_pick (b := true) rfl rfl) ?_
                refine TL_v rfl rfl rfl (V_move rfl) ?_
                refine TL_fork (d := 155) (b := (decide (r_16 = r_8.2))) rfl (fun hc => ?_) (fun hc => ?_)
                · replace H := ite_t (of_decide_eq_true hc) H
                  refine TL_want rfl rfl rfl rfl rfl rfl (V_move rfl) ?_
                  refine TL_want rfl rfl rfl rfl rfl rfl (V_move rfl) ?_
                  refine TL_want rfl rfl rfl rfl rfl rfl (V_bin rfl rfl (fun w => eqlS w r_9.1 r_10.1)) ?_
                  refine TL_v rfl rfl rfl (V_pick (b := true) rfl rfl) ?_
                  refine TL_v rfl rfl rfl (V_move rfl) ?_
                  refine TL_fork (d := 160) (b := (decide (r_9.1 = r_10.1))) rfl (fun hc => ?_) (fun hc => ?_)
                  · replace H := ite_t (of_decide_eq_true hc) H
                    refine TL_want rfl rfl rfl rfl rfl rfl (V_move rfl) ?_
                    refine TL_want rfl rfl rfl rfl rfl rfl (V_move rfl) ?_
                    refine TL_want rfl rfl rfl rfl rfl rfl (V_bin rfl rfl (fun w => eqlS w r_9.2.1 r_10.2.1)) ?_
                    refine TL_v rfl rfl rfl (V_pick (b := true) rfl rfl) ?_
                    refine TL_v rfl rfl rfl (V_move rfl) ?_
                    refine TL_fork (d := 165) (b := (decide (r_9.2.1 = r_10.2.1))) rfl (fun hc => ?_) (fun hc => ?_)
                    · replace H := ite_t (of_decide_eq_true hc) H
                      refine TL_want rfl rfl rfl rfl rfl rfl (V_move rfl) ?_
                      obtain ⟨r_17, hr_17, H⟩ := bind_elim H
                      refine TL_wantE rfl rfl rfl rfl rfl rfl (E_call (Γ := Unit) (val := fun g => vi r_17) (mem := fun g => []) (vs := [vi r_9.2.2]) (Lin := []) (Ro := []) (is := []) rfl Try.call21 (F21_calls r_9.2.2 r_17 hr_17) rfl trivial) (fun g_17 => ?_)
                      refine TL_want rfl rfl rfl rfl rfl rfl (V_move rfl) ?_
                      refine TL_want rfl rfl rfl rfl rfl rfl (V_bin rfl rfl (fun w => eqlI w r_17 r_10.2.2)) ?_
                      refine TL_v rfl rfl rfl (V_pick (b := true) rfl rfl) ?_
                      refine TL_v rfl rfl rfl (V_move rfl) ?_
                      refine TL_fork (d := 171) (b := (decide (r_17 = r_10.2.2))) rfl (fun hc => ?_) (fun hc => ?_)
                      · replace H := ite_t (of_decide_eq_true hc) H
                        refine TL_want rfl rfl rfl rfl rfl rfl (V_move rfl) ?_
                        refine TL_want rfl rfl rfl rfl rfl rfl (V_move rfl) ?_
                        refine TL_want rfl rfl rfl rfl rfl rfl (V_bin rfl rfl (fun w => eqlS w r_11.1 r_12.1)) ?_
                        refine TL_v rfl rfl rfl (V_pick (b := true) rfl rfl) ?_
                        refine TL_v rfl rfl rfl (V_move rfl) ?_
                        refine TL_fork (d := 176) (b := (decide (r_11.1 = r_12.1))) rfl (fun hc => ?_) (fun hc => ?_)
                        · replace H := ite_t (of_decide_eq_true hc) H
                          refine TL_want rfl rfl rfl rfl rfl rfl (V_move rfl) ?_
                          obtain ⟨r_18, hr_18, H⟩ := bind_elim H
                          refine TL_wantE rfl rfl rfl rfl rfl rfl (E_call (Γ := Unit) (val := fun g => vi r_18) (mem := fun g => []) (vs := [vi r_11.2]) (Lin := []) (Ro := []) (is := []) rfl Try.call21 (F21_calls r_11.2 r_18 hr_18) rfl trivial) (fun g_18 => ?_)
                          refine TL_want rfl rfl rfl rfl rfl rfl (V_move rfl) ?_
                          refine TL_want rfl rfl rfl rfl rfl rfl (V_bin rfl rfl (fun w => eqlI w r_18 r_12.2)) ?_
                          refine TL_v rfl rfl rfl (V_pick (b := true) rfl rfl) ?_
                          refine TL_v rfl rfl rfl (V_move rfl) ?_
                          refine TL_fork (d := 182) (b := (decide (r_18 = r_12.2))) rfl (fun hc => ?_) (fun hc => ?_)
                          · replace H := ite_t (of_decide_eq_true hc) H
                            obtain ⟨r_19, hr_19, H⟩ := bind_elim H
                            refine TL_wantE rfl rfl rfl rfl rfl rfl (E_call (Γ := Unit) (val := fun g => vb r_19) (mem := fun g => []) (vs := []) (Lin := []) (Ro := []) (is := []) rfl Try.call22 (F22_calls r_19 hr_19) rfl trivial) (fun g_19 => ?_)
                            refine TL_v rfl rfl rfl (V_pick (b := true) rfl rfl) ?_
                            refine TL_v rfl rfl rfl (V_assign rfl) ?_
                            refine TL_nil ?_
                            refine TX_next ?_
                            refine TC.sub (m' := [(8, vb r_19)]) ⟨rfl, trivial⟩ ?_
                            refine TC_ret ?_
                            have hrv := Option.some.inj H
                            subst hrv
                            exact TX_ret (rs := [.tmp 8]) (vs := [vb r_19]) rfl ⟨rfl, trivial⟩ (fun w' hs' => ⟨(), rfl, Step.left (Step.pulled (is := []) (A := []) hs' rfl)⟩)
                          · replace H := ite_f (of_decide_eq_false hc) H
                            refine TL_skip rfl rfl rfl rfl rfl rfl rfl ?_
                            refine TL_v rfl rfl rfl (V_pick (b := false) rfl rfl) ?_
                            refine TL_v rfl rfl rfl (V_assign rfl) ?_
                            refine TL_nil ?_
                            refine TX_next ?_
                            refine TC.sub (m' := [(8, vb false)]) ⟨rfl, trivial⟩ ?_
                            refine TC_ret ?_
                            have hrv := Option.some.inj H
                            subst hrv
                            exact TX_ret (rs := [.tmp 8]) (vs := [vb false]) rfl ⟨rfl, trivial⟩ (fun w' hs' => ⟨(), rfl, Step.left (Step.pulled (is := []) (A := []) hs' rfl)⟩)
                        · replace H := ite_f (of_decide_eq_false hc) H
                          refine TL_skip rfl rfl rfl rfl rfl rfl rfl ?_
                          refine TL_skip rfl rfl rfl rfl rfl rfl rfl ?_
                          refine TL_skip rfl rfl rfl rfl rfl rfl rfl ?_
                          refine TL_skip rfl rfl rfl rfl rfl rfl rfl ?_
                          refine TL_v rfl rfl rfl (V_pick (b := false) rfl rfl) ?_
                          refine TL_v rfl rfl rfl (V_move rfl) ?_
                          refine TL_skip rfl rfl rfl rfl rfl rfl rfl ?_
                          refine TL_v rfl rfl rfl (V_pick (b := false) rfl rfl) ?_
                          refine TL_v rfl rfl rfl (V_assign rfl) ?_
                          refine TL_nil ?_
                          refine TX_next ?_
                          refine TC.sub (m' := [(8, vb false)]) ⟨rfl, trivial⟩ ?_
                          refine TC_ret ?_
                          have hrv := Option.some.inj H
                          subst hrv
                          exact TX_ret (rs := [.tmp 8]) (vs := [vb false]) rfl ⟨rfl, trivial⟩ (fun w' hs' => ⟨(), rfl, Step.left (Step.pulled (is := []) (A := []) hs' rfl)⟩)
                      · replace H := ite_f (of_decide_eq_false hc) H
                        refine TL_skip rfl rfl rfl rfl rfl rfl rfl ?_
                        refine TL_skip rfl rfl rfl rfl rfl rfl rfl ?_
                        refine TL_skip rfl rfl rfl rfl rfl rfl rfl ?_
                        refine TL_v rfl rfl rfl (V_pick (b := false) rfl rfl) ?_
                        refine TL_v rfl rfl rfl (V_move rfl) ?_
                        refine TL_skip rfl rfl rfl rfl rfl rfl rfl ?_
                        refine TL_skip rfl rfl rfl rfl rfl rfl rfl ?_
                        refine TL_skip rfl rfl rfl rfl rfl rfl rfl ?_
                        refine TL_skip rfl rfl rfl rfl rfl rfl rfl ?_
                        refine TL_v rfl rfl rfl (V_pick (b := false) rfl rfl) ?_
                        refine TL_v rfl rfl rfl (V_move rfl) ?_
                        refine TL_skip rfl rfl rfl rfl rfl rfl rfl ?_
                        refine TL_v rfl rfl rfl (V_pick (b := false) rfl rfl) ?_
                        refine TL_v rfl rfl rfl (V_assign rfl) ?_
                        refine TL_nil ?_
                        refine TX_next ?_
                        refine TC.sub (m' := [(8, vb false)]) ⟨rfl, trivial⟩ ?_
                        refine TC_ret ?_
                        have hrv := Option.some.inj H
                        subst hrv
                        exact TX_ret (rs := [.tmp 8]) (vs := [vb false]) rfl ⟨rfl, trivial⟩ (fun w' hs' => ⟨(), rfl, Step.left (Step.pulled (is := []) (A := []) hs' rfl)⟩)
                    · replace H := ite_f (of_decide_eq_false hc) H
                      refine TL_skip rfl rfl rfl rfl rfl rfl rfl ?_
                      refine TL_skip rfl rfl rfl rfl rfl rfl rfl ?_
                      refine TL_skip rfl rfl rfl rfl rfl rfl rfl ?_
                      refine TL_skip rfl rfl rfl rfl rfl rfl rfl ?_
                      refine TL_v rfl rfl rfl (V_pick (b := false) rfl rfl) ?_
                      refine TL_v rfl rfl rfl (V_move rfl) ?_
                      refine TL_skip rfl rfl rfl rfl rfl rfl rfl ?_
                      refine TL_skip rfl rfl rfl rfl rfl rfl rfl ?_
                      refine TL_skip rfl rfl rfl rfl rfl rfl rfl ?_
                      refine TL_v rfl rfl rfl (V_pick (b := false) rfl rfl) ?_
                      refine TL_v rfl rfl rfl (V_move rfl) ?_
                      refine TL_skip rfl rfl rfl rfl rfl rfl rfl ?_
                      refine TL_skip rfl rfl rfl rfl rfl rfl rfl ?_
                      refine TL_skip rfl rfl rfl rfl rfl rfl rfl ?_
                      refine TL_skip rfl rfl rfl rfl rfl rfl rfl ?_
                      refine TL_v rfl rfl rfl (V_pick (b := false) rfl rfl) ?_
                      refine TL_v rfl rfl rfl (V_move rfl) ?_
                      refine TL_skip rfl rfl rfl rfl rfl rfl rfl ?_
                      refine TL_v rfl rfl rfl (V_pick (b := false) rfl rfl) ?_
                      refine TL_v rfl rfl rfl (V_assign rfl) ?_
                      refine TL_nil ?_
                      refine TX_next ?_
                      refine TC.sub (m' := [(8, vb false)]) ⟨rfl, trivial⟩ ?_
                      refine TC_ret ?_
                      have hrv := Option.some.inj H
                      subst hrv
                      exact TX_ret (rs := [.tmp 8]) (vs := [vb false]) rfl ⟨rfl, trivial⟩ (fun w' hs' => ⟨(), rfl, Step.left (Step.pulled (is := []) (A := []) hs' rfl)⟩)
                  · replace H := ite_f (of_decide_eq_false hc) H
                    refine TL_skip rfl rfl rfl rfl rfl rfl rfl ?_
                    refine TL_skip rfl rfl rfl rfl rfl rfl rfl ?_
                    refine TL_skip rfl rfl rfl rfl rfl rfl rfl ?_
                    refine TL_v rfl rfl rfl (V_pick (b := false) rfl rfl) ?_
                    refine TL_v rfl rfl rfl (V_move rfl) ?_
                    refine TL_skip rfl rfl rfl rfl rfl rfl rfl ?_
                    refine TL_skip rfl rfl rfl rfl rfl rfl rfl ?_
                    refine TL_skip rfl rfl rfl rfl rfl rfl rfl ?_
                    refine TL_skip rfl rfl rfl rfl rfl rfl rfl ?_
                    refine TL_v rfl rfl rfl (V_pick (b := false) rfl rfl) ?_
                    refine TL_v rfl rfl rfl (V_move rfl) ?_
                    refine TL_skip rfl rfl rfl rfl rfl rfl rfl ?_
                    refine TL_skip rfl rfl rfl rfl rfl rfl rfl ?_
                    refine TL_skip rfl rfl rfl rfl rfl rfl rfl ?_
                    refine TL_v rfl rfl rfl (V_pick (b := false) rfl rfl) ?_
                    refine TL_v rfl rfl rfl (V_move rfl) ?_
                    refine TL_skip rfl rfl rfl rfl rfl rfl rfl ?_
                    refine TL_skip rfl rfl rfl rfl rfl rfl rfl ?_
                    refine TL_skip rfl rfl rfl rfl rfl rfl rfl ?_
                    refine TL_skip rfl rfl rfl rfl rfl rfl rfl ?_
                    refine TL_v rfl rfl rfl (V_pick (b := false) rfl rfl) ?_
                    refine TL_v rfl rfl rfl (V_move rfl) ?_
                    refine TL_skip rfl rfl rfl rfl rfl rfl rfl ?_
                    refine TL_v rfl rfl rfl (V_pick (b := false) rfl rfl) ?_
                    refine TL_v rfl rfl rfl (V_assign rfl) ?_
                    refine TL_nil ?_
                    refine TX_next ?_
                    refine TC.sub (m' := [(8, vb false)]) ⟨rfl, trivial⟩ ?_
                    refine TC_ret ?_
                    have hrv := Option.some.inj H
                    subst hrv
                    exact TX_ret (rs := [.tmp 8]) (vs := [vb false]) rfl ⟨rfl, trivial⟩ (fun w' hs' => ⟨(), rfl, Step.left (Step.pulled (is := []) (A := []) hs' rfl)⟩)
                · replace H := ite_f (of_decide_eq_false hc) H
                  refine TL_skip rfl rfl rfl rfl rfl rfl rfl ?_
                  refine TL_skip rfl rfl rfl rfl rfl rfl rfl ?_
                  refine TL_skip rfl rfl rfl rfl rfl rfl rfl ?_
                  refine TL_v rfl rfl rfl (V_pick (b := false) rfl rfl) ?_
                  refine TL_v rfl rfl rfl (V_move rfl) ?_
                  refine TL_skip rfl rfl rfl rfl rfl rfl rfl ?_
                  refine TL_skip rfl rfl rfl rfl rfl rfl rfl ?_
                  refine TL_skip rfl rfl rfl rfl rfl rfl rfl ?_
                  refine TL_v rfl rfl rfl (V_pick (b := false) rfl rfl) ?_
                  refine TL_v rfl rfl rfl (V_move rfl) ?_
                  refine TL_skip rfl rfl rfl rfl rfl rfl rfl ?_
                  refine TL_skip rfl rfl rfl rfl rfl rfl rfl ?_
                  refine TL_skip rfl rfl rfl rfl rfl rfl rfl ?_
                  refine TL_skip rfl rfl rfl rfl rfl rfl rfl ?_
                  refine TL_v rfl rfl rfl (V_pick (b := false) rfl rfl) ?_
                  refine TL_v rfl rfl rfl (V_move rfl) ?_
                  refine TL_skip rfl rfl rfl rfl rfl rfl rfl ?_
                  refine TL_skip rfl rfl rfl rfl rfl rfl rfl ?_
                  refine TL_skip rfl rfl rfl rfl rfl rfl rfl ?_
                  refine TL_v rfl rfl rfl (V_pick (b := false) rfl rfl) ?_
                  refine TL_v rfl rfl rfl (V_move rfl) ?_
                  refine TL_skip rfl rfl rfl rfl rfl rfl rfl ?_
                  refine TL_skip rfl rfl rfl rfl rfl rfl rfl ?_
                  refine TL_skip rfl rfl rfl rfl rfl rfl rfl ?_
                  refine TL_skip rfl rfl rfl rfl rfl rfl rfl ?_
                  refine TL_v rfl rfl rfl (V_pick (b := false) rfl rfl) ?_
                  refine TL_v rfl rfl rfl (V_move rfl) ?_
                  refine TL_skip rfl rfl rfl rfl rfl rfl rfl ?_
                  refine TL_v rfl rfl rfl (V_pick (b := false) rfl rfl) ?_
                  refine TL_v rfl rfl rfl (V_assign rfl) ?_
                  refine TL_nil ?_
                  refine TX_next ?_
                  refine TC.sub (m' := [(8, vb false)]) ⟨rfl, trivial⟩ ?_
                  refine TC_ret ?_
                  have hrv := Option.some.inj H
                  subst hrv
                  exact TX_ret (rs := [.tmp 8]) (vs := [vb false]) rfl ⟨rfl, trivial⟩ (fun w' hs' => ⟨(), rfl, Step.left (Step.pulled (is := []) (A := []) hs' rfl)⟩)
              · replace H := ite_f (of_decide_eq_false hc) H
                refine TL_skip rfl rfl rfl rfl rfl rfl rfl ?_
                refine TL_skip rfl rfl rfl rfl rfl rfl rfl ?_
                refine TL_skip rfl rfl rfl rfl rfl rfl rfl ?_
                refine TL_skip rfl rfl rfl rfl rfl rfl rfl ?_
                refine TL_v rfl rfl rfl (V_pick (b := false) rfl rfl) ?_
                refine TL_v rfl rfl rfl (V_move rfl) ?_
                refine TL_skip rfl rfl rfl rfl rfl rfl rfl ?_
                refine TL_skip rfl rfl rfl rfl rfl rfl rfl ?_
                refine TL_skip rfl rfl rfl rfl rfl rfl rfl ?_
                refine TL_v rfl rfl rfl (V_pick (b := false) rfl rfl) ?_
                refine TL_v rfl rfl rfl (V_move rfl) ?_
                refine TL_skip rfl rfl rfl rfl rfl rfl rfl ?_
                refine TL_skip rfl rfl rfl rfl rfl rfl rfl ?_
                refine TL_skip rfl rfl rfl rfl rfl rfl rfl ?_
                refine TL_v rfl rfl rfl (V_pick (b := false) rfl rfl) ?_
                refine TL_v rfl rfl rfl (V_move rfl) ?_
                refine TL_skip rfl rfl rfl rfl rfl rfl rfl ?_
                refine TL_skip rfl rfl rfl rfl rfl rfl rfl ?_
                refine TL_skip rfl rfl rfl rfl rfl rfl rfl ?_
                refine TL_skip rfl rfl rfl rfl rfl rfl rfl ?_
                refine TL_v rfl rfl rfl (V_pick (b := false) rfl rfl) ?_
                refine TL_v rfl rfl rfl (V_move rfl) ?_
                refine TL_skip rfl rfl rfl rfl rfl rfl rfl ?_
                refine TL_skip rfl rfl rfl rfl rfl rfl rfl ?_
                refine TL_skip rfl rfl rfl rfl rfl rfl rfl ?_
                refine TL_v rfl rfl rfl (V_pick (b := false) rfl rfl) ?_
                refine TL_v rfl rfl rfl (V_move rfl) ?_
                refine TL_skip rfl rfl rfl rfl rfl rfl rfl ?_
                refine TL_skip rfl rfl rfl rfl rfl rfl rfl ?_
                refine TL_skip rfl rfl rfl rfl rfl rfl rfl ?_
                refine TL_skip rfl rfl rfl rfl rfl rfl rfl ?_
                refine TL_v rfl rfl rfl (V_pick (b := false) rfl rfl) ?_
                refine TL_v rfl rfl rfl (V_move rfl) ?_
                refine TL_skip rfl rfl rfl rfl rfl rfl rfl ?_
                refine TL_v rfl rfl rfl (V_pick (b := false) rfl rfl) ?_
                refine TL_v rfl rfl rfl (V_assign rfl) ?_
                refine TL_nil ?_
                refine TX_next ?_
                refine TC.sub (m' := [(8, vb false)]) ⟨rfl, trivial⟩ ?_
                refine TC_ret ?_
                have hrv := Option.some.inj H
                subst hrv
                exact TX_ret (rs := [.tmp 8]) (vs := [vb false]) rfl ⟨rfl, trivial⟩ (fun w' hs' => ⟨(), rfl, Step.left (Step.pulled (is := []) (A := []) hs' rfl)⟩)
            · replace H := ite_f (of_decide_eq_false hc) H
              refine TL_skip rfl rfl rfl rfl rfl rfl rfl ?_
              refine TL_skip rfl rfl rfl rfl rfl rfl rfl ?_
              refine TL_skip rfl rfl rfl rfl rfl rfl rfl ?_
              refine TL_v rfl rfl rfl (V_pick (b := false) rfl rfl) ?_
              refine TL_v rfl rfl rfl (V_move rfl) ?_
              refine TL_skip rfl rfl rfl rfl rfl rfl rfl ?_
              refine TL_skip rfl rfl rfl rfl rfl rfl rfl ?_
              refine TL_skip rfl rfl rfl rfl rfl rfl rfl ?_
              refine TL_skip rfl rfl rfl rfl rfl rfl rfl ?_
              refine TL_v rfl rfl rfl (V_pick (b := false) rfl rfl) ?_
              refine TL_v rfl rfl rfl (V_move rfl) ?_
              refine TL_skip rfl rfl rfl rfl rfl rfl rfl ?_
              refine TL_skip rfl rfl rfl rfl rfl rfl rfl ?_
              refine TL_skip rfl rfl rfl rfl rfl rfl rfl ?_
              refine TL_v rfl rfl rfl (V_pick (b := false) rfl rfl) ?_
              refine TL_v rfl rfl rfl (V_move rfl) ?_
              refine TL_skip rfl rfl rfl rfl rfl rfl rfl ?_
              refine TL_skip rfl rfl rfl rfl rfl rfl rfl ?_
              refine TL_skip rfl rfl rfl rfl rfl rfl rfl ?_
              refine TL_v rfl rfl rfl (V_pick (b := false) rfl rfl) ?_
              refine TL_v rfl rfl rfl (V_move rfl) ?_
              refine TL_skip rfl rfl rfl rfl rfl rfl rfl ?_
              refine TL_skip rfl rfl rfl rfl rfl rfl rfl ?_
              refine TL_skip rfl rfl rfl rfl rfl rfl rfl ?_
              refine TL_skip rfl rfl rfl rfl rfl rfl rfl ?_
              refine TL_v rfl rfl rfl (V_pick (b := false) rfl rfl) ?_
              refine TL_v rfl rfl rfl (V_move rfl) ?_
              refine TL_skip rfl rfl rfl rfl rfl rfl rfl ?_
              refine TL_skip rfl rfl rfl rfl rfl rfl rfl ?_
              refine TL_skip rfl rfl rfl rfl rfl rfl rfl ?_
              refine TL_v rfl rfl rfl (V_pick (b := false) rfl rfl) ?_
              refine TL_v rfl rfl rfl (V_move rfl) ?_
              refine TL_skip rfl rfl rfl rfl rfl rfl rfl ?_
              refine TL_skip rfl rfl rfl rfl rfl rfl rfl ?_
              refine TL_skip rfl rfl rfl rfl rfl rfl rfl ?_
              refine TL_skip rfl rfl rfl rfl rfl rfl rfl ?_
              refine TL_v rfl rfl rfl (V_pick (b := false) rfl rfl) ?_
              refine TL_v rfl rfl rfl (V_move rfl) ?_
              refine TL_skip rfl rfl rfl rfl rfl rfl rfl ?_
              refine TL_v rfl rfl rfl (V_pick (b := false) rfl rfl) ?_
              refine TL_v rfl rfl rfl (V_assign rfl) ?_
              refine TL_nil ?_
              refine TX_next ?_
              refine TC.sub (m' := [(8, vb false)]) ⟨rfl, trivial⟩ ?_
              refine TC_ret ?_
              have hrv := Option.some.inj H
              subst hrv
              exact TX_ret (rs := [.tmp 8]) (vs := [vb false]) rfl ⟨rfl, trivial⟩ (fun w' hs' => ⟨(), rfl, Step.left (Step.pulled (is := []) (A := []) hs' rfl)⟩)
          · replace H := ite_f (of_decide_eq_false hc) H
            refine TL_skip rfl rfl rfl rfl rfl rfl rfl ?_
            refine TL_skip rfl rfl rfl rfl rfl rfl rfl ?_
            refine TL_skip rfl rfl rfl rfl rfl rfl rfl ?_
            refine TL_skip rfl rfl rfl rfl rfl rfl rfl ?_
            refine TL_v rfl rfl rfl (V_pick (b := false) rfl rfl) ?_
            refine TL_v rfl rfl rfl (V_move rfl) ?_
            refine TL_skip rfl rfl rfl rfl rfl rfl rfl ?_
            refine TL_skip rfl rfl rfl rfl rfl rfl rfl ?_
            refine TL_skip rfl rfl rfl rfl rfl rfl rfl ?_
            refine TL_v rfl rfl rfl (V_pick (b := false) rfl rfl) ?_
            refine TL_v rfl rfl rfl (V_move rfl) ?_
            refine TL_skip rfl rfl rfl rfl rfl rfl rfl ?_
            refine TL_skip rfl rfl rfl rfl rfl rfl rfl ?_
            refine TL_skip rfl rfl rfl rfl rfl rfl rfl ?_
            refine TL_skip rfl rfl rfl rfl rfl rfl rfl ?_
            refine TL_v rfl rfl rfl (V_pick (b := false) rfl rfl) ?_
            refine TL_v rfl rfl rfl (V_move rfl) ?_
            refine TL_skip rfl rfl rfl rfl rfl rfl rfl ?_
            refine TL_skip rfl rfl rfl rfl rfl rfl rfl ?_
            refine TL_skip rfl rfl rfl rfl rfl rfl rfl ?_
            refine TL_v rfl rfl rfl (V_pick (b := false) rfl rfl) ?_
            refine TL_v rfl rfl rfl (V_move rfl) ?_
            refine TL_skip rfl rfl rfl rfl rfl rfl rfl ?_
            refine TL_skip rfl rfl rfl rfl rfl rfl rfl ?_
            refine TL_skip rfl rfl rfl rfl rfl rfl rfl ?_
            refine TL_v rfl rfl rfl (V_pick (b := false) rfl rfl) ?_
            refine TL_v rfl rfl rfl (V_move rfl) ?_
            refine TL_skip rfl rfl rfl rfl rfl rfl rfl ?_
            refine TL_skip rfl rfl rfl rfl rfl rfl rfl ?_
            refine TL_skip rfl rfl rfl rfl rfl rfl rfl ?_
            refine TL_skip rfl rfl rfl rfl rfl rfl rfl ?_
            refine TL_v rfl rfl rfl (V_pick (b := false) rfl rfl) ?_
            refine TL_v rfl rfl rfl (V_move rfl) ?_
            refine TL_skip rfl rfl rfl rfl rfl rfl rfl ?_
            refine TL_skip rfl rfl rfl rfl rfl rfl rfl ?_
            refine TL_skip rfl rfl rfl rfl rfl rfl rfl ?_
            refine TL_v rfl rfl rfl (V_pick (b := false) rfl rfl) ?_
            refine TL_v rfl rfl rfl (V_move rfl) ?_
            refine TL_skip rfl rfl rfl rfl rfl rfl rfl ?_
            refine TL_skip rfl rfl rfl rfl rfl rfl rfl ?_
            refine TL_skip rfl rfl rfl rfl rfl rfl rfl ?_
            refine TL_skip rfl rfl rfl rfl rfl rfl rfl ?_
            refine TL_v rfl rfl rfl (V_pick (b := false) rfl rfl) ?_
            refine TL_v rfl rfl rfl (V_move rfl) ?_
            refine TL_skip rfl rfl rfl rfl rfl rfl rfl ?_
            refine TL_v rfl rfl rfl (V_pick (b := false) rfl rfl) ?_
            refine TL_v rfl rfl rfl (V_assign rfl) ?_
            refine TL_nil ?_
            refine TX_next ?_
            refine TC.sub (m' := [(8, vb false)]) ⟨rfl, trivial⟩ ?_
            refine TC_ret ?_
            have hrv := Option.some.inj H
            subst hrv
            exact TX_ret (rs := [.tmp 8]) (vs := [vb false]) rfl ⟨rfl, trivial⟩ (fun w' hs' => ⟨(), rfl, Step.left (Step.pulled (is := []) (A := []) hs' rfl)⟩)
        · replace H := ite_f (of_decide_eq_false hc) H
          refine TL_skip rfl rfl rfl rfl rfl rfl rfl ?_
          refine TL_skip rfl rfl rfl rfl rfl rfl rfl ?_
          refine TL_skip rfl rfl rfl rfl rfl rfl rfl ?_
          refine TL_v rfl rfl rfl (V_pick (b := false) rfl rfl) ?_
          refine TL_v rfl rfl rfl (V_move rfl) ?_
          refine TL_skip rfl rfl rfl rfl rfl rfl rfl ?_
          refine TL_skip rfl rfl rfl rfl rfl rfl rfl ?_
          refine TL_skip rfl rfl rfl rfl rfl rfl rfl ?_
          refine TL_skip rfl rfl rfl rfl rfl rfl rfl ?_
          refine TL_v rfl rfl rfl (V_pick (b := false) rfl rfl) ?_
          refine TL_v rfl rfl rfl (V_move rfl) ?_
          refine TL_skip rfl rfl rfl rfl rfl rfl rfl ?_
          refine TL_skip rfl rfl rfl rfl rfl rfl rfl ?_
          refine TL_skip rfl rfl rfl rfl rfl rfl rfl ?_
          refine TL_v rfl rfl rfl (V_pick (b := false) rfl rfl) ?_
          refine TL_v rfl rfl rfl (V_move rfl) ?_
          refine TL_skip rfl rfl rfl rfl rfl rfl rfl ?_
          refine TL_skip rfl rfl rfl rfl rfl rfl rfl ?_
          refine TL_skip rfl rfl rfl rfl rfl rfl rfl ?_
          refine TL_skip rfl rfl rfl rfl rfl rfl rfl ?_
          refine TL_v rfl rfl rfl (V_pick (b := false) rfl rfl) ?_
          refine TL_v rfl rfl rfl (V_move rfl) ?_
          refine TL_skip rfl rfl rfl rfl rfl rfl rfl ?_
          refine TL_skip rfl rfl rfl rfl rfl rfl rfl ?_
          refine TL_skip rfl rfl rfl rfl rfl rfl rfl ?_
          refine TL_v rfl rfl rfl (V_pick (b := false) rfl rfl) ?_
          refine TL_v rfl rfl rfl (V_move rfl) ?_
          refine TL_skip rfl rfl rfl rfl rfl rfl rfl ?_
          refine TL_skip rfl rfl rfl rfl rfl rfl rfl ?_
          refine TL_skip rfl rfl rfl rfl rfl rfl rfl ?_
          refine TL_v rfl rfl rfl (V_pick (b := false) rfl rfl) ?_
          refine TL_v rfl rfl rfl (V_move rfl) ?_
          refine TL_skip rfl rfl rfl rfl rfl rfl rfl ?_
          refine TL_skip rfl rfl rfl rfl rfl rfl rfl ?_
          refine TL_skip rfl rfl rfl rfl rfl rfl rfl ?_
          refine TL_skip rfl rfl rfl rfl rfl rfl rfl ?_
          refine TL_v rfl rfl rfl (V_pick (b := false) rfl rfl) ?_
          refine TL_v rfl rfl rfl (V_move rfl) ?_
          refine TL_skip rfl rfl rfl rfl rfl rfl rfl ?_
          refine TL_skip rfl rfl rfl rfl rfl rfl rfl ?_
          refine TL_skip rfl rfl rfl rfl rfl rfl rfl ?_
          refine TL_v rfl rfl rfl (V_pick (b := false) rfl rfl) ?_
          refine TL_v rfl rfl rfl (V_move rfl) ?_
          refine TL_skip rfl rfl rfl rfl rfl rfl rfl ?_
          refine TL_skip rfl rfl rfl rfl rfl rfl rfl ?_
          refine TL_skip rfl rfl rfl rfl rfl rfl rfl ?_
          refine TL_skip rfl rfl rfl rfl rfl rfl rfl ?_
          refine TL_v rfl rfl rfl (V_pick (b := false) rfl rfl) ?_
          refine TL_v rfl rfl rfl (V_move rfl) ?_
          refine TL_skip rfl rfl rfl rfl rfl rfl rfl ?_
          refine TL_v rfl rfl rfl (V_pick (b := false) rfl rfl) ?_
          refine TL_v rfl rfl rfl (V_assign rfl) ?_
          refine TL_nil ?_
          refine TX_next ?_
          refine TC.sub (m' := [(8, vb false)]) ⟨rfl, trivial⟩ ?_
          refine TC_ret ?_
          have hrv := Option.some.inj H
          subst hrv
          exact TX_ret (rs := [.tmp 8]) (vs := [vb false]) rfl ⟨rfl, trivial⟩ (fun w' hs' => ⟨(), rfl, Step.left (Step.pulled (is := []) (A := []) hs' rfl)⟩)
      · replace H := ite_f (of_decide_eq_false hc) H
        refine TL_skip rfl rfl rfl rfl rfl rfl rfl ?_
        refine TL_skip rfl rfl rfl rfl rfl rfl rfl ?_
        refine TL_skip rfl rfl rfl rfl rfl rfl rfl ?_
        refine TL_skip rfl rfl rfl rfl rfl rfl rfl ?_
        refine TL_v rfl rfl rfl (V_pick (b := false) rfl rfl) ?_
        refine TL_v rfl rfl rfl (V_move rfl) ?_
        refine TL_skip rfl rfl rfl rfl rfl rfl rfl ?_
        refine TL_skip rfl rfl rfl rfl rfl rfl rfl ?_
        refine TL_skip rfl rfl rfl rfl rfl rfl rfl ?_
        refine TL_v rfl rfl rfl (V_pick (b := false) rfl rfl) ?_
        refine TL_v rfl rfl rfl (V_move rfl) ?_
        refine TL_skip rfl rfl rfl rfl rfl rfl rfl ?_
        refine TL_skip rfl rfl rfl rfl rfl rfl rfl ?_
        refine TL_skip rfl rfl rfl rfl rfl rfl rfl ?_
        refine TL_skip rfl rfl rfl rfl rfl rfl rfl ?_
        refine TL_v rfl rfl rfl (V_pick (b := false) rfl rfl) ?_
        refine TL_v rfl rfl rfl (V_move rfl) ?_
        refine TL_skip rfl rfl rfl rfl rfl rfl rfl ?_
        refine TL_skip rfl rfl rfl rfl rfl rfl rfl ?_
        refine TL_skip rfl rfl rfl rfl rfl rfl rfl ?_
        refine TL_v rfl rfl rfl (V_pick (b := false) rfl rfl) ?_
        refine TL_v rfl rfl rfl (V_move rfl) ?_
        refine TL_skip rfl rfl rfl rfl rfl rfl rfl ?_
        refine TL_skip rfl rfl rfl rfl rfl rfl rfl ?_
        refine TL_skip rfl rfl rfl rfl rfl rfl rfl ?_
        refine TL_skip rfl rfl rfl rfl rfl rfl rfl ?_
        refine TL_v rfl rfl rfl (V_pick (b := false) rfl rfl) ?_
        refine TL_v rfl rfl rfl (V_move rfl) ?_
        refine TL_skip rfl rfl rfl rfl rfl rfl rfl ?_
        refine TL_skip rfl rfl rfl rfl rfl rfl rfl ?_
        refine TL_skip rfl rfl rfl rfl rfl rfl rfl ?_
        refine TL_v rfl rfl rfl (V_pick (b := false) rfl rfl) ?_
        refine TL_v rfl rfl rfl (V_move rfl) ?_
        refine TL_skip rfl rfl rfl rfl rfl rfl rfl ?_
        refine TL_skip rfl rfl rfl rfl rfl rfl rfl ?_
        refine TL_skip rfl rfl rfl rfl rfl rfl rfl ?_
        refine TL_v rfl rfl rfl (V_pick (b := false) rfl rfl) ?_
        refine TL_v rfl rfl rfl (V_move rfl) ?_
        refine TL_skip rfl rfl rfl rfl rfl rfl rfl ?_
        refine TL_skip rfl rfl rfl rfl rfl rfl rfl ?_
        refine TL_skip rfl rfl rfl rfl rfl rfl rfl ?_
        refine TL_skip rfl rfl rfl rfl rfl rfl rfl ?_
        refine TL_v rfl rfl rfl (V_pick (b := false) rfl rfl) ?_
        refine TL_v rfl rfl rfl (V_move rfl) ?_
        refine TL_skip rfl rfl rfl rfl rfl rfl rfl ?_
        refine TL_skip rfl rfl rfl rfl rfl rfl rfl ?_
        refine TL_skip rfl rfl rfl rfl rfl rfl rfl ?_
        refine TL_v rfl rfl rfl (V_pick (b := false) rfl rfl) ?_
        refine TL_v rfl rfl rfl (V_move rfl) ?_
        refine TL_skip rfl rfl rfl rfl rfl rfl rfl ?_
        refine TL_skip rfl rfl rfl rfl rfl rfl rfl ?_
        refine TL_skip rfl rfl rfl rfl rfl rfl rfl ?_
        refine TL_skip rfl rfl rfl rfl rfl rfl rfl ?_
        refine TL_v rfl rfl rfl (V_pick (b := false) rfl rfl) ?_
        refine TL_v rfl rfl rfl (V_move rfl) ?_
        refine TL_skip rfl rfl rfl rfl rfl rfl rfl ?_
        refine TL_v rfl rfl rfl (V_pick (b := false) rfl rfl) ?_
        refine TL_v rfl rfl rfl (V_assign rfl) ?_
        refine TL_nil ?_
        refine TX_next ?_
        refine TC.sub (m' := [(8, vb false)]) ⟨rfl, trivial⟩ ?_
        refine TC_ret ?_
        have hrv := Option.some.inj H
        subst hrv
        exact TX_ret (rs := [.tmp 8]) (vs := [vb false]) rfl ⟨rfl, trivial⟩ (fun w' hs' => ⟨(), rfl, Step.left (Step.pulled (is := []) (A := []) hs' rfl)⟩)
    · replace H := ite_f (of_decide_eq_false hc) H
      refine TL_skip rfl rfl rfl rfl rfl rfl rfl ?_
      refine TL_skip rfl rfl rfl rfl rfl rfl rfl ?_
      refine TL_skip rfl rfl rfl rfl rfl rfl rfl ?_
      refine TL_v rfl rfl rfl (V_pick (b := false) rfl rfl) ?_
      refine TL_v rfl rfl rfl (V_move rfl) ?_
      refine TL_skip rfl rfl rfl rfl rfl rfl rfl ?_
      refine TL_skip rfl rfl rfl rfl rfl rfl rfl ?_
      refine TL_skip rfl rfl rfl rfl rfl rfl rfl ?_
      refine TL_skip rfl rfl rfl rfl rfl rfl rfl ?_
      refine TL_v rfl rfl rfl (V_pick (b := false) rfl rfl) ?_
      refine TL_v rfl rfl rfl (V_move rfl) ?_
      refine TL_skip rfl rfl rfl rfl rfl rfl rfl ?_
      refine TL_skip rfl rfl rfl rfl rfl rfl rfl ?_
      refine TL_skip rfl rfl rfl rfl rfl rfl rfl ?_
      refine TL_v rfl rfl rfl (V_pick (b := false) rfl rfl) ?_
      refine TL_v rfl rfl rfl (V_move rfl) ?_
      refine TL_skip rfl rfl rfl rfl rfl rfl rfl ?_
      refine TL_skip rfl rfl rfl rfl rfl rfl rfl ?_
      refine TL_skip rfl rfl rfl rfl rfl rfl rfl ?_
      refine TL_skip rfl rfl rfl rfl rfl rfl rfl ?_
      refine TL_v rfl rfl rfl (V_pick (b := false) rfl rfl) ?_
      refine TL_v rfl rfl rfl (V_move rfl) ?_
      refine TL_skip rfl rfl rfl rfl rfl rfl rfl ?_
      refine TL_skip rfl rfl rfl rfl rfl rfl rfl ?_
      refine TL_skip rfl rfl rfl rfl rfl rfl rfl ?_
      refine TL_v rfl rfl rfl (V_pick (b := false) rfl rfl) ?_
      refine TL_v rfl rfl rfl (V_move rfl) ?_
      refine TL_skip rfl rfl rfl rfl rfl rfl rfl ?_
      refine TL_skip rfl rfl rfl rfl rfl rfl rfl ?_
      refine TL_skip rfl rfl rfl rfl rfl rfl rfl ?_
      refine TL_skip rfl rfl rfl rfl rfl rfl rfl ?_
      refine TL_v rfl rfl rfl (V_pick (b := false) rfl rfl) ?_
      refine TL_v rfl rfl rfl (V_move rfl) ?_
      refine TL_skip rfl rfl rfl rfl rfl rfl rfl ?_
      refine TL_skip rfl rfl rfl rfl rfl rfl rfl ?_
      refine TL_skip rfl rfl rfl rfl rfl rfl rfl ?_
      refine TL_v rfl rfl rfl (V_pick (b := false) rfl rfl) ?_
      refine TL_v rfl rfl rfl (V_move rfl) ?_
      refine TL_skip rfl rfl rfl rfl rfl rfl rfl ?_
      refine TL_skip rfl rfl rfl rfl rfl rfl rfl ?_
      refine TL_skip rfl rfl rfl rfl rfl rfl rfl ?_
      refine TL_v rfl rfl rfl (V_pick (b := false) rfl rfl) ?_
      refine TL_v rfl rfl rfl (V_move rfl) ?_
      refine TL_skip rfl rfl rfl rfl rfl rfl rfl ?_
      refine TL_skip rfl rfl rfl rfl rfl rfl rfl ?_
      refine TL_skip rfl rfl rfl rfl rfl rfl rfl ?_
      refine TL_skip rfl rfl rfl rfl rfl rfl rfl ?_
      refine TL_v rfl rfl rfl (V_pick (b := false) rfl rfl) ?_
      refine TL_v rfl rfl rfl (V_move rfl) ?_
      refine TL_skip rfl rfl rfl rfl rfl rfl rfl ?_
      refine TL_skip rfl rfl rfl rfl rfl rfl rfl ?_
      refine TL_skip rfl rfl rfl rfl rfl rfl rfl ?_
      refine TL_v rfl rfl rfl (V_pick (b := false) rfl rfl) ?_
      refine TL_v rfl rfl rfl (V_move rfl) ?_
      refine TL_skip rfl rfl rfl rfl rfl rfl rfl ?_
      refine TL_skip rfl rfl rfl rfl rfl rfl rfl ?_
      refine TL_skip rfl rfl rfl rfl rfl rfl rfl ?_
      refine TL_skip rfl rfl rfl rfl rfl rfl rfl ?_
      refine TL_v rfl rfl rfl (V_pick (b := false) rfl rfl) ?_
      refine TL_v rfl rfl rfl (V_move rfl) ?_
      refine TL_skip rfl rfl rfl rfl rfl rfl rfl ?_
      refine TL_v rfl rfl rfl (V_pick (b := false) rfl rfl) ?_
      refine TL_v rfl rfl rfl (V_assign rfl) ?_
      refine TL_nil ?_
      refine TX_next ?_
      refine TC.sub (m' := [(8, vb false)]) ⟨rfl, trivial⟩ ?_
      refine TC_ret ?_
      have hrv := Option.some.inj H
      subst hrv
      exact TX_ret (rs := [.tmp 8]) (vs := [vb false]) rfl ⟨rfl, trivial⟩ (fun w' hs' => ⟨(), rfl, Step.left (Step.pulled (is := []) (A := []) hs' rfl)⟩)
  · replace H := ite_f (of_decide_eq_false hc) H
    refine TL_skip rfl rfl rfl rfl rfl rfl rfl ?_
    refine TL_skip rfl rfl rfl rfl rfl rfl rfl ?_
    refine TL_skip rfl rfl rfl rfl rfl rfl rfl ?_
    refine TL_skip rfl rfl rfl rfl rfl rfl rfl ?_
    refine TL_v rfl rfl rfl (V_pick (b := false) rfl rfl) ?_
    refine TL_v rfl rfl rfl (V_move rfl) ?_
    refine TL_skip rfl rfl rfl rfl rfl rfl rfl ?_
    refine TL_skip rfl rfl rfl rfl rfl rfl rfl ?_
    refine TL_skip rfl rfl rfl rfl rfl rfl rfl ?_
    refine TL_v rfl rfl rfl (V_pick (b := false) rfl rfl) ?_
    refine TL_v rfl rfl rfl (V_move rfl) ?_
    refine TL_skip rfl rfl rfl rfl rfl rfl rfl ?_
    refine TL_skip rfl rfl rfl rfl rfl rfl rfl ?_
    refine TL_skip rfl rfl rfl rfl rfl rfl rfl ?_
    refine TL_skip rfl rfl rfl rfl rfl rfl rfl ?_
    refine TL_v rfl rfl rfl (V_pick (b := false) rfl rfl) ?_
    refine TL_v rfl rfl rfl (V_move rfl) ?_
    refine TL_skip rfl rfl rfl rfl rfl rfl rfl ?_
    refine TL_skip rfl rfl rfl rfl rfl rfl rfl ?_
    refine TL_skip rfl rfl rfl rfl rfl rfl rfl ?_
    refine TL_v rfl rfl rfl (V_pick (b := false) rfl rfl) ?_
    refine TL_v rfl rfl rfl (V_move rfl) ?_
    refine TL_skip rfl rfl rfl rfl rfl rfl rfl ?_
    refine TL_skip rfl rfl rfl rfl rfl rfl rfl ?_
    refine TL_skip rfl rfl rfl rfl rfl rfl rfl ?_
    refine TL_skip rfl rfl rfl rfl rfl rfl rfl ?_
    refine TL_v rfl rfl rfl (V_pick (b := false) rfl rfl) ?_
    refine TL_v rfl rfl rfl (V_move rfl) ?_
    refine TL_skip rfl rfl rfl rfl rfl rfl rfl ?_
    refine TL_skip rfl rfl rfl rfl rfl rfl rfl ?_
    refine TL_skip rfl rfl rfl rfl rfl rfl rfl ?_
    refine TL_v rfl rfl rfl (V_pick (b := false) rfl rfl) ?_
    refine TL_v rfl rfl rfl (V_move rfl) ?_
    refine TL_skip rfl rfl rfl rfl rfl rfl rfl ?_
    refine TL_skip rfl rfl rfl rfl rfl rfl rfl ?_
    refine TL_skip rfl rfl rfl rfl rfl rfl rfl ?_
    refine TL_skip rfl rfl rfl rfl rfl rfl rfl ?_
    refine TL_v rfl rfl rfl (V_pick (b := false) rfl rfl) ?_
    refine TL_v rfl rfl rfl (V_move rfl) ?_
    refine TL_skip rfl rfl rfl rfl rfl rfl rfl ?_
    refine TL_skip rfl rfl rfl rfl rfl rfl rfl ?_
    refine TL_skip rfl rfl rfl rfl rfl rfl rfl ?_
    refine TL_v rfl rfl rfl (V_pick (b := false) rfl rfl) ?_
    refine TL_v rfl rfl rfl (V_move rfl) ?_
    refine TL_skip rfl rfl rfl rfl rfl rfl rfl ?_
    refine TL_skip rfl rfl rfl rfl rfl rfl rfl ?_
    refine TL_skip rfl rfl rfl rfl rfl rfl rfl ?_
    refine TL_v rfl rfl rfl (V_pick (b := false) rfl rfl) ?_
    refine TL_v rfl rfl rfl (V_move rfl) ?_
    refine TL_skip rfl rfl rfl rfl rfl rfl rfl ?_
    refine TL_skip rfl rfl rfl rfl rfl rfl rfl ?_
    refine TL_skip rfl rfl rfl rfl rfl rfl rfl ?_
    refine TL_skip rfl rfl rfl rfl rfl rfl rfl ?_
    refine TL_v rfl rfl rfl (V_pick (b := false) rfl rfl) ?_
    refine TL_v rfl rfl rfl (V_move rfl) ?_
    refine TL_skip rfl rfl rfl rfl rfl rfl rfl ?_
    refine TL_skip rfl rfl rfl rfl rfl rfl rfl ?_
    refine TL_skip rfl rfl rfl rfl rfl rfl rfl ?_
    refine TL_v rfl rfl rfl (V_pick (b := false) rfl rfl) ?_
    refine TL_v rfl rfl rfl (V_move rfl) ?_
    refine TL_skip rfl rfl rfl rfl rfl rfl rfl ?_
    refine TL_skip rfl rfl rfl rfl rfl rfl rfl ?_
    refine TL_skip rfl rfl rfl rfl rfl rfl rfl ?_
    refine TL_skip rfl rfl rfl rfl rfl rfl rfl ?_
    refine TL_v rfl rfl rfl (V_pick (b := false) rfl rfl) ?_
    refine TL_v rfl rfl rfl (V_move rfl) ?_
    refine TL_skip rfl rfl rfl rfl rfl rfl rfl ?_
    refine TL_v rfl rfl rfl (V_pick (b := false) rfl rfl) ?_
    refine TL_v rfl rfl rfl (V_assign rfl) ?_
    refine TL_nil ?_
    refine TX_next ?_
    refine TC.sub (m' := [(8, vb false)]) ⟨rfl, trivial⟩ ?_
    refine TC_ret ?_
    have hrv := Option.some.inj H
    subst hrv
    exact TX_ret (rs := [.tmp 8]) (vs := [vb false]) rfl ⟨rfl, trivial⟩ (fun w' hs' => ⟨(), rfl, Step.left (Step.pulled (is := []) (A := []) hs' rfl)⟩)

end Go.Proofs
end

section
/-
  The law Scheds of the key schedule.
-/
namespace Go.Proofs
open Go Go.Kx
set_option linter.unusedVariables false
set_option linter.unusedSimpArgs false
theorem Scheds_true (suite : Int) (secret label s : Str) (h1 : secret.length ≤ 140737488351232) (h3 : s.length ≤ 140737488351232) : halberdlaw19_Scheds suite secret label s = some true := by
  unfold halberdlaw19_Scheds
  refine bind_i (Bits_eq suite) (bind_i (BitsR_eq suite) (bind_i (Derive_eq suite secret label s (by omega)) (bind_i (DeriveR_eq suite secret label s (by omega)) (bind_i (Early_eq suite secret h1) (bind_i (EarlyR_eq suite secret h1) (bind_i (Mix_eq suite secret s (by omega) h3) (bind_i (MixR_eq suite secret s (by omega) h3) (bind_i (Keys_eq suite secret (by omega)) (bind_i (KeysR_eq suite secret (by omega)) (bind_i (Next_eq suite secret (by omega)) (bind_i (NextR_eq suite secret (by omega)) ?_)))))))))))
  exact if_i rfl (bind_i (num_eq _) (if_i rfl (if_i rfl (bind_i (num_eq _) (if_i rfl (if_i rfl (bind_i (num_eq _) (if_i rfl (if_i rfl (bind_i (num_eq _) (if_i rfl (if_i rfl (if_i rfl (bind_i (num_eq _) (if_i rfl (if_i rfl (bind_i (num_eq _) (if_i rfl (bind_i awake19 rfl)))))))))))))))))))
end Go.Proofs
end

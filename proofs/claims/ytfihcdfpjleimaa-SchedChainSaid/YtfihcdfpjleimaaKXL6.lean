/-
  Part KXL6 of the proofs of this seat: F8, SchL6.
-/
import Derived.Test.YtfihcdfpjleimaaK2
import Derived.Test.YtfihcdfpjleimaaKX2
import Derived.Test.YtfihcdfpjleimaaKX1
import Derived.Test.YtfihcdfpjleimaaKS3
import Derived.Test.YtfihcdfpjleimaaKH1
import Derived.Test.YtfihcdfpjleimaaKX3
section
namespace Go.Proofs
open Go Go.Kx
set_option linter.unusedVariables false
set_option linter.unusedSimpArgs false
def halberdlaw19_SchedChain (which : Int) (secret : Str) (key : Str) (hash : Str) (size : Int) : Option (Bool) :=
  (halberdlaw19_awake).bind fun (r_1 : Bool) => (if (!r_1) = true then (some false) else (ltt (w64 (4865 + (w64 (((BitVec.ofInt 64 which) % 3#64).toNat : Int)))) fun (w_1 : Int) => ((sched_Bits w_1).bind fun (r_2 : Int × Int) => ((if r_2.1 ≠ 256 then (some (decide (r_2.1 ≠ 384))) else (some false)).bind fun (j1 : Bool) => (if j1 = true then (some false) else (if 0 ≤ w64 (r_2.1.tdiv 8) ∧ w64 (r_2.1.tdiv 8) ≤ 17592186044416 then (if (List.replicate ((w64 (r_2.1.tdiv 8)).toNat) 0#8).length = (w64 (r_2.1.tdiv 8)).toNat then (ltt (List.replicate ((w64 (r_2.1.tdiv 8)).toNat) 0#8) fun (zero1 : Str) => ((halberdref1_Hash r_2.1 ([] : Str)).bind fun (r_3 : Str) => ((if key = ([] : Str) then (some zero1) else (some key)).bind fun (j2 : Str) => ((sched_Early w_1 key).bind fun (r_4 : Str × Int) => ((sched_Derive w_1 secret ([100#8, 101#8, 114#8, 105#8, 118#8, 101#8, 100#8] : Str) r_3).bind fun (r_5 : Str × Int) => ((sched_Mix w_1 secret key).bind fun (r_6 : Str × Int) => ((sched_Binder w_1 key hash).bind fun (r_7 : Str × Int) => ((sched_Derive w_1 r_4.1 ([114#8, 101#8, 115#8, 32#8, 98#8, 105#8, 110#8, 100#8, 101#8, 114#8] : Str) r_3).bind fun (r_8 : Str × Int) => ((sched_Finished w_1 r_8.1 hash).bind fun (r_9 : Str × Int) => (ltt (iop (· &&& ·) size 255) fun (m_1 : Int) => ((sched_Export w_1 secret ([108#8, 97#8, 98#8] : Str) key m_1).bind fun (r_10 : Str × Int) => ((sched_Derive w_1 secret ([108#8, 97#8, 98#8] : Str) r_3).bind fun (r_11 : Str × Int) => ((halberdref1_Hash r_2.1 key).bind fun (r_12 : Str) => ((halberdref1_Label r_2.1 r_11.1 ([101#8, 120#8, 112#8, 111#8, 114#8, 116#8, 101#8, 114#8] : Str) r_12 m_1).bind fun (r_13 : Str × Int) => ((halberdlaw0_Num r_4.2).bind fun (r_14 : Int) => (if r_14 = 0 then ((halberdref1_Mac r_2.1 zero1 j2).bind fun (r_15 : Str) => (if r_4.1 = r_15 then ((halberdlaw0_Num r_6.2).bind fun (r_16 : Int) => (if r_16 = 0 then ((halberdref1_Mac r_2.1 r_5.1 j2).bind fun (r_17 : Str) => (if r_6.1 = r_17 then ((halberdlaw0_Num r_7.2).bind fun (r_18 : Int) => (if r_18 = 0 then (if r_7.1 = r_9.1 then ((halberdlaw0_Num r_10.2).bind fun (r_19 : Int) => (if r_19 = 0 then (ltt (decide (r_10.1 = r_13.1)) fun (x1 : Bool) => (some x1)) else (some false))) else (some false)) else (some false))) else (some false))) else (some false))) else (some false))) else (some false))))))))))))))))) else none) else none))))))

set_option maxHeartbeats 4000000 in
set_option maxRecDepth 20000 in
theorem F8_calls (which : Int) (secret : Str) (key : Str) (hash : Str) (size : Int) (r : Bool) (H : halberdlaw19_SchedChain which secret key hash size = some r) :
    Does Try.prog 8 [vi which, vs secret, vs key, vs hash, vi size] [] [] (Γ := Unit) (fun g => vb r) (fun g => []) := by
  intro w hmem hro hd
  refine calls_of (N := 176) (m0 := [(0, vi which), (1, vs secret), (2, vs key), (3, vs hash), (4, vi size)]) Try.func8 rfl Try.ntmps8 (argM_ok [vi which, vs secret, vs key, vs hash, vi size]) rfl hmem hro hd ?_
  unfold halberdlaw19_SchedChain at H
  refine TC_seq ?_
  refine TC_region ?_
  refine TL_v rfl rfl rfl (V_assign rfl) ?_
  refine TL_nil ?_
  refine TX_next ?_
  refine TC_seq ?_
  refine TC_seq ?_
  refine TC_region ?_
  obtain ⟨r_1, hr_1, H⟩ := bind_elim H
  refine TL_e rfl rfl rfl (E_call (Γ := Unit) (val := fun g => vb r_1) (mem := fun g => []) (vs := []) (Lin := []) (Ro := []) (is := []) rfl Try.call22 (F22_calls r_1 hr_1) rfl trivial) (fun g_1 => ?_)
  refine TL_v rfl rfl rfl (V_un rfl (fun w => notB w r_1)) ?_
  refine TL_nil ?_
  refine TX_next ?_
  refine TC_cond (b := (!r_1)) rfl (fun hc => ?_) (fun hc => ?_)
  · replace H := ite_t hc H
    refine TC_seq ?_
    refine TC_region ?_
    refine TL_v rfl rfl rfl (V_assign rfl) ?_
    refine TL_nil ?_
    refine TX_next ?_
    refine TC_ret ?_
    refine TX_then_ret ?_
    have hrv := Option.some.inj H
    subst hrv
    exact TX_ret (rs := [.tmp 10]) (vs := [vb false]) rfl ⟨rfl, trivial⟩ (fun w' hs' => ⟨(), rfl, Step.left (Step.pulled (is := []) (A := []) hs' rfl)⟩)
  · replace H := ite_f (Bool.eq_false_iff.1 hc) H
    refine TC_skip ?_
    refine TX_next ?_
    refine TC_seq ?_
    refine TC_region ?_
    refine TL_v rfl rfl rfl (V_move rfl) ?_
    refine TL_v rfl rfl rfl (V_conv rfl (fun w => cvI64 w _ _ Try.underlying42 (TryI.und3) .i64 which)) ?_
    refine TL_v rfl rfl rfl (V_bin rfl rfl (fun w => rem64 w (BitVec.ofInt 64 which) 3#64 (by decide))) ?_
    refine TL_v rfl rfl rfl (V_conv rfl (fun w => cv64toI w _ _ Try.underlying3 (TryI.und42) ((BitVec.ofInt 64 which) % 3#64))) ?_
    refine TL_v rfl rfl rfl (V_bin rfl rfl (fun w => addI w 4865 (w64 (((BitVec.ofInt 64 which) % 3#64).toNat : Int)))) ?_
    refine TL_v rfl rfl rfl (V_assign rfl) ?_
    obtain ⟨w_1, hw_1, H⟩ := ltt_elim H
    refine TL_re (d := 11) (v := vi (w64 (4865 + (w64 (((BitVec.ofInt 64 which) % 3#64).toNat : Int))))) (v' := vi w_1) rfl (congrArg vi hw_1) ?_
    refine TL_nil ?_
    refine TX_next ?_
    refine TC_seq ?_
    refine TC_region ?_
    refine TL_v rfl rfl rfl (V_move rfl) ?_
    obtain ⟨r_2, hr_2, H⟩ := bind_elim H
    refine TL_e rfl rfl rfl (E_call (Γ := Unit) (val := fun g => Value.tuple [vi r_2.1, vi r_2.2].toArray) (mem := fun g => []) (vs := [vi w_1]) (Lin := []) (Ro := []) (is := []) rfl Try.call9 (F9_calls w_1 r_2 hr_2) rfl trivial) (fun g_2 => ?_)
    refine TL_v rfl rfl rfl (V_move rfl) ?_
    refine TL_v rfl rfl rfl (V_extract (vs := [vi r_2.1, vi r_2.2]) rfl rfl) ?_
    refine TL_v rfl rfl rfl (V_extract (vs := [vi r_2.1, vi r_2.2]) rfl rfl) ?_
    refine TL_v rfl rfl rfl (V_assign rfl) ?_
    refine TL_v rfl rfl rfl (V_assign rfl) ?_
    refine TL_nil ?_
    refine TX_next ?_
    refine TC_seq ?_
    refine TC_seq ?_
    refine TC_region ?_
    refine TL_v rfl rfl rfl (V_move rfl) ?_
    refine TL_v rfl rfl rfl (V_bin rfl rfl (fun w => neqI w r_2.1 256)) ?_
    refine TL_v rfl rfl rfl (V_move rfl) ?_
    obtain ⟨j1, Hj, H⟩ := bind_elim H
    refine TL_join (Γ := Unit) (fun gj1 => [(1, vs secret), (2, vs key), (3, vs hash), (4, vi size), (11, vi w_1), (12, vi r_2.1), (53, vb j1)]) (fun gj1 => []) ?_ ?_
    · intro gj1
      refine TX_next ?_
      refine TC_cond (b := j1) rfl (fun hc => ?_) (fun hc => ?_)
      · replace H := ite_t hc H
        refine TC_seq ?_
        refine TC_region ?_
        refine TL_v rfl rfl rfl (V_assign rfl) ?_
        refine TL_nil ?_
        refine TX_next ?_
        refine TC_ret ?_
        refine TX_then_ret ?_
        have hrv := Option.some.inj H
        subst hrv
        exact TX_ret (rs := [.tmp 10]) (vs := [vb false]) rfl ⟨rfl, trivial⟩ (fun w' hs' => ⟨(), rfl, Step.left (Step.pulled (is := []) (A := []) hs' rfl)⟩)
      · replace H := ite_f (Bool.eq_false_iff.1 hc) H
        refine TC_skip ?_
        refine TX_next ?_
        refine TC_seq ?_
        refine TC_region ?_
        refine TL_v rfl rfl rfl (V_move rfl) ?_
        refine TL_v rfl rfl rfl (V_bin rfl rfl (fun w => quoI w r_2.1 8 (by decide))) ?_
        obtain ⟨h1, H⟩ := if_elim H
        refine TL_e rfl rfl rfl (E_mk1 rfl rfl Try.underlying49 TryI.inf5 (z := v8 0#8) rfl rfl rfl (B := 1) rfl h1.1 (Int.le_refl _) (by have := h1; omega) (by have := h1; omega) (n' := (w64 (r_2.1.tdiv 8)).toNat) (c' := (w64 (r_2.1.tdiv 8)).toNat) rfl rfl (cs := e8 (List.replicate ((w64 (r_2.1.tdiv 8)).toNat) 0#8)) (rep_map (f := v8))) (fun b1 => ?_)
        obtain ⟨h2, H⟩ := if_elim H
        refine TL_v rfl rfl rfl (V_b2s rfl Try.underlying49 Try.underlying5 Try.underlying9 (Src.own (j := 0) rfl) h2) ?_
        refine TL_v rfl rfl rfl (V_assign rfl) ?_
        obtain ⟨zero1, hzero1, H⟩ := ltt_elim H
        refine TL_re (d := 14) (v := vs (List.replicate ((w64 (r_2.1.tdiv 8)).toNat) 0#8)) (v' := vs zero1) rfl (congrArg vs hzero1) ?_
        refine TL_nil ?_
        refine TX_next ?_
        refine TC_seq ?_
        refine TC_region ?_
        refine TL_v rfl rfl rfl (V_move rfl) ?_
        obtain ⟨r_3, hr_3, H⟩ := bind_elim H
        refine TL_e rfl rfl rfl (E_call (Γ := Unit) (val := fun g => vs r_3) (mem := fun g => []) (vs := [vi r_2.1, vs ([] : Str)]) (Lin := []) (Ro := []) (is := []) rfl Try.call31 (F31_calls r_2.1 ([] : Str) r_3 hr_3) rfl trivial) (fun g_3 => ?_)
        refine TL_v rfl rfl rfl (V_assign rfl) ?_
        refine TL_nil ?_
        refine TX_next ?_
        refine TC_seq ?_
        refine TC_region ?_
        refine TL_v rfl rfl rfl (V_move rfl) ?_
        refine TL_v rfl rfl rfl (V_assign rfl) ?_
        refine TL_nil ?_
        refine TX_next ?_
        refine TC_seq ?_
        refine TC_seq ?_
        refine TC_region ?_
        refine TL_v rfl rfl rfl (V_move rfl) ?_
        refine TL_v rfl rfl rfl (V_bin rfl rfl (fun w => eqlS w key ([] : Str))) ?_
        refine TL_nil ?_
        refine TX_next ?_
        obtain ⟨j2, Hj, H⟩ := bind_elim H
        refine TC_join (Γ := Unit) (fun gj2 => [(1, vs secret), (2, vs key), (3, vs hash), (4, vi size), (11, vi w_1), (12, vi r_2.1), (14, vs zero1), (15, vs r_3), (16, vs j2)]) (fun gj2 => []) ?_ ?_
        · intro gj2
          refine TX_next ?_
          refine TC_seq ?_
          refine TC_region ?_
          refine TL_v rfl rfl rfl (V_move rfl) ?_
          refine TL_v rfl rfl rfl (V_move rfl) ?_
          obtain ⟨r_4, hr_4, H⟩ := bind_elim H
          refine TL_e rfl rfl rfl (E_call (Γ := Unit) (val := fun g => Value.tuple [vs r_4.1, vi r_4.2].toArray) (mem := fun g => []) (vs := [vi w_1, vs key]) (Lin := []) (Ro := []) (is := []) rfl Try.call13 (F13_calls w_1 key r_4 hr_4) rfl trivial) (fun g_4 => ?_)
          refine TL_v rfl rfl rfl (V_move rfl) ?_
          refine TL_v rfl rfl rfl (V_extract (vs := [vs r_4.1, vi r_4.2]) rfl rfl) ?_
          refine TL_v rfl rfl rfl (V_extract (vs := [vs r_4.1, vi r_4.2]) rfl rfl) ?_
          refine TL_v rfl rfl rfl (V_assign rfl) ?_
          refine TL_v rfl rfl rfl (V_assign rfl) ?_
          refine TL_nil ?_
          refine TX_next ?_
          refine TC_seq ?_
          refine TC_region ?_
          refine TL_v rfl rfl rfl (V_move rfl) ?_
          refine TL_v rfl rfl rfl (V_move rfl) ?_
          refine TL_v rfl rfl rfl (V_move rfl) ?_
          obtain ⟨r_5, hr_5, H⟩ := bind_elim H
          refine TL_e rfl rfl rfl (E_call (Γ := Unit) (val := fun g => Value.tuple [vs r_5.1, vi r_5.2].toArray) (mem := fun g => []) (vs := [vi w_1, vs secret, vs ([100#8, 101#8, 114#8, 105#8, 118#8, 101#8, 100#8] : Str), vs r_3]) (Lin := []) (Ro := []) (is := []) rfl Try.call11 (F11_calls w_1 secret ([100#8, 101#8, 114#8, 105#8, 118#8, 101#8, 100#8] : Str) r_3 r_5 hr_5) rfl trivial) (fun g_5 => ?_)
          refine TL_v rfl rfl rfl (V_move rfl) ?_
          refine TL_v rfl rfl rfl (V_extract (vs := [vs r_5.1, vi r_5.2]) rfl rfl) ?_
          refine TL_v rfl rfl rfl (V_extract (vs := [vs r_5.1, vi r_5.2]) rfl rfl) ?_
          refine TL_v rfl rfl rfl (V_assign rfl) ?_
          refine TL_v rfl rfl rfl (V_assign rfl) ?_
          refine TL_nil ?_
          refine TX_next ?_
          refine TC_seq ?_
          refine TC_region ?_
          refine TL_v rfl rfl rfl (V_move rfl) ?_
          refine TL_v rfl rfl rfl (V_move rfl) ?_
          refine TL_v rfl rfl rfl (V_move rfl) ?_
          obtain ⟨r_6, hr_6, H⟩ := bind_elim H
          refine TL_e rfl rfl rfl (E_call (Γ := Unit) (val := fun g => Value.tuple [vs r_6.1, vi r_6.2].toArray) (mem := fun g => []) (vs := [vi w_1, vs secret, vs key]) (Lin := []) (Ro := []) (is := []) rfl Try.call15 (F15_calls w_1 secret key r_6 hr_6) rfl trivial) (fun g_6 => ?_)
          refine TL_v rfl rfl rfl (V_move rfl) ?_
          refine TL_v rfl rfl rfl (V_extract (vs := [vs r_6.1, vi r_6.2]) rfl rfl) ?_
          refine TL_v rfl rfl rfl (V_extract (vs := [vs r_6.1, vi r_6.2]) rfl rfl) ?_
          refine TL_v rfl rfl rfl (V_assign rfl) ?_
          refine TL_v rfl rfl rfl (V_assign rfl) ?_
          refine TL_nil ?_
          refine TX_next ?_
          refine TC.sub (m' := [(1, vs secret), (2, vs key), (3, vs hash), (4, vi size), (11, vi w_1), (12, vi r_2.1), (14, vs zero1), (15, vs r_3), (16, vs j2), (17, vs r_4.1), (18, vi r_4.2), (19, vs r_5.1), (21, vs r_6.1), (22, vi r_6.2)]) ⟨rfl, rfl, rfl, rfl, rfl, rfl, rfl, rfl, rfl, rfl, rfl, rfl, rfl, rfl, trivial⟩ ?_
          refine TC_seq ?_
          refine TC_region ?_
          refine TL_v rfl rfl rfl (V_move rfl) ?_
          refine TL_v rfl rfl rfl (V_move rfl) ?_
          refine TL_v rfl rfl rfl (V_move rfl) ?_
          obtain ⟨r_7, hr_7, H⟩ := bind_elim H
          refine TL_e rfl rfl rfl (E_call (Γ := Unit) (val := fun g => Value.tuple [vs r_7.1, vi r_7.2].toArray) (mem := fun g => []) (vs := [vi w_1, vs key, vs hash]) (Lin := []) (Ro := []) (is := []) rfl Try.call27 (F27_calls w_1 key hash r_7 hr_7) rfl trivial) (fun g_7 => ?_)
          refine TL_v rfl rfl rfl (V_move rfl) ?_
          refine TL_v rfl rfl rfl (V_extract (vs := [vs r_7.1, vi r_7.2]) rfl rfl) ?_
          refine TL_v rfl rfl rfl (V_extract (vs := [vs r_7.1, vi r_7.2]) rfl rfl) ?_
          refine TL_v rfl rfl rfl (V_assign rfl) ?_
          refine TL_v rfl rfl rfl (V_assign rfl) ?_
          refine TL_nil ?_
          refine TX_next ?_
          refine TC_seq ?_
          refine TC_region ?_
          refine TL_v rfl rfl rfl (V_move rfl) ?_
          refine TL_v rfl rfl rfl (V_move rfl) ?_
          refine TL_v rfl rfl rfl (V_move rfl) ?_
          obtain ⟨r_8, hr_8, H⟩ := bind_elim H
          refine TL_e rfl rfl rfl (E_call (Γ := Unit) (val := fun g => Value.tuple [vs r_8.1, vi r_8.2].toArray) (mem := fun g => []) (vs := [vi w_1, vs r_4.1, vs ([114#8, 101#8, 115#8, 32#8, 98#8, 105#8, 110#8, 100#8, 101#8, 114#8] : Str), vs r_3]) (Lin := []) (Ro := []) (is := []) rfl Try.call11 (F11_calls w_1 r_4.1 ([114#8, 101#8, 115#8, 32#8, 98#8, 105#8, 110#8, 100#8, 101#8, 114#8] : Str) r_3 r_8 hr_8) rfl trivial) (fun g_8 => ?_)
          refine TL_v rfl rfl rfl (V_move rfl) ?_
          refine TL_v rfl rfl rfl (V_extract (vs := [vs r_8.1, vi r_8.2]) rfl rfl) ?_
          refine TL_v rfl rfl rfl (V_extract (vs := [vs r_8.1, vi r_8.2]) rfl rfl) ?_
          refine TL_v rfl rfl rfl (V_assign rfl) ?_
          refine TL_v rfl rfl rfl (V_assign rfl) ?_
          refine TL_nil ?_
          refine TX_next ?_
          refine TC.sub (m' := [(1, vs secret), (2, vs key), (3, vs hash), (4, vi size), (11, vi w_1), (12, vi r_2.1), (14, vs zero1), (15, vs r_3), (16, vs j2), (17, vs r_4.1), (18, vi r_4.2), (19, vs r_5.1), (21, vs r_6.1), (22, vi r_6.2), (23, vs r_7.1), (24, vi r_7.2), (25, vs r_8.1)]) ⟨rfl, rfl, rfl, rfl, rfl, rfl, rfl, rfl, rfl, rfl, rfl, rfl, rfl, rfl, rfl, rfl, rfl, trivial⟩ ?_
          refine TC_seq ?_
          refine TC_region ?_
          refine TL_v rfl rfl rfl (V_move rfl) ?_
          refine TL_v rfl rfl rfl (V_move rfl) ?_
          refine TL_v rfl rfl rfl (V_move rfl) ?_
          obtain ⟨r_9, hr_9, H⟩ := bind_elim H
          refine TL_e rfl rfl rfl (E_call (Γ := Unit) (val := fun g => Value.tuple [vs r_9.1, vi r_9.2].toArray) (mem := fun g => []) (vs := [vi w_1, vs r_8.1, vs hash]) (Lin := []) (Ro := []) (is := []) rfl Try.call24 (F24_calls w_1 r_8.1 hash r_9 hr_9) rfl trivial) (fun g_9 => ?_)
          refine TL_v rfl rfl rfl (V_move rfl) ?_
          refine TL_v rfl rfl rfl (V_extract (vs := [vs r_9.1, vi r_9.2]) rfl rfl) ?_
          refine TL_v rfl rfl rfl (V_extract (vs := [vs r_9.1, vi r_9.2]) rfl rfl) ?_
          refine TL_v rfl rfl rfl (V_assign rfl) ?_
          refine TL_v rfl rfl rfl (V_assign rfl) ?_
          refine TL_nil ?_
          refine TX_next ?_
          refine TC_seq ?_
          refine TC_region ?_
          refine TL_v rfl rfl rfl (V_move rfl) ?_
          refine TL_v rfl rfl rfl (V_bin rfl rfl (fun w => andI w size 255)) ?_
          refine TL_v rfl rfl rfl (V_assign rfl) ?_
          obtain ⟨m_1, hm_1, H⟩ := ltt_elim H
          refine TL_re (d := 29) (v := vi (iop (· &&& ·) size 255)) (v' := vi m_1) rfl (congrArg vi hm_1) ?_
          refine TL_nil ?_
          refine TX_next ?_
          refine TC_seq ?_
          refine TC_region ?_
          refine TL_v rfl rfl rfl (V_move rfl) ?_
          refine TL_v rfl rfl rfl (V_move rfl) ?_
          refine TL_v rfl rfl rfl (V_move rfl) ?_
          refine TL_v rfl rfl rfl (V_move rfl) ?_
          obtain ⟨r_10, hr_10, H⟩ := bind_elim H
          refine TL_e rfl rfl rfl (E_call (Γ := Unit) (val := fun g => Value.tuple [vs r_10.1, vi r_10.2].toArray) (mem := fun g => []) (vs := [vi w_1, vs secret, vs ([108#8, 97#8, 98#8] : Str), vs key, vi m_1]) (Lin := []) (Ro := []) (is := []) rfl Try.call29 (F29_calls w_1 secret ([108#8, 97#8, 98#8] : Str) key m_1 r_10 hr_10) rfl trivial) (fun g_10 => ?_)
          refine TL_v rfl rfl rfl (V_move rfl) ?_
          refine TL_v rfl rfl rfl (V_extract (vs := [vs r_10.1, vi r_10.2]) rfl rfl) ?_
          refine TL_v rfl rfl rfl (V_extract (vs := [vs r_10.1, vi r_10.2]) rfl rfl) ?_
          refine TL_v rfl rfl rfl (V_assign rfl) ?_
          refine TL_v rfl rfl rfl (V_assign rfl) ?_
          refine TL_nil ?_
          refine TX_next ?_
          refine TC.sub (m' := [(1, vs secret), (2, vs key), (11, vi w_1), (12, vi r_2.1), (14, vs zero1), (15, vs r_3), (16, vs j2), (17, vs r_4.1), (18, vi r_4.2), (19, vs r_5.1), (21, vs r_6.1), (22, vi r_6.2), (23, vs r_7.1), (24, vi r_7.2), (27, vs r_9.1), (29, vi m_1), (30, vs r_10.1), (31, vi r_10.2)]) ⟨rfl, rfl, rfl, rfl, rfl, rfl, rfl, rfl, rfl, rfl, rfl, rfl, rfl, rfl, rfl, rfl, rfl, rfl, trivial⟩ ?_
          refine TC_seq ?_
          refine TC_region ?_
          refine TL_v rfl rfl rfl (V_move rfl) ?_
          refine TL_v rfl rfl rfl (V_move rfl) ?_
          refine TL_v rfl rfl rfl (V_move rfl) ?_
          obtain ⟨r_11, hr_11, H⟩ := bind_elim H
          refine TL_e rfl rfl rfl (E_call (Γ := Unit) (val := fun g => Value.tuple [vs r_11.1, vi r_11.2].toArray) (mem := fun g => []) (vs := [vi w_1, vs secret, vs ([108#8, 97#8, 98#8] : Str), vs r_3]) (Lin := []) (Ro := []) (is := []) rfl Try.call11 (F11_calls w_1 secret ([108#8, 97#8, 98#8] : Str) r_3 r_11 hr_11) rfl trivial) (fun g_11 => ?_)
          refine TL_v rfl rfl rfl (V_move rfl) ?_
          refine TL_v rfl rfl rfl (V_extract (vs := [vs r_11.1, vi r_11.2]) rfl rfl) ?_
          refine TL_v rfl rfl rfl (V_extract (vs := [vs r_11.1, vi r_11.2]) rfl rfl) ?_
          refine TL_v rfl rfl rfl (V_assign rfl) ?_
          refine TL_v rfl rfl rfl (V_assign rfl) ?_
          refine TL_nil ?_
          refine TX_next ?_
          refine TC_seq ?_
          refine TC_region ?_
          refine TL_v rfl rfl rfl (V_move rfl) ?_
          refine TL_v rfl rfl rfl (V_move rfl) ?_
          refine TL_v rfl rfl rfl (V_move rfl) ?_
          refine TL_v rfl rfl rfl (V_move rfl) ?_
          obtain ⟨r_12, hr_12, H⟩ := bind_elim H
          refine TL_e rfl rfl rfl (E_call (Γ := Unit) (val := fun g => vs r_12) (mem := fun g => []) (vs := [vi r_2.1, vs key]) (Lin := []) (Ro := []) (is := []) rfl Try.call31 (F31_calls r_2.1 key r_12 hr_12) rfl trivial) (fun g_12 => ?_)
          refine TL_v rfl rfl rfl (V_move rfl) ?_
          obtain ⟨r_13, hr_13, H⟩ := bind_elim H
          refine TL_e rfl rfl rfl (E_call (Γ := Unit) (val := fun g => Value.tuple [vs r_13.1, vi r_13.2].toArray) (mem := fun g => []) (vs := [vi r_2.1, vs r_11.1, vs ([101#8, 120#8, 112#8, 111#8, 114#8, 116#8, 101#8, 114#8] : Str), vs r_12, vi m_1]) (Lin := []) (Ro := []) (is := []) rfl Try.call23 (F23_calls r_2.1 r_11.1 ([101#8, 120#8, 112#8, 111#8, 114#8, 116#8, 101#8, 114#8] : Str) r_12 m_1 r_13 hr_13) rfl trivial) (fun g_13 => ?_)
          refine TL_v rfl rfl rfl (V_move rfl) ?_
          refine TL_v rfl rfl rfl (V_extract (vs := [vs r_13.1, vi r_13.2]) rfl rfl) ?_
          refine TL_v rfl rfl rfl (V_extract (vs := [vs r_13.1, vi r_13.2]) rfl rfl) ?_
          refine TL_v rfl rfl rfl (V_assign rfl) ?_
          refine TL_v rfl rfl rfl (V_assign rfl) ?_
          refine TL_nil ?_
          refine TX_next ?_
          refine TC.sub (m' := [(12, vi r_2.1), (14, vs zero1), (16, vs j2), (17, vs r_4.1), (18, vi r_4.2), (19, vs r_5.1), (21, vs r_6.1), (22, vi r_6.2), (23, vs r_7.1), (24, vi r_7.2), (27, vs r_9.1), (30, vs r_10.1), (31, vi r_10.2), (34, vs r_13.1)]) ⟨rfl, rfl, rfl, rfl, rfl, rfl, rfl, rfl, rfl, rfl, rfl, rfl, rfl, rfl, trivial⟩ ?_
          refine TC_seq ?_
          refine TC_region ?_
          refine TL_v rfl rfl rfl (V_move rfl) ?_
          obtain ⟨r_14, hr_14, H⟩ := bind_elim H
          refine TL_e rfl rfl rfl (E_call (Γ := Unit) (val := fun g => vi r_14) (mem := fun g => []) (vs := [vi r_4.2]) (Lin := []) (Ro := []) (is := []) rfl Try.call21 (F21_calls r_4.2 r_14 hr_14) rfl trivial) (fun g_14 => ?_)
          refine TL_v rfl rfl rfl (V_bin rfl rfl (fun w => eqlI w r_14 0)) ?_
          refine TL_v rfl rfl rfl (V_move rfl) ?_
          refine TL_fork (d := 135) (b := (decide (r_14 = 0))) rfl (fun hc => ?_) (fun hc => ?_)
          · replace H := ite_t (of_decide_eq_true hc) H
            refine TL_want rfl rfl rfl rfl rfl rfl (V_move rfl) ?_
            refine TL_want rfl rfl rfl rfl rfl rfl (V_move rfl) ?_
            refine TL_want rfl rfl rfl rfl rfl rfl (V_move rfl) ?_
            refine TL_want rfl rfl rfl rfl rfl rfl (V_move rfl) ?_
            obtain ⟨r_15, hr_15, H⟩ := bind_elim H
            refine TL_wantE rfl rfl rfl rfl rfl rfl (E_call (Γ := Unit) (val := fun g => vs r_15) (mem := fun g => []) (vs := [vi r_2.1, vs zero1, vs j2]) (Lin := []) (Ro := []) (is := []) rfl Try.call25 (F25_calls r_2.1 zero1 j2 r_15 hr_15) rfl trivial) (fun g_15 => ?_)
            refine TL_want rfl rfl rfl rfl rfl rfl (V_bin rfl rfl (fun w => eqlS w r_4.1 r_15)) ?_
            refine TL_v rfl rfl rfl (V_pick (b := true) rfl rfl) ?_
            refine TL_v rfl rfl rfl (V_move rfl) ?_
            refine TL_fork (d := 143) (b := (decide (r_4.1 = r_15))) rfl (fun hc => ?_) (fun hc => ?_)
            · replace H := ite_t (of_decide_eq_true hc) H
              refine TL_want rfl rfl rfl rfl rfl rfl (V_move rfl) ?_
              obtain ⟨r_16, hr_16, H⟩ := bind_elim H
              refine TL_wantE rfl rfl rfl rfl rfl rfl (E_call (Γ := Unit) (val := fun g => vi r_16) (mem := fun g => []) (vs := [vi r_6.2]) (Lin := []) (Ro := []) (is := []) rfl Try.call21 (F21_calls r_6.2 r_16 hr_16) rfl trivial) (fun g_16 => ?_)
              refine TL_want rfl rfl rfl rfl rfl rfl (V_bin rfl rfl (fun w => eqlI w r_16 0)) ?_
              refine TL_v rfl rfl rfl (V_pick (b := true) rfl rfl) ?_
              refine TL_v rfl rfl rfl (V_move rfl) ?_
              refine TL_fork (d := 148) (b := (decide (r_16 = 0))) rfl (fun hc => ?_) (fun hc => ?_)
              · replace H := ite_t (of_decide_eq_true hc) H
                refine TL_want rfl rfl rfl rfl rfl rfl (V_move rfl) ?_
                refine TL_want rfl rfl rfl rfl rfl rfl (V_move rfl) ?_
                refine TL_want rfl rfl rfl rfl rfl rfl (V_move rfl) ?_
                refine TL_want rfl rfl rfl rfl rfl rfl (V_move rfl) ?_
                obtain ⟨r_17, hr_17, H⟩ := bind_elim H
                refine TL_wantE rfl rfl rfl rfl rfl rfl (E_call (Γ := Unit) (val := fun g => vs r_17) (mem := fun g => []) (vs := [vi r_2.1, vs r_5.1, vs j2]) (Lin := []) (Ro := []) (is := []) rfl Try.call25 (F25_calls r_2.1 r_5.1 j2 r_17 hr_17) rfl trivial) (fun g_17 => ?_)
                refine TL_want rfl rfl rfl rfl rfl rfl (V_bin rfl rfl (fun w => eqlS w r_6.1 r_17)) ?_
                refine TL_v rfl rfl rfl (V_pick (b := true) rfl rfl) ?_
                refine TL_v rfl rfl rfl (V_move rfl) ?_
                refine TL_fork (d := 156) (b := (decide (r_6.1 = r_17))) rfl (fun hc => ?_) (fun hc => ?_)
                · replace H := ite_t (of_decide_eq_true hc) H
                  refine TL_want rfl rfl rfl rfl rfl rfl (V_move rfl) ?_
                  obtain ⟨r_18, hr_18, H⟩ := bind_elim H
                  refine TL_wantE rfl rfl rfl rfl rfl rfl (E_call (Γ := Unit) (val := fun g => vi r_18) (mem := fun g => []) (vs := [vi r_7.2]) (Lin := []) (Ro := []) (is := []) rfl Try.call21 (F21_calls r_7.2 r_18 hr_18) rfl trivial) (fun g_18 => ?_)
                  refine TL_want rfl rfl rfl rfl rfl rfl (V_bin rfl rfl (fun w => eqlI w r_18 0)) ?_
                  refine TL_v rfl rfl rfl (V_pick (b := true) rfl rfl) ?_
                  refine TL_v rfl rfl rfl (V_move rfl) ?_
                  refine TL_fork (d := 161) (b := (decide (r_18 = 0))) rfl (fun hc => ?_) (fun hc => ?_)
                  · replace H := ite_t (of_decide_eq_true hc) H
                    refine TL_want rfl rfl rfl rfl rfl rfl (V_move rfl) ?_
                    refine TL_want rfl rfl rfl rfl rfl rfl (V_move rfl) ?_
                    refine TL_want rfl rfl rfl rfl rfl rfl (V_bin rfl rfl (fun w => eqlS w r_7.1 r_9.1)) ?_
                    refine TL_v rfl rfl rfl (V_pick (b := true) rfl rfl) ?_
                    refine TL_v rfl rfl rfl (V_move rfl) ?_
                    refine TL_fork (d := 166) (b := (decide (r_7.1 = r_9.1))) rfl (fun hc => ?_) (fun hc => ?_)
                    · replace H := ite_t (of_decide_eq_true hc) H
                      refine TL_want rfl rfl rfl rfl rfl rfl (V_move rfl) ?_
                      obtain ⟨r_19, hr_19, H⟩ := bind_elim H
                      refine TL_wantE rfl rfl rfl rfl rfl rfl (E_call (Γ := Unit) (val := fun g => vi r_19) (mem := fun g => []) (vs := [vi r_10.2]) (Lin := []) (Ro := []) (is := []) rfl Try.call21 (F21_calls r_10.2 r_19 hr_19) rfl trivial) (fun g_19 => ?_)
                      refine TL_want rfl rfl rfl rfl rfl rfl (V_bin rfl rfl (fun w => eqlI w r_19 0)) ?_
                      refine TL_v rfl rfl rfl (V_pick (b := true) rfl rfl) ?_
                      refine TL_v rfl rfl rfl (V_move rfl) ?_
                      refine TL_fork (d := 171) (b := (decide (r_19 = 0))) rfl (fun hc => ?_) (fun hc => ?_)
                      · replace H := ite_t (of_decide_eq_true hc) H
                        refine TL_want rfl rfl rfl rfl rfl rfl (V_move rfl) ?_
                        refine TL_want rfl rfl rfl rfl rfl rfl (V_move rfl) ?_
                        refine TL_want rfl rfl rfl rfl rfl rfl (V_bin rfl rfl (fun w => eqlS w r_10.1 r_13.1)) ?_
                        refine TL_v rfl rfl rfl (V_pick (b := true) rfl rfl) ?_
                        refine TL_v rfl rfl rfl (V_assign rfl) ?_
                        obtain ⟨x1, hx1, H⟩ := ltt_elim H
                        refine TL_re (d := 10) (v := vb (decide (r_10.1 = r_13.1))) (v' := vb x1) rfl (congrArg vb hx1) ?_
                        refine TL_nil ?_
                        refine TX_next ?_
                        refine TC.sub (m' := [(10, vb x1)]) ⟨rfl, trivial⟩ ?_
                        refine TC_ret ?_
                        have hrv := Option.some.inj H
                        subst hrv
                        exact TX_ret (rs := [.tmp 10]) (vs := [vb x1]) rfl ⟨rfl, trivial⟩ (fun w' hs' => ⟨(), rfl, Step.left (Step.pulled (is := []) (A := []) hs' rfl)⟩)
                      · replace H := ite_f (of_decide_eq_false hc) H
                        refine TL_skip rfl rfl rfl rfl rfl rfl rfl ?_
                        refine TL_skip rfl rfl rfl rfl rfl rfl rfl ?_
                        refine TL_skip rfl rfl rfl rfl rfl rfl rfl ?_
                        refine TL_v rfl rfl rfl (V_pick (b := false) rfl rfl) ?_
                        refine TL_v rfl rfl rfl (V_assign rfl) ?_
                        refine TL_nil ?_
                        refine TX_next ?_
                        refine TC.sub (m' := [(10, vb false)]) ⟨rfl, trivial⟩ ?_
                        refine TC_ret ?_
                        have hrv := Option.some.inj H
                        subst hrv
                        exact TX_ret (rs := [.tmp 10]) (vs := [vb false]) rfl ⟨rfl, trivial⟩ (fun w' hs' => ⟨(), rfl, Step.left (Step.pulled (is := []) (A := []) hs' rfl)⟩)
                    · replace H := ite_f (of_decide_eq_false hc) H
                      refine TL_skip rfl rfl rfl rfl rfl rfl rfl ?_
                      refine TL_skip rfl rfl rfl rfl rfl rfl rfl ?_
                      refine TL_skip rfl rfl rfl rfl rfl rfl rfl ?_
                      refine TL_v rfl rfl rfl (V_pick (b := false) rfl rfl) ?_
                      refine TL_v rfl rfl rfl (V_move rfl) ?_
                      refine TL_skip rfl rfl rfl rfl rfl rfl rfl ?_
                      refine TL_skip rfl rfl rfl rfl rfl rfl rfl ?_
                      refine TL_skip rfl rfl rfl rfl rfl rfl rfl ?_
                      refine TL_v rfl rfl rfl (V_pick (b := false) rfl rfl) ?_
                      refine TL_v rfl rfl rfl (V_assign rfl) ?_
                      refine TL_nil ?_
                      refine TX_next ?_
                      refine TC.sub (m' := [(10, vb false)]) ⟨rfl, trivial⟩ ?_
                      refine TC_ret ?_
                      have hrv := Option.some.inj H
                      subst hrv
                      exact TX_ret (rs := [.tmp 10]) (vs := [vb false]) rfl ⟨rfl, trivial⟩ (fun w' hs' => ⟨(), rfl, Step.left (Step.pulled (is := []) (A := []) hs' rfl)⟩)
                  · replace H := ite_f (of_decide_eq_false hc) H
                    refine TL_skip rfl rfl rfl rfl rfl rfl rfl ?_
                    refine TL_skip rfl rfl rfl rfl rfl rfl rfl ?_
                    refine TL_skip rfl rfl rfl rfl rfl rfl rfl ?_
                    refine TL_v rfl rfl rfl (V_pick (b := false) rfl rfl) ?_
                    refine TL_v rfl rfl rfl (V_move rfl) ?_
                    refine TL_skip rfl rfl rfl rfl rfl rfl rfl ?_
                    refine TL_skip rfl rfl rfl rfl rfl rfl rfl ?_
                    refine TL_skip rfl rfl rfl rfl rfl rfl rfl ?_
                    refine TL_v rfl rfl rfl (V_pick (b := false) rfl rfl) ?_
                    refine TL_v rfl rfl rfl (V_move rfl) ?_
                    refine TL_skip rfl rfl rfl rfl rfl rfl rfl ?_
                    refine TL_skip rfl rfl rfl rfl rfl rfl rfl ?_
                    refine TL_skip rfl rfl rfl rfl rfl rfl rfl ?_
                    refine TL_v rfl rfl rfl (V_pick (b := false) rfl rfl) ?_
                    refine TL_v rfl rfl rfl (V_assign rfl) ?_
                    refine TL_nil ?_
                    refine TX_next ?_
                    refine TC.sub (m' := [(10, vb false)]) ⟨rfl, trivial⟩ ?_
                    refine TC_ret ?_
                    have hrv := Option.some.inj H
                    subst hrv
                    exact TX_ret (rs := [.tmp 10]) (vs := [vb false]) rfl ⟨rfl, trivial⟩ (fun w' hs' => ⟨(), rfl, Step.left (Step.pulled (is := []) (A := []) hs' rfl)⟩)
                · replace H := ite_f (of_decide_eq_false hc) H
                  refine TL_skip rfl rfl rfl rfl rfl rfl rfl ?_
                  refine TL_skip rfl rfl rfl rfl rfl rfl rfl ?_
                  refine TL_skip rfl rfl rfl rfl rfl rfl rfl ?_
                  refine TL_v rfl rfl rfl (V_pick (b := false) rfl rfl) ?_
                  refine TL_v rfl rfl rfl (V_move rfl) ?_
                  refine TL_skip rfl rfl rfl rfl rfl rfl rfl ?_
                  refine TL_skip rfl rfl rfl rfl rfl rfl rfl ?_
                  refine TL_skip rfl rfl rfl rfl rfl rfl rfl ?_
                  refine TL_v rfl rfl rfl (V_pick (b := false) rfl rfl) ?_
                  refine TL_v rfl rfl rfl (V_move rfl) ?_
                  refine TL_skip rfl rfl rfl rfl rfl rfl rfl ?_
                  refine TL_skip rfl rfl rfl rfl rfl rfl rfl ?_
                  refine TL_skip rfl rfl rfl rfl rfl rfl rfl ?_
                  refine TL_v rfl rfl rfl (V_pick (b := false) rfl rfl) ?_
                  refine TL_v rfl rfl rfl (V_move rfl) ?_
                  refine TL_skip rfl rfl rfl rfl rfl rfl rfl ?_
                  refine TL_skip rfl rfl rfl rfl rfl rfl rfl ?_
                  refine TL_skip rfl rfl rfl rfl rfl rfl rfl ?_
                  refine TL_v rfl rfl rfl (V_pick (b := false) rfl rfl) ?_
                  refine TL_v rfl rfl rfl (V_assign rfl) ?_
                  refine TL_nil ?_
                  refine TX_next ?_
                  refine TC.sub (m' := [(10, vb false)]) ⟨rfl, trivial⟩ ?_
                  refine TC_ret ?_
                  have hrv := Option.some.inj H
                  subst hrv
                  exact TX_ret (rs := [.tmp 10]) (vs := [vb false]) rfl ⟨rfl, trivial⟩ (fun w' hs' => ⟨(), rfl, Step.left (Step.pulled (is := []) (A := []) hs' rfl)⟩)
              · replace H := ite_f (of_decide_eq_false hc) H
                refine TL_skip rfl rfl rfl rfl rfl rfl rfl ?_
                refine TL_skip rfl rfl rfl rfl rfl rfl rfl ?_
                refine TL_skip rfl rfl rfl rfl rfl rfl rfl ?_
                refine TL_skip rfl rfl rfl rfl rfl rfl rfl ?_
                refine TL_skip rfl rfl rfl rfl rfl rfl rfl ?_
                refine TL_skip rfl rfl rfl rfl rfl rfl rfl ?_
                refine TL_v rfl rfl rfl (V_pick (b := false) rfl rfl) ?_
                refine TL_v rfl rfl rfl (V_move rfl) ?_
                refine TL_skip rfl rfl rfl rfl rfl rfl rfl ?_
                refine TL_skip rfl rfl rfl rfl rfl rfl rfl ?_
                refine TL_skip rfl rfl rfl rfl rfl rfl rfl ?_
                refine TL_v rfl rfl rfl (V_pick (b := false) rfl rfl) ?_
                refine TL_v rfl rfl rfl (V_move rfl) ?_
                refine TL_skip rfl rfl rfl rfl rfl rfl rfl ?_
                refine TL_skip rfl rfl rfl rfl rfl rfl rfl ?_
                refine TL_skip rfl rfl rfl rfl rfl rfl rfl ?_
                refine TL_v rfl rfl rfl (V_pick (b := false) rfl rfl) ?_
                refine TL_v rfl rfl rfl (V_move rfl) ?_
                refine TL_skip rfl rfl rfl rfl rfl rfl rfl ?_
                refine TL_skip rfl rfl rfl rfl rfl rfl rfl ?_
                refine TL_skip rfl rfl rfl rfl rfl rfl rfl ?_
                refine TL_v rfl rfl rfl (V_pick (b := false) rfl rfl) ?_
                refine TL_v rfl rfl rfl (V_move rfl) ?_
                refine TL_skip rfl rfl rfl rfl rfl rfl rfl ?_
                refine TL_skip rfl rfl rfl rfl rfl rfl rfl ?_
                refine TL_skip rfl rfl rfl rfl rfl rfl rfl ?_
                refine TL_v rfl rfl rfl (V_pick (b := false) rfl rfl) ?_
                refine TL_v rfl rfl rfl (V_assign rfl) ?_
                refine TL_nil ?_
                refine TX_next ?_
                refine TC.sub (m' := [(10, vb false)]) ⟨rfl, trivial⟩ ?_
                refine TC_ret ?_
                have hrv := Option.some.inj H
                subst hrv
                exact TX_ret (rs := [.tmp 10]) (vs := [vb false]) rfl ⟨rfl, trivial⟩ (fun w' hs' => ⟨(), rfl, Step.left (Step.pulled (is := []) (A := []) hs' rfl)⟩)
            · replace H := ite_f (of_decide_eq_false hc) H
              refine TL_skip rfl rfl rfl rfl rfl rfl rfl ?_
              refine TL_skip rfl rfl rfl rfl rfl rfl rfl ?_
              refine TL_skip rfl rfl rfl rfl rfl rfl rfl ?_
              refine TL_v rfl rfl rfl (V_pick (b := false) rfl rfl) ?_
              refine TL_v rfl rfl rfl (V_move rfl) ?_
              refine TL_skip rfl rfl rfl rfl rfl rfl rfl ?_
              refine TL_skip rfl rfl rfl rfl rfl rfl rfl ?_
              refine TL_skip rfl rfl rfl rfl rfl rfl rfl ?_
              refine TL_skip rfl rfl rfl rfl rfl rfl rfl ?_
              refine TL_skip rfl rfl rfl rfl rfl rfl rfl ?_
              refine TL_skip rfl rfl rfl rfl rfl rfl rfl ?_
              refine TL_v rfl rfl rfl (V_pick (b := false) rfl rfl) ?_
              refine TL_v rfl rfl rfl (V_move rfl) ?_
              refine TL_skip rfl rfl rfl rfl rfl rfl rfl ?_
              refine TL_skip rfl rfl rfl rfl rfl rfl rfl ?_
              refine TL_skip rfl rfl rfl rfl rfl rfl rfl ?_
              refine TL_v rfl rfl rfl (V_pick (b := false) rfl rfl) ?_
              refine TL_v rfl rfl rfl (V_move rfl) ?_
              refine TL_skip rfl rfl rfl rfl rfl rfl rfl ?_
              refine TL_skip rfl rfl rfl rfl rfl rfl rfl ?_
              refine TL_skip rfl rfl rfl rfl rfl rfl rfl ?_
              refine TL_v rfl rfl rfl (V_pick (b := false) rfl rfl) ?_
              refine TL_v rfl rfl rfl (V_move rfl) ?_
              refine TL_skip rfl rfl rfl rfl rfl rfl rfl ?_
              refine TL_skip rfl rfl rfl rfl rfl rfl rfl ?_
              refine TL_skip rfl rfl rfl rfl rfl rfl rfl ?_
              refine TL_v rfl rfl rfl (V_pick (b := false) rfl rfl) ?_
              refine TL_v rfl rfl rfl (V_move rfl) ?_
              refine TL_skip rfl rfl rfl rfl rfl rfl rfl ?_
              refine TL_skip rfl rfl rfl rfl rfl rfl rfl ?_
              refine TL_skip rfl rfl rfl rfl rfl rfl rfl ?_
              refine TL_v rfl rfl rfl (V_pick (b := false) rfl rfl) ?_
              refine TL_v rfl rfl rfl (V_assign rfl) ?_
              refine TL_nil ?_
              refine TX_next ?_
              refine TC.sub (m' := [(10, vb false)]) ⟨rfl, trivial⟩ ?_
              refine TC_ret ?_
              have hrv := Option.some.inj H
              subst hrv
              exact TX_ret (rs := [.tmp 10]) (vs := [vb false]) rfl ⟨rfl, trivial⟩ (fun w' hs' => ⟨(), rfl, Step.left (Step.pulled (is := []) (A := []) hs' rfl)⟩)
          · replace H := ite_f (of_decide_eq_false hc) H
            refine TL_skip rfl rfl rfl rfl rfl rfl rfl ?_
            refine TL_skip rfl rfl rfl rfl rfl rfl rfl ?_
            refine TL_skip rfl rfl rfl rfl rfl rfl rfl ?_
            refine TL_skip rfl rfl rfl rfl rfl rfl rfl ?_
            refine TL_skip rfl rfl rfl rfl rfl rfl rfl ?_
            refine TL_skip rfl rfl rfl rfl rfl rfl rfl ?_
            refine TL_v rfl rfl rfl (V_pick (b := false) rfl rfl) ?_
            refine TL_v rfl rfl rfl (V_move rfl) ?_
            refine TL_skip rfl rfl rfl rfl rfl rfl rfl ?_
            refine TL_skip rfl rfl rfl rfl rfl rfl rfl ?_
            refine TL_skip rfl rfl rfl rfl rfl rfl rfl ?_
            refine TL_v rfl rfl rfl (V_pick (b := false) rfl rfl) ?_
            refine TL_v rfl rfl rfl (V_move rfl) ?_
            refine TL_skip rfl rfl rfl rfl rfl rfl rfl ?_
            refine TL_skip rfl rfl rfl rfl rfl rfl rfl ?_
            refine TL_skip rfl rfl rfl rfl rfl rfl rfl ?_
            refine TL_skip rfl rfl rfl rfl rfl rfl rfl ?_
            refine TL_skip rfl rfl rfl rfl rfl rfl rfl ?_
            refine TL_skip rfl rfl rfl rfl rfl rfl rfl ?_
            refine TL_v rfl rfl rfl (V_pick (b := false) rfl rfl) ?_
            refine TL_v rfl rfl rfl (V_move rfl) ?_
            refine TL_skip rfl rfl rfl rfl rfl rfl rfl ?_
            refine TL_skip rfl rfl rfl rfl rfl rfl rfl ?_
            refine TL_skip rfl rfl rfl rfl rfl rfl rfl ?_
            refine TL_v rfl rfl rfl (V_pick (b := false) rfl rfl) ?_
            refine TL_v rfl rfl rfl (V_move rfl) ?_
            refine TL_skip rfl rfl rfl rfl rfl rfl rfl ?_
            refine TL_skip rfl rfl rfl rfl rfl rfl rfl ?_
            refine TL_skip rfl rfl rfl rfl rfl rfl rfl ?_
            refine TL_v rfl rfl rfl (V_pick (b := false) rfl rfl) ?_
            refine TL_v rfl rfl rfl (V_move rfl) ?_
            refine TL_skip rfl rfl rfl rfl rfl rfl rfl ?_
            refine TL_skip rfl rfl rfl rfl rfl rfl rfl ?_
            refine TL_skip rfl rfl rfl rfl rfl rfl rfl ?_
            refine TL_v rfl rfl rfl (V_pick (b := false) rfl rfl) ?_
            refine TL_v rfl rfl rfl (V_move rfl) ?_
            refine TL_skip rfl rfl rfl rfl rfl rfl rfl ?_
            refine TL_skip rfl rfl rfl rfl rfl rfl rfl ?_
            refine TL_skip rfl rfl rfl rfl rfl rfl rfl ?_
            refine TL_v rfl rfl rfl (V_pick (b := false) rfl rfl) ?_
            refine TL_v rfl rfl rfl (V_assign rfl) ?_
            refine TL_nil ?_
            refine TX_next ?_
            refine TC.sub (m' := [(10, vb false)]) ⟨rfl, trivial⟩ ?_
            refine TC_ret ?_
            have hrv := Option.some.inj H
            subst hrv
            exact TX_ret (rs := [.tmp 10]) (vs := [vb false]) rfl ⟨rfl, trivial⟩ (fun w' hs' => ⟨(), rfl, Step.left (Step.pulled (is := []) (A := []) hs' rfl)⟩)
        · intro hJ
          replace H := Hj
          refine TC_cond (b := (decide (key = ([] : Str)))) rfl (fun hc => ?_) (fun hc => ?_)
          · replace H := ite_t (of_decide_eq_true hc) H
            refine TC_region ?_
            refine TL_v rfl rfl rfl (V_move rfl) ?_
            refine TL_v rfl rfl rfl (V_assign rfl) ?_
            refine TL_nil ?_
            refine TX.sub (m' := [(1, vs secret), (2, vs key), (3, vs hash), (4, vi size), (11, vi w_1), (12, vi r_2.1), (14, vs zero1), (15, vs r_3), (16, vs zero1)]) ⟨rfl, rfl, rfl, rfl, rfl, rfl, rfl, rfl, rfl, trivial⟩ ?_
            refine TX.pull (is := []) (L' := []) rfl ?_
            obtain rfl := Option.some.inj H
            exact hJ ()
          · replace H := ite_f (of_decide_eq_false hc) H
            refine TC_skip ?_
            refine TX.sub (m' := [(1, vs secret), (2, vs key), (3, vs hash), (4, vi size), (11, vi w_1), (12, vi r_2.1), (14, vs zero1), (15, vs r_3), (16, vs key)]) ⟨rfl, rfl, rfl, rfl, rfl, rfl, rfl, rfl, rfl, trivial⟩ ?_
            refine TX.pull (is := []) (L' := []) rfl ?_
            obtain rfl := Option.some.inj H
            exact hJ ()
    · intro hJ
      replace H := Hj
      refine TL_fork (d := 50) (b := (decide (r_2.1 ≠ 256))) rfl (fun hc => ?_) (fun hc => ?_)
      · replace H := ite_t (of_decide_eq_true hc) H
        refine TL_want rfl rfl rfl rfl rfl rfl (V_move rfl) ?_
        refine TL_want rfl rfl rfl rfl rfl rfl (V_bin rfl rfl (fun w => neqI w r_2.1 384)) ?_
        refine TL_v rfl rfl rfl (V_pick (b := true) rfl rfl) ?_
        refine TL_nil ?_
        refine TX.sub (m' := [(1, vs secret), (2, vs key), (3, vs hash), (4, vi size), (11, vi w_1), (12, vi r_2.1), (53, vb (decide (r_2.1 ≠ 384)))]) ⟨rfl, rfl, rfl, rfl, rfl, rfl, rfl, trivial⟩ ?_
        refine TX.pull (is := []) (L' := []) rfl ?_
        obtain rfl := Option.some.inj H
        exact hJ ()
      · replace H := ite_f (of_decide_eq_false hc) H
        refine TL_skip rfl rfl rfl rfl rfl rfl rfl ?_
        refine TL_skip rfl rfl rfl rfl rfl rfl rfl ?_
        refine TL_v rfl rfl rfl (V_pick (b := false) rfl rfl) ?_
        refine TL_nil ?_
        refine TX.sub (m' := [(1, vs secret), (2, vs key), (3, vs hash), (4, vi size), (11, vi w_1), (12, vi r_2.1), (53, vb false)]) ⟨rfl, rfl, rfl, rfl, rfl, rfl, rfl, trivial⟩ ?_
        refine TX.pull (is := []) (L' := []) rfl ?_
        obtain rfl := Option.some.inj H
        exact hJ ()

end Go.Proofs
end

section
/-
  The law SchedChain of the key schedule.
-/
namespace Go.Proofs
open Go Go.Kx
set_option linter.unusedVariables false
set_option linter.unusedSimpArgs false
theorem SchedChain_true (which : Int) (secret key hash : Str) (size : Int) (h1 : secret.length ≤ 140737488351232) (h2 : key.length ≤ 140737488351232) (h3 : hash.length ≤ 140737488351232) : halberdlaw19_SchedChain which secret key hash size = some true := by
  unfold halberdlaw19_SchedChain
  refine bind_i awake19 (if_n (by decide) (ltt_i fun w hw => ?_))
  obtain ⟨w', hw', ok⟩ := which3 which
  rw [hw'] at hw; subst hw
  have hq := hS_or w
  have hk := kN_le w
  refine bind_i (Bits_ok w ok) ?_
  have hj : (if (bS w, (0 : Int)).1 ≠ 256 then (some (decide ((bS w, (0 : Int)).1 ≠ 384))) else (some false)) = some false := by
    rcases bS_or w with h | h <;> rw [h] <;> rfl
  refine bind_i hj (if_n (by decide) ?_)
  dsimp only
  rw [w_bS, Int.toNat_natCast]
  refine if_i (by omega) (if_i List.length_replicate (ltt_i fun zero hz => ?_))
  have hz' : zero = zS w := hz
  subst hz'
  clear hz
  have hzk : (if key = ([] : Str) then (some (zS w)) else (some key)) = some (zrE w key) := by
    unfold zrE; split <;> rfl
  have ea := Early_eq w key h2
  have eae : eaE w key = (exT w (zS w) key, 0) := if_pos ok
  rw [eae] at ea
  have mx := Mix_eq w secret key (by omega) h2
  have mxe : mxE w secret key = (exT w (dvT w secret lDerived (dig (bS w) [])) key, 0) := if_pos ok
  rw [mxe] at mx
  have d1 := Derive_eq w secret lDerived (dig (bS w) []) (by omega)
  rw [dvE_ok w ok _ _ _ (by decide) (dS_le w [])] at d1
  have bi := Binder_eq w key hash h2 (by omega)
  have bie : bnE w key hash = (fnT w (dvT w (exT w (zS w) key) lBind (dig (bS w) [])) hash, 0) := if_pos ok
  rw [bie] at bi
  have d2 := Derive_eq w (exT w (zS w) key) lBind (dig (bS w) []) (by rw [exT_length]; omega)
  rw [dvE_ok w ok _ _ _ (by decide) (dS_le w [])] at d2
  have fi := Finished_eq w (dvT w (exT w (zS w) key) lBind (dig (bS w) [])) hash (by rw [dvT_length]; omega) (by omega)
  have fie : fnE w (dvT w (exT w (zS w) key) lBind (dig (bS w) [])) hash = (fnT w (dvT w (exT w (zS w) key) lBind (dig (bS w) [])) hash, 0) := if_pos ok
  rw [fie] at fi
  refine bind_i (HashR_ok w [] (by simp)) (bind_i hzk (bind_i ea (bind_i d1 (bind_i mx (bind_i bi (bind_i d2 (bind_i fi (ltt_i fun m1 hm1 => ?_))))))))
  have i255 : iop (· &&& ·) size 255 = size % 256 := and_mask size 8 (by decide)
  obtain ⟨m, hm, hml⟩ : ∃ m : Nat, size % 256 = (m : Int) ∧ m ≤ 255 := ⟨(size % 256).toNat, by omega, by omega⟩
  rw [i255, hm] at hm1
  subst hm1
  have lLab : Str := [108#8, 97#8, 98#8]
  have ex := Export_eq w secret [108#8, 97#8, 98#8] key (m : Int) (by omega) (by omega)
  have exe : xpE w secret [108#8, 97#8, 98#8] key (m : Int) = (lbT w (dvT w secret [108#8, 97#8, 98#8] (dig (bS w) [])) lExp (dig (bS w) key) m, 0) := by
    unfold xpE
    rw [if_pos ok, dvE_ok w ok _ _ _ (by decide) (dS_le w [])]
    refine (if_neg (fun c => c rfl)).trans ?_
    exact slE_ok w ok _ _ _ m (by decide) (dS_le w key) (by omega)
  rw [exe] at ex
  have d3 := Derive_eq w secret [108#8, 97#8, 98#8] (dig (bS w) []) (by omega)
  rw [dvE_ok w ok _ _ _ (by decide) (dS_le w [])] at d3
  have lb := lab_ok w ok (dvT w secret [108#8, 97#8, 98#8] (dig (bS w) [])) lExp (dig (bS w) key) m (by decide) (dS_le w key) (by omega) (by rw [dvT_length]; omega)
  refine bind_i ex (bind_i d3 (bind_i (HashR_ok w key (by omega)) (bind_i lb (bind_i (num_eq _) (if_i rfl (bind_i (Mac_ok w (zS w) (zrE w key) (by rw [zS_length]; omega) (zrE_le w key h2)) (if_i rfl (bind_i (num_eq _) (if_i rfl (bind_i (Mac_ok w (dvT w secret lDerived (dig (bS w) [])) (zrE w key) (by rw [dvT_length]; omega) (zrE_le w key h2)) (if_i rfl (bind_i (num_eq _) (if_i rfl (if_i rfl (bind_i (num_eq _) (if_i rfl (ltt_i fun x hx => ?_)))))))))))))))))
  rw [hx]
  exact congrArg some (decide_eq_true rfl)
end Go.Proofs
end

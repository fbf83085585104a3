/-
  Part KH3 of the proofs of this seat: F22, HkdfL2.
-/
import Derived.Test.YtfdnfkpalbihaaaK2
import Derived.Test.YtfdnfkpalbihaaaKH1
import Derived.Test.YtfdnfkpalbihaaaKH2
section
namespace Go.Proofs
open Go Go.Kx
set_option linter.unusedVariables false
set_option linter.unusedSimpArgs false
def halberdlaw3_HkdfForms (bits : Int) (size : Int) (key : Str) : Option (Bool) :=
  (halberdlaw3_awake).bind fun (r_1 : Bool) => (if (!r_1) = true then (some false) else (if bits = 256 then (ltt (w64 (bits + 1)) fun (b1 : Int) => ((hkdf_Hmac b1 key ([] : Str)).bind fun (r_2 : Str × Int) => ((hkdf_Extract b1 key ([] : Str)).bind fun (r_3 : Str × Int) => ((hkdf_Expand b1 key ([] : Str) 5).bind fun (r_4 : Str × Int) => ((hkdf_Label b1 key ([108#8] : Str) ([] : Str) 5).bind fun (r_5 : Str × Int) => (ltt (w64 (1 + (iop (· &&& ·) size 1023))) fun (x1 : Int) => ((hkdf_Expand 256 key ([] : Str) (w64 (0 - x1))).bind fun (r_6 : Str × Int) => ((hkdf_Expand 256 key ([] : Str) (w64 (8160 + x1))).bind fun (r_7 : Str × Int) => ((hkdf_Expand 384 key ([] : Str) (w64 (12240 + x1))).bind fun (r_8 : Str × Int) => ((hkdf_Expand 384 key ([] : Str) 0).bind fun (r_9 : Str × Int) => ((halberdlaw0_Num r_2.2).bind fun (r_10 : Int) => (if r_10 = 300 then ((halberdlaw0_Num r_3.2).bind fun (r_11 : Int) => (if r_11 = 300 then ((halberdlaw0_Num r_4.2).bind fun (r_12 : Int) => (if r_12 = 300 then ((halberdlaw0_Num r_5.2).bind fun (r_13 : Int) => (if r_13 = 300 then ((halberdlaw0_Num r_6.2).bind fun (r_14 : Int) => (if r_14 = 300 then ((halberdlaw0_Num r_7.2).bind fun (r_15 : Int) => (if r_15 = 300 then ((halberdlaw0_Num r_8.2).bind fun (r_16 : Int) => (if r_16 = 300 then (if r_9.1 = ([] : Str) then ((halberdlaw0_Num r_9.2).bind fun (r_17 : Int) => (ltt (decide (r_17 = 0)) fun (x2 : Bool) => (some x2))) else (some false)) else (some false))) else (some false))) else (some false))) else (some false))) else (some false))) else (some false))) else (some false))))))))))))) else ((if bits = 384 then (ltt (w64 (bits + 1)) fun (b2 : Int) => (some b2)) else (some bits)).bind fun (j1 : Int) => ((hkdf_Hmac j1 key ([] : Str)).bind fun (r_18 : Str × Int) => ((hkdf_Extract j1 key ([] : Str)).bind fun (r_19 : Str × Int) => ((hkdf_Expand j1 key ([] : Str) 5).bind fun (r_20 : Str × Int) => ((hkdf_Label j1 key ([108#8] : Str) ([] : Str) 5).bind fun (r_21 : Str × Int) => (ltt (w64 (1 + (iop (· &&& ·) size 1023))) fun (x3 : Int) => ((hkdf_Expand 256 key ([] : Str) (w64 (0 - x3))).bind fun (r_22 : Str × Int) => ((hkdf_Expand 256 key ([] : Str) (w64 (8160 + x3))).bind fun (r_23 : Str × Int) => ((hkdf_Expand 384 key ([] : Str) (w64 (12240 + x3))).bind fun (r_24 : Str × Int) => ((hkdf_Expand 384 key ([] : Str) 0).bind fun (r_25 : Str × Int) => ((halberdlaw0_Num r_18.2).bind fun (r_26 : Int) => (if r_26 = 300 then ((halberdlaw0_Num r_19.2).bind fun (r_27 : Int) => (if r_27 = 300 then ((halberdlaw0_Num r_20.2).bind fun (r_28 : Int) => (if r_28 = 300 then ((halberdlaw0_Num r_21.2).bind fun (r_29 : Int) => (if r_29 = 300 then ((halberdlaw0_Num r_22.2).bind fun (r_30 : Int) => (if r_30 = 300 then ((halberdlaw0_Num r_23.2).bind fun (r_31 : Int) => (if r_31 = 300 then ((halberdlaw0_Num r_24.2).bind fun (r_32 : Int) => (if r_32 = 300 then (if r_25.1 = ([] : Str) then ((halberdlaw0_Num r_25.2).bind fun (r_33 : Int) => (ltt (decide (r_33 = 0)) fun (x4 : Bool) => (some x4))) else (some false)) else (some false))) else (some false))) else (some false))) else (some false))) else (some false))) else (some false))) else (some false)))))))))))))))

set_option maxHeartbeats 4000000 in
set_option maxRecDepth 20000 in
theorem F22_calls (bits : Int) (size : Int) (key : Str) (r : Bool) (H : halberdlaw3_HkdfForms bits size key = some r) :
    Does Try.prog 22 [vi bits, vi size, vs key] [] [] (Γ := Unit) (fun g => vb r) (fun g => []) := by
  intro w hmem hro hd
  refine calls_of (N := 139) (m0 := [(0, vi bits), (1, vi size), (2, vs key)]) Try.func22 rfl Try.ntmps22 (argM_ok [vi bits, vi size, vs key]) rfl hmem hro hd ?_
  unfold halberdlaw3_HkdfForms at H
  refine TC_seq ?_
  refine TC_region ?_
  refine TL_v rfl rfl rfl (V_assign rfl) ?_
  refine TL_nil ?_
  refine TX_next ?_
  refine TC_seq ?_
  refine TC_seq ?_
  refine TC_region ?_
  obtain ⟨r_1, hr_1, H⟩ := bind_elim H
  refine TL_e rfl rfl rfl (E_call (Γ := Unit) (val := fun g => vb r_1) (mem := fun g => []) (vs := []) (Lin := []) (Ro := []) (is := []) rfl Try.call42 (F42_calls r_1 hr_1) rfl trivial) (fun g_1 => ?_)
  refine TL_v rfl rfl rfl (V_un rfl (fun w => notB w r_1)) ?_
  refine TL_nil ?_
  refine TX_next ?_
  refine TC_cond (b := (!r_1)) rfl (fun hc => ?_) (fun hc => ?_)
  · replace H := ite_t hc H
    refine TC_seq ?_
    refine TC_region ?_
    refine TL_v rfl rfl rfl (V_assign rfl) ?_
    refine TL_nil ?_
    refine TX_next ?_
    refine TC_ret ?_
    refine TX_then_ret ?_
    have hrv := Option.some.inj H
    subst hrv
    exact TX_ret (rs := [.tmp 6]) (vs := [vb false]) rfl ⟨rfl, trivial⟩ (fun w' hs' => ⟨(), rfl, Step.left (Step.pulled (is := []) (A := []) hs' rfl)⟩)
  · replace H := ite_f (Bool.eq_false_iff.1 hc) H
    refine TC_skip ?_
    refine TX_next ?_
    refine TC_seq ?_
    refine TC_region ?_
    refine TL_v rfl rfl rfl (V_move rfl) ?_
    refine TL_v rfl rfl rfl (V_assign rfl) ?_
    refine TL_nil ?_
    refine TX_next ?_
    refine TC_seq ?_
    refine TC_seq ?_
    refine TC_region ?_
    refine TL_v rfl rfl rfl (V_move rfl) ?_
    refine TL_v rfl rfl rfl (V_bin rfl rfl (fun w => eqlI w bits 256)) ?_
    refine TL_v rfl rfl rfl (V_move rfl) ?_
    refine TL_fork (d := 31) (b := (decide (bits = 256))) rfl (fun hc => ?_) (fun hc => ?_)
    · replace H := ite_t (of_decide_eq_true hc) H
      refine TL_skip rfl rfl rfl rfl rfl rfl rfl ?_
      refine TL_skip rfl rfl rfl rfl rfl rfl rfl ?_
      refine TL_v rfl rfl rfl (V_pick (b := true) rfl rfl) ?_
      refine TL_nil ?_
      refine TX_next ?_
      refine TC_cond_t rfl ?_
      refine TC_region ?_
      refine TL_v rfl rfl rfl (V_move rfl) ?_
      refine TL_v rfl rfl rfl (V_bin rfl rfl (fun w => addI w bits 1)) ?_
      refine TL_v rfl rfl rfl (V_assign rfl) ?_
      obtain ⟨b1, hb1, H⟩ := ltt_elim H
      refine TL_re (d := 7) (v := vi (w64 (bits + 1))) (v' := vi b1) rfl (congrArg vi hb1) ?_
      refine TL_nil ?_
      refine TX_next ?_
      refine TC_seq ?_
      refine TC_region ?_
      refine TL_v rfl rfl rfl (V_move rfl) ?_
      refine TL_v rfl rfl rfl (V_move rfl) ?_
      obtain ⟨r_2, hr_2, H⟩ := bind_elim H
      refine TL_e rfl rfl rfl (E_call (Γ := Unit) (val := fun g => Value.tuple [vs r_2.1, vi r_2.2].toArray) (mem := fun g => []) (vs := [vi b1, vs key, vs ([] : Str)]) (Lin := []) (Ro := []) (is := []) rfl Try.call45 (F45_calls b1 key ([] : Str) r_2 hr_2) rfl trivial) (fun g_2 => ?_)
      refine TL_v rfl rfl rfl (V_move rfl) ?_
      refine TL_v rfl rfl rfl (V_extract (vs := [vs r_2.1, vi r_2.2]) rfl rfl) ?_
      refine TL_v rfl rfl rfl (V_extract (vs := [vs r_2.1, vi r_2.2]) rfl rfl) ?_
      refine TL_v rfl rfl rfl (V_assign rfl) ?_
      refine TL_v rfl rfl rfl (V_assign rfl) ?_
      refine TL_nil ?_
      refine TX_next ?_
      refine TC_seq ?_
      refine TC_region ?_
      refine TL_v rfl rfl rfl (V_move rfl) ?_
      refine TL_v rfl rfl rfl (V_move rfl) ?_
      obtain ⟨r_3, hr_3, H⟩ := bind_elim H
      refine TL_e rfl rfl rfl (E_call (Γ := Unit) (val := fun g => Value.tuple [vs r_3.1, vi r_3.2].toArray) (mem := fun g => []) (vs := [vi b1, vs key, vs ([] : Str)]) (Lin := []) (Ro := []) (is := []) rfl Try.call47 (F47_calls b1 key ([] : Str) r_3 hr_3) rfl trivial) (fun g_3 => ?_)
      refine TL_v rfl rfl rfl (V_move rfl) ?_
      refine TL_v rfl rfl rfl (V_extract (vs := [vs r_3.1, vi r_3.2]) rfl rfl) ?_
      refine TL_v rfl rfl rfl (V_extract (vs := [vs r_3.1, vi r_3.2]) rfl rfl) ?_
      refine TL_v rfl rfl rfl (V_assign rfl) ?_
      refine TL_v rfl rfl rfl (V_assign rfl) ?_
      refine TL_nil ?_
      refine TX_next ?_
      refine TC.sub (m' := [(1, vi size), (2, vs key), (7, vi b1), (9, vi r_2.2), (11, vi r_3.2)]) ⟨rfl, rfl, rfl, rfl, rfl, trivial⟩ ?_
      refine TC_seq ?_
      refine TC_region ?_
      refine TL_v rfl rfl rfl (V_move rfl) ?_
      refine TL_v rfl rfl rfl (V_move rfl) ?_
      obtain ⟨r_4, hr_4, H⟩ := bind_elim H
      refine TL_e rfl rfl rfl (E_call (Γ := Unit) (val := fun g => Value.tuple [vs r_4.1, vi r_4.2].toArray) (mem := fun g => []) (vs := [vi b1, vs key, vs ([] : Str), vi 5]) (Lin := []) (Ro := []) (is := []) rfl Try.call43 (F43_calls b1 key ([] : Str) 5 r_4 hr_4) rfl trivial) (fun g_4 => ?_)
      refine TL_v rfl rfl rfl (V_move rfl) ?_
      refine TL_v rfl rfl rfl (V_extract (vs := [vs r_4.1, vi r_4.2]) rfl rfl) ?_
      refine TL_v rfl rfl rfl (V_extract (vs := [vs r_4.1, vi r_4.2]) rfl rfl) ?_
      refine TL_v rfl rfl rfl (V_assign rfl) ?_
      refine TL_v rfl rfl rfl (V_assign rfl) ?_
      refine TL_nil ?_
      refine TX_next ?_
      refine TC_seq ?_
      refine TC_region ?_
      refine TL_v rfl rfl rfl (V_move rfl) ?_
      refine TL_v rfl rfl rfl (V_move rfl) ?_
      obtain ⟨r_5, hr_5, H⟩ := bind_elim H
      refine TL_e rfl rfl rfl (E_call (Γ := Unit) (val := fun g => Value.tuple [vs r_5.1, vi r_5.2].toArray) (mem := fun g => []) (vs := [vi b1, vs key, vs ([108#8] : Str), vs ([] : Str), vi 5]) (Lin := []) (Ro := []) (is := []) rfl Try.call44 (F44_calls b1 key ([108#8] : Str) ([] : Str) 5 r_5 hr_5) rfl trivial) (fun g_5 => ?_)
      refine TL_v rfl rfl rfl (V_move rfl) ?_
      refine TL_v rfl rfl rfl (V_extract (vs := [vs r_5.1, vi r_5.2]) rfl rfl) ?_
      refine TL_v rfl rfl rfl (V_extract (vs := [vs r_5.1, vi r_5.2]) rfl rfl) ?_
      refine TL_v rfl rfl rfl (V_assign rfl) ?_
      refine TL_v rfl rfl rfl (V_assign rfl) ?_
      refine TL_nil ?_
      refine TX_next ?_
      refine TC_seq ?_
      refine TC_region ?_
      refine TL_v rfl rfl rfl (V_move rfl) ?_
      refine TL_v rfl rfl rfl (V_bin rfl rfl (fun w => andI w size 1023)) ?_
      refine TL_v rfl rfl rfl (V_bin rfl rfl (fun w => addI w 1 (iop (· &&& ·) size 1023))) ?_
      refine TL_v rfl rfl rfl (V_assign rfl) ?_
      obtain ⟨x1, hx1, H⟩ := ltt_elim H
      refine TL_re (d := 16) (v := vi (w64 (1 + (iop (· &&& ·) size 1023)))) (v' := vi x1) rfl (congrArg vi hx1) ?_
      refine TL_nil ?_
      refine TX_next ?_
      refine TC_seq ?_
      refine TC_region ?_
      refine TL_v rfl rfl rfl (V_move rfl) ?_
      refine TL_v rfl rfl rfl (V_move rfl) ?_
      refine TL_v rfl rfl rfl (V_un rfl (fun w => negI w x1)) ?_
      obtain ⟨r_6, hr_6, H⟩ := bind_elim H
      refine TL_e rfl rfl rfl (E_call (Γ := Unit) (val := fun g => Value.tuple [vs r_6.1, vi r_6.2].toArray) (mem := fun g => []) (vs := [vi 256, vs key, vs ([] : Str), vi (w64 (0 - x1))]) (Lin := []) (Ro := []) (is := []) rfl Try.call43 (F43_calls 256 key ([] : Str) (w64 (0 - x1)) r_6 hr_6) rfl trivial) (fun g_6 => ?_)
      refine TL_v rfl rfl rfl (V_move rfl) ?_
      refine TL_v rfl rfl rfl (V_extract (vs := [vs r_6.1, vi r_6.2]) rfl rfl) ?_
      refine TL_v rfl rfl rfl (V_extract (vs := [vs r_6.1, vi r_6.2]) rfl rfl) ?_
      refine TL_v rfl rfl rfl (V_assign rfl) ?_
      refine TL_v rfl rfl rfl (V_assign rfl) ?_
      refine TL_nil ?_
      refine TX_next ?_
      refine TC.sub (m' := [(2, vs key), (9, vi r_2.2), (11, vi r_3.2), (13, vi r_4.2), (15, vi r_5.2), (16, vi x1), (18, vi r_6.2)]) ⟨rfl, rfl, rfl, rfl, rfl, rfl, rfl, trivial⟩ ?_
      refine TC_seq ?_
      refine TC_region ?_
      refine TL_v rfl rfl rfl (V_move rfl) ?_
      refine TL_v rfl rfl rfl (V_move rfl) ?_
      refine TL_v rfl rfl rfl (V_bin rfl rfl (fun w => addI w 8160 x1)) ?_
      obtain ⟨r_7, hr_7, H⟩ := bind_elim H
      refine TL_e rfl rfl rfl (E_call (Γ := Unit) (val := fun g => Value.tuple [vs r_7.1, vi r_7.2].toArray) (mem := fun g => []) (vs := [vi 256, vs key, vs ([] : Str), vi (w64 (8160 + x1))]) (Lin := []) (Ro := []) (is := []) rfl Try.call43 (F43_calls 256 key ([] : Str) (w64 (8160 + x1)) r_7 hr_7) rfl trivial) (fun g_7 => ?_)
      refine TL_v rfl rfl rfl (V_move rfl) ?_
      refine TL_v rfl rfl rfl (V_extract (vs := [vs r_7.1, vi r_7.2]) rfl rfl) ?_
      refine TL_v rfl rfl rfl (V_extract (vs := [vs r_7.1, vi r_7.2]) rfl rfl) ?_
      refine TL_v rfl rfl rfl (V_assign rfl) ?_
      refine TL_v rfl rfl rfl (V_assign rfl) ?_
      refine TL_nil ?_
      refine TX_next ?_
      refine TC_seq ?_
      refine TC_region ?_
      refine TL_v rfl rfl rfl (V_move rfl) ?_
      refine TL_v rfl rfl rfl (V_move rfl) ?_
      refine TL_v rfl rfl rfl (V_bin rfl rfl (fun w => addI w 12240 x1)) ?_
      obtain ⟨r_8, hr_8, H⟩ := bind_elim H
      refine TL_e rfl rfl rfl (E_call (Γ := Unit) (val := fun g => Value.tuple [vs r_8.1, vi r_8.2].toArray) (mem := fun g => []) (vs := [vi 384, vs key, vs ([] : Str), vi (w64 (12240 + x1))]) (Lin := []) (Ro := []) (is := []) rfl Try.call43 (F43_calls 384 key ([] : Str) (w64 (12240 + x1)) r_8 hr_8) rfl trivial) (fun g_8 => ?_)
      refine TL_v rfl rfl rfl (V_move rfl) ?_
      refine TL_v rfl rfl rfl (V_extract (vs := [vs r_8.1, vi r_8.2]) rfl rfl) ?_
      refine TL_v rfl rfl rfl (V_extract (vs := [vs r_8.1, vi r_8.2]) rfl rfl) ?_
      refine TL_v rfl rfl rfl (V_assign rfl) ?_
      refine TL_v rfl rfl rfl (V_assign rfl) ?_
      refine TL_nil ?_
      refine TX_next ?_
      refine TC_seq ?_
      refine TC_region ?_
      refine TL_v rfl rfl rfl (V_move rfl) ?_
      obtain ⟨r_9, hr_9, H⟩ := bind_elim H
      refine TL_e rfl rfl rfl (E_call (Γ := Unit) (val := fun g => Value.tuple [vs r_9.1, vi r_9.2].toArray) (mem := fun g => []) (vs := [vi 384, vs key, vs ([] : Str), vi 0]) (Lin := []) (Ro := []) (is := []) rfl Try.call43 (F43_calls 384 key ([] : Str) 0 r_9 hr_9) rfl trivial) (fun g_9 => ?_)
      refine TL_v rfl rfl rfl (V_move rfl) ?_
      refine TL_v rfl rfl rfl (V_extract (vs := [vs r_9.1, vi r_9.2]) rfl rfl) ?_
      refine TL_v rfl rfl rfl (V_extract (vs := [vs r_9.1, vi r_9.2]) rfl rfl) ?_
      refine TL_v rfl rfl rfl (V_assign rfl) ?_
      refine TL_v rfl rfl rfl (V_assign rfl) ?_
      refine TL_nil ?_
      refine TX_next ?_
      refine TC.sub (m' := [(9, vi r_2.2), (11, vi r_3.2), (13, vi r_4.2), (15, vi r_5.2), (18, vi r_6.2), (20, vi r_7.2), (22, vi r_8.2), (23, vs r_9.1), (24, vi r_9.2)]) ⟨rfl, rfl, rfl, rfl, rfl, rfl, rfl, rfl, rfl, trivial⟩ ?_
      refine TC_seq ?_
      refine TC_region ?_
      refine TL_v rfl rfl rfl (V_assign rfl) ?_
      refine TL_nil ?_
      refine TX_next ?_
      refine TC_seq ?_
      refine TC_region ?_
      refine TL_v rfl rfl rfl (V_move rfl) ?_
      obtain ⟨r_10, hr_10, H⟩ := bind_elim H
      refine TL_e rfl rfl rfl (E_call (Γ := Unit) (val := fun g => vi r_10) (mem := fun g => []) (vs := [vi r_2.2]) (Lin := []) (Ro := []) (is := []) rfl Try.call25 (F25_calls r_2.2 r_10 hr_10) rfl trivial) (fun g_10 => ?_)
      refine TL_v rfl rfl rfl (V_move rfl) ?_
      refine TL_v rfl rfl rfl (V_bin rfl rfl (fun w => eqlI w r_10 300)) ?_
      refine TL_v rfl rfl rfl (V_move rfl) ?_
      refine TL_fork (d := 94) (b := (decide (r_10 = 300))) rfl (fun hc => ?_) (fun hc => ?_)
      · replace H := ite_t (of_decide_eq_true hc) H
        refine TL_want rfl rfl rfl rfl rfl rfl (V_move rfl) ?_
        obtain ⟨r_11, hr_11, H⟩ := bind_elim H
        refine TL_wantE rfl rfl rfl rfl rfl rfl (E_call (Γ := Unit) (val := fun g => vi r_11) (mem := fun g => []) (vs := [vi r_3.2]) (Lin := []) (Ro := []) (is := []) rfl Try.call25 (F25_calls r_3.2 r_11 hr_11) rfl trivial) (fun g_11 => ?_)
        refine TL_want rfl rfl rfl rfl rfl rfl (V_move rfl) ?_
        refine TL_want rfl rfl rfl rfl rfl rfl (V_bin rfl rfl (fun w => eqlI w r_11 300)) ?_
        refine TL_v rfl rfl rfl (V_pick (b := true) rfl rfl) ?_
        refine TL_v rfl rfl rfl (V_move rfl) ?_
        refine TL_fork (d := 100) (b := (decide (r_11 = 300))) rfl (fun hc => ?_) (fun hc => ?_)
        · replace H := ite_t (of_decide_eq_true hc) H
          refine TL_want rfl rfl rfl rfl rfl rfl (V_move rfl) ?_
          obtain ⟨r_12, hr_12, H⟩ := bind_elim H
          refine TL_wantE rfl rfl rfl rfl rfl rfl (E_call (Γ := Unit) (val := fun g => vi r_12) (mem := fun g => []) (vs := [vi r_4.2]) (Lin := []) (Ro := []) (is := []) rfl Try.call25 (F25_calls r_4.2 r_12 hr_12) rfl trivial) (fun g_12 => ?_)
          refine TL_want rfl rfl rfl rfl rfl rfl (V_move rfl) ?_
          refine TL_want rfl rfl rfl rfl rfl rfl (V_bin rfl rfl (fun w => eqlI w r_12 300)) ?_
          refine TL_v rfl rfl rfl (V_pick (b := true) rfl rfl) ?_
          refine TL_v rfl rfl rfl (V_move rfl) ?_
          refine TL_fork (d := 106) (b := (decide (r_12 = 300))) rfl (fun hc => ?_) (fun hc => ?_)
          · replace H := ite_t (of_decide_eq_true hc) H
            refine TL_want rfl rfl rfl rfl rfl rfl (V_move rfl) ?_
            obtain ⟨r_13, hr_13, H⟩ := bind_elim H
            refine TL_wantE rfl rfl rfl rfl rfl rfl (E_call (Γ := Unit) (val := fun g => vi r_13) (mem := fun g => []) (vs := [vi r_5.2]) (Lin := []) (Ro := []) (is := []) rfl Try.call25 (F25_calls r_5.2 r_13 hr_13) rfl trivial) (fun g_13 => ?_)
            refine TL_want rfl rfl rfl rfl rfl rfl (V_move rfl) ?_
            refine TL_want rfl rfl rfl rfl rfl rfl (V_bin rfl rfl (fun w => eqlI w r_13 300)) ?_
            refine TL_v rfl rfl rfl (V_pick (b := true) rfl rfl) ?_
            refine TL_v rfl rfl rfl (V_move rfl) ?_
            refine TL_fork (d := 112) (b := (decide (r_13 = 300))) rfl (fun hc => ?_) (fun hc => ?_)
            · replace H := ite_t (of_decide_eq_true hc) H
              refine TL_want rfl rfl rfl rfl rfl rfl (V_move rfl) ?_
              obtain ⟨r_14, hr_14, H⟩ := bind_elim H
              refine TL_wantE rfl rfl rfl rfl rfl rfl (E_call (Γ := Unit) (val := fun g => vi r_14) (mem := fun g => []) (vs := [vi r_6.2]) (Lin := []) (Ro := []) (is := []) rfl Try.call25 (F25_calls r_6.2 r_14 hr_14) rfl trivial) (fun g_14 => ?_)
              refine TL_want rfl rfl rfl rfl rfl rfl (V_move rfl) ?_
              refine TL_want rfl rfl rfl rfl rfl rfl (V_bin rfl rfl (fun w => eqlI w r_14 300)) ?_
              refine TL_v rfl rfl rfl (V_pick (b := true) rfl rfl) ?_
              refine TL_v rfl rfl rfl (V_move rfl) ?_
              refine TL_fork (d := 118) (b := (decide (r_14 = 300))) rfl (fun hc => ?_) (fun hc => ?_)
              · replace H := ite_t (of_decide_eq_true hc) H
                refine TL_want rfl rfl rfl rfl rfl rfl (V_move rfl) ?_
                obtain ⟨r_15, hr_15, H⟩ := bind_elim H
                refine TL_wantE rfl rfl rfl rfl rfl rfl (E_call (Γ := Unit) (val := fun g => vi r_15) (mem := fun g => []) (vs := [vi r_7.2]) (Lin := []) (Ro := []) (is := []) rfl Try.call25 (F25_calls r_7.2 r_15 hr_15) rfl trivial) (fun g_15 => ?_)
                refine TL_want rfl rfl rfl rfl rfl rfl (V_move rfl) ?_
                refine TL_want rfl rfl rfl rfl rfl rfl (V_bin rfl rfl (fun w => eqlI w r_15 300)) ?_
                refine TL_v rfl rfl rfl (V_pick (b := true) rfl rfl) ?_
                refine TL_v rfl rfl rfl (V_move rfl) ?_
                refine TL_fork (d := 124) (b := (decide (r_15 = 300))) rfl (fun hc => ?_) (fun hc => ?_)
                · replace H := ite_t (of_decide_eq_true hc) H
                  refine TL_want rfl rfl rfl rfl rfl rfl (V_move rfl) ?_
                  obtain ⟨r_16, hr_16, H⟩ := bind_elim H
                  refine TL_wantE rfl rfl rfl rfl rfl rfl (E_call (Γ := Unit) (val := fun g => vi r_16) (mem := fun g => []) (vs := [vi r_8.2]) (Lin := []) (Ro := []) (is := []) rfl Try.call25 (F25_calls r_8.2 r_16 hr_16) rfl trivial) (fun g_16 => ?_)
                  refine TL_want rfl rfl rfl rfl rfl rfl (V_move rfl) ?_
                  refine TL_want rfl rfl rfl rfl rfl rfl (V_bin rfl rfl (fun w => eqlI w r_16 300)) ?_
                  refine TL_v rfl rfl rfl (V_pick (b := true) rfl rfl) ?_
                  refine TL_v rfl rfl rfl (V_move rfl) ?_
                  refine TL_fork (d := 130) (b := (decide (r_16 = 300))) rfl (fun hc => ?_) (fun hc => ?_)
                  · replace H := ite_t (of_decide_eq_true hc) H
                    refine TL_want rfl rfl rfl rfl rfl rfl (V_move rfl) ?_
                    refine TL_want rfl rfl rfl rfl rfl rfl (V_bin rfl rfl (fun w => eqlS w r_9.1 ([] : Str))) ?_
                    refine TL_v rfl rfl rfl (V_pick (b := true) rfl rfl) ?_
                    refine TL_v rfl rfl rfl (V_move rfl) ?_
                    refine TL_fork (d := 134) (b := (decide (r_9.1 = ([] : Str)))) rfl (fun hc => ?_) (fun hc => ?_)
                    · replace H := ite_t (of_decide_eq_true hc) H
                      refine TL_want rfl rfl rfl rfl rfl rfl (V_move rfl) ?_
                      obtain ⟨r_17, hr_17, H⟩ := bind_elim H
                      refine TL_wantE rfl rfl rfl rfl rfl rfl (E_call (Γ := Unit) (val := fun g => vi r_17) (mem := fun g => []) (vs := [vi r_9.2]) (Lin := []) (Ro := []) (is := []) rfl Try.call25 (F25_calls r_9.2 r_17 hr_17) rfl trivial) (fun g_17 => ?_)
                      refine TL_want rfl rfl rfl rfl rfl rfl (V_bin rfl rfl (fun w => eqlI w r_17 0)) ?_
                      refine TL_v rfl rfl rfl (V_pick (b := true) rfl rfl) ?_
                      refine TL_v rfl rfl rfl (V_assign rfl) ?_
                      obtain ⟨x2, hx2, H⟩ := ltt_elim H
                      refine TL_re (d := 6) (v := vb (decide (r_17 = 0))) (v' := vb x2) rfl (congrArg vb hx2) ?_
                      refine TL_nil ?_
                      refine TX_next ?_
                      refine TC.sub (m' := [(6, vb x2)]) ⟨rfl, trivial⟩ ?_
                      refine TC_ret ?_
                      have hrv := Option.some.inj H
                      subst hrv
                      exact TX_ret (rs := [.tmp 6]) (vs := [vb x2]) rfl ⟨rfl, trivial⟩ (fun w' hs' => ⟨(), rfl, Step.left (Step.pulled (is := []) (A := []) hs' rfl)⟩)
                    · replace H := ite_f (of_decide_eq_false hc) H
                      refine TL_skip rfl rfl rfl rfl rfl rfl rfl ?_
                      refine TL_skip rfl rfl rfl rfl rfl rfl rfl ?_
                      refine TL_skip rfl rfl rfl rfl rfl rfl rfl ?_
                      refine TL_v rfl rfl rfl (V_pick (b := false) rfl rfl) ?_
                      refine TL_v rfl rfl rfl (V_assign rfl) ?_
                      refine TL_nil ?_
                      refine TX_next ?_
                      refine TC.sub (m' := [(6, vb false)]) ⟨rfl, trivial⟩ ?_
                      refine TC_ret ?_
                      have hrv := Option.some.inj H
                      subst hrv
                      exact TX_ret (rs := [.tmp 6]) (vs := [vb false]) rfl ⟨rfl, trivial⟩ (fun w' hs' => ⟨(), rfl, Step.left (Step.pulled (is := []) (A := []) hs' rfl)⟩)
                  · replace H := ite_f (of_decide_eq_false hc) H
                    refine TL_skip rfl rfl rfl rfl rfl rfl rfl ?_
                    refine TL_skip rfl rfl rfl rfl rfl rfl rfl ?_
                    refine TL_v rfl rfl rfl (V_pick (b := false) rfl rfl) ?_
                    refine TL_v rfl rfl rfl (V_move rfl) ?_
                    refine TL_skip rfl rfl rfl rfl rfl rfl rfl ?_
                    refine TL_skip rfl rfl rfl rfl rfl rfl rfl ?_
                    refine TL_skip rfl rfl rfl rfl rfl rfl rfl ?_
                    refine TL_v rfl rfl rfl (V_pick (b := false) rfl rfl) ?_
                    refine TL_v rfl rfl rfl (V_assign rfl) ?_
                    refine TL_nil ?_
                    refine TX_next ?_
                    refine TC.sub (m' := [(6, vb false)]) ⟨rfl, trivial⟩ ?_
                    refine TC_ret ?_
                    have hrv := Option.some.inj H
                    subst hrv
                    exact TX_ret (rs := [.tmp 6]) (vs := [vb false]) rfl ⟨rfl, trivial⟩ (fun w' hs' => ⟨(), rfl, Step.left (Step.pulled (is := []) (A := []) hs' rfl)⟩)
                · replace H := ite_f (of_decide_eq_false hc) H
                  refine TL_skip rfl rfl rfl rfl rfl rfl rfl ?_
                  refine TL_skip rfl rfl rfl rfl rfl rfl rfl ?_
                  refine TL_skip rfl rfl rfl rfl rfl rfl rfl ?_
                  refine TL_skip rfl rfl rfl rfl rfl rfl rfl ?_
                  refine TL_v rfl rfl rfl (V_pick (b := false) rfl rfl) ?_
                  refine TL_v rfl rfl rfl (V_move rfl) ?_
                  refine TL_skip rfl rfl rfl rfl rfl rfl rfl ?_
                  refine TL_skip rfl rfl rfl rfl rfl rfl rfl ?_
                  refine TL_v rfl rfl rfl (V_pick (b := false) rfl rfl) ?_
                  refine TL_v rfl rfl rfl (V_move rfl) ?_
                  refine TL_skip rfl rfl rfl rfl rfl rfl rfl ?_
                  refine TL_skip rfl rfl rfl rfl rfl rfl rfl ?_
                  refine TL_skip rfl rfl rfl rfl rfl rfl rfl ?_
                  refine TL_v rfl rfl rfl (V_pick (b := false) rfl rfl) ?_
                  refine TL_v rfl rfl rfl (V_assign rfl) ?_
                  refine TL_nil ?_
                  refine TX_next ?_
                  refine TC.sub (m' := [(6, vb false)]) ⟨rfl, trivial⟩ ?_
                  refine TC_ret ?_
                  have hrv := Option.some.inj H
                  subst hrv
                  exact TX_ret (rs := [.tmp 6]) (vs := [vb false]) rfl ⟨rfl, trivial⟩ (fun w' hs' => ⟨(), rfl, Step.left (Step.pulled (is := []) (A := []) hs' rfl)⟩)
              · replace H := ite_f (of_decide_eq_false hc) H
                refine TL_skip rfl rfl rfl rfl rfl rfl rfl ?_
                refine TL_skip rfl rfl rfl rfl rfl rfl rfl ?_
                refine TL_skip rfl rfl rfl rfl rfl rfl rfl ?_
                refine TL_skip rfl rfl rfl rfl rfl rfl rfl ?_
                refine TL_v rfl rfl rfl (V_pick (b := false) rfl rfl) ?_
                refine TL_v rfl rfl rfl (V_move rfl) ?_
                refine TL_skip rfl rfl rfl rfl rfl rfl rfl ?_
                refine TL_skip rfl rfl rfl rfl rfl rfl rfl ?_
                refine TL_skip rfl rfl rfl rfl rfl rfl rfl ?_
                refine TL_skip rfl rfl rfl rfl rfl rfl rfl ?_
                refine TL_v rfl rfl rfl (V_pick (b := false) rfl rfl) ?_
                refine TL_v rfl rfl rfl (V_move rfl) ?_
                refine TL_skip rfl rfl rfl rfl rfl rfl rfl ?_
                refine TL_skip rfl rfl rfl rfl rfl rfl rfl ?_
                refine TL_v rfl rfl rfl (V_pick (b := false) rfl rfl) ?_
                refine TL_v rfl rfl rfl (V_move rfl) ?_
                refine TL_skip rfl rfl rfl rfl rfl rfl rfl ?_
                refine TL_skip rfl rfl rfl rfl rfl rfl rfl ?_
                refine TL_skip rfl rfl rfl rfl rfl rfl rfl ?_
                refine TL_v rfl rfl rfl (V_pick (b := false) rfl rfl) ?_
                refine TL_v rfl rfl rfl (V_assign rfl) ?_
                refine TL_nil ?_
                refine TX_next ?_
                refine TC.sub (m' := [(6, vb false)]) ⟨rfl, trivial⟩ ?_
                refine TC_ret ?_
                have hrv := Option.some.inj H
                subst hrv
                exact TX_ret (rs := [.tmp 6]) (vs := [vb false]) rfl ⟨rfl, trivial⟩ (fun w' hs' => ⟨(), rfl, Step.left (Step.pulled (is := []) (A := []) hs' rfl)⟩)
            · replace H := ite_f (of_decide_eq_false hc) H
              refine TL_skip rfl rfl rfl rfl rfl rfl rfl ?_
              refine TL_skip rfl rfl rfl rfl rfl rfl rfl ?_
              refine TL_skip rfl rfl rfl rfl rfl rfl rfl ?_
              refine TL_skip rfl rfl rfl rfl rfl rfl rfl ?_
              refine TL_v rfl rfl rfl (V_pick (b := false) rfl rfl) ?_
              refine TL_v rfl rfl rfl (V_move rfl) ?_
              refine TL_skip rfl rfl rfl rfl rfl rfl rfl ?_
              refine TL_skip rfl rfl rfl rfl rfl rfl rfl ?_
              refine TL_skip rfl rfl rfl rfl rfl rfl rfl ?_
              refine TL_skip rfl rfl rfl rfl rfl rfl rfl ?_
              refine TL_v rfl rfl rfl (V_pick (b := false) rfl rfl) ?_
              refine TL_v rfl rfl rfl (V_move rfl) ?_
              refine TL_skip rfl rfl rfl rfl rfl rfl rfl ?_
              refine TL_skip rfl rfl rfl rfl rfl rfl rfl ?_
              refine TL_skip rfl rfl rfl rfl rfl rfl rfl ?_
              refine TL_skip rfl rfl rfl rfl rfl rfl rfl ?_
              refine TL_v rfl rfl rfl (V_pick (b := false) rfl rfl) ?_
              refine TL_v rfl rfl rfl (V_move rfl) ?_
              refine TL_skip rfl rfl rfl rfl rfl rfl rfl ?_
              refine TL_skip rfl rfl rfl rfl rfl rfl rfl ?_
              refine TL_v rfl rfl rfl (V_pick (b := false) rfl rfl) ?_
              refine TL_v rfl rfl rfl (V_move rfl) ?_
              refine TL_skip rfl rfl rfl rfl rfl rfl rfl ?_
              refine TL_skip rfl rfl rfl rfl rfl rfl rfl ?_
              refine TL_skip rfl rfl rfl rfl rfl rfl rfl ?_
              refine TL_v rfl rfl rfl (V_pick (b := false) rfl rfl) ?_
              refine TL_v rfl rfl rfl (V_assign rfl) ?_
              refine TL_nil ?_
              refine TX_next ?_
              refine TC.sub (m' := [(6, vb false)]) ⟨rfl, trivial⟩ ?_
              refine TC_ret ?_
              have hrv := Option.some.inj H
              subst hrv
              exact TX_ret (rs := [.tmp 6]) (vs := [vb false]) rfl ⟨rfl, trivial⟩ (fun w' hs' => ⟨(), rfl, Step.left (Step.pulled (is := []) (A := []) hs' rfl)⟩)
          · replace H := ite_f (of_decide_eq_false hc) H
            refine TL_skip rfl rfl rfl rfl rfl rfl rfl ?_
            refine TL_skip rfl rfl rfl rfl rfl rfl rfl ?_
            refine TL_skip rfl rfl rfl rfl rfl rfl rfl ?_
            refine TL_skip rfl rfl rfl rfl rfl rfl rfl ?_
            refine TL_v rfl rfl rfl (V_pick (b := false) rfl rfl) ?_
            refine TL_v rfl rfl rfl (V_move rfl) ?_
            refine TL_skip rfl rfl rfl rfl rfl rfl rfl ?_
            refine TL_skip rfl rfl rfl rfl rfl rfl rfl ?_
            refine TL_skip rfl rfl rfl rfl rfl rfl rfl ?_
            refine TL_skip rfl rfl rfl rfl rfl rfl rfl ?_
            refine TL_v rfl rfl rfl (V_pick (b := false) rfl rfl) ?_
            refine TL_v rfl rfl rfl (V_move rfl) ?_
            refine TL_skip rfl rfl rfl rfl rfl rfl rfl ?_
            refine TL_skip rfl rfl rfl rfl rfl rfl rfl ?_
            refine TL_skip rfl rfl rfl rfl rfl rfl rfl ?_
            refine TL_skip rfl rfl rfl rfl rfl rfl rfl ?_
            refine TL_v rfl rfl rfl (V_pick (b := false) rfl rfl) ?_
            refine TL_v rfl rfl rfl (V_move rfl) ?_
            refine TL_skip rfl rfl rfl rfl rfl rfl rfl ?_
            refine TL_skip rfl rfl rfl rfl rfl rfl rfl ?_
            refine TL_skip rfl rfl rfl rfl rfl rfl rfl ?_
            refine TL_skip rfl rfl rfl rfl rfl rfl rfl ?_
            refine TL_v rfl rfl rfl (V_pick (b := false) rfl rfl) ?_
            refine TL_v rfl rfl rfl (V_move rfl) ?_
            refine TL_skip rfl rfl rfl rfl rfl rfl rfl ?_
            refine TL_skip rfl rfl rfl rfl rfl rfl rfl ?_
            refine TL_v rfl rfl rfl (V_pick (b := false) rfl rfl) ?_
            refine TL_v rfl rfl rfl (V_move rfl) ?_
            refine TL_skip rfl rfl rfl rfl rfl rfl rfl ?_
            refine TL_skip rfl rfl rfl rfl rfl rfl rfl ?_
            refine TL_skip rfl rfl rfl rfl rfl rfl rfl ?_
            refine TL_v rfl rfl rfl (V_pick (b := false) rfl rfl) ?_
            refine TL_v rfl rfl rfl (V_assign rfl) ?_
            refine TL_nil ?_
            refine TX_next ?_
            refine TC.sub (m' := [(6, vb false)]) ⟨rfl, trivial⟩ ?_
            refine TC_ret ?_
            have hrv := Option.some.inj H
            subst hrv
            exact TX_ret (rs := [.tmp 6]) (vs := [vb false]) rfl ⟨rfl, trivial⟩ (fun w' hs' => ⟨(), rfl, Step.left (Step.pulled (is := []) (A := []) hs' rfl)⟩)
        · replace H := ite_f (of_decide_eq_false hc) H
          refine TL_skip rfl rfl rfl rfl rfl rfl rfl ?_
          refine TL_skip rfl rfl rfl rfl rfl rfl rfl ?_
          refine TL_skip rfl rfl rfl rfl rfl rfl rfl ?_
          refine TL_skip rfl rfl rfl rfl rfl rfl rfl ?_
          refine TL_v rfl rfl rfl (V_pick (b := false) rfl rfl) ?_
          refine TL_v rfl rfl rfl (V_move rfl) ?_
          refine TL_skip rfl rfl rfl rfl rfl rfl rfl ?_
          refine TL_skip rfl rfl rfl rfl rfl rfl rfl ?_
          refine TL_skip rfl rfl rfl rfl rfl rfl rfl ?_
          refine TL_skip rfl rfl rfl rfl rfl rfl rfl ?_
          refine TL_v rfl rfl rfl (V_pick (b := false) rfl rfl) ?_
          refine TL_v rfl rfl rfl (V_move rfl) ?_
          refine TL_skip rfl rfl rfl rfl rfl rfl rfl ?_
          refine TL_skip rfl rfl rfl rfl rfl rfl rfl ?_
          refine TL_skip rfl rfl rfl rfl rfl rfl rfl ?_
          refine TL_skip rfl rfl rfl rfl rfl rfl rfl ?_
          refine TL_v rfl rfl rfl (V_pick (b := false) rfl rfl) ?_
          refine TL_v rfl rfl rfl (V_move rfl) ?_
          refine TL_skip rfl rfl rfl rfl rfl rfl rfl ?_
          refine TL_skip rfl rfl rfl rfl rfl rfl rfl ?_
          refine TL_skip rfl rfl rfl rfl rfl rfl rfl ?_
          refine TL_skip rfl rfl rfl rfl rfl rfl rfl ?_
          refine TL_v rfl rfl rfl (V_pick (b := false) rfl rfl) ?_
          refine TL_v rfl rfl rfl (V_move rfl) ?_
          refine TL_skip rfl rfl rfl rfl rfl rfl rfl ?_
          refine TL_skip rfl rfl rfl rfl rfl rfl rfl ?_
          refine TL_skip rfl rfl rfl rfl rfl rfl rfl ?_
          refine TL_skip rfl rfl rfl rfl rfl rfl rfl ?_
          refine TL_v rfl rfl rfl (V_pick (b := false) rfl rfl) ?_
          refine TL_v rfl rfl rfl (V_move rfl) ?_
          refine TL_skip rfl rfl rfl rfl rfl rfl rfl ?_
          refine TL_skip rfl rfl rfl rfl rfl rfl rfl ?_
          refine TL_v rfl rfl rfl (V_pick (b := false) rfl rfl) ?_
          refine TL_v rfl rfl rfl (V_move rfl) ?_
          refine TL_skip rfl rfl rfl rfl rfl rfl rfl ?_
          refine TL_skip rfl rfl rfl rfl rfl rfl rfl ?_
          refine TL_skip rfl rfl rfl rfl rfl rfl rfl ?_
          refine TL_v rfl rfl rfl (V_pick (b := false) rfl rfl) ?_
          refine TL_v rfl rfl rfl (V_assign rfl) ?_
          refine TL_nil ?_
          refine TX_next ?_
          refine TC.sub (m' := [(6, vb false)]) ⟨rfl, trivial⟩ ?_
          refine TC_ret ?_
          have hrv := Option.some.inj H
          subst hrv
          exact TX_ret (rs := [.tmp 6]) (vs := [vb false]) rfl ⟨rfl, trivial⟩ (fun w' hs' => ⟨(), rfl, Step.left (Step.pulled (is := []) (A := []) hs' rfl)⟩)
      · replace H := ite_f (of_decide_eq_false hc) H
        refine TL_skip rfl rfl rfl rfl rfl rfl rfl ?_
        refine TL_skip rfl rfl rfl rfl rfl rfl rfl ?_
        refine TL_skip rfl rfl rfl rfl rfl rfl rfl ?_
        refine TL_skip rfl rfl rfl rfl rfl rfl rfl ?_
        refine TL_v rfl rfl rfl (V_pick (b := false) rfl rfl) ?_
        refine TL_v rfl rfl rfl (V_move rfl) ?_
        refine TL_skip rfl rfl rfl rfl rfl rfl rfl ?_
        refine TL_skip rfl rfl rfl rfl rfl rfl rfl ?_
        refine TL_skip rfl rfl rfl rfl rfl rfl rfl ?_
        refine TL_skip rfl rfl rfl rfl rfl rfl rfl ?_
        refine TL_v rfl rfl rfl (V_pick (b := false) rfl rfl) ?_
        refine TL_v rfl rfl rfl (V_move rfl) ?_
        refine TL_skip rfl rfl rfl rfl rfl rfl rfl ?_
        refine TL_skip rfl rfl rfl rfl rfl rfl rfl ?_
        refine TL_skip rfl rfl rfl rfl rfl rfl rfl ?_
        refine TL_skip rfl rfl rfl rfl rfl rfl rfl ?_
        refine TL_v rfl rfl rfl (V_pick (b := false) rfl rfl) ?_
        refine TL_v rfl rfl rfl (V_move rfl) ?_
        refine TL_skip rfl rfl rfl rfl rfl rfl rfl ?_
        refine TL_skip rfl rfl rfl rfl rfl rfl rfl ?_
        refine TL_skip rfl rfl rfl rfl rfl rfl rfl ?_
        refine TL_skip rfl rfl rfl rfl rfl rfl rfl ?_
        refine TL_v rfl rfl rfl (V_pick (b := false) rfl rfl) ?_
        refine TL_v rfl rfl rfl (V_move rfl) ?_
        refine TL_skip rfl rfl rfl rfl rfl rfl rfl ?_
        refine TL_skip rfl rfl rfl rfl rfl rfl rfl ?_
        refine TL_skip rfl rfl rfl rfl rfl rfl rfl ?_
        refine TL_skip rfl rfl rfl rfl rfl rfl rfl ?_
        refine TL_v rfl rfl rfl (V_pick (b := false) rfl rfl) ?_
        refine TL_v rfl rfl rfl (V_move rfl) ?_
        refine TL_skip rfl rfl rfl rfl rfl rfl rfl ?_
        refine TL_skip rfl rfl rfl rfl rfl rfl rfl ?_
        refine TL_skip rfl rfl rfl rfl rfl rfl rfl ?_
        refine TL_skip rfl rfl rfl rfl rfl rfl rfl ?_
        refine TL_v rfl rfl rfl (V_pick (b := false) rfl rfl) ?_
        refine TL_v rfl rfl rfl (V_move rfl) ?_
        refine TL_skip rfl rfl rfl rfl rfl rfl rfl ?_
        refine TL_skip rfl rfl rfl rfl rfl rfl rfl ?_
        refine TL_v rfl rfl rfl (V_pick (b := false) rfl rfl) ?_
        refine TL_v rfl rfl rfl (V_move rfl) ?_
        refine TL_skip rfl rfl rfl rfl rfl rfl rfl ?_
        refine TL_skip rfl rfl rfl rfl rfl rfl rfl ?_
        refine TL_skip rfl rfl rfl rfl rfl rfl rfl ?_
        refine TL_v rfl rfl rfl (V_pick (b := false) rfl rfl) ?_
        refine TL_v rfl rfl rfl (V_assign rfl) ?_
        refine TL_nil ?_
        refine TX_next ?_
        refine TC.sub (m' := [(6, vb false)]) ⟨rfl, trivial⟩ ?_
        refine TC_ret ?_
        have hrv := Option.some.inj H
        subst hrv
        exact TX_ret (rs := [.tmp 6]) (vs := [vb false]) rfl ⟨rfl, trivial⟩ (fun w' hs' => ⟨(), rfl, Step.left (Step.pulled (is := []) (A := []) hs' rfl)⟩)
    · replace H := ite_f (of_decide_eq_false hc) H
      refine TL_want rfl rfl rfl rfl rfl rfl (V_move rfl) ?_
      refine TL_want rfl rfl rfl rfl rfl rfl (V_bin rfl rfl (fun w => eqlI w bits 384)) ?_
      refine TL_v rfl rfl rfl (V_pick (b := false) rfl rfl) ?_
      refine TL_nil ?_
      refine TX_next ?_
      obtain ⟨j1, Hj, H⟩ := bind_elim H
      refine TC_join (Γ := Unit) (fun gj1 => [(1, vi size), (2, vs key), (7, vi j1)]) (fun gj1 => []) ?_ ?_
      · intro gj1
        refine TX_next ?_
        refine TC_seq ?_
        refine TC_region ?_
        refine TL_v rfl rfl rfl (V_move rfl) ?_
        refine TL_v rfl rfl rfl (V_move rfl) ?_
        obtain ⟨r_18, hr_18, H⟩ := bind_elim H
        refine TL_e rfl rfl rfl (E_call (Γ := Unit) (val := fun g => Value.tuple [vs r_18.1, vi r_18.2].toArray) (mem := fun g => []) (vs := [vi j1, vs key, vs ([] : Str)]) (Lin := []) (Ro := []) (is := []) rfl Try.call45 (F45_calls j1 key ([] : Str) r_18 hr_18) rfl trivial) (fun g_18 => ?_)
        refine TL_v rfl rfl rfl (V_move rfl) ?_
        refine TL_v rfl rfl rfl (V_extract (vs := [vs r_18.1, vi r_18.2]) rfl rfl) ?_
        refine TL_v rfl rfl rfl (V_extract (vs := [vs r_18.1, vi r_18.2]) rfl rfl) ?_
        refine TL_v rfl rfl rfl (V_assign rfl) ?_
        refine TL_v rfl rfl rfl (V_assign rfl) ?_
        refine TL_nil ?_
        refine TX_next ?_
        refine TC_seq ?_
        refine TC_region ?_
        refine TL_v rfl rfl rfl (V_move rfl) ?_
        refine TL_v rfl rfl rfl (V_move rfl) ?_
        obtain ⟨r_19, hr_19, H⟩ := bind_elim H
        refine TL_e rfl rfl rfl (E_call (Γ := Unit) (val := fun g => Value.tuple [vs r_19.1, vi r_19.2].toArray) (mem := fun g => []) (vs := [vi j1, vs key, vs ([] : Str)]) (Lin := []) (Ro := []) (is := []) rfl Try.call47 (F47_calls j1 key ([] : Str) r_19 hr_19) rfl trivial) (fun g_19 => ?_)
        refine TL_v rfl rfl rfl (V_move rfl) ?_
        refine TL_v rfl rfl rfl (V_extract (vs := [vs r_19.1, vi r_19.2]) rfl rfl) ?_
        refine TL_v rfl rfl rfl (V_extract (vs := [vs r_19.1, vi r_19.2]) rfl rfl) ?_
        refine TL_v rfl rfl rfl (V_assign rfl) ?_
        refine TL_v rfl rfl rfl (V_assign rfl) ?_
        refine TL_nil ?_
        refine TX_next ?_
        refine TC_seq ?_
        refine TC_region ?_
        refine TL_v rfl rfl rfl (V_move rfl) ?_
        refine TL_v rfl rfl rfl (V_move rfl) ?_
        obtain ⟨r_20, hr_20, H⟩ := bind_elim H
        refine TL_e rfl rfl rfl (E_call (Γ := Unit) (val := fun g => Value.tuple [vs r_20.1, vi r_20.2].toArray) (mem := fun g => []) (vs := [vi j1, vs key, vs ([] : Str), vi 5]) (Lin := []) (Ro := []) (is := []) rfl Try.call43 (F43_calls j1 key ([] : Str) 5 r_20 hr_20) rfl trivial) (fun g_20 => ?_)
        refine TL_v rfl rfl rfl (V_move rfl) ?_
        refine TL_v rfl rfl rfl (V_extract (vs := [vs r_20.1, vi r_20.2]) rfl rfl) ?_
        refine TL_v rfl rfl rfl (V_extract (vs := [vs r_20.1, vi r_20.2]) rfl rfl) ?_
        refine TL_v rfl rfl rfl (V_assign rfl) ?_
        refine TL_v rfl rfl rfl (V_assign rfl) ?_
        refine TL_nil ?_
        refine TX_next ?_
        refine TC_seq ?_
        refine TC_region ?_
        refine TL_v rfl rfl rfl (V_move rfl) ?_
        refine TL_v rfl rfl rfl (V_move rfl) ?_
        obtain ⟨r_21, hr_21, H⟩ := bind_elim H
        refine TL_e rfl rfl rfl (E_call (Γ := Unit) (val := fun g => Value.tuple [vs r_21.1, vi r_21.2].toArray) (mem := fun g => []) (vs := [vi j1, vs key, vs ([108#8] : Str), vs ([] : Str), vi 5]) (Lin := []) (Ro := []) (is := []) rfl Try.call44 (F44_calls j1 key ([108#8] : Str) ([] : Str) 5 r_21 hr_21) rfl trivial) (fun g_21 => ?_)
        refine TL_v rfl rfl rfl (V_move rfl) ?_
        refine TL_v rfl rfl rfl (V_extract (vs := [vs r_21.1, vi r_21.2]) rfl rfl) ?_
        refine TL_v rfl rfl rfl (V_extract (vs := [vs r_21.1, vi r_21.2]) rfl rfl) ?_
        refine TL_v rfl rfl rfl (V_assign rfl) ?_
        refine TL_v rfl rfl rfl (V_assign rfl) ?_
        refine TL_nil ?_
        refine TX_next ?_
        refine TC.sub (m' := [(1, vi size), (2, vs key), (9, vi r_18.2), (11, vi r_19.2), (13, vi r_20.2), (15, vi r_21.2)]) ⟨rfl, rfl, rfl, rfl, rfl, rfl, trivial⟩ ?_
        refine TC_seq ?_
        refine TC_region ?_
        refine TL_v rfl rfl rfl (V_move rfl) ?_
        refine TL_v rfl rfl rfl (V_bin rfl rfl (fun w => andI w size 1023)) ?_
        refine TL_v rfl rfl rfl (V_bin rfl rfl (fun w => addI w 1 (iop (· &&& ·) size 1023))) ?_
        refine TL_v rfl rfl rfl (V_assign rfl) ?_
        obtain ⟨x3, hx3, H⟩ := ltt_elim H
        refine TL_re (d := 16) (v := vi (w64 (1 + (iop (· &&& ·) size 1023)))) (v' := vi x3) rfl (congrArg vi hx3) ?_
        refine TL_nil ?_
        refine TX_next ?_
        refine TC_seq ?_
        refine TC_region ?_
        refine TL_v rfl rfl rfl (V_move rfl) ?_
        refine TL_v rfl rfl rfl (V_move rfl) ?_
        refine TL_v rfl rfl rfl (V_un rfl (fun w => negI w x3)) ?_
        obtain ⟨r_22, hr_22, H⟩ := bind_elim H
        refine TL_e rfl rfl rfl (E_call (Γ := Unit) (val := fun g => Value.tuple [vs r_22.1, vi r_22.2].toArray) (mem := fun g => []) (vs := [vi 256, vs key, vs ([] : Str), vi (w64 (0 - x3))]) (Lin := []) (Ro := []) (is := []) rfl Try.call43 (F43_calls 256 key ([] : Str) (w64 (0 - x3)) r_22 hr_22) rfl trivial) (fun g_22 => ?_)
        refine TL_v rfl rfl rfl (V_move rfl) ?_
        refine TL_v rfl rfl rfl (V_extract (vs := [vs r_22.1, vi r_22.2]) rfl rfl) ?_
        refine TL_v rfl rfl rfl (V_extract (vs := [vs r_22.1, vi r_22.2]) rfl rfl) ?_
        refine TL_v rfl rfl rfl (V_assign rfl) ?_
        refine TL_v rfl rfl rfl (V_assign rfl) ?_
        refine TL_nil ?_
        refine TX_next ?_
        refine TC_seq ?_
        refine TC_region ?_
        refine TL_v rfl rfl rfl (V_move rfl) ?_
        refine TL_v rfl rfl rfl (V_move rfl) ?_
        refine TL_v rfl rfl rfl (V_bin rfl rfl (fun w => addI w 8160 x3)) ?_
        obtain ⟨r_23, hr_23, H⟩ := bind_elim H
        refine TL_e rfl rfl rfl (E_call (Γ := Unit) (val := fun g => Value.tuple [vs r_23.1, vi r_23.2].toArray) (mem := fun g => []) (vs := [vi 256, vs key, vs ([] : Str), vi (w64 (8160 + x3))]) (Lin := []) (Ro := []) (is := []) rfl Try.call43 (F43_calls 256 key ([] : Str) (w64 (8160 + x3)) r_23 hr_23) rfl trivial) (fun g_23 => ?_)
        refine TL_v rfl rfl rfl (V_move rfl) ?_
        refine TL_v rfl rfl rfl (V_extract (vs := [vs r_23.1, vi r_23.2]) rfl rfl) ?_
        refine TL_v rfl rfl rfl (V_extract (vs := [vs r_23.1, vi r_23.2]) rfl rfl) ?_
        refine TL_v rfl rfl rfl (V_assign rfl) ?_
        refine TL_v rfl rfl rfl (V_assign rfl) ?_
        refine TL_nil ?_
        refine TX_next ?_
        refine TC_seq ?_
        refine TC_region ?_
        refine TL_v rfl rfl rfl (V_move rfl) ?_
        refine TL_v rfl rfl rfl (V_move rfl) ?_
        refine TL_v rfl rfl rfl (V_bin rfl rfl (fun w => addI w 12240 x3)) ?_
        obtain ⟨r_24, hr_24, H⟩ := bind_elim H
        refine TL_e rfl rfl rfl (E_call (Γ := Unit) (val := fun g => Value.tuple [vs r_24.1, vi r_24.2].toArray) (mem := fun g => []) (vs := [vi 384, vs key, vs ([] : Str), vi (w64 (12240 + x3))]) (Lin := []) (Ro := []) (is := []) rfl Try.call43 (F43_calls 384 key ([] : Str) (w64 (12240 + x3)) r_24 hr_24) rfl trivial) (fun g_24 => ?_)
        refine TL_v rfl rfl rfl (V_move rfl) ?_
        refine TL_v rfl rfl rfl (V_extract (vs := [vs r_24.1, vi r_24.2]) rfl rfl) ?_
        refine TL_v rfl rfl rfl (V_extract (vs := [vs r_24.1, vi r_24.2]) rfl rfl) ?_
        refine TL_v rfl rfl rfl (V_assign rfl) ?_
        refine TL_v rfl rfl rfl (V_assign rfl) ?_
        refine TL_nil ?_
        refine TX_next ?_
        refine TC.sub (m' := [(2, vs key), (9, vi r_18.2), (11, vi r_19.2), (13, vi r_20.2), (15, vi r_21.2), (18, vi r_22.2), (20, vi r_23.2), (22, vi r_24.2)]) ⟨rfl, rfl, rfl, rfl, rfl, rfl, rfl, rfl, trivial⟩ ?_
        refine TC_seq ?_
        refine TC_region ?_
        refine TL_v rfl rfl rfl (V_move rfl) ?_
        obtain ⟨r_25, hr_25, H⟩ := bind_elim H
        refine TL_e rfl rfl rfl (E_call (Γ := Unit) (val := fun g => Value.tuple [vs r_25.1, vi r_25.2].toArray) (mem := fun g => []) (vs := [vi 384, vs key, vs ([] : Str), vi 0]) (Lin := []) (Ro := []) (is := []) rfl Try.call43 (F43_calls 384 key ([] : Str) 0 r_25 hr_25) rfl trivial) (fun g_25 => ?_)
        refine TL_v rfl rfl rfl (V_move rfl) ?_
        refine TL_v rfl rfl rfl (V_extract (vs := [vs r_25.1, vi r_25.2]) rfl rfl) ?_
        refine TL_v rfl rfl rfl (V_extract (vs := [vs r_25.1, vi r_25.2]) rfl rfl) ?_
        refine TL_v rfl rfl rfl (V_assign rfl) ?_
        refine TL_v rfl rfl rfl (V_assign rfl) ?_
        refine TL_nil ?_
        refine TX_next ?_
        refine TC_seq ?_
        refine TC_region ?_
        refine TL_v rfl rfl rfl (V_assign rfl) ?_
        refine TL_nil ?_
        refine TX_next ?_
        refine TC_seq ?_
        refine TC_region ?_
        refine TL_v rfl rfl rfl (V_move rfl) ?_
        obtain ⟨r_26, hr_26, H⟩ := bind_elim H
        refine TL_e rfl rfl rfl (E_call (Γ := Unit) (val := fun g => vi r_26) (mem := fun g => []) (vs := [vi r_18.2]) (Lin := []) (Ro := []) (is := []) rfl Try.call25 (F25_calls r_18.2 r_26 hr_26) rfl trivial) (fun g_26 => ?_)
        refine TL_v rfl rfl rfl (V_move rfl) ?_
        refine TL_v rfl rfl rfl (V_bin rfl rfl (fun w => eqlI w r_26 300)) ?_
        refine TL_v rfl rfl rfl (V_move rfl) ?_
        refine TL_fork (d := 94) (b := (decide (r_26 = 300))) rfl (fun hc => ?_) (fun hc => ?_)
        · replace H := ite_t (of_decide_eq_true hc) H
          refine TL_want rfl rfl rfl rfl rfl rfl (V_move rfl) ?_
          obtain ⟨r_27, hr_27, H⟩ := bind_elim H
          refine TL_wantE rfl rfl rfl rfl rfl rfl (E_call (Γ := Unit) (val := fun g => vi r_27) (mem := fun g => []) (vs := [vi r_19.2]) (Lin := []) (Ro := []) (is := []) rfl Try.call25 (F25_calls r_19.2 r_27 hr_27) rfl trivial) (fun g_27 => ?_)
          refine TL_want rfl rfl rfl rfl rfl rfl (V_move rfl) ?_
          refine TL_want rfl rfl rfl rfl rfl rfl (V_bin rfl rfl (fun w => eqlI w r_27 300)) ?_
          refine TL_v rfl rfl rfl (V_pick (b := true) rfl rfl) ?_
          refine TL_v rfl rfl rfl (V_move rfl) ?_
          refine TL_fork (d := 100) (b := (decide (r_27 = 300))) rfl (fun hc => ?_) (fun hc => ?_)
          · replace H := ite_t (of_decide_eq_true hc) H
            refine TL_want rfl rfl rfl rfl rfl rfl (V_move rfl) ?_
            obtain ⟨r_28, hr_28, H⟩ := bind_elim H
            refine TL_wantE rfl rfl rfl rfl rfl rfl (E_call (Γ := Unit) (val := fun g => vi r_28) (mem := fun g => []) (vs := [vi r_20.2]) (Lin := []) (Ro := []) (is := []) rfl Try.call25 (F25_calls r_20.2 r_28 hr_28) rfl trivial) (fun g_28 => ?_)
            refine TL_want rfl rfl rfl rfl rfl rfl (V_move rfl) ?_
            refine TL_want rfl rfl rfl rfl rfl rfl (V_bin rfl rfl (fun w => eqlI w r_28 300)) ?_
            refine TL_v rfl rfl rfl (V_pick (b := true) rfl rfl) ?_
            refine TL_v rfl rfl rfl (V_move rfl) ?_
            refine TL_fork (d := 106) (b := (decide (r_28 = 300))) rfl (fun hc => ?_) (fun hc => ?_)
            · replace H := ite_t (of_decide_eq_true hc) H
              refine TL_want rfl rfl rfl rfl rfl rfl (V_move rfl) ?_
              obtain ⟨r_29, hr_29, H⟩ := bind_elim H
              refine TL_wantE rfl rfl rfl rfl rfl rfl (E_call (Γ := Unit) (val := fun g => vi r_29) (mem := fun g => []) (vs := [vi r_21.2]) (Lin := []) (Ro := []) (is := []) rfl Try.call25 (F25_calls r_21.2 r_29 hr_29) rfl trivial) (fun g_29 => ?_)
              refine TL_want rfl rfl rfl rfl rfl rfl (V_move rfl) ?_
              refine TL_want rfl rfl rfl rfl rfl rfl (V_bin rfl rfl (fun w => eqlI w r_29 300)) ?_
              refine TL_v rfl rfl rfl (V_pick (b := true) rfl rfl) ?_
              refine TL_v rfl rfl rfl (V_move rfl) ?_
              refine TL_fork (d := 112) (b := (decide (r_29 = 300))) rfl (fun hc => ?_) (fun hc => ?_)
              · replace H := ite_t (of_decide_eq_true hc) H
                refine TL_want rfl rfl rfl rfl rfl rfl (V_move rfl) ?_
                obtain ⟨r_30, hr_30, H⟩ := bind_elim H
                refine TL_wantE rfl rfl rfl rfl rfl rfl (E_call (Γ := Unit) (val := fun g => vi r_30) (mem := fun g => []) (vs := [vi r_22.2]) (Lin := []) (Ro := []) (is := []) rfl Try.call25 (F25_calls r_22.2 r_30 hr_30) rfl trivial) (fun g_30 => ?_)
                refine TL_want rfl rfl rfl rfl rfl rfl (V_move rfl) ?_
                refine TL_want rfl rfl rfl rfl rfl rfl (V_bin rfl rfl (fun w => eqlI w r_30 300)) ?_
                refine TL_v rfl rfl rfl (V_pick (b := true) rfl rfl) ?_
                refine TL_v rfl rfl rfl (V_move rfl) ?_
                refine TL_fork (d := 118) (b := (decide (r_30 = 300))) rfl (fun hc => ?_) (fun hc => ?_)
                · replace H := ite_t (of_decide_eq_true hc) H
                  refine TL_want rfl rfl rfl rfl rfl rfl (V_move rfl) ?_
                  obtain ⟨r_31, hr_31, H⟩ := bind_elim H
                  refine TL_wantE rfl rfl rfl rfl rfl rfl (E_call (Γ := Unit) (val := fun g => vi r_31) (mem := fun g => []) (vs := [vi r_23.2]) (Lin := []) (Ro := []) (is := []) rfl Try.call25 (F25_calls r_23.2 r_31 hr_31) rfl trivial) (fun g_31 => ?_)
                  refine TL_want rfl rfl rfl rfl rfl rfl (V_move rfl) ?_
                  refine TL_want rfl rfl rfl rfl rfl rfl (V_bin rfl rfl (fun w => eqlI w r_31 300)) ?_
                  refine TL_v rfl rfl rfl (V_pick (b := true) rfl rfl) ?_
                  refine TL_v rfl rfl rfl (V_move rfl) ?_
                  refine TL_fork (d := 124) (b := (decide (r_31 = 300))) rfl (fun hc => ?_) (fun hc => ?_)
                  · replace H := ite_t (of_decide_eq_true hc) H
                    refine TL_want rfl rfl rfl rfl rfl rfl (V_move rfl) ?_
                    obtain ⟨r_32, hr_32, H⟩ := bind_elim H
                    refine TL_wantE rfl rfl rfl rfl rfl rfl (E_call (Γ := Unit) (val := fun g => vi r_32) (mem := fun g => []) (vs := [vi r_24.2]) (Lin := []) (Ro := []) (is := []) rfl Try.call25 (F25_calls r_24.2 r_32 hr_32) rfl trivial) (fun g_32 => ?_)
                    refine TL_want rfl rfl rfl rfl rfl rfl (V_move rfl) ?_
                    refine TL_want rfl rfl rfl rfl rfl rfl (V_bin rfl rfl (fun w => eqlI w r_32 300)) ?_
                    refine TL_v rfl rfl rfl (V_pick (b := true) rfl rfl) ?_
                    refine TL_v rfl rfl rfl (V_move rfl) ?_
                    refine TL_fork (d := 130) (b := (decide (r_32 = 300))) rfl (fun hc => ?_) (fun hc => ?_)
                    · replace H := ite_t (of_decide_eq_true hc) H
                      refine TL_want rfl rfl rfl rfl rfl rfl (V_move rfl) ?_
                      refine TL_want rfl rfl rfl rfl rfl rfl (V_bin rfl rfl (fun w => eqlS w r_25.1 ([] : Str))) ?_
                      refine TL_v rfl rfl rfl (V_pick (b := true) rfl rfl) ?_
                      refine TL_v rfl rfl rfl (V_move rfl) ?_
                      refine TL_fork (d := 134) (b := (decide (r_25.1 = ([] : Str)))) rfl (fun hc => ?_) (fun hc => ?_)
                      · replace H := ite_t (of_decide_eq_true hc) H
                        refine TL_want rfl rfl rfl rfl rfl rfl (V_move rfl) ?_
                        obtain ⟨r_33, hr_33, H⟩ := bind_elim H
                        refine TL_wantE rfl rfl rfl rfl rfl rfl (E_call (Γ := Unit) (val := fun g => vi r_33) (mem := fun g => []) (vs := [vi r_25.2]) (Lin := []) (Ro := []) (is := []) rfl Try.call25 (F25_calls r_25.2 r_33 hr_33) rfl trivial) (fun g_33 => ?_)
                        refine TL_want rfl rfl rfl rfl rfl rfl (V_bin rfl rfl (fun w => eqlI w r_33 0)) ?_
                        refine TL_v rfl rfl rfl (V_pick (b := true) rfl rfl) ?_
                        refine TL_v rfl rfl rfl (V_assign rfl) ?_
                        obtain ⟨x4, hx4, H⟩ := ltt_elim H
                        refine TL_re (d := 6) (v := vb (decide (r_33 = 0))) (v' := vb x4) rfl (congrArg vb hx4) ?_
                        refine TL_nil ?_
                        refine TX_next ?_
                        refine TC.sub (m' := [(6, vb x4)]) ⟨rfl, trivial⟩ ?_
                        refine TC_ret ?_
                        have hrv := Option.some.inj H
                        subst hrv
                        exact TX_ret (rs := [.tmp 6]) (vs := [vb x4]) rfl ⟨rfl, trivial⟩ (fun w' hs' => ⟨(), rfl, Step.left (Step.pulled (is := []) (A := []) hs' rfl)⟩)
                      · replace H := ite_f (of_decide_eq_false hc) H
                        refine TL_skip rfl rfl rfl rfl rfl rfl rfl ?_
                        refine TL_skip rfl rfl rfl rfl rfl rfl rfl ?_
                        refine TL_skip rfl rfl rfl rfl rfl rfl rfl ?_
                        refine TL_v rfl rfl rfl (V_pick (b := false) rfl rfl) ?_
                        refine TL_v rfl rfl rfl (V_assign rfl) ?_
                        refine TL_nil ?_
                        refine TX_next ?_
                        refine TC.sub (m' := [(6, vb false)]) ⟨rfl, trivial⟩ ?_
                        refine TC_ret ?_
                        have hrv := Option.some.inj H
                        subst hrv
                        exact TX_ret (rs := [.tmp 6]) (vs := [vb false]) rfl ⟨rfl, trivial⟩ (fun w' hs' => ⟨(), rfl, Step.left (Step.pulled (is := []) (A := []) hs' rfl)⟩)
                    · replace H := ite_f (of_decide_eq_false hc) H
                      refine TL_skip rfl rfl rfl rfl rfl rfl rfl ?_
                      refine TL_skip rfl rfl rfl rfl rfl rfl rfl ?_
                      refine TL_v rfl rfl rfl (V_pick (b := false) rfl rfl) ?_
                      refine TL_v rfl rfl rfl (V_move rfl) ?_
                      refine TL_skip rfl rfl rfl rfl rfl rfl rfl ?_
                      refine TL_skip rfl rfl rfl rfl rfl rfl rfl ?_
                      refine TL_skip rfl rfl rfl rfl rfl rfl rfl ?_
                      refine TL_v rfl rfl rfl (V_pick (b := false) rfl rfl) ?_
                      refine TL_v rfl rfl rfl (V_assign rfl) ?_
                      refine TL_nil ?_
                      refine TX_next ?_
                      refine TC.sub (m' := [(6, vb false)]) ⟨rfl, trivial⟩ ?_
                      refine TC_ret ?_
                      have hrv := Option.some.inj H
                      subst hrv
                      exact TX_ret (rs := [.tmp 6]) (vs := [vb false]) rfl ⟨rfl, trivial⟩ (fun w' hs' => ⟨(), rfl, Step.left (Step.pulled (is := []) (A := []) hs' rfl)⟩)
                  · replace H := ite_f (of_decide_eq_false hc) H
                    refine TL_skip rfl rfl rfl rfl rfl rfl rfl ?_
                    refine TL_skip rfl rfl rfl rfl rfl rfl rfl ?_
                    refine TL_skip rfl rfl rfl rfl rfl rfl rfl ?_
                    refine TL_skip rfl rfl rfl rfl rfl rfl rfl ?_
                    refine TL_v rfl rfl rfl (V_pick (b := false) rfl rfl) ?_
                    refine TL_v rfl rfl rfl (V_move rfl) ?_
                    refine TL_skip rfl rfl rfl rfl rfl rfl rfl ?_
                    refine TL_skip rfl rfl rfl rfl rfl rfl rfl ?_
                    refine TL_v rfl rfl rfl (V_pick (b := false) rfl rfl) ?_
                    refine TL_v rfl rfl rfl (V_move rfl) ?_
                    refine TL_skip rfl rfl rfl rfl rfl rfl rfl ?_
                    refine TL_skip rfl rfl rfl rfl rfl rfl rfl ?_
                    refine TL_skip rfl rfl rfl rfl rfl rfl rfl ?_
                    refine TL_v rfl rfl rfl (V_pick (b := false) rfl rfl) ?_
                    refine TL_v rfl rfl rfl (V_assign rfl) ?_
                    refine TL_nil ?_
                    refine TX_next ?_
                    refine TC.sub (m' := [(6, vb false)]) ⟨rfl, trivial⟩ ?_
                    refine TC_ret ?_
                    have hrv := Option.some.inj H
                    subst hrv
                    exact TX_ret (rs := [.tmp 6]) (vs := [vb false]) rfl ⟨rfl, trivial⟩ (fun w' hs' => ⟨(), rfl, Step.left (Step.pulled (is := []) (A := []) hs' rfl)⟩)
                · replace H := ite_f (of_decide_eq_false hc) H
                  refine TL_skip rfl rfl rfl rfl rfl rfl rfl ?_
                  refine TL_skip rfl rfl rfl rfl rfl rfl rfl ?_
                  refine TL_skip rfl rfl rfl rfl rfl rfl rfl ?_
                  refine TL_skip rfl rfl rfl rfl rfl rfl rfl ?_
                  refine TL_v rfl rfl rfl (V_pick (b := false) rfl rfl) ?_
                  refine TL_v rfl rfl rfl (V_move rfl) ?_
                  refine TL_skip rfl rfl rfl rfl rfl rfl rfl ?_
                  refine TL_skip rfl rfl rfl rfl rfl rfl rfl ?_
                  refine TL_skip rfl rfl rfl rfl rfl rfl rfl ?_
                  refine TL_skip rfl rfl rfl rfl rfl rfl rfl ?_
                  refine TL_v rfl rfl rfl (V_pick (b := false) rfl rfl) ?_
                  refine TL_v rfl rfl rfl (V_move rfl) ?_
                  refine TL_skip rfl rfl rfl rfl rfl rfl rfl ?_
                  refine TL_skip rfl rfl rfl rfl rfl rfl rfl ?_
                  refine TL_v rfl rfl rfl (V_pick (b := false) rfl rfl) ?_
                  refine TL_v rfl rfl rfl (V_move rfl) ?_
                  refine TL_skip rfl rfl rfl rfl rfl rfl rfl ?_
                  refine TL_skip rfl rfl rfl rfl rfl rfl rfl ?_
                  refine TL_skip rfl rfl rfl rfl rfl rfl rfl ?_
                  refine TL_v rfl rfl rfl (V_pick (b := false) rfl rfl) ?_
                  refine TL_v rfl rfl rfl (V_assign rfl) ?_
                  refine TL_nil ?_
                  refine TX_next ?_
                  refine TC.sub (m' := [(6, vb false)]) ⟨rfl, trivial⟩ ?_
                  refine TC_ret ?_
                  have hrv := Option.some.inj H
                  subst hrv
                  exact TX_ret (rs := [.tmp 6]) (vs := [vb false]) rfl ⟨rfl, trivial⟩ (fun w' hs' => ⟨(), rfl, Step.left (Step.pulled (is := []) (A := []) hs' rfl)⟩)
              · replace H := ite_f (of_decide_eq_false hc) H
                refine TL_skip rfl rfl rfl rfl rfl rfl rfl ?_
                refine TL_skip rfl rfl rfl rfl rfl rfl rfl ?_
                refine TL_skip rfl rfl rfl rfl rfl rfl rfl ?_
                refine TL_skip rfl rfl rfl rfl rfl rfl rfl ?_
                refine TL_v rfl rfl rfl (V_pick (b := false) rfl rfl) ?_
                refine TL_v rfl rfl rfl (V_move rfl) ?_
                refine TL_skip rfl rfl rfl rfl rfl rfl rfl ?_
                refine TL_skip rfl rfl rfl rfl rfl rfl rfl ?_
                refine TL_skip rfl rfl rfl rfl rfl rfl rfl ?_
                refine TL_skip rfl rfl rfl rfl rfl rfl rfl ?_
                refine TL_v rfl rfl rfl (V_pick (b := false) rfl rfl) ?_
                refine TL_v rfl rfl rfl (V_move rfl) ?_
                refine TL_skip rfl rfl rfl rfl rfl rfl rfl ?_
                refine TL_skip rfl rfl rfl rfl rfl rfl rfl ?_
                refine TL_skip rfl rfl rfl rfl rfl rfl rfl ?_
                refine TL_skip rfl rfl rfl rfl rfl rfl rfl ?_
                refine TL_v rfl rfl rfl (V_pick (b := false) rfl rfl) ?_
                refine TL_v rfl rfl rfl (V_move rfl) ?_
                refine TL_skip rfl rfl rfl rfl rfl rfl rfl ?_
                refine TL_skip rfl rfl rfl rfl rfl rfl rfl ?_
                refine TL_v rfl rfl rfl (V_pick (b := false) rfl rfl) ?_
                refine TL_v rfl rfl rfl (V_move rfl) ?_
                refine TL_skip rfl rfl rfl rfl rfl rfl rfl ?_
                refine TL_skip rfl rfl rfl rfl rfl rfl rfl ?_
                refine TL_skip rfl rfl rfl rfl rfl rfl rfl ?_
                refine TL_v rfl rfl rfl (V_pick (b := false) rfl rfl) ?_
                refine TL_v rfl rfl rfl (V_assign rfl) ?_
                refine TL_nil ?_
                refine TX_next ?_
                refine TC.sub (m' := [(6, vb false)]) ⟨rfl, trivial⟩ ?_
                refine TC_ret ?_
                have hrv := Option.some.inj H
                subst hrv
                exact TX_ret (rs := [.tmp 6]) (vs := [vb false]) rfl ⟨rfl, trivial⟩ (fun w' hs' => ⟨(), rfl, Step.left (Step.pulled (is := []) (A := []) hs' rfl)⟩)
            · replace H := ite_f (of_decide_eq_false hc) H
              refine TL_skip rfl rfl rfl rfl rfl rfl rfl ?_
              refine TL_skip rfl rfl rfl rfl rfl rfl rfl ?_
              refine TL_skip rfl rfl rfl rfl rfl rfl rfl ?_
              refine TL_skip rfl rfl rfl rfl rfl rfl rfl ?_
              refine TL_v rfl rfl rfl (V_pick (b := false) rfl rfl) ?_
              refine TL_v rfl rfl rfl (V_move rfl) ?_
              refine TL_skip rfl rfl rfl rfl rfl rfl rfl ?_
              refine TL_skip rfl rfl rfl rfl rfl rfl rfl ?_
              refine TL_skip rfl rfl rfl rfl rfl rfl rfl ?_
              refine TL_skip rfl rfl rfl rfl rfl rfl rfl ?_
              refine TL_v rfl rfl rfl (V_pick (b := false) rfl rfl) ?_
              refine TL_v rfl rfl rfl (V_move rfl) ?_
              refine TL_skip rfl rfl rfl rfl rfl rfl rfl ?_
              refine TL_skip rfl rfl rfl rfl rfl rfl rfl ?_
              refine TL_skip rfl rfl rfl rfl rfl rfl rfl ?_
              refine TL_skip rfl rfl rfl rfl rfl rfl rfl ?_
              refine TL_v rfl rfl rfl (V_pick (b := false) rfl rfl) ?_
              refine TL_v rfl rfl rfl (V_move rfl) ?_
              refine TL_skip rfl rfl rfl rfl rfl rfl rfl ?_
              refine TL_skip rfl rfl rfl rfl rfl rfl rfl ?_
              refine TL_skip rfl rfl rfl rfl rfl rfl rfl ?_
              refine TL_skip rfl rfl rfl rfl rfl rfl rfl ?_
              refine TL_v rfl rfl rfl (V_pick (b := false) rfl rfl) ?_
              refine TL_v rfl rfl rfl (V_move rfl) ?_
              refine TL_skip rfl rfl rfl rfl rfl rfl rfl ?_
              refine TL_skip rfl rfl rfl rfl rfl rfl rfl ?_
              refine TL_v rfl rfl rfl (V_pick (b := false) rfl rfl) ?_
              refine TL_v rfl rfl rfl (V_move rfl) ?_
              refine TL_skip rfl rfl rfl rfl rfl rfl rfl ?_
              refine TL_skip rfl rfl rfl rfl rfl rfl rfl ?_
              refine TL_skip rfl rfl rfl rfl rfl rfl rfl ?_
              refine TL_v rfl rfl rfl (V_pick (b := false) rfl rfl) ?_
              refine TL_v rfl rfl rfl (V_assign rfl) ?_
              refine TL_nil ?_
              refine TX_next ?_
              refine TC.sub (m' := [(6, vb false)]) ⟨rfl, trivial⟩ ?_
              refine TC_ret ?_
              have hrv := Option.some.inj H
              subst hrv
              exact TX_ret (rs := [.tmp 6]) (vs := [vb false]) rfl ⟨rfl, trivial⟩ (fun w' hs' => ⟨(), rfl, Step.left (Step.pulled (is := []) (A := []) hs' rfl)⟩)
          · replace H := ite_f (of_decide_eq_false hc) H
            refine TL_skip rfl rfl rfl rfl rfl rfl rfl ?_
            refine TL_skip rfl rfl rfl rfl rfl rfl rfl ?_
            refine TL_skip rfl rfl rfl rfl rfl rfl rfl ?_
            refine TL_skip rfl rfl rfl rfl rfl rfl rfl ?_
            refine TL_v rfl rfl rfl (V_pick (b := false) rfl rfl) ?_
            refine TL_v rfl rfl rfl (V_move rfl) ?_
            refine TL_skip rfl rfl rfl rfl rfl rfl rfl ?_
            refine TL_skip rfl rfl rfl rfl rfl rfl rfl ?_
            refine TL_skip rfl rfl rfl rfl rfl rfl rfl ?_
            refine TL_skip rfl rfl rfl rfl rfl rfl rfl ?_
            refine TL_v rfl rfl rfl (V_pick (b := false) rfl rfl) ?_
            refine TL_v rfl rfl rfl (V_move rfl) ?_
            refine TL_skip rfl rfl rfl rfl rfl rfl rfl ?_
            refine TL_skip rfl rfl rfl rfl rfl rfl rfl ?_
            refine TL_skip rfl rfl rfl rfl rfl rfl rfl ?_
            refine TL_skip rfl rfl rfl rfl rfl rfl rfl ?_
            refine TL_v rfl rfl rfl (V_pick (b := false) rfl rfl) ?_
            refine TL_v rfl rfl rfl (V_move rfl) ?_
            refine TL_skip rfl rfl rfl rfl rfl rfl rfl ?_
            refine TL_skip rfl rfl rfl rfl rfl rfl rfl ?_
            refine TL_skip rfl rfl rfl rfl rfl rfl rfl ?_
            refine TL_skip rfl rfl rfl rfl rfl rfl rfl ?_
            refine TL_v rfl rfl rfl (V_pick (b := false) rfl rfl) ?_
            refine TL_v rfl rfl rfl (V_move rfl) ?_
            refine TL_skip rfl rfl rfl rfl rfl rfl rfl ?_
            refine TL_skip rfl rfl rfl rfl rfl rfl rfl ?_
            refine TL_skip rfl rfl rfl rfl rfl rfl rfl ?_
            refine TL_skip rfl rfl rfl rfl rfl rfl rfl ?_
            refine TL_v rfl rfl rfl (V_pick (b := false) rfl rfl) ?_
            refine TL_v rfl rfl rfl (V_move rfl) ?_
            refine TL_skip rfl rfl rfl rfl rfl rfl rfl ?_
            refine TL_skip rfl rfl rfl rfl rfl rfl rfl ?_
            refine TL_v rfl rfl rfl (V_pick (b := false) rfl rfl) ?_
            refine TL_v rfl rfl rfl (V_move rfl) ?_
            refine TL_skip rfl rfl rfl rfl rfl rfl rfl ?_
            refine TL_skip rfl rfl rfl rfl rfl rfl rfl ?_
            refine TL_skip rfl rfl rfl rfl rfl rfl rfl ?_
            refine TL_v rfl rfl rfl (V_pick (b := false) rfl rfl) ?_
            refine TL_v rfl rfl rfl (V_assign rfl) ?_
            refine TL_nil ?_
            refine TX_next ?_
            refine TC.sub (m' := [(6, vb false)]) ⟨rfl, trivial⟩ ?_
            refine TC_ret ?_
            have hrv := Option.some.inj H
            subst hrv
            exact TX_ret (rs := [.tmp 6]) (vs := [vb false]) rfl ⟨rfl, trivial⟩ (fun w' hs' => ⟨(), rfl, Step.left (Step.pulled (is := []) (A := []) hs' rfl)⟩)
        · replace H := ite_f (of_decide_eq_false hc) H
          refine TL_skip rfl rfl rfl rfl rfl rfl rfl ?_
          refine TL_skip rfl rfl rfl rfl rfl rfl rfl ?_
          refine TL_skip rfl rfl rfl rfl rfl rfl rfl ?_
          refine TL_skip rfl rfl rfl rfl rfl rfl rfl ?_
          refine TL_v rfl rfl rfl (V_pick (b := false) rfl rfl) ?_
          refine TL_v rfl rfl rfl (V_move rfl) ?_
          refine TL_skip rfl rfl rfl rfl rfl rfl rfl ?_
          refine TL_skip rfl rfl rfl rfl rfl rfl rfl ?_
          refine TL_skip rfl rfl rfl rfl rfl rfl rfl ?_
          refine TL_skip rfl rfl rfl rfl rfl rfl rfl ?_
          refine TL_v rfl rfl rfl (V_pick (b := false) rfl rfl) ?_
          refine TL_v rfl rfl rfl (V_move rfl) ?_
          refine TL_skip rfl rfl rfl rfl rfl rfl rfl ?_
          refine TL_skip rfl rfl rfl rfl rfl rfl rfl ?_
          refine TL_skip rfl rfl rfl rfl rfl rfl rfl ?_
          refine TL_skip rfl rfl rfl rfl rfl rfl rfl ?_
          refine TL_v rfl rfl rfl (V_pick (b := false) rfl rfl) ?_
          refine TL_v rfl rfl rfl (V_move rfl) ?_
          refine TL_skip rfl rfl rfl rfl rfl rfl rfl ?_
          refine TL_skip rfl rfl rfl rfl rfl rfl rfl ?_
          refine TL_skip rfl rfl rfl rfl rfl rfl rfl ?_
          refine TL_skip rfl rfl rfl rfl rfl rfl rfl ?_
          refine TL_v rfl rfl rfl (V_pick (b := false) rfl rfl) ?_
          refine TL_v rfl rfl rfl (V_move rfl) ?_
          refine TL_skip rfl rfl rfl rfl rfl rfl rfl ?_
          refine TL_skip rfl rfl rfl rfl rfl rfl rfl ?_
          refine TL_skip rfl rfl rfl rfl rfl rfl rfl ?_
          refine TL_skip rfl rfl rfl rfl rfl rfl rfl ?_
          refine TL_v rfl rfl rfl (V_pick (b := false) rfl rfl) ?_
          refine TL_v rfl rfl rfl (V_move rfl) ?_
          refine TL_skip rfl rfl rfl rfl rfl rfl rfl ?_
          refine TL_skip rfl rfl rfl rfl rfl rfl rfl ?_
          refine TL_skip rfl rfl rfl rfl rfl rfl rfl ?_
          refine TL_skip rfl rfl rfl rfl rfl rfl rfl ?_
          refine TL_v rfl rfl rfl (V_pick (b := false) rfl rfl) ?_
          refine TL_v rfl rfl rfl (V_move rfl) ?_
          refine TL_skip rfl rfl rfl rfl rfl rfl rfl ?_
          refine TL_skip rfl rfl rfl rfl rfl rfl rfl ?_
          refine TL_v rfl rfl rfl (V_pick (b := false) rfl rfl) ?_
          refine TL_v rfl rfl rfl (V_move rfl) ?_
          refine TL_skip rfl rfl rfl rfl rfl rfl rfl ?_
          refine TL_skip rfl rfl rfl rfl rfl rfl rfl ?_
          refine TL_skip rfl rfl rfl rfl rfl rfl rfl ?_
          refine TL_v rfl rfl rfl (V_pick (b := false) rfl rfl) ?_
          refine TL_v rfl rfl rfl (V_assign rfl) ?_
          refine TL_nil ?_
          refine TX_next ?_
          refine TC.sub (m' := [(6, vb false)]) ⟨rfl, trivial⟩ ?_
          refine TC_ret ?_
          have hrv := Option.some.inj H
          subst hrv
          exact TX_ret (rs := [.tmp 6]) (vs := [vb false]) rfl ⟨rfl, trivial⟩ (fun w' hs' => ⟨(), rfl, Step.left (Step.pulled (is := []) (A := []) hs' rfl)⟩)
      · intro hJ
        replace H := Hj
        refine TC_cond (b := (decide (bits = 384))) rfl (fun hc => ?_) (fun hc => ?_)
        · replace H := ite_t (of_decide_eq_true hc) H
          refine TC_region ?_
          refine TL_v rfl rfl rfl (V_move rfl) ?_
          refine TL_v rfl rfl rfl (V_bin rfl rfl (fun w => addI w bits 1)) ?_
          refine TL_v rfl rfl rfl (V_assign rfl) ?_
          obtain ⟨b2, hb2, H⟩ := ltt_elim H
          refine TL_re (d := 7) (v := vi (w64 (bits + 1))) (v' := vi b2) rfl (congrArg vi hb2) ?_
          refine TL_nil ?_
          refine TX.sub (m' := [(1, vi size), (2, vs key), (7, vi b2)]) ⟨rfl, rfl, rfl, trivial⟩ ?_
          refine TX.pull (is := []) (L' := []) rfl ?_
          obtain rfl := Option.some.inj H
          exact hJ ()
        · replace H := ite_f (of_decide_eq_false hc) H
          refine TC_skip ?_
          refine TX.sub (m' := [(1, vi size), (2, vs key), (7, vi bits)]) ⟨rfl, rfl, rfl, trivial⟩ ?_
          refine TX.pull (is := []) (L' := []) rfl ?_
          obtain rfl := Option.some.inj H
          exact hJ ()

end Go.Proofs
end

section
/-
  Bits that are none.
-/
namespace Go.Proofs
open Go Go.Kx
set_option linter.unusedVariables false
set_option linter.unusedSimpArgs false
/-! Bits that are none. -/
theorem hmacE_none (n : Int) (hn : ¬ okB n) (key s : Str) : hmacE n key s = ([], 300) := by unfold hmacE; rw [if_neg hn]
theorem HkdfForms_true (bits : Int) (size : Int) (key : Str) (hb : -9223372036854775808 ≤ bits ∧ bits < 9223372036854775808) (hk : key.length ≤ 140737488351232) : halberdlaw3_HkdfForms bits size key = some true := by
  unfold halberdlaw3_HkdfForms
  refine bind_i awake3 (if_n (by decide) ?_)
  have i1023 : iop (· &&& ·) size 1023 = size % 1024 := and_mask size 10 (by decide)
  rw [i1023]
  clear i1023
  obtain ⟨x, hx, hxl⟩ : ∃ x : Int, w64 (1 + size % 1024) = x ∧ 1 ≤ x ∧ x ≤ 1024 := ⟨1 + size % 1024, w64_id (by omega) (by omega), by omega, by omega⟩
  rw [hx]
  clear hx
  have e1 : w64 (0 - x) = 0 - x := w64_id (by omega) (by omega)
  have e2 : w64 (8160 + x) = 8160 + x := w64_id (by omega) (by omega)
  have e3 : w64 (12240 + x) = 12240 + x := w64_id (by omega) (by omega)
  have m1 : mostE 256 = 8160 := rfl
  have m2 : mostE 384 = 12240 := rfl
  have tail : ∀ b : Int, ¬ okB b → ((hkdf_Hmac b key ([] : Str)).bind fun (r_2 : Str × Int) => ((hkdf_Extract b key ([] : Str)).bind fun (r_3 : Str × Int) => ((hkdf_Expand b key ([] : Str) 5).bind fun (r_4 : Str × Int) => ((hkdf_Label b key ([108#8] : Str) ([] : Str) 5).bind fun (r_5 : Str × Int) => (ltt x fun (x1 : Int) => ((hkdf_Expand 256 key ([] : Str) (w64 (0 - x1))).bind fun (r_6 : Str × Int) => ((hkdf_Expand 256 key ([] : Str) (w64 (8160 + x1))).bind fun (r_7 : Str × Int) => ((hkdf_Expand 384 key ([] : Str) (w64 (12240 + x1))).bind fun (r_8 : Str × Int) => ((hkdf_Expand 384 key ([] : Str) 0).bind fun (r_9 : Str × Int) => ((halberdlaw0_Num r_2.2).bind fun (r_10 : Int) => (if r_10 = 300 then ((halberdlaw0_Num r_3.2).bind fun (r_11 : Int) => (if r_11 = 300 then ((halberdlaw0_Num r_4.2).bind fun (r_12 : Int) => (if r_12 = 300 then ((halberdlaw0_Num r_5.2).bind fun (r_13 : Int) => (if r_13 = 300 then ((halberdlaw0_Num r_6.2).bind fun (r_14 : Int) => (if r_14 = 300 then ((halberdlaw0_Num r_7.2).bind fun (r_15 : Int) => (if r_15 = 300 then ((halberdlaw0_Num r_8.2).bind fun (r_16 : Int) => (if r_16 = 300 then (if r_9.1 = ([] : Str) then ((halberdlaw0_Num r_9.2).bind fun (r_17 : Int) => (ltt (decide (r_17 = 0)) fun (x2 : Bool) => (some x2))) else (some false)) else (some false))) else (some false))) else (some false))) else (some false))) else (some false))) else (some false))) else (some false)))))))))))) = some true := by
    intro b hnb
    have q1 := Hmac_eq b key [] (by omega) (by simp)
    have q2 := Extract_eq b key [] (by omega) (by simp)
    have q3 := Expand_eq b key [] 5 (by omega) (by simp)
    have q4 := Label_eq b key [108#8] [] 5 (by omega)
    have q5 := Expand_eq 256 key [] (0 - x) (by omega) (by simp)
    have q6 := Expand_eq 256 key [] (8160 + x) (by omega) (by simp)
    have q7 := Expand_eq 384 key [] (12240 + x) (by omega) (by simp)
    have q8 := Expand_eq 384 key [] 0 (by omega) (by simp)
    rw [hmacE_none b hnb] at q1 q2
    rw [expE_none b key [] 5 (fun h => hnb h.1)] at q3
    have hl5 : labE b key [108#8] [] 5 = ([], 300) := by
      unfold labE
      rw [if_pos ⟨by decide, by decide, by decide, by decide⟩]
      exact expE_none b key _ 5 (fun h => hnb h.1)
    rw [hl5] at q4
    rw [expE_none 256 key [] _ (by omega)] at q5
    rw [expE_none 256 key [] _ (by rw [m1]; omega)] at q6
    rw [expE_none 384 key [] _ (by rw [m2]; omega)] at q7
    have h8 : expE 384 key [] 0 = ([], 0) := by
      have := expE_ok 384 (.inr rfl) key [] 0 (by rw [m2]; decide)
      rw [show ((0 : Nat) : Int) = 0 from rfl] at this
      rw [this]
      rfl
    rw [h8] at q8
    rw [← e1] at q5
    rw [← e2] at q6
    rw [← e3] at q7
    refine bind_i q1 (bind_i q2 (bind_i q3 (bind_i q4 (ltt_i fun x1 hx1 => ?_))))
    rw [hx1]
    refine bind_i q5 (bind_i q6 (bind_i q7 (bind_i q8 ?_)))
    refine bind_i (v := 300) rfl (if_i rfl (bind_i (v := 300) rfl (if_i rfl (bind_i (v := 300) rfl (if_i rfl (bind_i (v := 300) rfl (if_i rfl (bind_i (v := 300) rfl (if_i rfl (bind_i (v := 300) rfl (if_i rfl (bind_i (v := 300) rfl (if_i rfl (if_i rfl (bind_i (v := 0) rfl (ltt_i fun z hz => ?_))))))))))))))))
    rw [hz]; rfl
  by_cases c : bits = 256
  · refine if_i c (ltt_i fun b1 hb1 => ?_)
    refine tail b1 ?_
    rw [hb1, c]; decide
  · refine if_n c ?_
    by_cases c2 : bits = 384
    · refine bind_i (v := 385) (if_i c2 (ltt_i fun b2 hb2 => ?_)) (tail 385 (by decide))
      rw [hb2, c2]; rfl
    · exact bind_i (v := bits) (if_n c2 rfl) (tail bits (fun h => h.elim c c2))
end Go.Proofs
end

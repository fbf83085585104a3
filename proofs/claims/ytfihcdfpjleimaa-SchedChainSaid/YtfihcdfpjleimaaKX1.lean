/-
  Part KX1 of the proofs of this seat: F32, F33, F9, F10, F34, F35, F11, F12, F36, F37, F13, F14, F38, F39, F15, F16, F17, F18, F19, F20.
-/
import Derived.Test.YtfihcdfpjleimaaK2
import Derived.Test.YtfihcdfpjleimaaKH1
import Derived.Test.YtfihcdfpjleimaaKS3
section
namespace Go.Proofs
open Go Go.Kx
set_option linter.unusedVariables false
set_option linter.unusedSimpArgs false
def aead_Sizes (suite : Int) : Option (Int × Int × Int) :=
  ltt (decide (suite = 4865)) fun (x1 : Bool) => (if x1 = true then (some (16, 256, 0)) else (ltt (decide (suite = 4866)) fun (x2 : Bool) => (if x2 = true then (some (32, 384, 0)) else (ltt (decide (suite = 4867)) fun (x3 : Bool) => (if x3 = true then (some (32, 256, 0)) else (some (0, 0, 800)))))))

set_option maxHeartbeats 4000000 in
set_option maxRecDepth 20000 in
theorem F32_calls (suite : Int) (r : Int × Int × Int) (H : aead_Sizes suite = some r) :
    Does Try.prog 32 [vi suite] [] [] (Γ := Unit) (fun g => Value.tuple [vi r.1, vi r.2.1, vi r.2.2].toArray) (fun g => []) := by
  intro w hmem hro hd
  refine calls_of (N := 12) (m0 := [(0, vi suite)]) Try.func32 rfl Try.ntmps32 (argM_ok [vi suite]) rfl hmem hro hd ?_
  unfold aead_Sizes at H
  refine TC_seq ?_
  refine TC_region ?_
  refine TL_v rfl rfl rfl (V_assign rfl) ?_
  refine TL_v rfl rfl rfl (V_assign rfl) ?_
  refine TL_v rfl rfl rfl (V_assign rfl) ?_
  refine TL_nil ?_
  refine TX_next ?_
  refine TC_seq ?_
  refine TC_seq ?_
  refine TC_region ?_
  refine TL_v rfl rfl rfl (V_move rfl) ?_
  refine TL_nil ?_
  refine TX_next ?_
  refine TC_block ?_
  refine TC_seq ?_
  refine TC_region ?_
  refine TL_v rfl rfl rfl (V_bin rfl rfl (fun w => eqlI w suite 4865)) ?_
  refine TL_v rfl rfl rfl (V_assign rfl) ?_
  obtain ⟨x1, hx1, H⟩ := ltt_elim H
  refine TL_re (d := 6) (v := vb (decide (suite = 4865))) (v' := vb x1) rfl (congrArg vb hx1) ?_
  refine TL_nil ?_
  refine TX_next ?_
  refine TC_cond (b := x1) rfl (fun hc => ?_) (fun hc => ?_)
  · replace H := ite_t hc H
    refine TC_seq ?_
    refine TC_region ?_
    refine TL_v rfl rfl rfl (V_assign rfl) ?_
    refine TL_v rfl rfl rfl (V_assign rfl) ?_
    refine TL_v rfl rfl rfl (V_assign rfl) ?_
    refine TL_nil ?_
    refine TX_next ?_
    refine TC_ret ?_
    refine TX_block_ret ?_
    refine TX_then_ret ?_
    have hrv := Option.some.inj H
    subst hrv
    exact TX_ret (rs := [.tmp 2, .tmp 3, .tmp 4]) (vs := [vi 16, vi 256, vi 0]) rfl ⟨rfl, rfl, rfl, trivial⟩ (fun w' hs' => ⟨(), rfl, Step.left (Step.pulled (is := []) (A := []) hs' rfl)⟩)
  · replace H := ite_f (Bool.eq_false_iff.1 hc) H
    refine TC_seq ?_
    refine TC_region ?_
    refine TL_v rfl rfl rfl (V_bin rfl rfl (fun w => eqlI w suite 4866)) ?_
    refine TL_v rfl rfl rfl (V_assign rfl) ?_
    obtain ⟨x2, hx2, H⟩ := ltt_elim H
    refine TL_re (d := 8) (v := vb (decide (suite = 4866))) (v' := vb x2) rfl (congrArg vb hx2) ?_
    refine TL_nil ?_
    refine TX_next ?_
    refine TC_cond (b := x2) rfl (fun hc => ?_) (fun hc => ?_)
    · replace H := ite_t hc H
      refine TC_seq ?_
      refine TC_region ?_
      refine TL_v rfl rfl rfl (V_assign rfl) ?_
      refine TL_v rfl rfl rfl (V_assign rfl) ?_
      refine TL_v rfl rfl rfl (V_assign rfl) ?_
      refine TL_nil ?_
      refine TX_next ?_
      refine TC_ret ?_
      refine TX_block_ret ?_
      refine TX_then_ret ?_
      have hrv := Option.some.inj H
      subst hrv
      exact TX_ret (rs := [.tmp 2, .tmp 3, .tmp 4]) (vs := [vi 32, vi 384, vi 0]) rfl ⟨rfl, rfl, rfl, trivial⟩ (fun w' hs' => ⟨(), rfl, Step.left (Step.pulled (is := []) (A := []) hs' rfl)⟩)
    · replace H := ite_f (Bool.eq_false_iff.1 hc) H
      refine TC_seq ?_
      refine TC_region ?_
      refine TL_v rfl rfl rfl (V_bin rfl rfl (fun w => eqlI w suite 4867)) ?_
      refine TL_v rfl rfl rfl (V_assign rfl) ?_
      obtain ⟨x3, hx3, H⟩ := ltt_elim H
      refine TL_re (d := 10) (v := vb (decide (suite = 4867))) (v' := vb x3) rfl (congrArg vb hx3) ?_
      refine TL_nil ?_
      refine TX_next ?_
      refine TC_cond (b := x3) rfl (fun hc => ?_) (fun hc => ?_)
      · replace H := ite_t hc H
        refine TC_seq ?_
        refine TC_region ?_
        refine TL_v rfl rfl rfl (V_assign rfl) ?_
        refine TL_v rfl rfl rfl (V_assign rfl) ?_
        refine TL_v rfl rfl rfl (V_assign rfl) ?_
        refine TL_nil ?_
        refine TX_next ?_
        refine TC_ret ?_
        refine TX_block_ret ?_
        refine TX_then_ret ?_
        have hrv := Option.some.inj H
        subst hrv
        exact TX_ret (rs := [.tmp 2, .tmp 3, .tmp 4]) (vs := [vi 32, vi 256, vi 0]) rfl ⟨rfl, rfl, rfl, trivial⟩ (fun w' hs' => ⟨(), rfl, Step.left (Step.pulled (is := []) (A := []) hs' rfl)⟩)
      · replace H := ite_f (Bool.eq_false_iff.1 hc) H
        refine TC_skip ?_
        refine TX_block_normal ?_
        refine TX_next ?_
        refine TC_seq ?_
        refine TC_region ?_
        refine TL_v rfl rfl rfl (V_assign rfl) ?_
        refine TL_v rfl rfl rfl (V_assign rfl) ?_
        refine TL_v rfl rfl rfl (V_assign rfl) ?_
        refine TL_nil ?_
        refine TX_next ?_
        refine TC_ret ?_
        have hrv := Option.some.inj H
        subst hrv
        exact TX_ret (rs := [.tmp 2, .tmp 3, .tmp 4]) (vs := [vi 0, vi 0, vi 800]) rfl ⟨rfl, rfl, rfl, trivial⟩ (fun w' hs' => ⟨(), rfl, Step.left (Step.pulled (is := []) (A := []) hs' rfl)⟩)

end Go.Proofs
end

section
namespace Go.Proofs
open Go Go.Kx
set_option linter.unusedVariables false
set_option linter.unusedSimpArgs false
def halberdref4_Sizes (suite : Int) : Option (Int × Int × Int) :=
  ltt (decide (suite = 4865)) fun (x1 : Bool) => (if x1 = true then (some (16, 256, 0)) else (ltt (decide (suite = 4866)) fun (x2 : Bool) => (if x2 = true then (some (32, 384, 0)) else (ltt (decide (suite = 4867)) fun (x3 : Bool) => (if x3 = true then (some (32, 256, 0)) else (some (0, 0, 800)))))))

set_option maxHeartbeats 4000000 in
set_option maxRecDepth 20000 in
theorem F33_calls (suite : Int) (r : Int × Int × Int) (H : halberdref4_Sizes suite = some r) :
    Does Try.prog 33 [vi suite] [] [] (Γ := Unit) (fun g => Value.tuple [vi r.1, vi r.2.1, vi r.2.2].toArray) (fun g => []) := by
  intro w hmem hro hd
  refine calls_of (N := 12) (m0 := [(0, vi suite)]) Try.func33 rfl Try.ntmps33 (argM_ok [vi suite]) rfl hmem hro hd ?_
  unfold halberdref4_Sizes at H
  refine TC_seq ?_
  refine TC_region ?_
  refine TL_v rfl rfl rfl (V_assign rfl) ?_
  refine TL_v rfl rfl rfl (V_assign rfl) ?_
  refine TL_v rfl rfl rfl (V_assign rfl) ?_
  refine TL_nil ?_
  refine TX_next ?_
  refine TC_seq ?_
  refine TC_seq ?_
  refine TC_region ?_
  refine TL_v rfl rfl rfl (V_move rfl) ?_
  refine TL_nil ?_
  refine TX_next ?_
  refine TC_block ?_
  refine TC_seq ?_
  refine TC_region ?_
  refine TL_v rfl rfl rfl (V_bin rfl rfl (fun w => eqlI w suite 4865)) ?_
  refine TL_v rfl rfl rfl (V_assign rfl) ?_
  obtain ⟨x1, hx1, H⟩ := ltt_elim H
  refine TL_re (d := 6) (v := vb (decide (suite = 4865))) (v' := vb x1) rfl (congrArg vb hx1) ?_
  refine TL_nil ?_
  refine TX_next ?_
  refine TC_cond (b := x1) rfl (fun hc => ?_) (fun hc => ?_)
  · replace H := ite_t hc H
    refine TC_seq ?_
    refine TC_region ?_
    refine TL_v rfl rfl rfl (V_assign rfl) ?_
    refine TL_v rfl rfl rfl (V_assign rfl) ?_
    refine TL_v rfl rfl rfl (V_assign rfl) ?_
    refine TL_nil ?_
    refine TX_next ?_
    refine TC_ret ?_
    refine TX_block_ret ?_
    refine TX_then_ret ?_
    have hrv := Option.some.inj H
    subst hrv
    exact TX_ret (rs := [.tmp 2, .tmp 3, .tmp 4]) (vs := [vi 16, vi 256, vi 0]) rfl ⟨rfl, rfl, rfl, trivial⟩ (fun w' hs' => ⟨(), rfl, Step.left (Step.pulled (is := []) (A := []) hs' rfl)⟩)
  · replace H := ite_f (Bool.eq_false_iff.1 hc) H
    refine TC_seq ?_
    refine TC_region ?_
    refine TL_v rfl rfl rfl (V_bin rfl rfl (fun w => eqlI w suite 4866)) ?_
    refine TL_v rfl rfl rfl (V_assign rfl) ?_
    obtain ⟨x2, hx2, H⟩ := ltt_elim H
    refine TL_re (d := 8) (v := vb (decide (suite = 4866))) (v' := vb x2) rfl (congrArg vb hx2) ?_
    refine TL_nil ?_
    refine TX_next ?_
    refine TC_cond (b := x2) rfl (fun hc => ?_) (fun hc => ?_)
    · replace H := ite_t hc H
      refine TC_seq ?_
      refine TC_region ?_
      refine TL_v rfl rfl rfl (V_assign rfl) ?_
      refine TL_v rfl rfl rfl (V_assign rfl) ?_
      refine TL_v rfl rfl rfl (V_assign rfl) ?_
      refine TL_nil ?_
      refine TX_next ?_
      refine TC_ret ?_
      refine TX_block_ret ?_
      refine TX_then_ret ?_
      have hrv := Option.some.inj H
      subst hrv
      exact TX_ret (rs := [.tmp 2, .tmp 3, .tmp 4]) (vs := [vi 32, vi 384, vi 0]) rfl ⟨rfl, rfl, rfl, trivial⟩ (fun w' hs' => ⟨(), rfl, Step.left (Step.pulled (is := []) (A := []) hs' rfl)⟩)
    · replace H := ite_f (Bool.eq_false_iff.1 hc) H
      refine TC_seq ?_
      refine TC_region ?_
      refine TL_v rfl rfl rfl (V_bin rfl rfl (fun w => eqlI w suite 4867)) ?_
      refine TL_v rfl rfl rfl (V_assign rfl) ?_
      obtain ⟨x3, hx3, H⟩ := ltt_elim H
      refine TL_re (d := 10) (v := vb (decide (suite = 4867))) (v' := vb x3) rfl (congrArg vb hx3) ?_
      refine TL_nil ?_
      refine TX_next ?_
      refine TC_cond (b := x3) rfl (fun hc => ?_) (fun hc => ?_)
      · replace H := ite_t hc H
        refine TC_seq ?_
        refine TC_region ?_
        refine TL_v rfl rfl rfl (V_assign rfl) ?_
        refine TL_v rfl rfl rfl (V_assign rfl) ?_
        refine TL_v rfl rfl rfl (V_assign rfl) ?_
        refine TL_nil ?_
        refine TX_next ?_
        refine TC_ret ?_
        refine TX_block_ret ?_
        refine TX_then_ret ?_
        have hrv := Option.some.inj H
        subst hrv
        exact TX_ret (rs := [.tmp 2, .tmp 3, .tmp 4]) (vs := [vi 32, vi 256, vi 0]) rfl ⟨rfl, rfl, rfl, trivial⟩ (fun w' hs' => ⟨(), rfl, Step.left (Step.pulled (is := []) (A := []) hs' rfl)⟩)
      · replace H := ite_f (Bool.eq_false_iff.1 hc) H
        refine TC_skip ?_
        refine TX_block_normal ?_
        refine TX_next ?_
        refine TC_seq ?_
        refine TC_region ?_
        refine TL_v rfl rfl rfl (V_assign rfl) ?_
        refine TL_v rfl rfl rfl (V_assign rfl) ?_
        refine TL_v rfl rfl rfl (V_assign rfl) ?_
        refine TL_nil ?_
        refine TX_next ?_
        refine TC_ret ?_
        have hrv := Option.some.inj H
        subst hrv
        exact TX_ret (rs := [.tmp 2, .tmp 3, .tmp 4]) (vs := [vi 0, vi 0, vi 800]) rfl ⟨rfl, rfl, rfl, trivial⟩ (fun w' hs' => ⟨(), rfl, Step.left (Step.pulled (is := []) (A := []) hs' rfl)⟩)

end Go.Proofs
end

section
namespace Go.Proofs
open Go Go.Kx
set_option linter.unusedVariables false
set_option linter.unusedSimpArgs false
def sched_Bits (suite : Int) : Option (Int × Int) :=
  (aead_Sizes suite).bind fun (r_1 : Int × Int × Int) => (if r_1.2.2 ≠ 0 then (some (0, 1900)) else (some (r_1.2.1, 0)))

set_option maxHeartbeats 4000000 in
set_option maxRecDepth 20000 in
theorem F9_calls (suite : Int) (r : Int × Int) (H : sched_Bits suite = some r) :
    Does Try.prog 9 [vi suite] [] [] (Γ := Unit) (fun g => Value.tuple [vi r.1, vi r.2].toArray) (fun g => []) := by
  intro w hmem hro hd
  refine calls_of (N := 16) (m0 := [(0, vi suite)]) Try.func9 rfl Try.ntmps9 (argM_ok [vi suite]) rfl hmem hro hd ?_
  unfold sched_Bits at H
  refine TC_seq ?_
  refine TC_region ?_
  refine TL_v rfl rfl rfl (V_assign rfl) ?_
  refine TL_v rfl rfl rfl (V_assign rfl) ?_
  refine TL_nil ?_
  refine TX_next ?_
  refine TC_seq ?_
  refine TC_region ?_
  refine TL_v rfl rfl rfl (V_move rfl) ?_
  obtain ⟨r_1, hr_1, H⟩ := bind_elim H
  refine TL_e rfl rfl rfl (E_call (Γ := Unit) (val := fun g => Value.tuple [vi r_1.1, vi r_1.2.1, vi r_1.2.2].toArray) (mem := fun g => []) (vs := [vi suite]) (Lin := []) (Ro := []) (is := []) rfl Try.call32 (F32_calls suite r_1 hr_1) rfl trivial) (fun g_1 => ?_)
  refine TL_v rfl rfl rfl (V_move rfl) ?_
  refine TL_v rfl rfl rfl (V_extract (vs := [vi r_1.1, vi r_1.2.1, vi r_1.2.2]) rfl rfl) ?_
  refine TL_v rfl rfl rfl (V_extract (vs := [vi r_1.1, vi r_1.2.1, vi r_1.2.2]) rfl rfl) ?_
  refine TL_v rfl rfl rfl (V_extract (vs := [vi r_1.1, vi r_1.2.1, vi r_1.2.2]) rfl rfl) ?_
  refine TL_v rfl rfl rfl (V_assign rfl) ?_
  refine TL_v rfl rfl rfl (V_assign rfl) ?_
  refine TL_v rfl rfl rfl (V_assign rfl) ?_
  refine TL_nil ?_
  refine TX_next ?_
  refine TC_seq ?_
  refine TC_seq ?_
  refine TC_region ?_
  refine TL_v rfl rfl rfl (V_move rfl) ?_
  refine TL_v rfl rfl rfl (V_bin rfl rfl (fun w => neqI w r_1.2.2 0)) ?_
  refine TL_nil ?_
  refine TX_next ?_
  refine TC_cond (b := (decide (r_1.2.2 ≠ 0))) rfl (fun hc => ?_) (fun hc => ?_)
  · replace H := ite_t (of_decide_eq_true hc) H
    refine TC_seq ?_
    refine TC_region ?_
    refine TL_v rfl rfl rfl (V_assign rfl) ?_
    refine TL_v rfl rfl rfl (V_assign rfl) ?_
    refine TL_nil ?_
    refine TX_next ?_
    refine TC_ret ?_
    refine TX_then_ret ?_
    have hrv := Option.some.inj H
    subst hrv
    exact TX_ret (rs := [.tmp 2, .tmp 3]) (vs := [vi 0, vi 1900]) rfl ⟨rfl, rfl, trivial⟩ (fun w' hs' => ⟨(), rfl, Step.left (Step.pulled (is := []) (A := []) hs' rfl)⟩)
  · replace H := ite_f (of_decide_eq_false hc) H
    refine TC_skip ?_
    refine TX_next ?_
    refine TC_seq ?_
    refine TC_region ?_
    refine TL_v rfl rfl rfl (V_move rfl) ?_
    refine TL_v rfl rfl rfl (V_assign rfl) ?_
    refine TL_v rfl rfl rfl (V_assign rfl) ?_
    refine TL_nil ?_
    refine TX_next ?_
    refine TC_ret ?_
    have hrv := Option.some.inj H
    subst hrv
    exact TX_ret (rs := [.tmp 2, .tmp 3]) (vs := [vi r_1.2.1, vi 0]) rfl ⟨rfl, rfl, trivial⟩ (fun w' hs' => ⟨(), rfl, Step.left (Step.pulled (is := []) (A := []) hs' rfl)⟩)

end Go.Proofs
end

section
namespace Go.Proofs
open Go Go.Kx
set_option linter.unusedVariables false
set_option linter.unusedSimpArgs false
def halberdref19_Bits (suite : Int) : Option (Int × Int) :=
  (halberdref4_Sizes suite).bind fun (r_1 : Int × Int × Int) => (if r_1.2.2 ≠ 0 then (some (0, 1900)) else (some (r_1.2.1, 0)))

set_option maxHeartbeats 4000000 in
set_option maxRecDepth 20000 in
theorem F10_calls (suite : Int) (r : Int × Int) (H : halberdref19_Bits suite = some r) :
    Does Try.prog 10 [vi suite] [] [] (Γ := Unit) (fun g => Value.tuple [vi r.1, vi r.2].toArray) (fun g => []) := by
  intro w hmem hro hd
  refine calls_of (N := 16) (m0 := [(0, vi suite)]) Try.func10 rfl Try.ntmps10 (argM_ok [vi suite]) rfl hmem hro hd ?_
  unfold halberdref19_Bits at H
  refine TC_seq ?_
  refine TC_region ?_
  refine TL_v rfl rfl rfl (V_assign rfl) ?_
  refine TL_v rfl rfl rfl (V_assign rfl) ?_
  refine TL_nil ?_
  refine TX_next ?_
  refine TC_seq ?_
  refine TC_region ?_
  refine TL_v rfl rfl rfl (V_move rfl) ?_
  obtain ⟨r_1, hr_1, H⟩ := bind_elim H
  refine TL_e rfl rfl rfl (E_call (Γ := Unit) (val := fun g => Value.tuple [vi r_1.1, vi r_1.2.1, vi r_1.2.2].toArray) (mem := fun g => []) (vs := [vi suite]) (Lin := []) (Ro := []) (is := []) rfl Try.call33 (F33_calls suite r_1 hr_1) rfl trivial) (fun g_1 => ?_)
  refine TL_v rfl rfl rfl (V_move rfl) ?_
  refine TL_v rfl rfl rfl (V_extract (vs := [vi r_1.1, vi r_1.2.1, vi r_1.2.2]) rfl rfl) ?_
  refine TL_v rfl rfl rfl (V_extract (vs := [vi r_1.1, vi r_1.2.1, vi r_1.2.2]) rfl rfl) ?_
  refine TL_v rfl rfl rfl (V_extract (vs := [vi r_1.1, vi r_1.2.1, vi r_1.2.2]) rfl rfl) ?_
  refine TL_v rfl rfl rfl (V_assign rfl) ?_
  refine TL_v rfl rfl rfl (V_assign rfl) ?_
  refine TL_v rfl rfl rfl (V_assign rfl) ?_
  refine TL_nil ?_
  refine TX_next ?_
  refine TC_seq ?_
  refine TC_seq ?_
  refine TC_region ?_
  refine TL_v rfl rfl rfl (V_move rfl) ?_
  refine TL_v rfl rfl rfl (V_bin rfl rfl (fun w => neqI w r_1.2.2 0)) ?_
  refine TL_nil ?_
  refine TX_next ?_
  refine TC_cond (b := (decide (r_1.2.2 ≠ 0))) rfl (fun hc => ?_) (fun hc => ?_)
  · replace H := ite_t (of_decide_eq_true hc) H
    refine TC_seq ?_
    refine TC_region ?_
    refine TL_v rfl rfl rfl (V_assign rfl) ?_
    refine TL_v rfl rfl rfl (V_assign rfl) ?_
    refine TL_nil ?_
    refine TX_next ?_
    refine TC_ret ?_
    refine TX_then_ret ?_
    have hrv := Option.some.inj H
    subst hrv
    exact TX_ret (rs := [.tmp 2, .tmp 3]) (vs := [vi 0, vi 1900]) rfl ⟨rfl, rfl, trivial⟩ (fun w' hs' => ⟨(), rfl, Step.left (Step.pulled (is := []) (A := []) hs' rfl)⟩)
  · replace H := ite_f (of_decide_eq_false hc) H
    refine TC_skip ?_
    refine TX_next ?_
    refine TC_seq ?_
    refine TC_region ?_
    refine TL_v rfl rfl rfl (V_move rfl) ?_
    refine TL_v rfl rfl rfl (V_assign rfl) ?_
    refine TL_v rfl rfl rfl (V_assign rfl) ?_
    refine TL_nil ?_
    refine TX_next ?_
    refine TC_ret ?_
    have hrv := Option.some.inj H
    subst hrv
    exact TX_ret (rs := [.tmp 2, .tmp 3]) (vs := [vi r_1.2.1, vi 0]) rfl ⟨rfl, rfl, trivial⟩ (fun w' hs' => ⟨(), rfl, Step.left (Step.pulled (is := []) (A := []) hs' rfl)⟩)

end Go.Proofs
end

section
namespace Go.Proofs
open Go Go.Kx
set_option linter.unusedVariables false
set_option linter.unusedSimpArgs false
def sched_label (suite : Int) (secret : Str) (name : Str) (context : Str) (size : Int) : Option (Str × Int) :=
  (sched_Bits suite).bind fun (r_1 : Int × Int) => (if r_1.2 ≠ 0 then (some (([] : Str), r_1.2)) else ((hkdf_Label r_1.1 secret name context size).bind fun (r_2 : Str × Int) => (if r_2.2 ≠ 0 then (some (([] : Str), 1900)) else (some (r_2.1, 0)))))

set_option maxHeartbeats 4000000 in
set_option maxRecDepth 20000 in
theorem F34_calls (suite : Int) (secret : Str) (name : Str) (context : Str) (size : Int) (r : Str × Int) (H : sched_label suite secret name context size = some r) :
    Does Try.prog 34 [vi suite, vs secret, vs name, vs context, vi size] [] [] (Γ := Unit) (fun g => Value.tuple [vs r.1, vi r.2].toArray) (fun g => []) := by
  intro w hmem hro hd
  refine calls_of (N := 35) (m0 := [(0, vi suite), (1, vs secret), (2, vs name), (3, vs context), (4, vi size)]) Try.func34 rfl Try.ntmps34 (argM_ok [vi suite, vs secret, vs name, vs context, vi size]) rfl hmem hro hd ?_
  unfold sched_label at H
  refine TC_seq ?_
  refine TC_region ?_
  refine TL_v rfl rfl rfl (V_assign rfl) ?_
  refine TL_v rfl rfl rfl (V_assign rfl) ?_
  refine TL_nil ?_
  refine TX_next ?_
  refine TC_seq ?_
  refine TC_region ?_
  refine TL_v rfl rfl rfl (V_move rfl) ?_
  obtain ⟨r_1, hr_1, H⟩ := bind_elim H
  refine TL_e rfl rfl rfl (E_call (Γ := Unit) (val := fun g => Value.tuple [vi r_1.1, vi r_1.2].toArray) (mem := fun g => []) (vs := [vi suite]) (Lin := []) (Ro := []) (is := []) rfl Try.call9 (F9_calls suite r_1 hr_1) rfl trivial) (fun g_1 => ?_)
  refine TL_v rfl rfl rfl (V_move rfl) ?_
  refine TL_v rfl rfl rfl (V_extract (vs := [vi r_1.1, vi r_1.2]) rfl rfl) ?_
  refine TL_v rfl rfl rfl (V_extract (vs := [vi r_1.1, vi r_1.2]) rfl rfl) ?_
  refine TL_v rfl rfl rfl (V_assign rfl) ?_
  refine TL_v rfl rfl rfl (V_assign rfl) ?_
  refine TL_nil ?_
  refine TX_next ?_
  refine TC_seq ?_
  refine TC_seq ?_
  refine TC_region ?_
  refine TL_v rfl rfl rfl (V_move rfl) ?_
  refine TL_v rfl rfl rfl (V_bin rfl rfl (fun w => neqI w r_1.2 0)) ?_
  refine TL_nil ?_
  refine TX_next ?_
  refine TC_cond (b := (decide (r_1.2 ≠ 0))) rfl (fun hc => ?_) (fun hc => ?_)
  · replace H := ite_t (of_decide_eq_true hc) H
    refine TC_seq ?_
    refine TC_region ?_
    refine TL_v rfl rfl rfl (V_move rfl) ?_
    refine TL_v rfl rfl rfl (V_assign rfl) ?_
    refine TL_v rfl rfl rfl (V_assign rfl) ?_
    refine TL_nil ?_
    refine TX_next ?_
    refine TC_ret ?_
    refine TX_then_ret ?_
    have hrv := Option.some.inj H
    subst hrv
    exact TX_ret (rs := [.tmp 10, .tmp 11]) (vs := [vs ([] : Str), vi r_1.2]) rfl ⟨rfl, rfl, trivial⟩ (fun w' hs' => ⟨(), rfl, Step.left (Step.pulled (is := []) (A := []) hs' rfl)⟩)
  · replace H := ite_f (of_decide_eq_false hc) H
    refine TC_skip ?_
    refine TX_next ?_
    refine TC_seq ?_
    refine TC_region ?_
    refine TL_v rfl rfl rfl (V_move rfl) ?_
    refine TL_v rfl rfl rfl (V_move rfl) ?_
    refine TL_v rfl rfl rfl (V_move rfl) ?_
    refine TL_v rfl rfl rfl (V_move rfl) ?_
    refine TL_v rfl rfl rfl (V_move rfl) ?_
    obtain ⟨r_2, hr_2, H⟩ := bind_elim H
    refine TL_e rfl rfl rfl (E_call (Γ := Unit) (val := fun g => Value.tuple [vs r_2.1, vi r_2.2].toArray) (mem := fun g => []) (vs := [vi r_1.1, vs secret, vs name, vs context, vi size]) (Lin := []) (Ro := []) (is := []) rfl Try.call46 (F46_calls r_1.1 secret name context size r_2 hr_2) rfl trivial) (fun g_2 => ?_)
    refine TL_v rfl rfl rfl (V_move rfl) ?_
    refine TL_v rfl rfl rfl (V_extract (vs := [vs r_2.1, vi r_2.2]) rfl rfl) ?_
    refine TL_v rfl rfl rfl (V_extract (vs := [vs r_2.1, vi r_2.2]) rfl rfl) ?_
    refine TL_v rfl rfl rfl (V_assign rfl) ?_
    refine TL_v rfl rfl rfl (V_assign rfl) ?_
    refine TL_nil ?_
    refine TX_next ?_
    refine TC_seq ?_
    refine TC_seq ?_
    refine TC_region ?_
    refine TL_v rfl rfl rfl (V_move rfl) ?_
    refine TL_v rfl rfl rfl (V_bin rfl rfl (fun w => neqI w r_2.2 0)) ?_
    refine TL_nil ?_
    refine TX_next ?_
    refine TC_cond (b := (decide (r_2.2 ≠ 0))) rfl (fun hc => ?_) (fun hc => ?_)
    · replace H := ite_t (of_decide_eq_true hc) H
      refine TC_seq ?_
      refine TC_region ?_
      refine TL_v rfl rfl rfl (V_assign rfl) ?_
      refine TL_v rfl rfl rfl (V_assign rfl) ?_
      refine TL_nil ?_
      refine TX_next ?_
      refine TC.sub (m' := [(10, vs ([] : Str)), (11, vi 1900)]) ⟨rfl, rfl, trivial⟩ ?_
      refine TC_ret ?_
      refine TX_then_ret ?_
      have hrv := Option.some.inj H
      subst hrv
      exact TX_ret (rs := [.tmp 10, .tmp 11]) (vs := [vs ([] : Str), vi 1900]) rfl ⟨rfl, rfl, trivial⟩ (fun w' hs' => ⟨(), rfl, Step.left (Step.pulled (is := []) (A := []) hs' rfl)⟩)
    · replace H := ite_f (of_decide_eq_false hc) H
      refine TC_skip ?_
      refine TX_next ?_
      refine TC_seq ?_
      refine TC_region ?_
      refine TL_v rfl rfl rfl (V_move rfl) ?_
      refine TL_v rfl rfl rfl (V_assign rfl) ?_
      refine TL_v rfl rfl rfl (V_assign rfl) ?_
      refine TL_nil ?_
      refine TX_next ?_
      refine TC.sub (m' := [(10, vs r_2.1), (11, vi 0)]) ⟨rfl, rfl, trivial⟩ ?_
      refine TC_ret ?_
      have hrv := Option.some.inj H
      subst hrv
      exact TX_ret (rs := [.tmp 10, .tmp 11]) (vs := [vs r_2.1, vi 0]) rfl ⟨rfl, rfl, trivial⟩ (fun w' hs' => ⟨(), rfl, Step.left (Step.pulled (is := []) (A := []) hs' rfl)⟩)

end Go.Proofs
end

section
namespace Go.Proofs
open Go Go.Kx
set_option linter.unusedVariables false
set_option linter.unusedSimpArgs false
def halberdref19_Label (suite : Int) (secret : Str) (label : Str) (context : Str) (size : Int) : Option (Str × Int) :=
  (halberdref19_Bits suite).bind fun (r_1 : Int × Int) => (if r_1.2 ≠ 0 then (some (([] : Str), r_1.2)) else ((halberdref1_Label r_1.1 secret label context size).bind fun (r_2 : Str × Int) => (if r_2.2 ≠ 0 then (some (([] : Str), 1900)) else (some (r_2.1, 0)))))

set_option maxHeartbeats 4000000 in
set_option maxRecDepth 20000 in
theorem F35_calls (suite : Int) (secret : Str) (label : Str) (context : Str) (size : Int) (r : Str × Int) (H : halberdref19_Label suite secret label context size = some r) :
    Does Try.prog 35 [vi suite, vs secret, vs label, vs context, vi size] [] [] (Γ := Unit) (fun g => Value.tuple [vs r.1, vi r.2].toArray) (fun g => []) := by
  intro w hmem hro hd
  refine calls_of (N := 36) (m0 := [(0, vi suite), (1, vs secret), (2, vs label), (3, vs context), (4, vi size)]) Try.func35 rfl Try.ntmps35 (argM_ok [vi suite, vs secret, vs label, vs context, vi size]) rfl hmem hro hd ?_
  unfold halberdref19_Label at H
  refine TC_seq ?_
  refine TC_region ?_
  refine TL_v rfl rfl rfl (V_assign rfl) ?_
  refine TL_v rfl rfl rfl (V_assign rfl) ?_
  refine TL_nil ?_
  refine TX_next ?_
  refine TC_seq ?_
  refine TC_region ?_
  refine TL_v rfl rfl rfl (V_move rfl) ?_
  obtain ⟨r_1, hr_1, H⟩ := bind_elim H
  refine TL_e rfl rfl rfl (E_call (Γ := Unit) (val := fun g => Value.tuple [vi r_1.1, vi r_1.2].toArray) (mem := fun g => []) (vs := [vi suite]) (Lin := []) (Ro := []) (is := []) rfl Try.call10 (F10_calls suite r_1 hr_1) rfl trivial) (fun g_1 => ?_)
  refine TL_v rfl rfl rfl (V_move rfl) ?_
  refine TL_v rfl rfl rfl (V_extract (vs := [vi r_1.1, vi r_1.2]) rfl rfl) ?_
  refine TL_v rfl rfl rfl (V_extract (vs := [vi r_1.1, vi r_1.2]) rfl rfl) ?_
  refine TL_v rfl rfl rfl (V_assign rfl) ?_
  refine TL_v rfl rfl rfl (V_assign rfl) ?_
  refine TL_nil ?_
  refine TX_next ?_
  refine TC_seq ?_
  refine TC_seq ?_
  refine TC_region ?_
  refine TL_v rfl rfl rfl (V_move rfl) ?_
  refine TL_v rfl rfl rfl (V_bin rfl rfl (fun w => neqI w r_1.2 0)) ?_
  refine TL_nil ?_
  refine TX_next ?_
  refine TC_cond (b := (decide (r_1.2 ≠ 0))) rfl (fun hc => ?_) (fun hc => ?_)
  · replace H := ite_t (of_decide_eq_true hc) H
    refine TC_seq ?_
    refine TC_region ?_
    refine TL_v rfl rfl rfl (V_move rfl) ?_
    refine TL_v rfl rfl rfl (V_assign rfl) ?_
    refine TL_v rfl rfl rfl (V_assign rfl) ?_
    refine TL_nil ?_
    refine TX_next ?_
    refine TC_ret ?_
    refine TX_then_ret ?_
    have hrv := Option.some.inj H
    subst hrv
    exact TX_ret (rs := [.tmp 10, .tmp 11]) (vs := [vs ([] : Str), vi r_1.2]) rfl ⟨rfl, rfl, trivial⟩ (fun w' hs' => ⟨(), rfl, Step.left (Step.pulled (is := []) (A := []) hs' rfl)⟩)
  · replace H := ite_f (of_decide_eq_false hc) H
    refine TC_skip ?_
    refine TX_next ?_
    refine TC_seq ?_
    refine TC_region ?_
    refine TL_v rfl rfl rfl (V_move rfl) ?_
    refine TL_v rfl rfl rfl (V_move rfl) ?_
    refine TL_v rfl rfl rfl (V_move rfl) ?_
    refine TL_v rfl rfl rfl (V_move rfl) ?_
    refine TL_v rfl rfl rfl (V_move rfl) ?_
    obtain ⟨r_2, hr_2, H⟩ := bind_elim H
    refine TL_e rfl rfl rfl (E_call (Γ := Unit) (val := fun g => Value.tuple [vs r_2.1, vi r_2.2].toArray) (mem := fun g => []) (vs := [vi r_1.1, vs secret, vs label, vs context, vi size]) (Lin := []) (Ro := []) (is := []) rfl Try.call23 (F23_calls r_1.1 secret label context size r_2 hr_2) rfl trivial) (fun g_2 => ?_)
    refine TL_v rfl rfl rfl (V_move rfl) ?_
    refine TL_v rfl rfl rfl (V_extract (vs := [vs r_2.1, vi r_2.2]) rfl rfl) ?_
    refine TL_v rfl rfl rfl (V_extract (vs := [vs r_2.1, vi r_2.2]) rfl rfl) ?_
    refine TL_v rfl rfl rfl (V_assign rfl) ?_
    refine TL_v rfl rfl rfl (V_assign rfl) ?_
    refine TL_nil ?_
    refine TX_next ?_
    refine TC_seq ?_
    refine TC_seq ?_
    refine TC_region ?_
    refine TL_v rfl rfl rfl (V_move rfl) ?_
    refine TL_v rfl rfl rfl (V_bin rfl rfl (fun w => neqI w r_2.2 0)) ?_
    refine TL_nil ?_
    refine TX_next ?_
    refine TC_cond (b := (decide (r_2.2 ≠ 0))) rfl (fun hc => ?_) (fun hc => ?_)
    · replace H := ite_t (of_decide_eq_true hc) H
      refine TC_seq ?_
      refine TC_region ?_
      refine TL_v rfl rfl rfl (V_assign rfl) ?_
      refine TL_v rfl rfl rfl (V_assign rfl) ?_
      refine TL_nil ?_
      refine TX_next ?_
      refine TC.sub (m' := [(10, vs ([] : Str)), (11, vi 1900)]) ⟨rfl, rfl, trivial⟩ ?_
      refine TC_ret ?_
      refine TX_then_ret ?_
      have hrv := Option.some.inj H
      subst hrv
      exact TX_ret (rs := [.tmp 10, .tmp 11]) (vs := [vs ([] : Str), vi 1900]) rfl ⟨rfl, rfl, trivial⟩ (fun w' hs' => ⟨(), rfl, Step.left (Step.pulled (is := []) (A := []) hs' rfl)⟩)
    · replace H := ite_f (of_decide_eq_false hc) H
      refine TC_skip ?_
      refine TX_next ?_
      refine TC_seq ?_
      refine TC_region ?_
      refine TL_v rfl rfl rfl (V_move rfl) ?_
      refine TL_v rfl rfl rfl (V_assign rfl) ?_
      refine TL_v rfl rfl rfl (V_assign rfl) ?_
      refine TL_nil ?_
      refine TX_next ?_
      refine TC.sub (m' := [(10, vs r_2.1), (11, vi 0)]) ⟨rfl, rfl, trivial⟩ ?_
      refine TC_ret ?_
      have hrv := Option.some.inj H
      subst hrv
      exact TX_ret (rs := [.tmp 10, .tmp 11]) (vs := [vs r_2.1, vi 0]) rfl ⟨rfl, rfl, trivial⟩ (fun w' hs' => ⟨(), rfl, Step.left (Step.pulled (is := []) (A := []) hs' rfl)⟩)

end Go.Proofs
end

section
namespace Go.Proofs
open Go Go.Kx
set_option linter.unusedVariables false
set_option linter.unusedSimpArgs false
def sched_Derive (suite : Int) (secret : Str) (name : Str) (transcript : Str) : Option (Str × Int) :=
  (sched_Bits suite).bind fun (r_1 : Int × Int) => (if r_1.2 ≠ 0 then (some (([] : Str), r_1.2)) else ((sched_label suite secret name transcript (w64 (r_1.1.tdiv 8))).bind fun (r_2 : Str × Int) => (some (r_2.1, r_2.2))))

set_option maxHeartbeats 4000000 in
set_option maxRecDepth 20000 in
theorem F11_calls (suite : Int) (secret : Str) (name : Str) (transcript : Str) (r : Str × Int) (H : sched_Derive suite secret name transcript = some r) :
    Does Try.prog 11 [vi suite, vs secret, vs name, vs transcript] [] [] (Γ := Unit) (fun g => Value.tuple [vs r.1, vi r.2].toArray) (fun g => []) := by
  intro w hmem hro hd
  refine calls_of (N := 29) (m0 := [(0, vi suite), (1, vs secret), (2, vs name), (3, vs transcript)]) Try.func11 rfl Try.ntmps11 (argM_ok [vi suite, vs secret, vs name, vs transcript]) rfl hmem hro hd ?_
  unfold sched_Derive at H
  refine TC_seq ?_
  refine TC_region ?_
  refine TL_v rfl rfl rfl (V_assign rfl) ?_
  refine TL_v rfl rfl rfl (V_assign rfl) ?_
  refine TL_nil ?_
  refine TX_next ?_
  refine TC_seq ?_
  refine TC_region ?_
  refine TL_v rfl rfl rfl (V_move rfl) ?_
  obtain ⟨r_1, hr_1, H⟩ := bind_elim H
  refine TL_e rfl rfl rfl (E_call (Γ := Unit) (val := fun g => Value.tuple [vi r_1.1, vi r_1.2].toArray) (mem := fun g => []) (vs := [vi suite]) (Lin := []) (Ro := []) (is := []) rfl Try.call9 (F9_calls suite r_1 hr_1) rfl trivial) (fun g_1 => ?_)
  refine TL_v rfl rfl rfl (V_move rfl) ?_
  refine TL_v rfl rfl rfl (V_extract (vs := [vi r_1.1, vi r_1.2]) rfl rfl) ?_
  refine TL_v rfl rfl rfl (V_extract (vs := [vi r_1.1, vi r_1.2]) rfl rfl) ?_
  refine TL_v rfl rfl rfl (V_assign rfl) ?_
  refine TL_v rfl rfl rfl (V_assign rfl) ?_
  refine TL_nil ?_
  refine TX_next ?_
  refine TC_seq ?_
  refine TC_seq ?_
  refine TC_region ?_
  refine TL_v rfl rfl rfl (V_move rfl) ?_
  refine TL_v rfl rfl rfl (V_bin rfl rfl (fun w => neqI w r_1.2 0)) ?_
  refine TL_nil ?_
  refine TX_next ?_
  refine TC_cond (b := (decide (r_1.2 ≠ 0))) rfl (fun hc => ?_) (fun hc => ?_)
  · replace H := ite_t (of_decide_eq_true hc) H
    refine TC_seq ?_
    refine TC_region ?_
    refine TL_v rfl rfl rfl (V_move rfl) ?_
    refine TL_v rfl rfl rfl (V_assign rfl) ?_
    refine TL_v rfl rfl rfl (V_assign rfl) ?_
    refine TL_nil ?_
    refine TX_next ?_
    refine TC_ret ?_
    refine TX_then_ret ?_
    have hrv := Option.some.inj H
    subst hrv
    exact TX_ret (rs := [.tmp 8, .tmp 9]) (vs := [vs ([] : Str), vi r_1.2]) rfl ⟨rfl, rfl, trivial⟩ (fun w' hs' => ⟨(), rfl, Step.left (Step.pulled (is := []) (A := []) hs' rfl)⟩)
  · replace H := ite_f (of_decide_eq_false hc) H
    refine TC_skip ?_
    refine TX_next ?_
    refine TC_seq ?_
    refine TC_region ?_
    refine TL_v rfl rfl rfl (V_move rfl) ?_
    refine TL_v rfl rfl rfl (V_move rfl) ?_
    refine TL_v rfl rfl rfl (V_move rfl) ?_
    refine TL_v rfl rfl rfl (V_move rfl) ?_
    refine TL_v rfl rfl rfl (V_move rfl) ?_
    refine TL_v rfl rfl rfl (V_bin rfl rfl (fun w => quoI w r_1.1 8 (by decide))) ?_
    obtain ⟨r_2, hr_2, H⟩ := bind_elim H
    refine TL_e rfl rfl rfl (E_call (Γ := Unit) (val := fun g => Value.tuple [vs r_2.1, vi r_2.2].toArray) (mem := fun g => []) (vs := [vi suite, vs secret, vs name, vs transcript, vi (w64 (r_1.1.tdiv 8))]) (Lin := []) (Ro := []) (is := []) rfl Try.call34 (F34_calls suite secret name transcript (w64 (r_1.1.tdiv 8)) r_2 hr_2) rfl trivial) (fun g_2 => ?_)
    refine TL_v rfl rfl rfl (V_extract (vs := [vs r_2.1, vi r_2.2]) rfl rfl) ?_
    refine TL_v rfl rfl rfl (V_extract (vs := [vs r_2.1, vi r_2.2]) rfl rfl) ?_
    refine TL_v rfl rfl rfl (V_assign rfl) ?_
    refine TL_v rfl rfl rfl (V_assign rfl) ?_
    refine TL_nil ?_
    refine TX_next ?_
    refine TC_ret ?_
    have hrv := Option.some.inj H
    subst hrv
    exact TX_ret (rs := [.tmp 8, .tmp 9]) (vs := [vs r_2.1, vi r_2.2]) rfl ⟨rfl, rfl, trivial⟩ (fun w' hs' => ⟨(), rfl, Step.left (Step.pulled (is := []) (A := []) hs' rfl)⟩)

end Go.Proofs
end

section
namespace Go.Proofs
open Go Go.Kx
set_option linter.unusedVariables false
set_option linter.unusedSimpArgs false
def halberdref19_Derive (suite : Int) (secret : Str) (label : Str) (transcript : Str) : Option (Str × Int) :=
  (halberdref19_Bits suite).bind fun (r_1 : Int × Int) => ((halberdref19_Label suite secret label transcript (w64 (r_1.1.tdiv 8))).bind fun (r_2 : Str × Int) => (some (r_2.1, r_2.2)))

set_option maxHeartbeats 4000000 in
set_option maxRecDepth 20000 in
theorem F12_calls (suite : Int) (secret : Str) (label : Str) (transcript : Str) (r : Str × Int) (H : halberdref19_Derive suite secret label transcript = some r) :
    Does Try.prog 12 [vi suite, vs secret, vs label, vs transcript] [] [] (Γ := Unit) (fun g => Value.tuple [vs r.1, vi r.2].toArray) (fun g => []) := by
  intro w hmem hro hd
  refine calls_of (N := 26) (m0 := [(0, vi suite), (1, vs secret), (2, vs label), (3, vs transcript)]) Try.func12 rfl Try.ntmps12 (argM_ok [vi suite, vs secret, vs label, vs transcript]) rfl hmem hro hd ?_
  unfold halberdref19_Derive at H
  refine TC_seq ?_
  refine TC_region ?_
  refine TL_v rfl rfl rfl (V_assign rfl) ?_
  refine TL_v rfl rfl rfl (V_assign rfl) ?_
  refine TL_nil ?_
  refine TX_next ?_
  refine TC_seq ?_
  refine TC_region ?_
  refine TL_v rfl rfl rfl (V_move rfl) ?_
  obtain ⟨r_1, hr_1, H⟩ := bind_elim H
  refine TL_e rfl rfl rfl (E_call (Γ := Unit) (val := fun g => Value.tuple [vi r_1.1, vi r_1.2].toArray) (mem := fun g => []) (vs := [vi suite]) (Lin := []) (Ro := []) (is := []) rfl Try.call10 (F10_calls suite r_1 hr_1) rfl trivial) (fun g_1 => ?_)
  refine TL_v rfl rfl rfl (V_move rfl) ?_
  refine TL_v rfl rfl rfl (V_extract (vs := [vi r_1.1, vi r_1.2]) rfl rfl) ?_
  refine TL_v rfl rfl rfl (V_extract (vs := [vi r_1.1, vi r_1.2]) rfl rfl) ?_
  refine TL_v rfl rfl rfl (V_assign rfl) ?_
  refine TL_v rfl rfl rfl (V_assign rfl) ?_
  refine TL_nil ?_
  refine TX_next ?_
  refine TC_seq ?_
  refine TC_region ?_
  refine TL_v rfl rfl rfl (V_move rfl) ?_
  refine TL_v rfl rfl rfl (V_move rfl) ?_
  refine TL_v rfl rfl rfl (V_move rfl) ?_
  refine TL_v rfl rfl rfl (V_move rfl) ?_
  refine TL_v rfl rfl rfl (V_move rfl) ?_
  refine TL_v rfl rfl rfl (V_bin rfl rfl (fun w => quoI w r_1.1 8 (by decide))) ?_
  obtain ⟨r_2, hr_2, H⟩ := bind_elim H
  refine TL_e rfl rfl rfl (E_call (Γ := Unit) (val := fun g => Value.tuple [vs r_2.1, vi r_2.2].toArray) (mem := fun g => []) (vs := [vi suite, vs secret, vs label, vs transcript, vi (w64 (r_1.1.tdiv 8))]) (Lin := []) (Ro := []) (is := []) rfl Try.call35 (F35_calls suite secret label transcript (w64 (r_1.1.tdiv 8)) r_2 hr_2) rfl trivial) (fun g_2 => ?_)
  refine TL_v rfl rfl rfl (V_extract (vs := [vs r_2.1, vi r_2.2]) rfl rfl) ?_
  refine TL_v rfl rfl rfl (V_extract (vs := [vs r_2.1, vi r_2.2]) rfl rfl) ?_
  refine TL_v rfl rfl rfl (V_assign rfl) ?_
  refine TL_v rfl rfl rfl (V_assign rfl) ?_
  refine TL_nil ?_
  refine TX_next ?_
  refine TC_ret ?_
  have hrv := Option.some.inj H
  subst hrv
  exact TX_ret (rs := [.tmp 8, .tmp 9]) (vs := [vs r_2.1, vi r_2.2]) rfl ⟨rfl, rfl, trivial⟩ (fun w' hs' => ⟨(), rfl, Step.left (Step.pulled (is := []) (A := []) hs' rfl)⟩)

end Go.Proofs
end

section
namespace Go.Proofs
open Go Go.Kx
set_option linter.unusedVariables false
set_option linter.unusedSimpArgs false
def sched_extract (suite : Int) (salt : Str) (key : Str) : Option (Str × Int) :=
  (sched_Bits suite).bind fun (r_1 : Int × Int) => (if r_1.2 ≠ 0 then (some (([] : Str), r_1.2)) else ((if key = ([] : Str) then (if 0 ≤ w64 (r_1.1.tdiv 8) ∧ w64 (r_1.1.tdiv 8) ≤ 17592186044416 then (if (List.replicate ((w64 (r_1.1.tdiv 8)).toNat) 0#8).length = (w64 (r_1.1.tdiv 8)).toNat then (ltt (List.replicate ((w64 (r_1.1.tdiv 8)).toNat) 0#8) fun (key1 : Str) => (some key1)) else none) else none) else (some key)).bind fun (j1 : Str) => ((hkdf_Extract r_1.1 salt j1).bind fun (r_2 : Str × Int) => (some (r_2.1, 0)))))

set_option maxHeartbeats 4000000 in
set_option maxRecDepth 20000 in
theorem F36_calls (suite : Int) (salt : Str) (key : Str) (r : Str × Int) (H : sched_extract suite salt key = some r) :
    Does Try.prog 36 [vi suite, vs salt, vs key] [] [] (Γ := Unit) (fun g => Value.tuple [vs r.1, vi r.2].toArray) (fun g => []) := by
  intro w hmem hro hd
  refine calls_of (N := 34) (m0 := [(0, vi suite), (1, vs salt), (2, vs key)]) Try.func36 rfl Try.ntmps36 (argM_ok [vi suite, vs salt, vs key]) rfl hmem hro hd ?_
  unfold sched_extract at H
  refine TC_seq ?_
  refine TC_region ?_
  refine TL_v rfl rfl rfl (V_assign rfl) ?_
  refine TL_v rfl rfl rfl (V_assign rfl) ?_
  refine TL_nil ?_
  refine TX_next ?_
  refine TC_seq ?_
  refine TC_region ?_
  refine TL_v rfl rfl rfl (V_move rfl) ?_
  obtain ⟨r_1, hr_1, H⟩ := bind_elim H
  refine TL_e rfl rfl rfl (E_call (Γ := Unit) (val := fun g => Value.tuple [vi r_1.1, vi r_1.2].toArray) (mem := fun g => []) (vs := [vi suite]) (Lin := []) (Ro := []) (is := []) rfl Try.call9 (F9_calls suite r_1 hr_1) rfl trivial) (fun g_1 => ?_)
  refine TL_v rfl rfl rfl (V_move rfl) ?_
  refine TL_v rfl rfl rfl (V_extract (vs := [vi r_1.1, vi r_1.2]) rfl rfl) ?_
  refine TL_v rfl rfl rfl (V_extract (vs := [vi r_1.1, vi r_1.2]) rfl rfl) ?_
  refine TL_v rfl rfl rfl (V_assign rfl) ?_
  refine TL_v rfl rfl rfl (V_assign rfl) ?_
  refine TL_nil ?_
  refine TX_next ?_
  refine TC_seq ?_
  refine TC_seq ?_
  refine TC_region ?_
  refine TL_v rfl rfl rfl (V_move rfl) ?_
  refine TL_v rfl rfl rfl (V_bin rfl rfl (fun w => neqI w r_1.2 0)) ?_
  refine TL_nil ?_
  refine TX_next ?_
  refine TC_cond (b := (decide (r_1.2 ≠ 0))) rfl (fun hc => ?_) (fun hc => ?_)
  · replace H := ite_t (of_decide_eq_true hc) H
    refine TC_seq ?_
    refine TC_region ?_
    refine TL_v rfl rfl rfl (V_move rfl) ?_
    refine TL_v rfl rfl rfl (V_assign rfl) ?_
    refine TL_v rfl rfl rfl (V_assign rfl) ?_
    refine TL_nil ?_
    refine TX_next ?_
    refine TC_ret ?_
    refine TX_then_ret ?_
    have hrv := Option.some.inj H
    subst hrv
    exact TX_ret (rs := [.tmp 6, .tmp 7]) (vs := [vs ([] : Str), vi r_1.2]) rfl ⟨rfl, rfl, trivial⟩ (fun w' hs' => ⟨(), rfl, Step.left (Step.pulled (is := []) (A := []) hs' rfl)⟩)
  · replace H := ite_f (of_decide_eq_false hc) H
    refine TC_skip ?_
    refine TX_next ?_
    refine TC_seq ?_
    refine TC_seq ?_
    refine TC_region ?_
    refine TL_v rfl rfl rfl (V_move rfl) ?_
    refine TL_v rfl rfl rfl (V_bin rfl rfl (fun w => eqlS w key ([] : Str))) ?_
    refine TL_nil ?_
    refine TX_next ?_
    obtain ⟨j1, Hj, H⟩ := bind_elim H
    refine TC_join (Γ := Unit) (fun gj1 => [(1, vs salt), (2, vs j1), (8, vi r_1.1)]) (fun gj1 => []) ?_ ?_
    · intro gj1
      refine TX_next ?_
      refine TC_seq ?_
      refine TC_region ?_
      refine TL_v rfl rfl rfl (V_move rfl) ?_
      refine TL_v rfl rfl rfl (V_move rfl) ?_
      refine TL_v rfl rfl rfl (V_move rfl) ?_
      obtain ⟨r_2, hr_2, H⟩ := bind_elim H
      refine TL_e rfl rfl rfl (E_call (Γ := Unit) (val := fun g => Value.tuple [vs r_2.1, vi r_2.2].toArray) (mem := fun g => []) (vs := [vi r_1.1, vs salt, vs j1]) (Lin := []) (Ro := []) (is := []) rfl Try.call47 (F47_calls r_1.1 salt j1 r_2 hr_2) rfl trivial) (fun g_2 => ?_)
      refine TL_v rfl rfl rfl (V_move rfl) ?_
      refine TL_v rfl rfl rfl (V_extract (vs := [vs r_2.1, vi r_2.2]) rfl rfl) ?_
      refine TL_v rfl rfl rfl (V_extract (vs := [vs r_2.1, vi r_2.2]) rfl rfl) ?_
      refine TL_v rfl rfl rfl (V_assign rfl) ?_
      refine TL_v rfl rfl rfl (V_assign rfl) ?_
      refine TL_nil ?_
      refine TX_next ?_
      refine TC_seq ?_
      refine TC_region ?_
      refine TL_v rfl rfl rfl (V_move rfl) ?_
      refine TL_v rfl rfl rfl (V_assign rfl) ?_
      refine TL_v rfl rfl rfl (V_assign rfl) ?_
      refine TL_nil ?_
      refine TX_next ?_
      refine TC_ret ?_
      have hrv := Option.some.inj H
      subst hrv
      exact TX_ret (rs := [.tmp 6, .tmp 7]) (vs := [vs r_2.1, vi 0]) rfl ⟨rfl, rfl, trivial⟩ (fun w' hs' => ⟨(), rfl, Step.left (Step.pulled (is := []) (A := []) hs' rfl)⟩)
    · intro hJ
      replace H := Hj
      refine TC_cond (b := (decide (key = ([] : Str)))) rfl (fun hc => ?_) (fun hc => ?_)
      · replace H := ite_t (of_decide_eq_true hc) H
        refine TC_region ?_
        refine TL_v rfl rfl rfl (V_move rfl) ?_
        refine TL_v rfl rfl rfl (V_bin rfl rfl (fun w => quoI w r_1.1 8 (by decide))) ?_
        obtain ⟨h1, H⟩ := if_elim H
        refine TL_e rfl rfl rfl (E_mk1 rfl rfl Try.underlying49 TryI.inf5 (z := v8 0#8) rfl rfl rfl (B := 1) rfl h1.1 (Int.le_refl _) (by have := h1; omega) (by have := h1; omega) (n' := (w64 (r_1.1.tdiv 8)).toNat) (c' := (w64 (r_1.1.tdiv 8)).toNat) rfl rfl (cs := e8 (List.replicate ((w64 (r_1.1.tdiv 8)).toNat) 0#8)) (rep_map (f := v8))) (fun b1 => ?_)
        obtain ⟨h2, H⟩ := if_elim H
        refine TL_v rfl rfl rfl (V_b2s rfl Try.underlying49 Try.underlying5 Try.underlying9 (Src.own (j := 0) rfl) h2) ?_
        refine TL_v rfl rfl rfl (V_assign rfl) ?_
        obtain ⟨key1, hkey1, H⟩ := ltt_elim H
        refine TL_re (d := 2) (v := vs (List.replicate ((w64 (r_1.1.tdiv 8)).toNat) 0#8)) (v' := vs key1) rfl (congrArg vs hkey1) ?_
        refine TL_nil ?_
        refine TX.sub (m' := [(1, vs salt), (2, vs key1), (8, vi r_1.1)]) ⟨rfl, rfl, rfl, trivial⟩ ?_
        refine TX.pull (is := []) (L' := []) rfl ?_
        obtain rfl := Option.some.inj H
        exact hJ ()
      · replace H := ite_f (of_decide_eq_false hc) H
        refine TC_skip ?_
        refine TX.sub (m' := [(1, vs salt), (2, vs key), (8, vi r_1.1)]) ⟨rfl, rfl, rfl, trivial⟩ ?_
        refine TX.pull (is := []) (L' := []) rfl ?_
        obtain rfl := Option.some.inj H
        exact hJ ()

end Go.Proofs
end

section
namespace Go.Proofs
open Go Go.Kx
set_option linter.unusedVariables false
set_option linter.unusedSimpArgs false
def halberdref19_zeros (s_ : Str) (b : Int) : Option (Str) :=
  if s_ = ([] : Str) then (if 0 ≤ w64 (b.tdiv 8) ∧ w64 (b.tdiv 8) ≤ 17592186044416 then (if (List.replicate ((w64 (b.tdiv 8)).toNat) 0#8).length = (w64 (b.tdiv 8)).toNat then (ltt (List.replicate ((w64 (b.tdiv 8)).toNat) 0#8) fun (x1 : Str) => (some x1)) else none) else none) else (some s_)

set_option maxHeartbeats 4000000 in
set_option maxRecDepth 20000 in
theorem F37_calls (s_ : Str) (b : Int) (r : Str) (H : halberdref19_zeros s_ b = some r) :
    Does Try.prog 37 [vs s_, vi b] [] [] (Γ := Unit) (fun g => vs r) (fun g => []) := by
  intro w hmem hro hd
  refine calls_of (N := 12) (m0 := [(0, vs s_), (1, vi b)]) Try.func37 rfl Try.ntmps37 (argM_ok [vs s_, vi b]) rfl hmem hro hd ?_
  unfold halberdref19_zeros at H
  refine TC_seq ?_
  refine TC_region ?_
  refine TL_v rfl rfl rfl (V_assign rfl) ?_
  refine TL_nil ?_
  refine TX_next ?_
  refine TC_seq ?_
  refine TC_seq ?_
  refine TC_region ?_
  refine TL_v rfl rfl rfl (V_move rfl) ?_
  refine TL_v rfl rfl rfl (V_bin rfl rfl (fun w => eqlS w s_ ([] : Str))) ?_
  refine TL_nil ?_
  refine TX_next ?_
  refine TC_cond (b := (decide (s_ = ([] : Str)))) rfl (fun hc => ?_) (fun hc => ?_)
  · replace H := ite_t (of_decide_eq_true hc) H
    refine TC_seq ?_
    refine TC_region ?_
    refine TL_v rfl rfl rfl (V_move rfl) ?_
    refine TL_v rfl rfl rfl (V_bin rfl rfl (fun w => quoI w b 8 (by decide))) ?_
    obtain ⟨h1, H⟩ := if_elim H
    refine TL_e rfl rfl rfl (E_mk1 rfl rfl Try.underlying49 TryI.inf5 (z := v8 0#8) rfl rfl rfl (B := 1) rfl h1.1 (Int.le_refl _) (by have := h1; omega) (by have := h1; omega) (n' := (w64 (b.tdiv 8)).toNat) (c' := (w64 (b.tdiv 8)).toNat) rfl rfl (cs := e8 (List.replicate ((w64 (b.tdiv 8)).toNat) 0#8)) (rep_map (f := v8))) (fun b1 => ?_)
    obtain ⟨h2, H⟩ := if_elim H
    refine TL_v rfl rfl rfl (V_b2s rfl Try.underlying49 Try.underlying5 Try.underlying9 (Src.own (j := 0) rfl) h2) ?_
    refine TL_v rfl rfl rfl (V_assign rfl) ?_
    obtain ⟨x1, hx1, H⟩ := ltt_elim H
    refine TL_re (d := 4) (v := vs (List.replicate ((w64 (b.tdiv 8)).toNat) 0#8)) (v' := vs x1) rfl (congrArg vs hx1) ?_
    refine TL_nil ?_
    refine TX_next ?_
    refine TC_ret ?_
    refine TX_then_ret ?_
    have hrv := Option.some.inj H
    subst hrv
    exact TX_ret (rs := [.tmp 4]) (vs := [vs x1]) rfl ⟨rfl, trivial⟩ (fun w' hs' => ⟨(), rfl, Step.left (Step.pulled (is := []) (A := []) hs' rfl)⟩)
  · replace H := ite_f (of_decide_eq_false hc) H
    refine TC_skip ?_
    refine TX_next ?_
    refine TC_seq ?_
    refine TC_region ?_
    refine TL_v rfl rfl rfl (V_move rfl) ?_
    refine TL_v rfl rfl rfl (V_assign rfl) ?_
    refine TL_nil ?_
    refine TX_next ?_
    refine TC_ret ?_
    have hrv := Option.some.inj H
    subst hrv
    exact TX_ret (rs := [.tmp 4]) (vs := [vs s_]) rfl ⟨rfl, trivial⟩ (fun w' hs' => ⟨(), rfl, Step.left (Step.pulled (is := []) (A := []) hs' rfl)⟩)

end Go.Proofs
end

section
namespace Go.Proofs
open Go Go.Kx
set_option linter.unusedVariables false
set_option linter.unusedSimpArgs false
def sched_Early (suite : Int) (psk : Str) : Option (Str × Int) :=
  (sched_Bits suite).bind fun (r_1 : Int × Int) => (if 0 ≤ w64 (r_1.1.tdiv 8) ∧ w64 (r_1.1.tdiv 8) ≤ 17592186044416 then (if (List.replicate ((w64 (r_1.1.tdiv 8)).toNat) 0#8).length = (w64 (r_1.1.tdiv 8)).toNat then ((sched_extract suite (List.replicate ((w64 (r_1.1.tdiv 8)).toNat) 0#8) psk).bind fun (r_2 : Str × Int) => (some (r_2.1, r_2.2))) else none) else none)

set_option maxHeartbeats 4000000 in
set_option maxRecDepth 20000 in
theorem F13_calls (suite : Int) (psk : Str) (r : Str × Int) (H : sched_Early suite psk = some r) :
    Does Try.prog 13 [vi suite, vs psk] [] [] (Γ := Unit) (fun g => Value.tuple [vs r.1, vi r.2].toArray) (fun g => []) := by
  intro w hmem hro hd
  refine calls_of (N := 22) (m0 := [(0, vi suite), (1, vs psk)]) Try.func13 rfl Try.ntmps13 (argM_ok [vi suite, vs psk]) rfl hmem hro hd ?_
  unfold sched_Early at H
  refine TC_seq ?_
  refine TC_region ?_
  refine TL_v rfl rfl rfl (V_assign rfl) ?_
  refine TL_v rfl rfl rfl (V_assign rfl) ?_
  refine TL_nil ?_
  refine TX_next ?_
  refine TC_seq ?_
  refine TC_region ?_
  refine TL_v rfl rfl rfl (V_move rfl) ?_
  obtain ⟨r_1, hr_1, H⟩ := bind_elim H
  refine TL_e rfl rfl rfl (E_call (Γ := Unit) (val := fun g => Value.tuple [vi r_1.1, vi r_1.2].toArray) (mem := fun g => []) (vs := [vi suite]) (Lin := []) (Ro := []) (is := []) rfl Try.call9 (F9_calls suite r_1 hr_1) rfl trivial) (fun g_1 => ?_)
  refine TL_v rfl rfl rfl (V_move rfl) ?_
  refine TL_v rfl rfl rfl (V_extract (vs := [vi r_1.1, vi r_1.2]) rfl rfl) ?_
  refine TL_v rfl rfl rfl (V_extract (vs := [vi r_1.1, vi r_1.2]) rfl rfl) ?_
  refine TL_v rfl rfl rfl (V_assign rfl) ?_
  refine TL_v rfl rfl rfl (V_assign rfl) ?_
  refine TL_nil ?_
  refine TX_next ?_
  refine TC_seq ?_
  refine TC_region ?_
  refine TL_v rfl rfl rfl (V_move rfl) ?_
  refine TL_v rfl rfl rfl (V_move rfl) ?_
  refine TL_v rfl rfl rfl (V_bin rfl rfl (fun w => quoI w r_1.1 8 (by decide))) ?_
  obtain ⟨h1, H⟩ := if_elim H
  refine TL_e rfl rfl rfl (E_mk1 rfl rfl Try.underlying49 TryI.inf5 (z := v8 0#8) rfl rfl rfl (B := 1) rfl h1.1 (Int.le_refl _) (by have := h1; omega) (by have := h1; omega) (n' := (w64 (r_1.1.tdiv 8)).toNat) (c' := (w64 (r_1.1.tdiv 8)).toNat) rfl rfl (cs := e8 (List.replicate ((w64 (r_1.1.tdiv 8)).toNat) 0#8)) (rep_map (f := v8))) (fun b1 => ?_)
  obtain ⟨h2, H⟩ := if_elim H
  refine TL_v rfl rfl rfl (V_b2s rfl Try.underlying49 Try.underlying5 Try.underlying9 (Src.own (j := 0) rfl) h2) ?_
  refine TL_v rfl rfl rfl (V_move rfl) ?_
  obtain ⟨r_2, hr_2, H⟩ := bind_elim H
  refine TL_e rfl rfl rfl (E_call (Γ := Unit) (val := fun g => Value.tuple [vs r_2.1, vi r_2.2].toArray) (mem := fun g => []) (vs := [vi suite, vs (List.replicate ((w64 (r_1.1.tdiv 8)).toNat) 0#8), vs psk]) (Lin := []) (Ro := []) (is := []) rfl Try.call36 (F36_calls suite (List.replicate ((w64 (r_1.1.tdiv 8)).toNat) 0#8) psk r_2 hr_2) rfl trivial) (fun g_2 => ?_)
  refine TL_v rfl rfl rfl (V_extract (vs := [vs r_2.1, vi r_2.2]) rfl rfl) ?_
  refine TL_v rfl rfl rfl (V_extract (vs := [vs r_2.1, vi r_2.2]) rfl rfl) ?_
  refine TL_v rfl rfl rfl (V_assign rfl) ?_
  refine TL_v rfl rfl rfl (V_assign rfl) ?_
  refine TL_nil ?_
  refine TX_next ?_
  refine TC_ret ?_
  have hrv := Option.some.inj H
  subst hrv
  exact TX_ret (rs := [.tmp 4, .tmp 5]) (vs := [vs r_2.1, vi r_2.2]) rfl ⟨rfl, rfl, trivial⟩ (fun w' hs' => ⟨(), rfl, Step.left (Step.pulled (is := []) (A := []) hs' rfl)⟩)

end Go.Proofs
end

section
namespace Go.Proofs
open Go Go.Kx
set_option linter.unusedVariables false
set_option linter.unusedSimpArgs false
def halberdref19_Early (suite : Int) (psk : Str) : Option (Str × Int) :=
  (halberdref19_Bits suite).bind fun (r_1 : Int × Int) => (if r_1.2 ≠ 0 then (some (([] : Str), r_1.2)) else ((halberdref19_zeros ([] : Str) r_1.1).bind fun (r_2 : Str) => ((halberdref19_zeros psk r_1.1).bind fun (r_3 : Str) => ((halberdref1_Mac r_1.1 r_2 r_3).bind fun (r_4 : Str) => (some (r_4, 0))))))

set_option maxHeartbeats 4000000 in
set_option maxRecDepth 20000 in
theorem F14_calls (suite : Int) (psk : Str) (r : Str × Int) (H : halberdref19_Early suite psk = some r) :
    Does Try.prog 14 [vi suite, vs psk] [] [] (Γ := Unit) (fun g => Value.tuple [vs r.1, vi r.2].toArray) (fun g => []) := by
  intro w hmem hro hd
  refine calls_of (N := 23) (m0 := [(0, vi suite), (1, vs psk)]) Try.func14 rfl Try.ntmps14 (argM_ok [vi suite, vs psk]) rfl hmem hro hd ?_
  unfold halberdref19_Early at H
  refine TC_seq ?_
  refine TC_region ?_
  refine TL_v rfl rfl rfl (V_assign rfl) ?_
  refine TL_v rfl rfl rfl (V_assign rfl) ?_
  refine TL_nil ?_
  refine TX_next ?_
  refine TC_seq ?_
  refine TC_region ?_
  refine TL_v rfl rfl rfl (V_move rfl) ?_
  obtain ⟨r_1, hr_1, H⟩ := bind_elim H
  refine TL_e rfl rfl rfl (E_call (Γ := Unit) (val := fun g => Value.tuple [vi r_1.1, vi r_1.2].toArray) (mem := fun g => []) (vs := [vi suite]) (Lin := []) (Ro := []) (is := []) rfl Try.call10 (F10_calls suite r_1 hr_1) rfl trivial) (fun g_1 => ?_)
  refine TL_v rfl rfl rfl (V_move rfl) ?_
  refine TL_v rfl rfl rfl (V_extract (vs := [vi r_1.1, vi r_1.2]) rfl rfl) ?_
  refine TL_v rfl rfl rfl (V_extract (vs := [vi r_1.1, vi r_1.2]) rfl rfl) ?_
  refine TL_v rfl rfl rfl (V_assign rfl) ?_
  refine TL_v rfl rfl rfl (V_assign rfl) ?_
  refine TL_nil ?_
  refine TX_next ?_
  refine TC_seq ?_
  refine TC_seq ?_
  refine TC_region ?_
  refine TL_v rfl rfl rfl (V_move rfl) ?_
  refine TL_v rfl rfl rfl (V_bin rfl rfl (fun w => neqI w r_1.2 0)) ?_
  refine TL_nil ?_
  refine TX_next ?_
  refine TC_cond (b := (decide (r_1.2 ≠ 0))) rfl (fun hc => ?_) (fun hc => ?_)
  · replace H := ite_t (of_decide_eq_true hc) H
    refine TC_seq ?_
    refine TC_region ?_
    refine TL_v rfl rfl rfl (V_move rfl) ?_
    refine TL_v rfl rfl rfl (V_assign rfl) ?_
    refine TL_v rfl rfl rfl (V_assign rfl) ?_
    refine TL_nil ?_
    refine TX_next ?_
    refine TC_ret ?_
    refine TX_then_ret ?_
    have hrv := Option.some.inj H
    subst hrv
    exact TX_ret (rs := [.tmp 4, .tmp 5]) (vs := [vs ([] : Str), vi r_1.2]) rfl ⟨rfl, rfl, trivial⟩ (fun w' hs' => ⟨(), rfl, Step.left (Step.pulled (is := []) (A := []) hs' rfl)⟩)
  · replace H := ite_f (of_decide_eq_false hc) H
    refine TC_skip ?_
    refine TX_next ?_
    refine TC_seq ?_
    refine TC_region ?_
    refine TL_v rfl rfl rfl (V_move rfl) ?_
    refine TL_v rfl rfl rfl (V_move rfl) ?_
    obtain ⟨r_2, hr_2, H⟩ := bind_elim H
    refine TL_e rfl rfl rfl (E_call (Γ := Unit) (val := fun g => vs r_2) (mem := fun g => []) (vs := [vs ([] : Str), vi r_1.1]) (Lin := []) (Ro := []) (is := []) rfl Try.call37 (F37_calls ([] : Str) r_1.1 r_2 hr_2) rfl trivial) (fun g_2 => ?_)
    refine TL_v rfl rfl rfl (V_move rfl) ?_
    refine TL_v rfl rfl rfl (V_move rfl) ?_
    obtain ⟨r_3, hr_3, H⟩ := bind_elim H
    refine TL_e rfl rfl rfl (E_call (Γ := Unit) (val := fun g => vs r_3) (mem := fun g => []) (vs := [vs psk, vi r_1.1]) (Lin := []) (Ro := []) (is := []) rfl Try.call37 (F37_calls psk r_1.1 r_3 hr_3) rfl trivial) (fun g_3 => ?_)
    obtain ⟨r_4, hr_4, H⟩ := bind_elim H
    refine TL_e rfl rfl rfl (E_call (Γ := Unit) (val := fun g => vs r_4) (mem := fun g => []) (vs := [vi r_1.1, vs r_2, vs r_3]) (Lin := []) (Ro := []) (is := []) rfl Try.call25 (F25_calls r_1.1 r_2 r_3 r_4 hr_4) rfl trivial) (fun g_4 => ?_)
    refine TL_v rfl rfl rfl (V_assign rfl) ?_
    refine TL_v rfl rfl rfl (V_assign rfl) ?_
    refine TL_nil ?_
    refine TX_next ?_
    refine TC_ret ?_
    have hrv := Option.some.inj H
    subst hrv
    exact TX_ret (rs := [.tmp 4, .tmp 5]) (vs := [vs r_4, vi 0]) rfl ⟨rfl, rfl, trivial⟩ (fun w' hs' => ⟨(), rfl, Step.left (Step.pulled (is := []) (A := []) hs' rfl)⟩)

end Go.Proofs
end

section
namespace Go.Proofs
open Go Go.Kx
set_option linter.unusedVariables false
set_option linter.unusedSimpArgs false
def sched_Hash (suite : Int) (s_ : Str) : Option (Str) :=
  (sched_Bits suite).bind fun (r_1 : Int × Int) => ((sha_Sum r_1.1 s_).bind fun (r_2 : Str × Int) => (some r_2.1))

set_option maxHeartbeats 4000000 in
set_option maxRecDepth 20000 in
theorem F38_calls (suite : Int) (s_ : Str) (r : Str) (H : sched_Hash suite s_ = some r) :
    Does Try.prog 38 [vi suite, vs s_] [] [] (Γ := Unit) (fun g => vs r) (fun g => []) := by
  intro w hmem hro hd
  refine calls_of (N := 21) (m0 := [(0, vi suite), (1, vs s_)]) Try.func38 rfl Try.ntmps38 (argM_ok [vi suite, vs s_]) rfl hmem hro hd ?_
  unfold sched_Hash at H
  refine TC_seq ?_
  refine TC_region ?_
  refine TL_v rfl rfl rfl (V_assign rfl) ?_
  refine TL_nil ?_
  refine TX_next ?_
  refine TC_seq ?_
  refine TC_region ?_
  refine TL_v rfl rfl rfl (V_move rfl) ?_
  obtain ⟨r_1, hr_1, H⟩ := bind_elim H
  refine TL_e rfl rfl rfl (E_call (Γ := Unit) (val := fun g => Value.tuple [vi r_1.1, vi r_1.2].toArray) (mem := fun g => []) (vs := [vi suite]) (Lin := []) (Ro := []) (is := []) rfl Try.call9 (F9_calls suite r_1 hr_1) rfl trivial) (fun g_1 => ?_)
  refine TL_v rfl rfl rfl (V_move rfl) ?_
  refine TL_v rfl rfl rfl (V_extract (vs := [vi r_1.1, vi r_1.2]) rfl rfl) ?_
  refine TL_v rfl rfl rfl (V_extract (vs := [vi r_1.1, vi r_1.2]) rfl rfl) ?_
  refine TL_v rfl rfl rfl (V_assign rfl) ?_
  refine TL_v rfl rfl rfl (V_assign rfl) ?_
  refine TL_nil ?_
  refine TX_next ?_
  refine TC_seq ?_
  refine TC_region ?_
  refine TL_v rfl rfl rfl (V_move rfl) ?_
  refine TL_v rfl rfl rfl (V_move rfl) ?_
  obtain ⟨r_2, hr_2, H⟩ := bind_elim H
  refine TL_e rfl rfl rfl (E_call (Γ := Unit) (val := fun g => Value.tuple [vs r_2.1, vi r_2.2].toArray) (mem := fun g => []) (vs := [vi r_1.1, vs s_]) (Lin := []) (Ro := []) (is := []) rfl Try.call48 (F48_calls r_1.1 s_ r_2 hr_2) rfl trivial) (fun g_2 => ?_)
  refine TL_v rfl rfl rfl (V_move rfl) ?_
  refine TL_v rfl rfl rfl (V_extract (vs := [vs r_2.1, vi r_2.2]) rfl rfl) ?_
  refine TL_v rfl rfl rfl (V_extract (vs := [vs r_2.1, vi r_2.2]) rfl rfl) ?_
  refine TL_v rfl rfl rfl (V_assign rfl) ?_
  refine TL_v rfl rfl rfl (V_assign rfl) ?_
  refine TL_nil ?_
  refine TX_next ?_
  refine TC_seq ?_
  refine TC_region ?_
  refine TL_v rfl rfl rfl (V_move rfl) ?_
  refine TL_v rfl rfl rfl (V_assign rfl) ?_
  refine TL_nil ?_
  refine TX_next ?_
  refine TC_ret ?_
  have hrv := Option.some.inj H
  subst hrv
  exact TX_ret (rs := [.tmp 4]) (vs := [vs r_2.1]) rfl ⟨rfl, trivial⟩ (fun w' hs' => ⟨(), rfl, Step.left (Step.pulled (is := []) (A := []) hs' rfl)⟩)

end Go.Proofs
end

section
namespace Go.Proofs
open Go Go.Kx
set_option linter.unusedVariables false
set_option linter.unusedSimpArgs false
def halberdref19_Empty (suite : Int) : Option (Str) :=
  (halberdref19_Bits suite).bind fun (r_1 : Int × Int) => ((halberdref1_Hash r_1.1 ([] : Str)).bind fun (r_2 : Str) => (some r_2))

set_option maxHeartbeats 4000000 in
set_option maxRecDepth 20000 in
theorem F39_calls (suite : Int) (r : Str) (H : halberdref19_Empty suite = some r) :
    Does Try.prog 39 [vi suite] [] [] (Γ := Unit) (fun g => vs r) (fun g => []) := by
  intro w hmem hro hd
  refine calls_of (N := 12) (m0 := [(0, vi suite)]) Try.func39 rfl Try.ntmps39 (argM_ok [vi suite]) rfl hmem hro hd ?_
  unfold halberdref19_Empty at H
  refine TC_seq ?_
  refine TC_region ?_
  refine TL_v rfl rfl rfl (V_assign rfl) ?_
  refine TL_nil ?_
  refine TX_next ?_
  refine TC_seq ?_
  refine TC_region ?_
  refine TL_v rfl rfl rfl (V_move rfl) ?_
  obtain ⟨r_1, hr_1, H⟩ := bind_elim H
  refine TL_e rfl rfl rfl (E_call (Γ := Unit) (val := fun g => Value.tuple [vi r_1.1, vi r_1.2].toArray) (mem := fun g => []) (vs := [vi suite]) (Lin := []) (Ro := []) (is := []) rfl Try.call10 (F10_calls suite r_1 hr_1) rfl trivial) (fun g_1 => ?_)
  refine TL_v rfl rfl rfl (V_move rfl) ?_
  refine TL_v rfl rfl rfl (V_extract (vs := [vi r_1.1, vi r_1.2]) rfl rfl) ?_
  refine TL_v rfl rfl rfl (V_extract (vs := [vi r_1.1, vi r_1.2]) rfl rfl) ?_
  refine TL_v rfl rfl rfl (V_assign rfl) ?_
  refine TL_v rfl rfl rfl (V_assign rfl) ?_
  refine TL_nil ?_
  refine TX_next ?_
  refine TC_seq ?_
  refine TC_region ?_
  refine TL_v rfl rfl rfl (V_move rfl) ?_
  obtain ⟨r_2, hr_2, H⟩ := bind_elim H
  refine TL_e rfl rfl rfl (E_call (Γ := Unit) (val := fun g => vs r_2) (mem := fun g => []) (vs := [vi r_1.1, vs ([] : Str)]) (Lin := []) (Ro := []) (is := []) rfl Try.call31 (F31_calls r_1.1 ([] : Str) r_2 hr_2) rfl trivial) (fun g_2 => ?_)
  refine TL_v rfl rfl rfl (V_assign rfl) ?_
  refine TL_nil ?_
  refine TX_next ?_
  refine TC_ret ?_
  have hrv := Option.some.inj H
  subst hrv
  exact TX_ret (rs := [.tmp 2]) (vs := [vs r_2]) rfl ⟨rfl, trivial⟩ (fun w' hs' => ⟨(), rfl, Step.left (Step.pulled (is := []) (A := []) hs' rfl)⟩)

end Go.Proofs
end

section
namespace Go.Proofs
open Go Go.Kx
set_option linter.unusedVariables false
set_option linter.unusedSimpArgs false
def sched_Mix (suite : Int) (secret : Str) (key : Str) : Option (Str × Int) :=
  (sched_Hash suite ([] : Str)).bind fun (r_1 : Str) => ((sched_Derive suite secret ([100#8, 101#8, 114#8, 105#8, 118#8, 101#8, 100#8] : Str) r_1).bind fun (r_2 : Str × Int) => (if r_2.2 ≠ 0 then (some (([] : Str), r_2.2)) else ((sched_extract suite r_2.1 key).bind fun (r_3 : Str × Int) => (some (r_3.1, r_3.2)))))

set_option maxHeartbeats 4000000 in
set_option maxRecDepth 20000 in
theorem F15_calls (suite : Int) (secret : Str) (key : Str) (r : Str × Int) (H : sched_Mix suite secret key = some r) :
    Does Try.prog 15 [vi suite, vs secret, vs key] [] [] (Γ := Unit) (fun g => Value.tuple [vs r.1, vi r.2].toArray) (fun g => []) := by
  intro w hmem hro hd
  refine calls_of (N := 27) (m0 := [(0, vi suite), (1, vs secret), (2, vs key)]) Try.func15 rfl Try.ntmps15 (argM_ok [vi suite, vs secret, vs key]) rfl hmem hro hd ?_
  unfold sched_Mix at H
  refine TC_seq ?_
  refine TC_region ?_
  refine TL_v rfl rfl rfl (V_assign rfl) ?_
  refine TL_v rfl rfl rfl (V_assign rfl) ?_
  refine TL_nil ?_
  refine TX_next ?_
  refine TC_seq ?_
  refine TC_region ?_
  refine TL_v rfl rfl rfl (V_move rfl) ?_
  refine TL_v rfl rfl rfl (V_move rfl) ?_
  refine TL_v rfl rfl rfl (V_move rfl) ?_
  obtain ⟨r_1, hr_1, H⟩ := bind_elim H
  refine TL_e rfl rfl rfl (E_call (Γ := Unit) (val := fun g => vs r_1) (mem := fun g => []) (vs := [vi suite, vs ([] : Str)]) (Lin := []) (Ro := []) (is := []) rfl Try.call38 (F38_calls suite ([] : Str) r_1 hr_1) rfl trivial) (fun g_1 => ?_)
  obtain ⟨r_2, hr_2, H⟩ := bind_elim H
  refine TL_e rfl rfl rfl (E_call (Γ := Unit) (val := fun g => Value.tuple [vs r_2.1, vi r_2.2].toArray) (mem := fun g => []) (vs := [vi suite, vs secret, vs ([100#8, 101#8, 114#8, 105#8, 118#8, 101#8, 100#8] : Str), vs r_1]) (Lin := []) (Ro := []) (is := []) rfl Try.call11 (F11_calls suite secret ([100#8, 101#8, 114#8, 105#8, 118#8, 101#8, 100#8] : Str) r_1 r_2 hr_2) rfl trivial) (fun g_2 => ?_)
  refine TL_v rfl rfl rfl (V_move rfl) ?_
  refine TL_v rfl rfl rfl (V_extract (vs := [vs r_2.1, vi r_2.2]) rfl rfl) ?_
  refine TL_v rfl rfl rfl (V_extract (vs := [vs r_2.1, vi r_2.2]) rfl rfl) ?_
  refine TL_v rfl rfl rfl (V_assign rfl) ?_
  refine TL_v rfl rfl rfl (V_assign rfl) ?_
  refine TL_nil ?_
  refine TX_next ?_
  refine TC_seq ?_
  refine TC_seq ?_
  refine TC_region ?_
  refine TL_v rfl rfl rfl (V_move rfl) ?_
  refine TL_v rfl rfl rfl (V_bin rfl rfl (fun w => neqI w r_2.2 0)) ?_
  refine TL_nil ?_
  refine TX_next ?_
  refine TC_cond (b := (decide (r_2.2 ≠ 0))) rfl (fun hc => ?_) (fun hc => ?_)
  · replace H := ite_t (of_decide_eq_true hc) H
    refine TC_seq ?_
    refine TC_region ?_
    refine TL_v rfl rfl rfl (V_move rfl) ?_
    refine TL_v rfl rfl rfl (V_assign rfl) ?_
    refine TL_v rfl rfl rfl (V_assign rfl) ?_
    refine TL_nil ?_
    refine TX_next ?_
    refine TC_ret ?_
    refine TX_then_ret ?_
    have hrv := Option.some.inj H
    subst hrv
    exact TX_ret (rs := [.tmp 6, .tmp 7]) (vs := [vs ([] : Str), vi r_2.2]) rfl ⟨rfl, rfl, trivial⟩ (fun w' hs' => ⟨(), rfl, Step.left (Step.pulled (is := []) (A := []) hs' rfl)⟩)
  · replace H := ite_f (of_decide_eq_false hc) H
    refine TC_skip ?_
    refine TX_next ?_
    refine TC_seq ?_
    refine TC_region ?_
    refine TL_v rfl rfl rfl (V_move rfl) ?_
    refine TL_v rfl rfl rfl (V_move rfl) ?_
    refine TL_v rfl rfl rfl (V_move rfl) ?_
    obtain ⟨r_3, hr_3, H⟩ := bind_elim H
    refine TL_e rfl rfl rfl (E_call (Γ := Unit) (val := fun g => Value.tuple [vs r_3.1, vi r_3.2].toArray) (mem := fun g => []) (vs := [vi suite, vs r_2.1, vs key]) (Lin := []) (Ro := []) (is := []) rfl Try.call36 (F36_calls suite r_2.1 key r_3 hr_3) rfl trivial) (fun g_3 => ?_)
    refine TL_v rfl rfl rfl (V_extract (vs := [vs r_3.1, vi r_3.2]) rfl rfl) ?_
    refine TL_v rfl rfl rfl (V_extract (vs := [vs r_3.1, vi r_3.2]) rfl rfl) ?_
    refine TL_v rfl rfl rfl (V_assign rfl) ?_
    refine TL_v rfl rfl rfl (V_assign rfl) ?_
    refine TL_nil ?_
    refine TX_next ?_
    refine TC_ret ?_
    have hrv := Option.some.inj H
    subst hrv
    exact TX_ret (rs := [.tmp 6, .tmp 7]) (vs := [vs r_3.1, vi r_3.2]) rfl ⟨rfl, rfl, trivial⟩ (fun w' hs' => ⟨(), rfl, Step.left (Step.pulled (is := []) (A := []) hs' rfl)⟩)

end Go.Proofs
end

section
namespace Go.Proofs
open Go Go.Kx
set_option linter.unusedVariables false
set_option linter.unusedSimpArgs false
def halberdref19_Mix (suite : Int) (secret : Str) (key : Str) : Option (Str × Int) :=
  (halberdref19_Bits suite).bind fun (r_1 : Int × Int) => (if r_1.2 ≠ 0 then (some (([] : Str), r_1.2)) else ((halberdref19_Empty suite).bind fun (r_2 : Str) => ((halberdref19_Derive suite secret ([100#8, 101#8, 114#8, 105#8, 118#8, 101#8, 100#8] : Str) r_2).bind fun (r_3 : Str × Int) => ((halberdref19_zeros key r_1.1).bind fun (r_4 : Str) => ((halberdref1_Mac r_1.1 r_3.1 r_4).bind fun (r_5 : Str) => (some (r_5, 0)))))))

set_option maxHeartbeats 4000000 in
set_option maxRecDepth 20000 in
theorem F16_calls (suite : Int) (secret : Str) (key : Str) (r : Str × Int) (H : halberdref19_Mix suite secret key = some r) :
    Does Try.prog 16 [vi suite, vs secret, vs key] [] [] (Γ := Unit) (fun g => Value.tuple [vs r.1, vi r.2].toArray) (fun g => []) := by
  intro w hmem hro hd
  refine calls_of (N := 34) (m0 := [(0, vi suite), (1, vs secret), (2, vs key)]) Try.func16 rfl Try.ntmps16 (argM_ok [vi suite, vs secret, vs key]) rfl hmem hro hd ?_
  unfold halberdref19_Mix at H
  refine TC_seq ?_
  refine TC_region ?_
  refine TL_v rfl rfl rfl (V_assign rfl) ?_
  refine TL_v rfl rfl rfl (V_assign rfl) ?_
  refine TL_nil ?_
  refine TX_next ?_
  refine TC_seq ?_
  refine TC_region ?_
  refine TL_v rfl rfl rfl (V_move rfl) ?_
  obtain ⟨r_1, hr_1, H⟩ := bind_elim H
  refine TL_e rfl rfl rfl (E_call (Γ := Unit) (val := fun g => Value.tuple [vi r_1.1, vi r_1.2].toArray) (mem := fun g => []) (vs := [vi suite]) (Lin := []) (Ro := []) (is := []) rfl Try.call10 (F10_calls suite r_1 hr_1) rfl trivial) (fun g_1 => ?_)
  refine TL_v rfl rfl rfl (V_move rfl) ?_
  refine TL_v rfl rfl rfl (V_extract (vs := [vi r_1.1, vi r_1.2]) rfl rfl) ?_
  refine TL_v rfl rfl rfl (V_extract (vs := [vi r_1.1, vi r_1.2]) rfl rfl) ?_
  refine TL_v rfl rfl rfl (V_assign rfl) ?_
  refine TL_v rfl rfl rfl (V_assign rfl) ?_
  refine TL_nil ?_
  refine TX_next ?_
  refine TC_seq ?_
  refine TC_seq ?_
  refine TC_region ?_
  refine TL_v rfl rfl rfl (V_move rfl) ?_
  refine TL_v rfl rfl rfl (V_bin rfl rfl (fun w => neqI w r_1.2 0)) ?_
  refine TL_nil ?_
  refine TX_next ?_
  refine TC_cond (b := (decide (r_1.2 ≠ 0))) rfl (fun hc => ?_) (fun hc => ?_)
  · replace H := ite_t (of_decide_eq_true hc) H
    refine TC_seq ?_
    refine TC_region ?_
    refine TL_v rfl rfl rfl (V_move rfl) ?_
    refine TL_v rfl rfl rfl (V_assign rfl) ?_
    refine TL_v rfl rfl rfl (V_assign rfl) ?_
    refine TL_nil ?_
    refine TX_next ?_
    refine TC_ret ?_
    refine TX_then_ret ?_
    have hrv := Option.some.inj H
    subst hrv
    exact TX_ret (rs := [.tmp 6, .tmp 7]) (vs := [vs ([] : Str), vi r_1.2]) rfl ⟨rfl, rfl, trivial⟩ (fun w' hs' => ⟨(), rfl, Step.left (Step.pulled (is := []) (A := []) hs' rfl)⟩)
  · replace H := ite_f (of_decide_eq_false hc) H
    refine TC_skip ?_
    refine TX_next ?_
    refine TC_seq ?_
    refine TC_region ?_
    refine TL_v rfl rfl rfl (V_move rfl) ?_
    refine TL_v rfl rfl rfl (V_move rfl) ?_
    refine TL_v rfl rfl rfl (V_move rfl) ?_
    obtain ⟨r_2, hr_2, H⟩ := bind_elim H
    refine TL_e rfl rfl rfl (E_call (Γ := Unit) (val := fun g => vs r_2) (mem := fun g => []) (vs := [vi suite]) (Lin := []) (Ro := []) (is := []) rfl Try.call39 (F39_calls suite r_2 hr_2) rfl trivial) (fun g_2 => ?_)
    obtain ⟨r_3, hr_3, H⟩ := bind_elim H
    refine TL_e rfl rfl rfl (E_call (Γ := Unit) (val := fun g => Value.tuple [vs r_3.1, vi r_3.2].toArray) (mem := fun g => []) (vs := [vi suite, vs secret, vs ([100#8, 101#8, 114#8, 105#8, 118#8, 101#8, 100#8] : Str), vs r_2]) (Lin := []) (Ro := []) (is := []) rfl Try.call12 (F12_calls suite secret ([100#8, 101#8, 114#8, 105#8, 118#8, 101#8, 100#8] : Str) r_2 r_3 hr_3) rfl trivial) (fun g_3 => ?_)
    refine TL_v rfl rfl rfl (V_move rfl) ?_
    refine TL_v rfl rfl rfl (V_extract (vs := [vs r_3.1, vi r_3.2]) rfl rfl) ?_
    refine TL_v rfl rfl rfl (V_extract (vs := [vs r_3.1, vi r_3.2]) rfl rfl) ?_
    refine TL_v rfl rfl rfl (V_assign rfl) ?_
    refine TL_v rfl rfl rfl (V_assign rfl) ?_
    refine TL_nil ?_
    refine TX_next ?_
    refine TC_seq ?_
    refine TC_region ?_
    refine TL_v rfl rfl rfl (V_move rfl) ?_
    refine TL_v rfl rfl rfl (V_move rfl) ?_
    refine TL_v rfl rfl rfl (V_move rfl) ?_
    refine TL_v rfl rfl rfl (V_move rfl) ?_
    obtain ⟨r_4, hr_4, H⟩ := bind_elim H
    refine TL_e rfl rfl rfl (E_call (Γ := Unit) (val := fun g => vs r_4) (mem := fun g => []) (vs := [vs key, vi r_1.1]) (Lin := []) (Ro := []) (is := []) rfl Try.call37 (F37_calls key r_1.1 r_4 hr_4) rfl trivial) (fun g_4 => ?_)
    obtain ⟨r_5, hr_5, H⟩ := bind_elim H
    refine TL_e rfl rfl rfl (E_call (Γ := Unit) (val := fun g => vs r_5) (mem := fun g => []) (vs := [vi r_1.1, vs r_3.1, vs r_4]) (Lin := []) (Ro := []) (is := []) rfl Try.call25 (F25_calls r_1.1 r_3.1 r_4 r_5 hr_5) rfl trivial) (fun g_5 => ?_)
    refine TL_v rfl rfl rfl (V_assign rfl) ?_
    refine TL_v rfl rfl rfl (V_assign rfl) ?_
    refine TL_nil ?_
    refine TX_next ?_
    refine TC.sub (m' := [(6, vs r_5), (7, vi 0)]) ⟨rfl, rfl, trivial⟩ ?_
    refine TC_ret ?_
    have hrv := Option.some.inj H
    subst hrv
    exact TX_ret (rs := [.tmp 6, .tmp 7]) (vs := [vs r_5, vi 0]) rfl ⟨rfl, rfl, trivial⟩ (fun w' hs' => ⟨(), rfl, Step.left (Step.pulled (is := []) (A := []) hs' rfl)⟩)

end Go.Proofs
end

section
namespace Go.Proofs
open Go Go.Kx
set_option linter.unusedVariables false
set_option linter.unusedSimpArgs false
def sched_Keys (suite : Int) (secret : Str) : Option (Str × Str × Int) :=
  (aead_Sizes suite).bind fun (r_1 : Int × Int × Int) => ((sched_label suite secret ([107#8, 101#8, 121#8] : Str) ([] : Str) r_1.1).bind fun (r_2 : Str × Int) => (if r_2.2 ≠ 0 then (some (([] : Str), ([] : Str), r_2.2)) else ((sched_label suite secret ([105#8, 118#8] : Str) ([] : Str) 12).bind fun (r_3 : Str × Int) => (some (r_2.1, r_3.1, 0)))))

set_option maxHeartbeats 4000000 in
set_option maxRecDepth 20000 in
theorem F17_calls (suite : Int) (secret : Str) (r : Str × Str × Int) (H : sched_Keys suite secret = some r) :
    Does Try.prog 17 [vi suite, vs secret] [] [] (Γ := Unit) (fun g => Value.tuple [vs r.1, vs r.2.1, vi r.2.2].toArray) (fun g => []) := by
  intro w hmem hro hd
  refine calls_of (N := 38) (m0 := [(0, vi suite), (1, vs secret)]) Try.func17 rfl Try.ntmps17 (argM_ok [vi suite, vs secret]) rfl hmem hro hd ?_
  unfold sched_Keys at H
  refine TC_seq ?_
  refine TC_region ?_
  refine TL_v rfl rfl rfl (V_assign rfl) ?_
  refine TL_v rfl rfl rfl (V_assign rfl) ?_
  refine TL_v rfl rfl rfl (V_assign rfl) ?_
  refine TL_nil ?_
  refine TX_next ?_
  refine TC_seq ?_
  refine TC_region ?_
  refine TL_v rfl rfl rfl (V_move rfl) ?_
  obtain ⟨r_1, hr_1, H⟩ := bind_elim H
  refine TL_e rfl rfl rfl (E_call (Γ := Unit) (val := fun g => Value.tuple [vi r_1.1, vi r_1.2.1, vi r_1.2.2].toArray) (mem := fun g => []) (vs := [vi suite]) (Lin := []) (Ro := []) (is := []) rfl Try.call32 (F32_calls suite r_1 hr_1) rfl trivial) (fun g_1 => ?_)
  refine TL_v rfl rfl rfl (V_move rfl) ?_
  refine TL_v rfl rfl rfl (V_extract (vs := [vi r_1.1, vi r_1.2.1, vi r_1.2.2]) rfl rfl) ?_
  refine TL_v rfl rfl rfl (V_extract (vs := [vi r_1.1, vi r_1.2.1, vi r_1.2.2]) rfl rfl) ?_
  refine TL_v rfl rfl rfl (V_extract (vs := [vi r_1.1, vi r_1.2.1, vi r_1.2.2]) rfl rfl) ?_
  refine TL_v rfl rfl rfl (V_assign rfl) ?_
  refine TL_v rfl rfl rfl (V_assign rfl) ?_
  refine TL_v rfl rfl rfl (V_assign rfl) ?_
  refine TL_nil ?_
  refine TX_next ?_
  refine TC_seq ?_
  refine TC_region ?_
  refine TL_v rfl rfl rfl (V_move rfl) ?_
  refine TL_v rfl rfl rfl (V_move rfl) ?_
  refine TL_v rfl rfl rfl (V_move rfl) ?_
  obtain ⟨r_2, hr_2, H⟩ := bind_elim H
  refine TL_e rfl rfl rfl (E_call (Γ := Unit) (val := fun g => Value.tuple [vs r_2.1, vi r_2.2].toArray) (mem := fun g => []) (vs := [vi suite, vs secret, vs ([107#8, 101#8, 121#8] : Str), vs ([] : Str), vi r_1.1]) (Lin := []) (Ro := []) (is := []) rfl Try.call34 (F34_calls suite secret ([107#8, 101#8, 121#8] : Str) ([] : Str) r_1.1 r_2 hr_2) rfl trivial) (fun g_2 => ?_)
  refine TL_v rfl rfl rfl (V_move rfl) ?_
  refine TL_v rfl rfl rfl (V_extract (vs := [vs r_2.1, vi r_2.2]) rfl rfl) ?_
  refine TL_v rfl rfl rfl (V_extract (vs := [vs r_2.1, vi r_2.2]) rfl rfl) ?_
  refine TL_v rfl rfl rfl (V_assign rfl) ?_
  refine TL_v rfl rfl rfl (V_assign rfl) ?_
  refine TL_nil ?_
  refine TX_next ?_
  refine TC_seq ?_
  refine TC_seq ?_
  refine TC_region ?_
  refine TL_v rfl rfl rfl (V_move rfl) ?_
  refine TL_v rfl rfl rfl (V_bin rfl rfl (fun w => neqI w r_2.2 0)) ?_
  refine TL_nil ?_
  refine TX_next ?_
  refine TC_cond (b := (decide (r_2.2 ≠ 0))) rfl (fun hc => ?_) (fun hc => ?_)
  · replace H := ite_t (of_decide_eq_true hc) H
    refine TC_seq ?_
    refine TC_region ?_
    refine TL_v rfl rfl rfl (V_move rfl) ?_
    refine TL_v rfl rfl rfl (V_assign rfl) ?_
    refine TL_v rfl rfl rfl (V_assign rfl) ?_
    refine TL_v rfl rfl rfl (V_assign rfl) ?_
    refine TL_nil ?_
    refine TX_next ?_
    refine TC_ret ?_
    refine TX_then_ret ?_
    have hrv := Option.some.inj H
    subst hrv
    exact TX_ret (rs := [.tmp 4, .tmp 5, .tmp 6]) (vs := [vs ([] : Str), vs ([] : Str), vi r_2.2]) rfl ⟨rfl, rfl, rfl, trivial⟩ (fun w' hs' => ⟨(), rfl, Step.left (Step.pulled (is := []) (A := []) hs' rfl)⟩)
  · replace H := ite_f (of_decide_eq_false hc) H
    refine TC_skip ?_
    refine TX_next ?_
    refine TC_seq ?_
    refine TC_region ?_
    refine TL_v rfl rfl rfl (V_move rfl) ?_
    refine TL_v rfl rfl rfl (V_move rfl) ?_
    obtain ⟨r_3, hr_3, H⟩ := bind_elim H
    refine TL_e rfl rfl rfl (E_call (Γ := Unit) (val := fun g => Value.tuple [vs r_3.1, vi r_3.2].toArray) (mem := fun g => []) (vs := [vi suite, vs secret, vs ([105#8, 118#8] : Str), vs ([] : Str), vi 12]) (Lin := []) (Ro := []) (is := []) rfl Try.call34 (F34_calls suite secret ([105#8, 118#8] : Str) ([] : Str) 12 r_3 hr_3) rfl trivial) (fun g_3 => ?_)
    refine TL_v rfl rfl rfl (V_move rfl) ?_
    refine TL_v rfl rfl rfl (V_extract (vs := [vs r_3.1, vi r_3.2]) rfl rfl) ?_
    refine TL_v rfl rfl rfl (V_extract (vs := [vs r_3.1, vi r_3.2]) rfl rfl) ?_
    refine TL_v rfl rfl rfl (V_assign rfl) ?_
    refine TL_v rfl rfl rfl (V_assign rfl) ?_
    refine TL_nil ?_
    refine TX_next ?_
    refine TC.sub (m' := [(10, vs r_2.1), (12, vs r_3.1)]) ⟨rfl, rfl, trivial⟩ ?_
    refine TC_seq ?_
    refine TC_region ?_
    refine TL_v rfl rfl rfl (V_move rfl) ?_
    refine TL_v rfl rfl rfl (V_move rfl) ?_
    refine TL_v rfl rfl rfl (V_assign rfl) ?_
    refine TL_v rfl rfl rfl (V_assign rfl) ?_
    refine TL_v rfl rfl rfl (V_assign rfl) ?_
    refine TL_nil ?_
    refine TX_next ?_
    refine TC_ret ?_
    have hrv := Option.some.inj H
    subst hrv
    exact TX_ret (rs := [.tmp 4, .tmp 5, .tmp 6]) (vs := [vs r_2.1, vs r_3.1, vi 0]) rfl ⟨rfl, rfl, rfl, trivial⟩ (fun w' hs' => ⟨(), rfl, Step.left (Step.pulled (is := []) (A := []) hs' rfl)⟩)

end Go.Proofs
end

section
namespace Go.Proofs
open Go Go.Kx
set_option linter.unusedVariables false
set_option linter.unusedSimpArgs false
def halberdref19_Keys (suite : Int) (secret : Str) : Option (Str × Str × Int) :=
  (halberdref4_Sizes suite).bind fun (r_1 : Int × Int × Int) => (if r_1.2.2 ≠ 0 then (some (([] : Str), ([] : Str), 1900)) else ((halberdref19_Label suite secret ([107#8, 101#8, 121#8] : Str) ([] : Str) r_1.1).bind fun (r_2 : Str × Int) => ((halberdref19_Label suite secret ([105#8, 118#8] : Str) ([] : Str) 12).bind fun (r_3 : Str × Int) => (some (r_2.1, r_3.1, 0)))))

set_option maxHeartbeats 4000000 in
set_option maxRecDepth 20000 in
theorem F18_calls (suite : Int) (secret : Str) (r : Str × Str × Int) (H : halberdref19_Keys suite secret = some r) :
    Does Try.prog 18 [vi suite, vs secret] [] [] (Γ := Unit) (fun g => Value.tuple [vs r.1, vs r.2.1, vi r.2.2].toArray) (fun g => []) := by
  intro w hmem hro hd
  refine calls_of (N := 37) (m0 := [(0, vi suite), (1, vs secret)]) Try.func18 rfl Try.ntmps18 (argM_ok [vi suite, vs secret]) rfl hmem hro hd ?_
  unfold halberdref19_Keys at H
  refine TC_seq ?_
  refine TC_region ?_
  refine TL_v rfl rfl rfl (V_assign rfl) ?_
  refine TL_v rfl rfl rfl (V_assign rfl) ?_
  refine TL_v rfl rfl rfl (V_assign rfl) ?_
  refine TL_nil ?_
  refine TX_next ?_
  refine TC_seq ?_
  refine TC_region ?_
  refine TL_v rfl rfl rfl (V_move rfl) ?_
  obtain ⟨r_1, hr_1, H⟩ := bind_elim H
  refine TL_e rfl rfl rfl (E_call (Γ := Unit) (val := fun g => Value.tuple [vi r_1.1, vi r_1.2.1, vi r_1.2.2].toArray) (mem := fun g => []) (vs := [vi suite]) (Lin := []) (Ro := []) (is := []) rfl Try.call33 (F33_calls suite r_1 hr_1) rfl trivial) (fun g_1 => ?_)
  refine TL_v rfl rfl rfl (V_move rfl) ?_
  refine TL_v rfl rfl rfl (V_extract (vs := [vi r_1.1, vi r_1.2.1, vi r_1.2.2]) rfl rfl) ?_
  refine TL_v rfl rfl rfl (V_extract (vs := [vi r_1.1, vi r_1.2.1, vi r_1.2.2]) rfl rfl) ?_
  refine TL_v rfl rfl rfl (V_extract (vs := [vi r_1.1, vi r_1.2.1, vi r_1.2.2]) rfl rfl) ?_
  refine TL_v rfl rfl rfl (V_assign rfl) ?_
  refine TL_v rfl rfl rfl (V_assign rfl) ?_
  refine TL_v rfl rfl rfl (V_assign rfl) ?_
  refine TL_nil ?_
  refine TX_next ?_
  refine TC_seq ?_
  refine TC_seq ?_
  refine TC_region ?_
  refine TL_v rfl rfl rfl (V_move rfl) ?_
  refine TL_v rfl rfl rfl (V_bin rfl rfl (fun w => neqI w r_1.2.2 0)) ?_
  refine TL_nil ?_
  refine TX_next ?_
  refine TC_cond (b := (decide (r_1.2.2 ≠ 0))) rfl (fun hc => ?_) (fun hc => ?_)
  · replace H := ite_t (of_decide_eq_true hc) H
    refine TC_seq ?_
    refine TC_region ?_
    refine TL_v rfl rfl rfl (V_assign rfl) ?_
    refine TL_v rfl rfl rfl (V_assign rfl) ?_
    refine TL_v rfl rfl rfl (V_assign rfl) ?_
    refine TL_nil ?_
    refine TX_next ?_
    refine TC_ret ?_
    refine TX_then_ret ?_
    have hrv := Option.some.inj H
    subst hrv
    exact TX_ret (rs := [.tmp 4, .tmp 5, .tmp 6]) (vs := [vs ([] : Str), vs ([] : Str), vi 1900]) rfl ⟨rfl, rfl, rfl, trivial⟩ (fun w' hs' => ⟨(), rfl, Step.left (Step.pulled (is := []) (A := []) hs' rfl)⟩)
  · replace H := ite_f (of_decide_eq_false hc) H
    refine TC_skip ?_
    refine TX_next ?_
    refine TC_seq ?_
    refine TC_region ?_
    refine TL_v rfl rfl rfl (V_move rfl) ?_
    refine TL_v rfl rfl rfl (V_move rfl) ?_
    refine TL_v rfl rfl rfl (V_move rfl) ?_
    obtain ⟨r_2, hr_2, H⟩ := bind_elim H
    refine TL_e rfl rfl rfl (E_call (Γ := Unit) (val := fun g => Value.tuple [vs r_2.1, vi r_2.2].toArray) (mem := fun g => []) (vs := [vi suite, vs secret, vs ([107#8, 101#8, 121#8] : Str), vs ([] : Str), vi r_1.1]) (Lin := []) (Ro := []) (is := []) rfl Try.call35 (F35_calls suite secret ([107#8, 101#8, 121#8] : Str) ([] : Str) r_1.1 r_2 hr_2) rfl trivial) (fun g_2 => ?_)
    refine TL_v rfl rfl rfl (V_move rfl) ?_
    refine TL_v rfl rfl rfl (V_extract (vs := [vs r_2.1, vi r_2.2]) rfl rfl) ?_
    refine TL_v rfl rfl rfl (V_extract (vs := [vs r_2.1, vi r_2.2]) rfl rfl) ?_
    refine TL_v rfl rfl rfl (V_assign rfl) ?_
    refine TL_v rfl rfl rfl (V_assign rfl) ?_
    refine TL_nil ?_
    refine TX_next ?_
    refine TC_seq ?_
    refine TC_region ?_
    refine TL_v rfl rfl rfl (V_move rfl) ?_
    refine TL_v rfl rfl rfl (V_move rfl) ?_
    obtain ⟨r_3, hr_3, H⟩ := bind_elim H
    refine TL_e rfl rfl rfl (E_call (Γ := Unit) (val := fun g => Value.tuple [vs r_3.1, vi r_3.2].toArray) (mem := fun g => []) (vs := [vi suite, vs secret, vs ([105#8, 118#8] : Str), vs ([] : Str), vi 12]) (Lin := []) (Ro := []) (is := []) rfl Try.call35 (F35_calls suite secret ([105#8, 118#8] : Str) ([] : Str) 12 r_3 hr_3) rfl trivial) (fun g_3 => ?_)
    refine TL_v rfl rfl rfl (V_move rfl) ?_
    refine TL_v rfl rfl rfl (V_extract (vs := [vs r_3.1, vi r_3.2]) rfl rfl) ?_
    refine TL_v rfl rfl rfl (V_extract (vs := [vs r_3.1, vi r_3.2]) rfl rfl) ?_
    refine TL_v rfl rfl rfl (V_assign rfl) ?_
    refine TL_v rfl rfl rfl (V_assign rfl) ?_
    refine TL_nil ?_
    refine TX_next ?_
    refine TC.sub (m' := [(10, vs r_2.1), (12, vs r_3.1)]) ⟨rfl, rfl, trivial⟩ ?_
    refine TC_seq ?_
    refine TC_region ?_
    refine TL_v rfl rfl rfl (V_move rfl) ?_
    refine TL_v rfl rfl rfl (V_move rfl) ?_
    refine TL_v rfl rfl rfl (V_assign rfl) ?_
    refine TL_v rfl rfl rfl (V_assign rfl) ?_
    refine TL_v rfl rfl rfl (V_assign rfl) ?_
    refine TL_nil ?_
    refine TX_next ?_
    refine TC_ret ?_
    have hrv := Option.some.inj H
    subst hrv
    exact TX_ret (rs := [.tmp 4, .tmp 5, .tmp 6]) (vs := [vs r_2.1, vs r_3.1, vi 0]) rfl ⟨rfl, rfl, rfl, trivial⟩ (fun w' hs' => ⟨(), rfl, Step.left (Step.pulled (is := []) (A := []) hs' rfl)⟩)

end Go.Proofs
end

section
namespace Go.Proofs
open Go Go.Kx
set_option linter.unusedVariables false
set_option linter.unusedSimpArgs false
def sched_Next (suite : Int) (secret : Str) : Option (Str × Int) :=
  (sched_Derive suite secret ([116#8, 114#8, 97#8, 102#8, 102#8, 105#8, 99#8, 32#8, 117#8, 112#8, 100#8] : Str) ([] : Str)).bind fun (r_1 : Str × Int) => (some (r_1.1, r_1.2))

set_option maxHeartbeats 4000000 in
set_option maxRecDepth 20000 in
theorem F19_calls (suite : Int) (secret : Str) (r : Str × Int) (H : sched_Next suite secret = some r) :
    Does Try.prog 19 [vi suite, vs secret] [] [] (Γ := Unit) (fun g => Value.tuple [vs r.1, vi r.2].toArray) (fun g => []) := by
  intro w hmem hro hd
  refine calls_of (N := 11) (m0 := [(0, vi suite), (1, vs secret)]) Try.func19 rfl Try.ntmps19 (argM_ok [vi suite, vs secret]) rfl hmem hro hd ?_
  unfold sched_Next at H
  refine TC_seq ?_
  refine TC_region ?_
  refine TL_v rfl rfl rfl (V_assign rfl) ?_
  refine TL_v rfl rfl rfl (V_assign rfl) ?_
  refine TL_nil ?_
  refine TX_next ?_
  refine TC_seq ?_
  refine TC_region ?_
  refine TL_v rfl rfl rfl (V_move rfl) ?_
  refine TL_v rfl rfl rfl (V_move rfl) ?_
  obtain ⟨r_1, hr_1, H⟩ := bind_elim H
  refine TL_e rfl rfl rfl (E_call (Γ := Unit) (val := fun g => Value.tuple [vs r_1.1, vi r_1.2].toArray) (mem := fun g => []) (vs := [vi suite, vs secret, vs ([116#8, 114#8, 97#8, 102#8, 102#8, 105#8, 99#8, 32#8, 117#8, 112#8, 100#8] : Str), vs ([] : Str)]) (Lin := []) (Ro := []) (is := []) rfl Try.call11 (F11_calls suite secret ([116#8, 114#8, 97#8, 102#8, 102#8, 105#8, 99#8, 32#8, 117#8, 112#8, 100#8] : Str) ([] : Str) r_1 hr_1) rfl trivial) (fun g_1 => ?_)
  refine TL_v rfl rfl rfl (V_extract (vs := [vs r_1.1, vi r_1.2]) rfl rfl) ?_
  refine TL_v rfl rfl rfl (V_extract (vs := [vs r_1.1, vi r_1.2]) rfl rfl) ?_
  refine TL_v rfl rfl rfl (V_assign rfl) ?_
  refine TL_v rfl rfl rfl (V_assign rfl) ?_
  refine TL_nil ?_
  refine TX_next ?_
  refine TC_ret ?_
  have hrv := Option.some.inj H
  subst hrv
  exact TX_ret (rs := [.tmp 4, .tmp 5]) (vs := [vs r_1.1, vi r_1.2]) rfl ⟨rfl, rfl, trivial⟩ (fun w' hs' => ⟨(), rfl, Step.left (Step.pulled (is := []) (A := []) hs' rfl)⟩)

end Go.Proofs
end

section
namespace Go.Proofs
open Go Go.Kx
set_option linter.unusedVariables false
set_option linter.unusedSimpArgs false
def halberdref19_Next (suite : Int) (secret : Str) : Option (Str × Int) :=
  (halberdref19_Derive suite secret ([116#8, 114#8, 97#8, 102#8, 102#8, 105#8, 99#8, 32#8, 117#8, 112#8, 100#8] : Str) ([] : Str)).bind fun (r_1 : Str × Int) => (some (r_1.1, r_1.2))

set_option maxHeartbeats 4000000 in
set_option maxRecDepth 20000 in
theorem F20_calls (suite : Int) (secret : Str) (r : Str × Int) (H : halberdref19_Next suite secret = some r) :
    Does Try.prog 20 [vi suite, vs secret] [] [] (Γ := Unit) (fun g => Value.tuple [vs r.1, vi r.2].toArray) (fun g => []) := by
  intro w hmem hro hd
  refine calls_of (N := 11) (m0 := [(0, vi suite), (1, vs secret)]) Try.func20 rfl Try.ntmps20 (argM_ok [vi suite, vs secret]) rfl hmem hro hd ?_
  unfold halberdref19_Next at H
  refine TC_seq ?_
  refine TC_region ?_
  refine TL_v rfl rfl rfl (V_assign rfl) ?_
  refine TL_v rfl rfl rfl (V_assign rfl) ?_
  refine TL_nil ?_
  refine TX_next ?_
  refine TC_seq ?_
  refine TC_region ?_
  refine TL_v rfl rfl rfl (V_move rfl) ?_
  refine TL_v rfl rfl rfl (V_move rfl) ?_
  obtain ⟨r_1, hr_1, H⟩ := bind_elim H
  refine TL_e rfl rfl rfl (E_call (Γ := Unit) (val := fun g => Value.tuple [vs r_1.1, vi r_1.2].toArray) (mem := fun g => []) (vs := [vi suite, vs secret, vs ([116#8, 114#8, 97#8, 102#8, 102#8, 105#8, 99#8, 32#8, 117#8, 112#8, 100#8] : Str), vs ([] : Str)]) (Lin := []) (Ro := []) (is := []) rfl Try.call12 (F12_calls suite secret ([116#8, 114#8, 97#8, 102#8, 102#8, 105#8, 99#8, 32#8, 117#8, 112#8, 100#8] : Str) ([] : Str) r_1 hr_1) rfl trivial) (fun g_1 => ?_)
  refine TL_v rfl rfl rfl (V_extract (vs := [vs r_1.1, vi r_1.2]) rfl rfl) ?_
  refine TL_v rfl rfl rfl (V_extract (vs := [vs r_1.1, vi r_1.2]) rfl rfl) ?_
  refine TL_v rfl rfl rfl (V_assign rfl) ?_
  refine TL_v rfl rfl rfl (V_assign rfl) ?_
  refine TL_nil ?_
  refine TX_next ?_
  refine TC_ret ?_
  have hrv := Option.some.inj H
  subst hrv
  exact TX_ret (rs := [.tmp 4, .tmp 5]) (vs := [vs r_1.1, vi r_1.2]) rfl ⟨rfl, rfl, trivial⟩ (fun w' hs' => ⟨(), rfl, Step.left (Step.pulled (is := []) (A := []) hs' rfl)⟩)

end Go.Proofs
end

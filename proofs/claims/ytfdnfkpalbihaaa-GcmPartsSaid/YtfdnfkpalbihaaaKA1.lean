/-
  Part KA1 of the proofs of this seat: F97, F82, F83, F81, F50.
-/
import Derived.Test.YtfdnfkpalbihaaaK2
section
namespace Go.Proofs
open Go Go.Kx
set_option linter.unusedVariables false
set_option linter.unusedSimpArgs false
def math_bits_RotateLeft8 (x : BitVec 8) (k : Int) : Option (BitVec 8) :=
  ltt ((BitVec.ofInt 64 k) &&& 7#64) fun (s_1 : BitVec 64) => (ltt ((x <<< s_1.toNat) ||| (x >>> (8#64 - s_1).toNat)) fun (x1 : BitVec 8) => (some x1))

set_option maxHeartbeats 4000000 in
set_option maxRecDepth 20000 in
theorem F97_calls (x : BitVec 8) (k : Int) (r : BitVec 8) (H : math_bits_RotateLeft8 x k = some r) :
    Does Try.prog 97 [v8 x, vi k] [] [] (Γ := Unit) (fun g => v8 r) (fun g => []) := by
  intro w hmem hro hd
  refine calls_of (N := 17) (m0 := [(0, v8 x), (1, vi k)]) Try.func97 rfl Try.ntmps97 (argM_ok [v8 x, vi k]) rfl hmem hro hd ?_
  unfold math_bits_RotateLeft8 at H
  refine TC_seq ?_
  refine TC_region ?_
  refine TL_v rfl rfl rfl (V_assign rfl) ?_
  refine TL_nil ?_
  refine TX_next ?_
  refine TC_seq ?_
  refine TC_region ?_
  refine TL_v rfl rfl rfl (V_move rfl) ?_
  refine TL_v rfl rfl rfl (V_conv rfl (fun w => cvI64 w _ _ Try.underlying31 (TryI.und3) .i64 k)) ?_
  refine TL_v rfl rfl rfl (V_bin rfl rfl (fun w => and64 w (BitVec.ofInt 64 k) 7#64)) ?_
  refine TL_v rfl rfl rfl (V_assign rfl) ?_
  obtain ⟨s_1, hs_1, H⟩ := ltt_elim H
  refine TL_re (d := 5) (v := v64 ((BitVec.ofInt 64 k) &&& 7#64)) (v' := v64 s_1) rfl (congrArg v64 hs_1) ?_
  refine TL_nil ?_
  refine TX_next ?_
  refine TC_seq ?_
  refine TC_region ?_
  refine TL_v rfl rfl rfl (V_move rfl) ?_
  refine TL_v rfl rfl rfl (V_move rfl) ?_
  refine TL_v rfl rfl rfl (V_bin rfl rfl (fun w => shl8 w x .u64 (s_1.toNat : Int) (Int.natCast_nonneg _))) ?_
  refine TL_v rfl rfl rfl (V_move rfl) ?_
  refine TL_v rfl rfl rfl (V_move rfl) ?_
  refine TL_v rfl rfl rfl (V_bin rfl rfl (fun w => sub64 w 8#64 s_1)) ?_
  refine TL_v rfl rfl rfl (V_bin rfl rfl (fun w => shr8 w x .u64 ((8#64 - s_1).toNat : Int) (Int.natCast_nonneg _))) ?_
  refine TL_v rfl rfl rfl (V_bin rfl rfl (fun w => or8 w (x <<< s_1.toNat) (x >>> (8#64 - s_1).toNat))) ?_
  refine TL_v rfl rfl rfl (V_assign rfl) ?_
  obtain ⟨x1, hx1, H⟩ := ltt_elim H
  refine TL_re (d := 4) (v := v8 ((x <<< s_1.toNat) ||| (x >>> (8#64 - s_1).toNat))) (v' := v8 x1) rfl (congrArg v8 hx1) ?_
  refine TL_nil ?_
  refine TX_next ?_
  refine TC_ret ?_
  have hrv := Option.some.inj H
  subst hrv
  exact TX_ret (rs := [.tmp 4]) (vs := [v8 x1]) rfl ⟨rfl, trivial⟩ (fun w' hs' => ⟨(), rfl, Step.left (Step.pulled (is := []) (A := []) hs' rfl)⟩)

end Go.Proofs
end

section
namespace Go.Proofs
open Go Go.Kx
set_option linter.unusedVariables false
set_option linter.unusedSimpArgs false
def aes_twice (x : BitVec 8) : Option (BitVec 8) :=
  ltt ((x <<< 1) ^^^ (27#8 &&& (-(x >>> 7)))) fun (x1 : BitVec 8) => (some x1)

set_option maxHeartbeats 4000000 in
set_option maxRecDepth 20000 in
theorem F82_calls (x : BitVec 8) (r : BitVec 8) (H : aes_twice x = some r) :
    Does Try.prog 82 [v8 x] [] [] (Γ := Unit) (fun g => v8 r) (fun g => []) := by
  intro w hmem hro hd
  refine calls_of (N := 10) (m0 := [(0, v8 x)]) Try.func82 rfl Try.ntmps82 (argM_ok [v8 x]) rfl hmem hro hd ?_
  unfold aes_twice at H
  refine TC_seq ?_
  refine TC_region ?_
  refine TL_v rfl rfl rfl (V_assign rfl) ?_
  refine TL_nil ?_
  refine TX_next ?_
  refine TC_seq ?_
  refine TC_region ?_
  refine TL_v rfl rfl rfl (V_move rfl) ?_
  refine TL_v rfl rfl rfl (V_bin rfl rfl (fun w => shl8 w x .u64 1 (by decide))) ?_
  refine TL_v rfl rfl rfl (V_move rfl) ?_
  refine TL_v rfl rfl rfl (V_bin rfl rfl (fun w => shr8 w x .u64 7 (by decide))) ?_
  refine TL_v rfl rfl rfl (V_un rfl (fun w => neg8 w (x >>> 7))) ?_
  refine TL_v rfl rfl rfl (V_bin rfl rfl (fun w => and8 w 27#8 (-(x >>> 7)))) ?_
  refine TL_v rfl rfl rfl (V_bin rfl rfl (fun w => xor8 w (x <<< 1) (27#8 &&& (-(x >>> 7))))) ?_
  refine TL_v rfl rfl rfl (V_assign rfl) ?_
  obtain ⟨x1, hx1, H⟩ := ltt_elim H
  refine TL_re (d := 2) (v := v8 ((x <<< 1) ^^^ (27#8 &&& (-(x >>> 7))))) (v' := v8 x1) rfl (congrArg v8 hx1) ?_
  refine TL_nil ?_
  refine TX_next ?_
  refine TC_ret ?_
  have hrv := Option.some.inj H
  subst hrv
  exact TX_ret (rs := [.tmp 2]) (vs := [v8 x1]) rfl ⟨rfl, trivial⟩ (fun w' hs' => ⟨(), rfl, Step.left (Step.pulled (is := []) (A := []) hs' rfl)⟩)

end Go.Proofs
end

section
namespace Go.Proofs
open Go Go.Kx
set_option linter.unusedVariables false
set_option linter.unusedSimpArgs false
def halberdref4_double (x : BitVec 8) : Option (BitVec 8) :=
  if (127#8).toNat < (x).toNat then (ltt ((x <<< 1) ^^^ 27#8) fun (x1 : BitVec 8) => (some x1)) else (some (x <<< 1))

set_option maxHeartbeats 4000000 in
set_option maxRecDepth 20000 in
theorem F83_calls (x : BitVec 8) (r : BitVec 8) (H : halberdref4_double x = some r) :
    Does Try.prog 83 [v8 x] [] [] (Γ := Unit) (fun g => v8 r) (fun g => []) := by
  intro w hmem hro hd
  refine calls_of (N := 10) (m0 := [(0, v8 x)]) Try.func83 rfl Try.ntmps83 (argM_ok [v8 x]) rfl hmem hro hd ?_
  unfold halberdref4_double at H
  refine TC_seq ?_
  refine TC_region ?_
  refine TL_v rfl rfl rfl (V_assign rfl) ?_
  refine TL_nil ?_
  refine TX_next ?_
  refine TC_seq ?_
  refine TC_seq ?_
  refine TC_region ?_
  refine TL_v rfl rfl rfl (V_move rfl) ?_
  refine TL_v rfl rfl rfl (V_bin rfl rfl (fun w => gtr8 w x 127#8)) ?_
  refine TL_nil ?_
  refine TX_next ?_
  refine TC_cond (b := (decide ((127#8).toNat < (x).toNat))) rfl (fun hc => ?_) (fun hc => ?_)
  · replace H := ite_t (of_decide_eq_true hc) H
    refine TC_seq ?_
    refine TC_region ?_
    refine TL_v rfl rfl rfl (V_move rfl) ?_
    refine TL_v rfl rfl rfl (V_bin rfl rfl (fun w => shl8 w x .u64 1 (by decide))) ?_
    refine TL_v rfl rfl rfl (V_bin rfl rfl (fun w => xor8 w (x <<< 1) 27#8)) ?_
    refine TL_v rfl rfl rfl (V_assign rfl) ?_
    obtain ⟨x1, hx1, H⟩ := ltt_elim H
    refine TL_re (d := 2) (v := v8 ((x <<< 1) ^^^ 27#8)) (v' := v8 x1) rfl (congrArg v8 hx1) ?_
    refine TL_nil ?_
    refine TX_next ?_
    refine TC_ret ?_
    refine TX_then_ret ?_
    have hrv := Option.some.inj H
    subst hrv
    exact TX_ret (rs := [.tmp 2]) (vs := [v8 x1]) rfl ⟨rfl, trivial⟩ (fun w' hs' => ⟨(), rfl, Step.left (Step.pulled (is := []) (A := []) hs' rfl)⟩)
  · replace H := ite_f (of_decide_eq_false hc) H
    refine TC_skip ?_
    refine TX_next ?_
    refine TC_seq ?_
    refine TC_region ?_
    refine TL_v rfl rfl rfl (V_move rfl) ?_
    refine TL_v rfl rfl rfl (V_bin rfl rfl (fun w => shl8 w x .u64 1 (by decide))) ?_
    refine TL_v rfl rfl rfl (V_assign rfl) ?_
    refine TL_nil ?_
    refine TX_next ?_
    refine TC_ret ?_
    have hrv := Option.some.inj H
    subst hrv
    exact TX_ret (rs := [.tmp 2]) (vs := [v8 (x <<< 1)]) rfl ⟨rfl, trivial⟩ (fun w' hs' => ⟨(), rfl, Step.left (Step.pulled (is := []) (A := []) hs' rfl)⟩)

end Go.Proofs
end

section
namespace Go.Proofs
open Go Go.Kx
set_option linter.unusedVariables false
set_option linter.unusedSimpArgs false
def aes_table.b0  (s0 : BitVec 8 × BitVec 8 × Vector (BitVec 8) 256) : Option ((BitVec 8 × BitVec 8 × Vector (BitVec 8) 256) ⊕ ((Vector (BitVec 8) 256))) :=
  (aes_twice s0.1).bind fun (r_1 : BitVec 8) => (ltt (s0.2.1 ^^^ (s0.2.1 <<< 1)) fun (q1 : BitVec 8) => (ltt (q1 ^^^ (q1 <<< 2)) fun (q2 : BitVec 8) => (ltt (q2 ^^^ (q2 <<< 4)) fun (q3 : BitVec 8) => (ltt (q3 ^^^ (9#8 &&& (-(q3 >>> 7)))) fun (q4 : BitVec 8) => ((math_bits_RotateLeft8 q4 1).bind fun (r_2 : BitVec 8) => ((math_bits_RotateLeft8 q4 2).bind fun (r_3 : BitVec 8) => ((math_bits_RotateLeft8 q4 3).bind fun (r_4 : BitVec 8) => ((math_bits_RotateLeft8 q4 4).bind fun (r_5 : BitVec 8) => (ltt (vp s0.2.2 ((s0.1 ^^^ r_1).toNat) (((((99#8 ^^^ q4) ^^^ r_2) ^^^ r_3) ^^^ r_4) ^^^ r_5)) fun (m_2 : Vector (BitVec 8) 256) => (if (s0.1 ^^^ r_1) = 1#8 then (some (.inr m_2)) else (some (.inl (s0.1 ^^^ r_1, q4, m_2)))))))))))))

def aes_table : Option (Vector (BitVec 8) 256) :=
  ltt ((vp (Vector.replicate 256 0#8) 0 99#8 : Vector (BitVec 8) 256)) fun (m_1 : Vector (BitVec 8) 256) => ((loop (aes_table.b0) BIG (1#8, 1#8, m_1)).bind fun (t_1 : (Vector (BitVec 8) 256)) => some t_1)

set_option maxHeartbeats 4000000 in
set_option maxRecDepth 20000 in
theorem F81_calls (r : Vector (BitVec 8) 256) (H : aes_table = some r) :
    Does Try.prog 81 [] [] [] (Γ := Unit) (fun g => Value.agg (flat [(256, e8 r.toList)]).toArray) (fun g => []) := by
  intro w hmem hro hd
  refine calls_of (N := 46) (m0 := []) Try.func81 rfl Try.ntmps81 (argM_ok []) rfl hmem hro hd ?_
  unfold aes_table at H
  refine TC_seq ?_
  refine TC_region ?_
  refine TL_e rfl rfl rfl (E_allocP [(256, e8 ((Vector.replicate 256 0#8).toList))] TryI.inf120 TryI.zer120 ⟨(lenV (f := v8) (Vector.replicate 256 0#8)), trivial⟩) (fun b1 => ?_)
  refine TL_nil ?_
  refine TX_next ?_
  refine TC_seq ?_
  refine TC_region ?_
  refine TL_v rfl rfl rfl (V_buildArr (pv := [(0, v8 99#8)]) rfl rfl Try.underlying120 TryI.inf120 TryI.inf5 rfl TryI.zer120 (cs := e8 ((vp (Vector.replicate 256 0#8) 0 99#8 : Vector (BitVec 8) 256).toList)) (by kernel_rfl)) ?_
  refine TL_e rfl rfl rfl (E_allocP [(256, e8 ((Vector.replicate 256 0#8).toList))] TryI.inf120 TryI.zer120 ⟨(lenV (f := v8) (Vector.replicate 256 0#8)), trivial⟩) (fun b2 => ?_)
  refine TL_n rfl rfl (E_storeAgg (n := 256) (j := 0) (vs := e8 ((vp (Vector.replicate 256 0#8) 0 99#8 : Vector (BitVec 8) 256).toList)) rfl rfl TryI.inf120 rfl (lenV (f := v8) (vp (Vector.replicate 256 0#8) 0 99#8 : Vector (BitVec 8) 256)) (OneC.map (fun _ => rfl) _) rfl (Nat.le_of_eq (by simp)) (cs' := e8 ((vp (Vector.replicate 256 0#8) 0 99#8 : Vector (BitVec 8) 256).toList)) (splice_all (by simp))) (fun _ => ?_)
  obtain ⟨m_1, hm_1, H⟩ := ltt_elim H
  refine TL_reE (j := 0) (A := some (b2, 0)) (cs := e8 ((vp (Vector.replicate 256 0#8) 0 99#8 : Vector (BitVec 8) 256).toList)) (cs' := e8 m_1.toList) rfl (congrArg (fun z : Vector (BitVec 8) 256 => e8 (Vector.toList z)) hm_1) ?_
  refine TL_nil ?_
  refine TX_next ?_
  refine TC_seq ?_
  refine TC_region ?_
  refine TL_v rfl rfl rfl (V_assign rfl) ?_
  refine TL_v rfl rfl rfl (V_assign rfl) ?_
  refine TL_nil ?_
  refine TX_next ?_
  refine TC_block ?_
  obtain ⟨t_1, Hl, H⟩ := bind_elim H
  refine TC.sub (m' := [(0, ptr (some (b1, 0)) 0), (1, ptr (some (b2, 0)) 0), (2, v8 1#8), (3, v8 1#8)]) ⟨rfl, rfl, rfl, rfl, trivial⟩ ?_
  refine TC.pull (is := [1, 0]) (L' := [⟨some (b1, 0), e8 ((Vector.replicate 256 0#8).toList)⟩, ⟨some (b2, 0), e8 m_1.toList⟩]) rfl ?_
  refine TC_loopQ (body := (aes_table.b0)) (σ := BitVec 8 × BitVec 8 × Vector (BitVec 8) 256) (Γ := Unit) (Γx := Unit) (fun s0 g0_ => [(0, ptr (some (b1, 0)) 0), (1, ptr (some (b2, 0)) 0), (2, v8 s0.1), (3, v8 s0.2.1)]) (fun s0 g0_ => [⟨some (b1, 0), e8 ((Vector.replicate 256 0#8).toList)⟩, ⟨some (b2, 0), e8 s0.2.2.toList⟩]) (fun t g => []) (fun t g => []) r ?_ BIG (1#8, 1#8, m_1) () t_1 Hl ?_
  · intro s0 g0_ r1 H K hK hE hR1
    unfold aes_table.b0 at H
    refine TC_block ?_
    refine TC_seq ?_
    refine TC_region ?_
    refine TL_v rfl rfl rfl (V_move rfl) ?_
    refine TL_v rfl rfl rfl (V_move rfl) ?_
    obtain ⟨r_1, hr_1, H⟩ := bind_elim H
    refine TL_e rfl rfl rfl (E_call (Γ := Unit) (val := fun g => v8 r_1) (mem := fun g => []) (vs := [v8 s0.1]) (Lin := []) (Ro := []) (is := []) rfl Try.call82 (F82_calls s0.1 r_1 hr_1) rfl trivial) (fun g_1 => ?_)
    refine TL_v rfl rfl rfl (V_bin rfl rfl (fun w => xor8 w s0.1 r_1)) ?_
    refine TL_v rfl rfl rfl (V_assign rfl) ?_
    refine TL_nil ?_
    refine TX_next ?_
    refine TC_seq ?_
    refine TC_region ?_
    refine TL_v rfl rfl rfl (V_move rfl) ?_
    refine TL_v rfl rfl rfl (V_move rfl) ?_
    refine TL_v rfl rfl rfl (V_bin rfl rfl (fun w => shl8 w s0.2.1 .u64 1 (by decide))) ?_
    refine TL_v rfl rfl rfl (V_bin rfl rfl (fun w => xor8 w s0.2.1 (s0.2.1 <<< 1))) ?_
    refine TL_v rfl rfl rfl (V_assign rfl) ?_
    obtain ⟨q1, hq1, H⟩ := ltt_elim H
    refine TL_re (d := 3) (v := v8 (s0.2.1 ^^^ (s0.2.1 <<< 1))) (v' := v8 q1) rfl (congrArg v8 hq1) ?_
    refine TL_nil ?_
    refine TX_next ?_
    refine TC_seq ?_
    refine TC_region ?_
    refine TL_v rfl rfl rfl (V_move rfl) ?_
    refine TL_v rfl rfl rfl (V_move rfl) ?_
    refine TL_v rfl rfl rfl (V_bin rfl rfl (fun w => shl8 w q1 .u64 2 (by decide))) ?_
    refine TL_v rfl rfl rfl (V_bin rfl rfl (fun w => xor8 w q1 (q1 <<< 2))) ?_
    refine TL_v rfl rfl rfl (V_assign rfl) ?_
    obtain ⟨q2, hq2, H⟩ := ltt_elim H
    refine TL_re (d := 3) (v := v8 (q1 ^^^ (q1 <<< 2))) (v' := v8 q2) rfl (congrArg v8 hq2) ?_
    refine TL_nil ?_
    refine TX_next ?_
    refine TC_seq ?_
    refine TC_region ?_
    refine TL_v rfl rfl rfl (V_move rfl) ?_
    refine TL_v rfl rfl rfl (V_move rfl) ?_
    refine TL_v rfl rfl rfl (V_bin rfl rfl (fun w => shl8 w q2 .u64 4 (by decide))) ?_
    refine TL_v rfl rfl rfl (V_bin rfl rfl (fun w => xor8 w q2 (q2 <<< 4))) ?_
    refine TL_v rfl rfl rfl (V_assign rfl) ?_
    obtain ⟨q3, hq3, H⟩ := ltt_elim H
    refine TL_re (d := 3) (v := v8 (q2 ^^^ (q2 <<< 4))) (v' := v8 q3) rfl (congrArg v8 hq3) ?_
    refine TL_nil ?_
    refine TX_next ?_
    refine TC_seq ?_
    refine TC_region ?_
    refine TL_v rfl rfl rfl (V_move rfl) ?_
    refine TL_v rfl rfl rfl (V_move rfl) ?_
    refine TL_v rfl rfl rfl (V_bin rfl rfl (fun w => shr8 w q3 .u64 7 (by decide))) ?_
    refine TL_v rfl rfl rfl (V_un rfl (fun w => neg8 w (q3 >>> 7))) ?_
    refine TL_v rfl rfl rfl (V_bin rfl rfl (fun w => and8 w 9#8 (-(q3 >>> 7)))) ?_
    refine TL_v rfl rfl rfl (V_bin rfl rfl (fun w => xor8 w q3 (9#8 &&& (-(q3 >>> 7))))) ?_
    refine TL_v rfl rfl rfl (V_assign rfl) ?_
    obtain ⟨q4, hq4, H⟩ := ltt_elim H
    refine TL_re (d := 3) (v := v8 (q3 ^^^ (9#8 &&& (-(q3 >>> 7))))) (v' := v8 q4) rfl (congrArg v8 hq4) ?_
    refine TL_nil ?_
    refine TX_next ?_
    refine TC.sub (m' := [(0, ptr (some (b1, 0)) 0), (1, ptr (some (b2, 0)) 0), (2, v8 (s0.1 ^^^ r_1)), (3, v8 q4)]) ⟨rfl, rfl, rfl, rfl, trivial⟩ ?_
    refine TC_seq ?_
    refine TC_region ?_
    refine TL_v rfl rfl rfl (V_move rfl) ?_
    refine TL_v rfl rfl rfl (V_move rfl) ?_
    refine TL_v rfl rfl rfl (V_bin rfl rfl (fun w => xor8 w 99#8 q4)) ?_
    refine TL_v rfl rfl rfl (V_move rfl) ?_
    obtain ⟨r_2, hr_2, H⟩ := bind_elim H
    refine TL_e rfl rfl rfl (E_call (Γ := Unit) (val := fun g => v8 r_2) (mem := fun g => []) (vs := [v8 q4, vi 1]) (Lin := []) (Ro := []) (is := []) rfl Try.call97 (F97_calls q4 1 r_2 hr_2) rfl trivial) (fun g_2 => ?_)
    refine TL_v rfl rfl rfl (V_bin rfl rfl (fun w => xor8 w (99#8 ^^^ q4) r_2)) ?_
    refine TL_v rfl rfl rfl (V_move rfl) ?_
    obtain ⟨r_3, hr_3, H⟩ := bind_elim H
    refine TL_e rfl rfl rfl (E_call (Γ := Unit) (val := fun g => v8 r_3) (mem := fun g => []) (vs := [v8 q4, vi 2]) (Lin := []) (Ro := []) (is := []) rfl Try.call97 (F97_calls q4 2 r_3 hr_3) rfl trivial) (fun g_3 => ?_)
    refine TL_v rfl rfl rfl (V_bin rfl rfl (fun w => xor8 w ((99#8 ^^^ q4) ^^^ r_2) r_3)) ?_
    refine TL_v rfl rfl rfl (V_move rfl) ?_
    obtain ⟨r_4, hr_4, H⟩ := bind_elim H
    refine TL_e rfl rfl rfl (E_call (Γ := Unit) (val := fun g => v8 r_4) (mem := fun g => []) (vs := [v8 q4, vi 3]) (Lin := []) (Ro := []) (is := []) rfl Try.call97 (F97_calls q4 3 r_4 hr_4) rfl trivial) (fun g_4 => ?_)
    refine TL_v rfl rfl rfl (V_bin rfl rfl (fun w => xor8 w (((99#8 ^^^ q4) ^^^ r_2) ^^^ r_3) r_4)) ?_
    refine TL_v rfl rfl rfl (V_move rfl) ?_
    obtain ⟨r_5, hr_5, H⟩ := bind_elim H
    refine TL_e rfl rfl rfl (E_call (Γ := Unit) (val := fun g => v8 r_5) (mem := fun g => []) (vs := [v8 q4, vi 4]) (Lin := []) (Ro := []) (is := []) rfl Try.call97 (F97_calls q4 4 r_5 hr_5) rfl trivial) (fun g_5 => ?_)
    refine TL_v rfl rfl rfl (V_bin rfl rfl (fun w => xor8 w ((((99#8 ^^^ q4) ^^^ r_2) ^^^ r_3) ^^^ r_4) r_5)) ?_
    refine TL_v rfl rfl rfl (V_idxArr (i := ((s0.1 ^^^ r_1).toNat : Int)) rfl rfl Try.underlying120 TryI.inf5 rfl (Int.natCast_nonneg _) (zb (n := 8) (k := 256) (s0.1 ^^^ r_1) (by decide)) (k := (s0.1 ^^^ r_1).toNat) (k01 _)) ?_
    refine TL_n rfl rfl (E_store (j := 1) rfl rfl TryI.inf5 rfl rfl rfl (by simpa using (toNat_lt (Int.natCast_nonneg _) (zb (n := 8) (k := 256) (s0.1 ^^^ r_1) (by decide)))) (cs' := e8 ((vp s0.2.2 ((s0.1 ^^^ r_1).toNat) (((((99#8 ^^^ q4) ^^^ r_2) ^^^ r_3) ^^^ r_4) ^^^ r_5)).toList)) set_vec) (fun _ => ?_)
    obtain ⟨m_2, hm_2, H⟩ := ltt_elim H
    refine TL_reE (j := 1) (A := some (b2, 0)) (cs := e8 ((vp s0.2.2 ((s0.1 ^^^ r_1).toNat) (((((99#8 ^^^ q4) ^^^ r_2) ^^^ r_3) ^^^ r_4) ^^^ r_5)).toList)) (cs' := e8 m_2.toList) rfl (congrArg (fun z : Vector (BitVec 8) 256 => e8 (Vector.toList z)) hm_2) ?_
    refine TL_nil ?_
    refine TX_next ?_
    refine TC_seq ?_
    refine TC_region ?_
    refine TL_v rfl rfl rfl (V_move rfl) ?_
    refine TL_v rfl rfl rfl (V_bin rfl rfl (fun w => eql8 w (s0.1 ^^^ r_1) 1#8)) ?_
    refine TL_nil ?_
    refine TX_next ?_
    refine TC_cond (b := (decide ((s0.1 ^^^ r_1) = 1#8))) rfl (fun hc => ?_) (fun hc => ?_)
    · replace H := ite_t (of_decide_eq_true hc) H
      refine TC_seq ?_
      refine TC_region ?_
      refine TL_v rfl rfl rfl (V_loadAgg (n := 256) rfl (by simp) (Src.own (j := 1) rfl) Try.isAgg120 TryI.inf120 rfl (lenV (f := v8) m_2)) ?_
      refine TL_n rfl rfl (E_storeAgg (n := 256) (j := 0) (vs := e8 m_2.toList) rfl rfl TryI.inf120 rfl (lenV (f := v8) m_2) (OneC.map (fun _ => rfl) _) rfl (Nat.le_of_eq (by simp)) (cs' := e8 m_2.toList) (splice_all (by simp))) (fun _ => ?_)
      refine TL_nil ?_
      refine TX_next ?_
      refine TC_ret ?_
      refine TX_block_ret ?_
      refine TX_then_ret ?_
      refine TX_block_ret ?_
      have hrv := (hR1 _ (Option.some.inj H).symm)
      subst hrv
      exact TX_ret (rs := [.cell 0 120]) (vs := [Value.agg (flat [(256, e8 m_2.toList)]).toArray]) rfl ⟨(Res_agg (n := 256) rfl (by simp) (Src.own (j := 0) rfl) Try.isAgg120 TryI.inf120 rfl (lenV (f := v8) m_2)), trivial⟩ (fun w' hs' => ⟨(), rfl, Step.left (Step.pulled (is := []) (A := []) hs' rfl)⟩)
    · replace H := ite_f (of_decide_eq_false hc) H
      refine TC_skip ?_
      refine TX_block_normal ?_
      refine TX.sub (m' := [(0, ptr (some (b1, 0)) 0), (1, ptr (some (b2, 0)) 0), (2, v8 (s0.1 ^^^ r_1)), (3, v8 q4)]) ⟨rfl, rfl, rfl, rfl, trivial⟩ ?_
      refine TX.pull (is := [0, 0]) (L' := [⟨some (b1, 0), e8 ((Vector.replicate 256 0#8).toList)⟩, ⟨some (b2, 0), e8 m_2.toList⟩]) rfl ?_
      obtain rfl := Option.some.inj H
      exact fun a w hs => hK (s0.1 ^^^ r_1, q4, m_2) rfl () a w hs
  · exact (Option.some.inj H)

end Go.Proofs
end

section
namespace Go.Proofs
open Go Go.Kx
set_option linter.unusedVariables false
set_option linter.unusedSimpArgs false
def aes_New.b1 (n1 : Int) (s0 : BitVec 8 × Int × List (Vector (BitVec 8) 4)) (j1 : BitVec 8 × Vector (BitVec 8) 4) (s1 : Int × List (Vector (BitVec 8) 4)) : Option ((Int × List (Vector (BitVec 8) 4)) ⊕ (List (Vector (BitVec 8) 4))) :=
  if s1.1 < 4 then (if 0 ≤ w64 (s0.2.1 - n1) ∧ w64 (s0.2.1 - n1) < ((w64 (4 * (w64 (n1 + 7)))).toNat : Int) then (if (w64 (s0.2.1 - n1)).toNat < (s1.2).length then (if 0 ≤ s1.1 ∧ s1.1 < (4 : Int) then (if 0 ≤ s1.1 ∧ s1.1 < (4 : Int) then (if 0 ≤ s0.2.1 ∧ s0.2.1 < ((w64 (4 * (w64 (n1 + 7)))).toNat : Int) then (if (s0.2.1).toNat < (s1.2).length then (if 0 ≤ s1.1 ∧ s1.1 < (4 : Int) then (ltt (s1.2.set ((s0.2.1).toNat) (vp (lg s1.2 ((s0.2.1).toNat)) ((s1.1).toNat) ((vg (lg s1.2 ((w64 (s0.2.1 - n1)).toNat)) ((s1.1).toNat)) ^^^ (vg j1.2 ((s1.1).toNat))))) fun (m_3 : List (Vector (BitVec 8) 4)) => (some (.inl (w64 (s1.1 + 1), m_3)))) else none) else none) else none) else none) else none) else none) else none) else (some (.inr s1.2))

def aes_New.b2 (r_1 : Vector (BitVec 8) 256) (s2 : Int × Vector (BitVec 8) 4) : Option ((Int × Vector (BitVec 8) 4) ⊕ (Vector (BitVec 8) 4)) :=
  if s2.1 < 4 then (if 0 ≤ s2.1 ∧ s2.1 < (4 : Int) then (if 0 ≤ s2.1 ∧ s2.1 < (4 : Int) then (ltt (vp s2.2 ((s2.1).toNat) (vg r_1 ((vg s2.2 ((s2.1).toNat)).toNat))) fun (m_5 : Vector (BitVec 8) 4) => (some (.inl (w64 (s2.1 + 1), m_5)))) else none) else none) else (some (.inr s2.2))

def aes_New.b0 (key : Str) (r_1 : Vector (BitVec 8) 256) (n1 : Int) (s0 : BitVec 8 × Int × List (Vector (BitVec 8) 4)) : Option ((BitVec 8 × Int × List (Vector (BitVec 8) 4)) ⊕ (List (Vector (BitVec 8) 4))) :=
  if s0.2.1 < ((w64 (4 * (w64 (n1 + 7)))).toNat : Int) then (if s0.2.1 < n1 then (if 0 ≤ s0.2.1 ∧ s0.2.1 < ((w64 (4 * (w64 (n1 + 7)))).toNat : Int) then (if (s0.2.1).toNat < (s0.2.2).length then (if 0 ≤ w64 (4 * s0.2.1) then (if (w64 (4 * s0.2.1)).toNat ≤ (key).length then (ltt (s0.2.2.set ((s0.2.1).toNat) (vsp (lg s0.2.2 ((s0.2.1).toNat)) 0 ((sub key ((w64 (4 * s0.2.1)).toNat) ((key).length)).take (min ((sub key ((w64 (4 * s0.2.1)).toNat) ((key).length)).length) (4 - 0))))) fun (m_1 : List (Vector (BitVec 8) 4)) => (some (.inl (s0.1, w64 (s0.2.1 + 1), m_1)))) else none) else none) else none) else none) else (if 0 ≤ w64 (s0.2.1 - 1) ∧ w64 (s0.2.1 - 1) < ((w64 (4 * (w64 (n1 + 7)))).toNat : Int) then (if (w64 (s0.2.1 - 1)).toNat < (s0.2.2).length then (ltt (lg s0.2.2 ((w64 (s0.2.1 - 1)).toNat)) fun (m_2 : Vector (BitVec 8) 4) => (if n1 ≠ 0 then ((if (s0.2.1.tmod n1) = 0 then (ltt ((#v[(vg r_1 ((vg m_2 1).toNat)) ^^^ s0.1, vg r_1 ((vg m_2 2).toNat), vg r_1 ((vg m_2 3).toNat), vg r_1 ((vg m_2 0).toNat)] : Vector (BitVec 8) 4)) fun (m_4 : Vector (BitVec 8) 4) => ((aes_twice s0.1).bind fun (r_2 : BitVec 8) => (some (r_2, m_4)))) else (if n1 = 8 then (if n1 ≠ 0 then (if (s0.2.1.tmod n1) = 4 then ((loop (aes_New.b2 r_1) BIG (0, m_2)).bind fun (t_3 : Vector (BitVec 8) 4) => (some (s0.1, t_3))) else (some (s0.1, m_2))) else none) else (some (s0.1, m_2)))).bind fun (j1 : BitVec 8 × Vector (BitVec 8) 4) => ((loop (aes_New.b1 n1 s0 j1) BIG (0, s0.2.2)).bind fun (t_2 : List (Vector (BitVec 8) 4)) => (some (.inl (j1.1, w64 (s0.2.1 + 1), t_2))))) else none)) else none) else none)) else (some (.inr s0.2.2))

def aes_New.b3 (n1 : Int) (t_1 : List (Vector (BitVec 8) 4)) (s3 : Int × List (Vector (BitVec 8) 16)) : Option ((Int × List (Vector (BitVec 8) 16)) ⊕ (List (Vector (BitVec 8) 16))) :=
  if s3.1 < ((w64 (4 * (w64 (n1 + 7)))).toNat : Int) then (if 0 ≤ w64 (s3.1.tdiv 4) ∧ w64 (s3.1.tdiv 4) < ((w64 (n1 + 7)).toNat : Int) then (if (w64 (s3.1.tdiv 4)).toNat < (s3.2).length then (if 0 ≤ w64 (4 * (s3.1.tmod 4)) then (if (w64 (4 * (s3.1.tmod 4))).toNat ≤ 16 then (if (w64 (4 * (s3.1.tmod 4))).toNat < 16 then (if 0 ≤ s3.1 ∧ s3.1 < ((w64 (4 * (w64 (n1 + 7)))).toNat : Int) then (if (s3.1).toNat < (t_1).length then (ltt (s3.2.set ((w64 (s3.1.tdiv 4)).toNat) (vsp (lg s3.2 ((w64 (s3.1.tdiv 4)).toNat)) ((w64 (4 * (s3.1.tmod 4))).toNat) ((sub ((lg t_1 ((s3.1).toNat)).toList) 0 4).take (min (4 - 0) (16 - ((w64 (4 * (s3.1.tmod 4))).toNat)))))) fun (m_6 : List (Vector (BitVec 8) 16)) => (some (.inl (w64 (s3.1 + 1), m_6)))) else none) else none) else none) else none) else none) else none) else none) else (some (.inr s3.2))

def aes_New.b5 (n2 : Int) (s4 : BitVec 8 × Int × List (Vector (BitVec 8) 4)) (j2 : BitVec 8 × Vector (BitVec 8) 4) (s5 : Int × List (Vector (BitVec 8) 4)) : Option ((Int × List (Vector (BitVec 8) 4)) ⊕ (List (Vector (BitVec 8) 4))) :=
  if s5.1 < 4 then (if 0 ≤ w64 (s4.2.1 - n2) ∧ w64 (s4.2.1 - n2) < ((w64 (4 * (w64 (n2 + 7)))).toNat : Int) then (if (w64 (s4.2.1 - n2)).toNat < (s5.2).length then (if 0 ≤ s5.1 ∧ s5.1 < (4 : Int) then (if 0 ≤ s5.1 ∧ s5.1 < (4 : Int) then (if 0 ≤ s4.2.1 ∧ s4.2.1 < ((w64 (4 * (w64 (n2 + 7)))).toNat : Int) then (if (s4.2.1).toNat < (s5.2).length then (if 0 ≤ s5.1 ∧ s5.1 < (4 : Int) then (ltt (s5.2.set ((s4.2.1).toNat) (vp (lg s5.2 ((s4.2.1).toNat)) ((s5.1).toNat) ((vg (lg s5.2 ((w64 (s4.2.1 - n2)).toNat)) ((s5.1).toNat)) ^^^ (vg j2.2 ((s5.1).toNat))))) fun (m_9 : List (Vector (BitVec 8) 4)) => (some (.inl (w64 (s5.1 + 1), m_9)))) else none) else none) else none) else none) else none) else none) else none) else (some (.inr s5.2))

def aes_New.b6 (r_3 : Vector (BitVec 8) 256) (s6 : Int × Vector (BitVec 8) 4) : Option ((Int × Vector (BitVec 8) 4) ⊕ (Vector (BitVec 8) 4)) :=
  if s6.1 < 4 then (if 0 ≤ s6.1 ∧ s6.1 < (4 : Int) then (if 0 ≤ s6.1 ∧ s6.1 < (4 : Int) then (ltt (vp s6.2 ((s6.1).toNat) (vg r_3 ((vg s6.2 ((s6.1).toNat)).toNat))) fun (m_11 : Vector (BitVec 8) 4) => (some (.inl (w64 (s6.1 + 1), m_11)))) else none) else none) else (some (.inr s6.2))

def aes_New.b4 (key : Str) (r_3 : Vector (BitVec 8) 256) (n2 : Int) (s4 : BitVec 8 × Int × List (Vector (BitVec 8) 4)) : Option ((BitVec 8 × Int × List (Vector (BitVec 8) 4)) ⊕ (List (Vector (BitVec 8) 4))) :=
  if s4.2.1 < ((w64 (4 * (w64 (n2 + 7)))).toNat : Int) then (if s4.2.1 < n2 then (if 0 ≤ s4.2.1 ∧ s4.2.1 < ((w64 (4 * (w64 (n2 + 7)))).toNat : Int) then (if (s4.2.1).toNat < (s4.2.2).length then (if 0 ≤ w64 (4 * s4.2.1) then (if (w64 (4 * s4.2.1)).toNat ≤ (key).length then (ltt (s4.2.2.set ((s4.2.1).toNat) (vsp (lg s4.2.2 ((s4.2.1).toNat)) 0 ((sub key ((w64 (4 * s4.2.1)).toNat) ((key).length)).take (min ((sub key ((w64 (4 * s4.2.1)).toNat) ((key).length)).length) (4 - 0))))) fun (m_7 : List (Vector (BitVec 8) 4)) => (some (.inl (s4.1, w64 (s4.2.1 + 1), m_7)))) else none) else none) else none) else none) else (if 0 ≤ w64 (s4.2.1 - 1) ∧ w64 (s4.2.1 - 1) < ((w64 (4 * (w64 (n2 + 7)))).toNat : Int) then (if (w64 (s4.2.1 - 1)).toNat < (s4.2.2).length then (ltt (lg s4.2.2 ((w64 (s4.2.1 - 1)).toNat)) fun (m_8 : Vector (BitVec 8) 4) => (if n2 ≠ 0 then ((if (s4.2.1.tmod n2) = 0 then (ltt ((#v[(vg r_3 ((vg m_8 1).toNat)) ^^^ s4.1, vg r_3 ((vg m_8 2).toNat), vg r_3 ((vg m_8 3).toNat), vg r_3 ((vg m_8 0).toNat)] : Vector (BitVec 8) 4)) fun (m_10 : Vector (BitVec 8) 4) => ((aes_twice s4.1).bind fun (r_4 : BitVec 8) => (some (r_4, m_10)))) else (if n2 = 8 then (if n2 ≠ 0 then (if (s4.2.1.tmod n2) = 4 then ((loop (aes_New.b6 r_3) BIG (0, m_8)).bind fun (t_7 : Vector (BitVec 8) 4) => (some (s4.1, t_7))) else (some (s4.1, m_8))) else none) else (some (s4.1, m_8)))).bind fun (j2 : BitVec 8 × Vector (BitVec 8) 4) => ((loop (aes_New.b5 n2 s4 j2) BIG (0, s4.2.2)).bind fun (t_6 : List (Vector (BitVec 8) 4)) => (some (.inl (j2.1, w64 (s4.2.1 + 1), t_6))))) else none)) else none) else none)) else (some (.inr s4.2.2))

def aes_New.b7 (n2 : Int) (t_5 : List (Vector (BitVec 8) 4)) (s7 : Int × List (Vector (BitVec 8) 16)) : Option ((Int × List (Vector (BitVec 8) 16)) ⊕ (List (Vector (BitVec 8) 16))) :=
  if s7.1 < ((w64 (4 * (w64 (n2 + 7)))).toNat : Int) then (if 0 ≤ w64 (s7.1.tdiv 4) ∧ w64 (s7.1.tdiv 4) < ((w64 (n2 + 7)).toNat : Int) then (if (w64 (s7.1.tdiv 4)).toNat < (s7.2).length then (if 0 ≤ w64 (4 * (s7.1.tmod 4)) then (if (w64 (4 * (s7.1.tmod 4))).toNat ≤ 16 then (if (w64 (4 * (s7.1.tmod 4))).toNat < 16 then (if 0 ≤ s7.1 ∧ s7.1 < ((w64 (4 * (w64 (n2 + 7)))).toNat : Int) then (if (s7.1).toNat < (t_5).length then (ltt (s7.2.set ((w64 (s7.1.tdiv 4)).toNat) (vsp (lg s7.2 ((w64 (s7.1.tdiv 4)).toNat)) ((w64 (4 * (s7.1.tmod 4))).toNat) ((sub ((lg t_5 ((s7.1).toNat)).toList) 0 4).take (min (4 - 0) (16 - ((w64 (4 * (s7.1.tmod 4))).toNat)))))) fun (m_12 : List (Vector (BitVec 8) 16)) => (some (.inl (w64 (s7.1 + 1), m_12)))) else none) else none) else none) else none) else none) else none) else none) else (some (.inr s7.2))

def aes_New (key : Str) : Option ((Unit) ⊕ (Vector (BitVec 8) 256 × Nat × List (Vector (BitVec 8) 16))) :=
  if ((key).length : Int) ≠ 16 then (if ((key).length : Int) ≠ 32 then (some (.inl ())) else ((aes_table).bind fun (r_1 : Vector (BitVec 8) 256) => (ltt (w64 (((key).length : Int).tdiv 4)) fun (n1 : Int) => (if 0 ≤ w64 (4 * (w64 (n1 + 7))) ∧ w64 (4 * (w64 (n1 + 7))) ≤ 17592186044416 then ((loop (aes_New.b0 key r_1 n1) BIG (1#8, 0, List.replicate ((w64 (4 * (w64 (n1 + 7)))).toNat) (Vector.replicate 4 0#8))).bind fun (t_1 : List (Vector (BitVec 8) 4)) => (if 0 ≤ w64 (n1 + 7) ∧ w64 (n1 + 7) ≤ 17592186044416 then ((loop (aes_New.b3 n1 t_1) BIG (0, List.replicate ((w64 (n1 + 7)).toNat) (Vector.replicate 16 0#8))).bind fun (t_4 : List (Vector (BitVec 8) 16)) => (some (.inr (r_1, (w64 (n1 + 7)).toNat, t_4)))) else none)) else none)))) else ((aes_table).bind fun (r_3 : Vector (BitVec 8) 256) => (ltt (w64 (((key).length : Int).tdiv 4)) fun (n2 : Int) => (if 0 ≤ w64 (4 * (w64 (n2 + 7))) ∧ w64 (4 * (w64 (n2 + 7))) ≤ 17592186044416 then ((loop (aes_New.b4 key r_3 n2) BIG (1#8, 0, List.replicate ((w64 (4 * (w64 (n2 + 7)))).toNat) (Vector.replicate 4 0#8))).bind fun (t_5 : List (Vector (BitVec 8) 4)) => (if 0 ≤ w64 (n2 + 7) ∧ w64 (n2 + 7) ≤ 17592186044416 then ((loop (aes_New.b7 n2 t_5) BIG (0, List.replicate ((w64 (n2 + 7)).toNat) (Vector.replicate 16 0#8))).bind fun (t_8 : List (Vector (BitVec 8) 16)) => (some (.inr (r_3, (w64 (n2 + 7)).toNat, t_8)))) else none)) else none)))

set_option maxHeartbeats 4000000 in
set_option maxRecDepth 20000 in
theorem F50_calls (key : Str) (r : (Unit) ⊕ (Vector (BitVec 8) 256 × Nat × List (Vector (BitVec 8) 16))) (H : aes_New key = some r) :
    Does Try.prog 50 [vs key] [] [] (Γ := Unit × (Nat × Nat)) (fun g => match r with | .inl r => Value.tuple [Value.pointer none, vb false].toArray | .inr r => Value.tuple [ptr (some (g.2.1, 0)) 0, vb true].toArray) (fun g => match r with | .inl r => [] | .inr r => [⟨some (g.2.1, 0), e8 r.1.toList⟩, ⟨some (g.2.1, 256), [sl (some (g.2.2, 0)) r.2.1 r.2.1]⟩, ⟨some (g.2.2, 0), eF (fun V : Vector (BitVec 8) 16 => e8 V.toList) r.2.2⟩]) := by
  intro w hmem hro hd
  refine calls_of (N := 163) (m0 := [(0, vs key)]) Try.func50 rfl Try.ntmps50 (argM_ok [vs key]) rfl hmem hro hd ?_
  unfold aes_New at H
  refine TC_seq ?_
  refine TC_region ?_
  refine TL_v rfl rfl rfl (V_assign rfl) ?_
  refine TL_v rfl rfl rfl (V_assign rfl) ?_
  refine TL_nil ?_
  refine TX_next ?_
  refine TC_seq ?_
  refine TC_seq ?_
  refine TC_region ?_
  refine TL_v rfl rfl rfl (V_move rfl) ?_
  refine TL_v rfl rfl rfl (V_len_str rfl Try.underlying9) ?_
  refine TL_v rfl rfl rfl (V_bin rfl rfl (fun w => neqI w ((key).length : Int) 16)) ?_
  refine TL_v rfl rfl rfl (V_move rfl) ?_
  refine TL_fork (d := 16) (b := (decide (((key).length : Int) ≠ 16))) rfl (fun hc => ?_) (fun hc => ?_)
  · replace H := ite_t (of_decide_eq_true hc) H
    refine TL_want rfl rfl rfl rfl rfl rfl (V_move rfl) ?_
    refine TL_want rfl rfl rfl rfl rfl rfl (V_len_str rfl Try.underlying9) ?_
    refine TL_want rfl rfl rfl rfl rfl rfl (V_bin rfl rfl (fun w => neqI w ((key).length : Int) 32)) ?_
    refine TL_v rfl rfl rfl (V_pick (b := true) rfl rfl) ?_
    refine TL_nil ?_
    refine TX_next ?_
    refine TC_cond (b := (decide (((key).length : Int) ≠ 32))) rfl (fun hc => ?_) (fun hc => ?_)
    · replace H := ite_t (of_decide_eq_true hc) H
      refine TC_seq ?_
      refine TC_region ?_
      refine TL_v rfl rfl rfl (V_assign rfl) ?_
      refine TL_v rfl rfl rfl (V_assign rfl) ?_
      refine TL_nil ?_
      refine TX_next ?_
      refine TC_ret ?_
      refine TX_then_ret ?_
      have hrv := Option.some.inj H
      subst hrv
      exact TX_ret (rs := [.tmp 2, .tmp 3]) (vs := [Value.pointer none, vb false]) rfl ⟨rfl, rfl, trivial⟩ (fun w' hs' => ⟨((), ((default : Nat), (default : Nat))), rfl, Step.left (Step.pulled (is := []) (A := []) hs' rfl)⟩)
    · replace H := ite_f (of_decide_eq_false hc) H
      refine TC_skip ?_
      refine TX_next ?_
      refine TC_seq ?_
      refine TC_region ?_
      obtain ⟨r_1, hr_1, H⟩ := bind_elim H
      refine TL_e rfl rfl rfl (E_call (Γ := Unit) (val := fun g => Value.agg (flat [(256, e8 r_1.toList)]).toArray) (mem := fun g => []) (vs := []) (Lin := []) (Ro := []) (is := []) rfl Try.call81 (F81_calls r_1 hr_1) rfl trivial) (fun g_1 => ?_)
      refine TL_v rfl rfl rfl (V_buildStruct (pv := [(0, Value.agg (flat [(256, e8 r_1.toList)]).toArray)]) (pl := [(0, 256), (256, 1)]) rfl rfl Try.underlying124 TryI.inf124 TryI.places124 TryI.zer124 (cs := flat [(256, e8 r_1.toList), (1, [sl none 0 0])]) (fill_part [] [(1, [sl none 0 0])] rfl rfl trivial rfl (lenV (f := v8) (Vector.replicate 256 0#8)) (lenV (f := v8) r_1) fill_end)) ?_
      refine TL_e rfl rfl rfl (E_boxP [(256, e8 r_1.toList), (1, [sl none 0 0])] rfl rfl ⟨(lenV (f := v8) r_1), rfl, trivial⟩) (fun b1 => ?_)
      refine TL_gen (Lf := fun An1 => [⟨some (b1, 0), e8 r_1.toList⟩, ⟨some (b1, 256), [sl An1 ((([] : List (Vector (BitVec 8) 16))).length) ((([] : List (Vector (BitVec 8) 16)) ++ ([] : List (Vector (BitVec 8) 16))).length)]⟩]) (z := eF (fun V : Vector (BitVec 8) 16 => e8 V.toList) (([] : List (Vector (BitVec 8) 16)) ++ ([] : List (Vector (BitVec 8) 16)))) rfl rfl (fun An1 => ?_)
      refine TL_v rfl rfl rfl (V_assign rfl) ?_
      refine TL_nil ?_
      refine TX_next ?_
      refine TC_seq ?_
      refine TC_region ?_
      refine TL_v rfl rfl rfl (V_move rfl) ?_
      refine TL_v rfl rfl rfl (V_len_str rfl Try.underlying9) ?_
      refine TL_v rfl rfl rfl (V_bin rfl rfl (fun w => quoI w ((key).length : Int) 4 (by decide))) ?_
      refine TL_v rfl rfl rfl (V_assign rfl) ?_
      obtain ⟨n1, hn1, H⟩ := ltt_elim H
      refine TL_re (d := 5) (v := vi (w64 (((key).length : Int).tdiv 4))) (v' := vi n1) rfl (congrArg vi hn1) ?_
      refine TL_nil ?_
      refine TX_next ?_
      refine TC_seq ?_
      refine TC_region ?_
      refine TL_v rfl rfl rfl (V_move rfl) ?_
      refine TL_v rfl rfl rfl (V_bin rfl rfl (fun w => addI w n1 7)) ?_
      refine TL_v rfl rfl rfl (V_bin rfl rfl (fun w => mulI w 4 (w64 (n1 + 7)))) ?_
      obtain ⟨h1, H⟩ := if_elim H
      refine TL_e rfl rfl rfl (E_mkN rfl rfl Try.underlying74 TryI.inf125 TryI.zer125 (by kernel_rfl) rfl rfl (B := 4) rfl h1.1 (Int.le_refl _) (by have := h1; omega) (by have := h1; omega) (n' := (w64 (4 * (w64 (n1 + 7)))).toNat) (c' := (w64 (4 * (w64 (n1 + 7)))).toNat) rfl rfl (cs := eF (fun V : Vector (BitVec 8) 4 => e8 V.toList) (List.replicate ((w64 (4 * (w64 (n1 + 7)))).toNat) (Vector.replicate 4 0#8))) (rep_eF (g := fun V : Vector (BitVec 8) 4 => e8 V.toList))) (fun b2 => ?_)
      refine TL_v rfl rfl rfl (V_assign rfl) ?_
      refine TL_nil ?_
      refine TX_next ?_
      refine TC_seq ?_
      refine TC_region ?_
      refine TL_v rfl rfl rfl (V_assign rfl) ?_
      refine TL_nil ?_
      refine TX_next ?_
      refine TC_seq ?_
      refine TC_seq ?_
      refine TC_region ?_
      refine TL_v rfl rfl rfl (V_move rfl) ?_
      refine TL_v rfl rfl rfl (V_len_slice rfl Try.underlying74) ?_
      refine TL_v rfl rfl rfl (V_move rfl) ?_
      refine TL_nil ?_
      refine TX_next ?_
      refine TC_block ?_
      obtain ⟨t_1, Hl, H⟩ := bind_elim H
      refine TC.sub (m' := [(0, vs key), (4, ptr (some (b1, 0)) 0), (5, vi n1), (6, sl (some (b2, 0)) ((w64 (4 * (w64 (n1 + 7)))).toNat) ((w64 (4 * (w64 (n1 + 7)))).toNat)), (7, v8 1#8), (32, vi ((w64 (4 * (w64 (n1 + 7)))).toNat : Int)), (33, vi 0)]) ⟨rfl, rfl, rfl, rfl, rfl, rfl, rfl, trivial⟩ ?_
      refine TC.pull (is := [2, 2, 1, 0]) (L' := [⟨some (b1, 0), e8 r_1.toList⟩, ⟨some (b1, 256), [sl An1 ((([] : List (Vector (BitVec 8) 16))).length) ((([] : List (Vector (BitVec 8) 16)) ++ ([] : List (Vector (BitVec 8) 16))).length)]⟩, ⟨An1, eF (fun V : Vector (BitVec 8) 16 => e8 V.toList) (([] : List (Vector (BitVec 8) 16)) ++ ([] : List (Vector (BitVec 8) 16)))⟩, ⟨some (b2, 0), eF (fun V : Vector (BitVec 8) 4 => e8 V.toList) (List.replicate ((w64 (4 * (w64 (n1 + 7)))).toNat) (Vector.replicate 4 0#8))⟩]) rfl ?_
      refine TC_loopL (id := 0) (body := (aes_New.b0 key r_1 n1)) (σ := BitVec 8 × Int × List (Vector (BitVec 8) 4)) (Γ := Unit) (Γx := Unit) (fun s0 g0_ => [(0, vs key), (4, ptr (some (b1, 0)) 0), (5, vi n1), (6, sl (some (b2, 0)) ((w64 (4 * (w64 (n1 + 7)))).toNat) ((w64 (4 * (w64 (n1 + 7)))).toNat)), (7, v8 s0.1), (32, vi ((w64 (4 * (w64 (n1 + 7)))).toNat : Int)), (33, vi s0.2.1)]) (fun s0 g0_ => [⟨some (b1, 0), e8 r_1.toList⟩, ⟨some (b1, 256), [sl An1 ((([] : List (Vector (BitVec 8) 16))).length) ((([] : List (Vector (BitVec 8) 16)) ++ ([] : List (Vector (BitVec 8) 16))).length)]⟩, ⟨An1, eF (fun V : Vector (BitVec 8) 16 => e8 V.toList) (([] : List (Vector (BitVec 8) 16)) ++ ([] : List (Vector (BitVec 8) 16)))⟩, ⟨some (b2, 0), eF (fun V : Vector (BitVec 8) 4 => e8 V.toList) s0.2.2⟩]) (fun t g => [(4, ptr (some (b1, 0)) 0), (5, vi n1), (6, sl (some (b2, 0)) ((w64 (4 * (w64 (n1 + 7)))).toNat) ((w64 (4 * (w64 (n1 + 7)))).toNat))]) (fun t g => [⟨some (b1, 0), e8 r_1.toList⟩, ⟨some (b1, 256), [sl An1 ((([] : List (Vector (BitVec 8) 16))).length) ((([] : List (Vector (BitVec 8) 16)) ++ ([] : List (Vector (BitVec 8) 16))).length)]⟩, ⟨An1, eF (fun V : Vector (BitVec 8) 16 => e8 V.toList) (([] : List (Vector (BitVec 8) 16)) ++ ([] : List (Vector (BitVec 8) 16)))⟩, ⟨some (b2, 0), eF (fun V : Vector (BitVec 8) 4 => e8 V.toList) t⟩]) ?_ BIG (1#8, 0, List.replicate ((w64 (4 * (w64 (n1 + 7)))).toNat) (Vector.replicate 4 0#8)) () t_1 Hl ?_
      · intro s0 g0_ r1 H K hK hE
        unfold aes_New.b0 at H
        refine TC_seq ?_
        refine TC_region ?_
        refine TL_v rfl rfl rfl (V_bin rfl rfl (fun w => lssI w s0.2.1 ((w64 (4 * (w64 (n1 + 7)))).toNat : Int))) ?_
        refine TL_nil ?_
        refine TX_next ?_
        refine TC_seq ?_
        refine TC_cond (b := (decide (s0.2.1 < ((w64 (4 * (w64 (n1 + 7)))).toNat : Int)))) rfl (fun hc => ?_) (fun hc => ?_)
        · replace H := ite_t (of_decide_eq_true hc) H
          refine TC_skip ?_
          refine TX_next ?_
          refine TC_seq ?_
          refine TC_block ?_
          refine TC_seq ?_
          refine TC_region ?_
          refine TL_v rfl rfl rfl (V_move rfl) ?_
          refine TL_v rfl rfl rfl (V_assign rfl) ?_
          refine TL_nil ?_
          refine TX_next ?_
          refine TC_seq ?_
          refine TC_seq ?_
          refine TC_region ?_
          refine TL_v rfl rfl rfl (V_move rfl) ?_
          refine TL_v rfl rfl rfl (V_move rfl) ?_
          refine TL_v rfl rfl rfl (V_bin rfl rfl (fun w => lssI w s0.2.1 n1)) ?_
          refine TL_nil ?_
          refine TX_next ?_
          refine TC_cond (b := (decide (s0.2.1 < n1))) rfl (fun hc => ?_) (fun hc => ?_)
          · replace H := ite_t (of_decide_eq_true hc) H
            refine TC_seq ?_
            obtain ⟨h2, H⟩ := if_elim H
            obtain ⟨h3, H⟩ := if_elim H
            obtain ⟨h4, H⟩ := if_elim H
            obtain ⟨h5, H⟩ := if_elim H
            obtain ⟨m_1, hm_1, H⟩ := ltt_elim H
            refine TA_begin [⟨some (b1, 0), e8 r_1.toList⟩, ⟨some (b1, 256), [sl An1 ((([] : List (Vector (BitVec 8) 16))).length) ((([] : List (Vector (BitVec 8) 16)) ++ ([] : List (Vector (BitVec 8) 16))).length)]⟩, ⟨An1, eF (fun V : Vector (BitVec 8) 16 => e8 V.toList) (([] : List (Vector (BitVec 8) 16)) ++ ([] : List (Vector (BitVec 8) 16)))⟩] 9 (by kernel_rfl) (N := 9) rfl ?_
            refine TA_take (i := 0) (is := [0, 0, 0]) (done' := #[true, false, false, false, false, false, false, false, false]) rfl rfl rfl rfl (by kernel_rfl) (QP.then (QP.then (QP.block (QP.then (QP.then (QP.block (QP.then QP.body))))))) (by kernel_rfl) rfl (V_move rfl) ?_
            refine TA_take (i := 1) (is := [0, 0, 0]) (done' := #[true, true, false, false, false, false, false, false, false]) rfl rfl rfl rfl (by kernel_rfl) (QP.then (QP.then (QP.block (QP.then (QP.then (QP.block (QP.then QP.body))))))) (by kernel_rfl) rfl (V_move rfl) ?_
            refine TA_take (i := 2) (is := [0, 0, 0]) (done' := #[true, true, true, false, false, false, false, false, false]) rfl rfl rfl rfl (by kernel_rfl) (QP.then (QP.then (QP.block (QP.then (QP.then (QP.block (QP.then QP.body))))))) (by kernel_rfl) rfl (V_idxSl (i := s0.2.1) rfl rfl Try.underlying74 TryI.inf125 rfl (fun _ h => by cases h) h2.1 h2.2 (k := ((s0.2.1).toNat) * 4) rfl) ?_
            refine TA_take (i := 3) (is := [0, 0, 0]) (done' := #[true, true, true, true, false, false, false, false, false]) rfl rfl rfl rfl (by kernel_rfl) (QP.then (QP.then (QP.block (QP.then (QP.then (QP.block (QP.then QP.body))))))) (by kernel_rfl) rfl (V_sliceWin (l := 0) (h := 4) rfl (by simp) Try.underlying125 TryI.inf5 rfl Bnd.none' Bnd.none' (Nat.zero_le _) (Nat.le_refl _) (by decide)) ?_
            refine TA_take (i := 4) (is := [0, 0, 0]) (done' := #[true, true, true, true, true, false, false, false, false]) rfl rfl rfl rfl (by kernel_rfl) (QP.then (QP.then (QP.block (QP.then (QP.then (QP.block (QP.then QP.body))))))) (by kernel_rfl) rfl (V_move rfl) ?_
            refine TA_take (i := 5) (is := [0, 0, 0]) (done' := #[true, true, true, true, true, true, false, false, false]) rfl rfl rfl rfl (by kernel_rfl) (QP.then (QP.then (QP.block (QP.then (QP.then (QP.block (QP.then QP.body))))))) (by kernel_rfl) rfl (V_move rfl) ?_
            refine TA_take (i := 6) (is := [0, 0, 0]) (done' := #[true, true, true, true, true, true, true, false, false]) rfl rfl rfl rfl (by kernel_rfl) (QP.then (QP.then (QP.block (QP.then (QP.then (QP.block (QP.then QP.body))))))) (by kernel_rfl) rfl (V_bin rfl rfl (fun w => mulI w 4 s0.2.1)) ?_
            refine TA_take (i := 7) (is := [0, 0, 0]) (done' := #[true, true, true, true, true, true, true, true, false]) rfl rfl rfl rfl (by kernel_rfl) (QP.then (QP.then (QP.block (QP.then (QP.then (QP.block (QP.then QP.body))))))) (by kernel_rfl) rfl (V_sliceStr (l := (w64 (4 * s0.2.1)).toNat) (h := (key).length) rfl Try.underlying9 (Bnd.some' (i := w64 (4 * s0.2.1)) rfl h4) Bnd.none' h5 (Nat.le_refl _)) ?_
            refine TA_all (rs := [8]) (by kernel_rfl) rfl ?_
            refine ⟨?_, trivial⟩
            refine TO_e (is := [0, 0, 0]) (done' := #[true, true, true, true, true, true, true, true, true]) rfl rfl rfl rfl (by kernel_rfl) (E_copyStr (o := ((s0.2.1).toNat) * 4 + 0) (j := 3) rfl rfl (by simp) Try.underlying30 TryI.inf5 rfl rfl (copy_row (n := 4) (l := 0) (d := 4 - 0) h3 (by omega)) (cs' := eF (fun V : Vector (BitVec 8) 4 => e8 V.toList) (s0.2.2.set ((s0.2.1).toNat) (vsp (lg s0.2.2 ((s0.2.1).toNat)) 0 ((sub key ((w64 (4 * s0.2.1)).toNat) ((key).length)).take (min ((sub key ((w64 (4 * s0.2.1)).toNat) ((key).length)).length) (4 - 0)))))) (splice_lvec h3 (take_room (n := 4) (l := 0) (d := 4 - 0) (by omega)))) (fun _ _ => rfl) (fun _ => ?_)
            refine TA_reE (j := 3) (A := some (b2, 0)) (cs := eF (fun V : Vector (BitVec 8) 4 => e8 V.toList) (s0.2.2.set ((s0.2.1).toNat) (vsp (lg s0.2.2 ((s0.2.1).toNat)) 0 ((sub key ((w64 (4 * s0.2.1)).toNat) ((key).length)).take (min ((sub key ((w64 (4 * s0.2.1)).toNat) ((key).length)).length) (4 - 0)))))) (cs' := eF (fun V : Vector (BitVec 8) 4 => e8 V.toList) m_1) rfl (congrArg (eF (fun V : Vector (BitVec 8) 4 => e8 V.toList)) hm_1) ?_
            refine TA_done (by kernel_rfl) ?_ 0
            refine TX_next ?_
            refine TC_exit ?_
            refine TX_then_exit ?_
            refine TX_block_exit ?_
            refine TX_next ?_
            refine TC_region ?_
            refine TL_v rfl rfl rfl (V_bin rfl rfl (fun w => addI w s0.2.1 1)) ?_
            refine TL_v rfl rfl rfl (V_move rfl) ?_
            refine TL_nil ?_
            refine TX.sub (m' := [(0, vs key), (4, ptr (some (b1, 0)) 0), (5, vi n1), (6, sl (some (b2, 0)) ((w64 (4 * (w64 (n1 + 7)))).toNat) ((w64 (4 * (w64 (n1 + 7)))).toNat)), (7, v8 s0.1), (32, vi ((w64 (4 * (w64 (n1 + 7)))).toNat : Int)), (33, vi (w64 (s0.2.1 + 1)))]) ⟨rfl, rfl, rfl, rfl, rfl, rfl, rfl, trivial⟩ ?_
            refine TX.pull (is := [0, 0, 0, 0]) (L' := [⟨some (b1, 0), e8 r_1.toList⟩, ⟨some (b1, 256), [sl An1 ((([] : List (Vector (BitVec 8) 16))).length) ((([] : List (Vector (BitVec 8) 16)) ++ ([] : List (Vector (BitVec 8) 16))).length)]⟩, ⟨An1, eF (fun V : Vector (BitVec 8) 16 => e8 V.toList) (([] : List (Vector (BitVec 8) 16)) ++ ([] : List (Vector (BitVec 8) 16)))⟩, ⟨some (b2, 0), eF (fun V : Vector (BitVec 8) 4 => e8 V.toList) m_1⟩]) rfl ?_
            obtain rfl := Option.some.inj H
            exact fun a w hs => hK (s0.1, w64 (s0.2.1 + 1), m_1) rfl () a w hs
          · replace H := ite_f (of_decide_eq_false hc) H
            refine TC_skip ?_
            refine TX_next ?_
            refine TC_seq ?_
            refine TC_region ?_
            refine TL_v rfl rfl rfl (V_move rfl) ?_
            refine TL_v rfl rfl rfl (V_move rfl) ?_
            refine TL_v rfl rfl rfl (V_bin rfl rfl (fun w => subI w s0.2.1 1)) ?_
            obtain ⟨h6, H⟩ := if_elim H
            obtain ⟨h7, H⟩ := if_elim H
            refine TL_v rfl rfl rfl (V_idxSl (i := w64 (s0.2.1 - 1)) rfl rfl Try.underlying74 TryI.inf125 rfl (fun _ h => by cases h) h6.1 h6.2 (k := ((w64 (s0.2.1 - 1)).toNat) * 4) rfl) ?_
            refine TL_v rfl rfl rfl (V_loadPart (n := 4) (ds := e8 ((lg s0.2.2 ((w64 (s0.2.1 - 1)).toNat)).toList)) rfl (Src.own (j := 3) rfl) (part_eF (g := fun V : Vector (BitVec 8) 4 => e8 V.toList) (s := 4) (fun _ => by simp) s0.2.2 ((w64 (s0.2.1 - 1)).toNat) h7) (by simp) rfl Try.isAgg125 TryI.inf125 rfl) ?_
            refine TL_e rfl rfl rfl (E_allocP [(4, e8 ((Vector.replicate 4 0#8).toList))] TryI.inf125 TryI.zer125 ⟨(lenV (f := v8) (Vector.replicate 4 0#8)), trivial⟩) (fun b3 => ?_)
            refine TL_n rfl rfl (E_storeAgg (n := 4) (j := 0) (vs := e8 ((lg s0.2.2 ((w64 (s0.2.1 - 1)).toNat)).toList)) rfl rfl TryI.inf125 rfl (lenV (f := v8) (lg s0.2.2 ((w64 (s0.2.1 - 1)).toNat))) (OneC.map (fun _ => rfl) _) rfl (Nat.le_of_eq (by simp)) (cs' := e8 ((lg s0.2.2 ((w64 (s0.2.1 - 1)).toNat)).toList)) (splice_all (by simp))) (fun _ => ?_)
            obtain ⟨m_2, hm_2, H⟩ := ltt_elim H
            refine TL_reE (j := 0) (A := some (b3, 0)) (cs := e8 ((lg s0.2.2 ((w64 (s0.2.1 - 1)).toNat)).toList)) (cs' := e8 m_2.toList) rfl (congrArg (fun z : Vector (BitVec 8) 4 => e8 (Vector.toList z)) hm_2) ?_
            refine TL_nil ?_
            refine TX_next ?_
            refine TC_seq ?_
            refine TC_seq ?_
            refine TC_region ?_
            refine TL_v rfl rfl rfl (V_move rfl) ?_
            refine TL_v rfl rfl rfl (V_move rfl) ?_
            obtain ⟨h8, H⟩ := if_elim H
            refine TL_v rfl rfl rfl (V_bin rfl rfl (fun w => remI w s0.2.1 n1 h8)) ?_
            refine TL_v rfl rfl rfl (V_bin rfl rfl (fun w => eqlI w (s0.2.1.tmod n1) 0)) ?_
            refine TL_nil ?_
            refine TX_next ?_
            obtain ⟨j1, Hj, H⟩ := bind_elim H
            refine TC_join (Γ := Unit) (fun gj1 => [(0, vs key), (4, ptr (some (b1, 0)) 0), (5, vi n1), (6, sl (some (b2, 0)) ((w64 (4 * (w64 (n1 + 7)))).toNat) ((w64 (4 * (w64 (n1 + 7)))).toNat)), (7, v8 j1.1), (8, vi s0.2.1), (9, ptr (some (b3, 0)) 0), (32, vi ((w64 (4 * (w64 (n1 + 7)))).toNat : Int)), (33, vi s0.2.1)]) (fun gj1 => [⟨some (b1, 0), e8 r_1.toList⟩, ⟨some (b1, 256), [sl An1 ((([] : List (Vector (BitVec 8) 16))).length) ((([] : List (Vector (BitVec 8) 16)) ++ ([] : List (Vector (BitVec 8) 16))).length)]⟩, ⟨An1, eF (fun V : Vector (BitVec 8) 16 => e8 V.toList) (([] : List (Vector (BitVec 8) 16)) ++ ([] : List (Vector (BitVec 8) 16)))⟩, ⟨some (b2, 0), eF (fun V : Vector (BitVec 8) 4 => e8 V.toList) s0.2.2⟩, ⟨some (b3, 0), e8 j1.2.toList⟩]) ?_ ?_
            · intro gj1
              refine TX_next ?_
              refine TC_seq ?_
              refine TC_region ?_
              refine TL_v rfl rfl rfl (V_move rfl) ?_
              refine TL_nil ?_
              refine TX_next ?_
              refine TC_block ?_
              obtain ⟨t_2, Hl, H⟩ := bind_elim H
              refine TC.sub (m' := [(0, vs key), (4, ptr (some (b1, 0)) 0), (5, vi n1), (6, sl (some (b2, 0)) ((w64 (4 * (w64 (n1 + 7)))).toNat) ((w64 (4 * (w64 (n1 + 7)))).toNat)), (7, v8 j1.1), (8, vi s0.2.1), (9, ptr (some (b3, 0)) 0), (32, vi ((w64 (4 * (w64 (n1 + 7)))).toNat : Int)), (33, vi s0.2.1), (112, vi 0)]) ⟨rfl, rfl, rfl, rfl, rfl, rfl, rfl, rfl, rfl, rfl, trivial⟩ ?_
              refine TC.pull (is := [0, 0, 0, 0, 0]) (L' := [⟨some (b1, 0), e8 r_1.toList⟩, ⟨some (b1, 256), [sl An1 ((([] : List (Vector (BitVec 8) 16))).length) ((([] : List (Vector (BitVec 8) 16)) ++ ([] : List (Vector (BitVec 8) 16))).length)]⟩, ⟨An1, eF (fun V : Vector (BitVec 8) 16 => e8 V.toList) (([] : List (Vector (BitVec 8) 16)) ++ ([] : List (Vector (BitVec 8) 16)))⟩, ⟨some (b2, 0), eF (fun V : Vector (BitVec 8) 4 => e8 V.toList) s0.2.2⟩, ⟨some (b3, 0), e8 j1.2.toList⟩]) rfl ?_
              refine TC_loopL (id := 4) (body := (aes_New.b1 n1 s0 j1)) (σ := Int × List (Vector (BitVec 8) 4)) (Γ := Unit) (Γx := Unit) (fun s1 g1_ => [(0, vs key), (4, ptr (some (b1, 0)) 0), (5, vi n1), (6, sl (some (b2, 0)) ((w64 (4 * (w64 (n1 + 7)))).toNat) ((w64 (4 * (w64 (n1 + 7)))).toNat)), (7, v8 j1.1), (8, vi s0.2.1), (9, ptr (some (b3, 0)) 0), (32, vi ((w64 (4 * (w64 (n1 + 7)))).toNat : Int)), (33, vi s0.2.1), (112, vi s1.1)]) (fun s1 g1_ => [⟨some (b1, 0), e8 r_1.toList⟩, ⟨some (b1, 256), [sl An1 ((([] : List (Vector (BitVec 8) 16))).length) ((([] : List (Vector (BitVec 8) 16)) ++ ([] : List (Vector (BitVec 8) 16))).length)]⟩, ⟨An1, eF (fun V : Vector (BitVec 8) 16 => e8 V.toList) (([] : List (Vector (BitVec 8) 16)) ++ ([] : List (Vector (BitVec 8) 16)))⟩, ⟨some (b2, 0), eF (fun V : Vector (BitVec 8) 4 => e8 V.toList) s1.2⟩, ⟨some (b3, 0), e8 j1.2.toList⟩]) (fun t g => [(0, vs key), (4, ptr (some (b1, 0)) 0), (5, vi n1), (6, sl (some (b2, 0)) ((w64 (4 * (w64 (n1 + 7)))).toNat) ((w64 (4 * (w64 (n1 + 7)))).toNat)), (7, v8 j1.1), (32, vi ((w64 (4 * (w64 (n1 + 7)))).toNat : Int)), (33, vi s0.2.1)]) (fun t g => [⟨some (b1, 0), e8 r_1.toList⟩, ⟨some (b1, 256), [sl An1 ((([] : List (Vector (BitVec 8) 16))).length) ((([] : List (Vector (BitVec 8) 16)) ++ ([] : List (Vector (BitVec 8) 16))).length)]⟩, ⟨An1, eF (fun V : Vector (BitVec 8) 16 => e8 V.toList) (([] : List (Vector (BitVec 8) 16)) ++ ([] : List (Vector (BitVec 8) 16)))⟩, ⟨some (b2, 0), eF (fun V : Vector (BitVec 8) 4 => e8 V.toList) t⟩]) ?_ BIG (0, s0.2.2) () t_2 Hl ?_
              · intro s1 g1_ r1 H K hK hE
                unfold aes_New.b1 at H
                refine TC_seq ?_
                refine TC_region ?_
                refine TL_v rfl rfl rfl (V_bin rfl rfl (fun w => lssI w s1.1 4)) ?_
                refine TL_nil ?_
                refine TX_next ?_
                refine TC_seq ?_
                refine TC_cond (b := (decide (s1.1 < 4))) rfl (fun hc => ?_) (fun hc => ?_)
                · replace H := ite_t (of_decide_eq_true hc) H
                  refine TC_skip ?_
                  refine TX_next ?_
                  refine TC_seq ?_
                  refine TC_block ?_
                  refine TC_seq ?_
                  refine TC_region ?_
                  refine TL_v rfl rfl rfl (V_move rfl) ?_
                  refine TL_v rfl rfl rfl (V_assign rfl) ?_
                  refine TL_nil ?_
                  refine TX_next ?_
                  obtain ⟨h9, H⟩ := if_elim H
                  obtain ⟨h10, H⟩ := if_elim H
                  obtain ⟨h11, H⟩ := if_elim H
                  obtain ⟨h12, H⟩ := if_elim H
                  obtain ⟨h13, H⟩ := if_elim H
                  obtain ⟨h14, H⟩ := if_elim H
                  obtain ⟨h15, H⟩ := if_elim H
                  obtain ⟨m_3, hm_3, H⟩ := ltt_elim H
                  refine TA_begin [⟨some (b1, 0), e8 r_1.toList⟩, ⟨some (b1, 256), [sl An1 ((([] : List (Vector (BitVec 8) 16))).length) ((([] : List (Vector (BitVec 8) 16)) ++ ([] : List (Vector (BitVec 8) 16))).length)]⟩, ⟨An1, eF (fun V : Vector (BitVec 8) 16 => e8 V.toList) (([] : List (Vector (BitVec 8) 16)) ++ ([] : List (Vector (BitVec 8) 16)))⟩, ⟨some (b2, 0), eF (fun V : Vector (BitVec 8) 4 => e8 V.toList) s1.2⟩, ⟨some (b3, 0), e8 j1.2.toList⟩] 17 (by kernel_rfl) (N := 18) rfl ?_
                  refine TA_take (i := 0) (is := [0, 0, 0, 0, 0]) (done' := #[true, false, false, false, false, false, false, false, false, false, false, false, false, false, false, false, false, false]) rfl rfl rfl rfl (by kernel_rfl) (QP.block (QP.then (QP.then (QP.block (QP.block (QP.then (QP.then (QP.block (QP.then QP.body))))))))) (by kernel_rfl) rfl (V_move rfl) ?_
                  refine TA_take (i := 1) (is := [0, 0, 0, 0, 0]) (done' := #[true, true, false, false, false, false, false, false, false, false, false, false, false, false, false, false, false, false]) rfl rfl rfl rfl (by kernel_rfl) (QP.block (QP.then (QP.then (QP.block (QP.block (QP.then (QP.then (QP.block (QP.then QP.body))))))))) (by kernel_rfl) rfl (V_move rfl) ?_
                  refine TA_take (i := 2) (is := [0, 0, 0, 0, 0]) (done' := #[true, true, true, false, false, false, false, false, false, false, false, false, false, false, false, false, false, false]) rfl rfl rfl rfl (by kernel_rfl) (QP.block (QP.then (QP.then (QP.block (QP.block (QP.then (QP.then (QP.block (QP.then QP.body))))))))) (by kernel_rfl) rfl (V_move rfl) ?_
                  refine TA_take (i := 3) (is := [0, 0, 0, 0, 0]) (done' := #[true, true, true, true, false, false, false, false, false, false, false, false, false, false, false, false, false, false]) rfl rfl rfl rfl (by kernel_rfl) (QP.block (QP.then (QP.then (QP.block (QP.block (QP.then (QP.then (QP.block (QP.then QP.body))))))))) (by kernel_rfl) rfl (V_move rfl) ?_
                  refine TA_take (i := 4) (is := [0, 0, 0, 0, 0]) (done' := #[true, true, true, true, true, false, false, false, false, false, false, false, false, false, false, false, false, false]) rfl rfl rfl rfl (by kernel_rfl) (QP.block (QP.then (QP.then (QP.block (QP.block (QP.then (QP.then (QP.block (QP.then QP.body))))))))) (by kernel_rfl) rfl (V_move rfl) ?_
                  refine TA_take (i := 5) (is := [0, 0, 0, 0, 0]) (done' := #[true, true, true, true, true, true, false, false, false, false, false, false, false, false, false, false, false, false]) rfl rfl rfl rfl (by kernel_rfl) (QP.block (QP.then (QP.then (QP.block (QP.block (QP.then (QP.then (QP.block (QP.then QP.body))))))))) (by kernel_rfl) rfl (V_move rfl) ?_
                  refine TA_take (i := 6) (is := [0, 0, 0, 0, 0]) (done' := #[true, true, true, true, true, true, true, false, false, false, false, false, false, false, false, false, false, false]) rfl rfl rfl rfl (by kernel_rfl) (QP.block (QP.then (QP.then (QP.block (QP.block (QP.then (QP.then (QP.block (QP.then QP.body))))))))) (by kernel_rfl) rfl (V_bin rfl rfl (fun w => subI w s0.2.1 n1)) ?_
                  refine TA_take (i := 7) (is := [0, 0, 0, 0, 0]) (done' := #[true, true, true, true, true, true, true, true, false, false, false, false, false, false, false, false, false, false]) rfl rfl rfl rfl (by kernel_rfl) (QP.block (QP.then (QP.then (QP.block (QP.block (QP.then (QP.then (QP.block (QP.then QP.body))))))))) (by kernel_rfl) rfl (V_move rfl) ?_
                  refine TA_take (i := 8) (is := [0, 0, 0, 0, 0]) (done' := #[true, true, true, true, true, true, true, true, true, false, false, false, false, false, false, false, false, false]) rfl rfl rfl rfl (by kernel_rfl) (QP.block (QP.then (QP.then (QP.block (QP.block (QP.then (QP.then (QP.block (QP.then QP.body))))))))) (by kernel_rfl) rfl (V_idxSl (i := w64 (s0.2.1 - n1)) rfl rfl Try.underlying74 TryI.inf125 rfl (fun _ h => by cases h) h9.1 h9.2 (k := ((w64 (s0.2.1 - n1)).toNat) * 4) rfl) ?_
                  refine TA_take (i := 9) (is := [0, 0, 0, 0, 0]) (done' := #[true, true, true, true, true, true, true, true, true, true, false, false, false, false, false, false, false, false]) rfl rfl rfl rfl (by kernel_rfl) (QP.block (QP.then (QP.then (QP.block (QP.block (QP.then (QP.then (QP.block (QP.then QP.body))))))))) (by kernel_rfl) rfl (V_idxArr (i := s1.1) rfl rfl Try.underlying125 TryI.inf5 rfl h11.1 h11.2 (k := ((w64 (s0.2.1 - n1)).toNat) * 4 + (s1.1).toNat) (k1 _ _)) ?_
                  refine TA_take (i := 10) (is := [0, 0, 0, 0, 0]) (done' := #[true, true, true, true, true, true, true, true, true, true, true, false, false, false, false, false, false, false]) rfl rfl rfl rfl (by kernel_rfl) (QP.block (QP.then (QP.then (QP.block (QP.block (QP.then (QP.then (QP.block (QP.then QP.body))))))))) (by kernel_rfl) rfl (V_load rfl (Src.own (j := 3) rfl) ((get_eF (g := fun V : Vector (BitVec 8) 4 => e8 V.toList) (s := 4) (fun _ => by simp) s1.2 ((w64 (s0.2.1 - n1)).toNat) ((s1.1).toNat) h10 (toNat_lt h11.1 h11.2)).trans (get_vec (toNat_lt h11.1 h11.2))) Try.isAgg5) ?_
                  refine TA_take (i := 11) (is := [0, 0, 0, 0, 0]) (done' := #[true, true, true, true, true, true, true, true, true, true, true, true, false, false, false, false, false, false]) rfl rfl rfl rfl (by kernel_rfl) (QP.block (QP.then (QP.then (QP.block (QP.block (QP.then (QP.then (QP.block (QP.then QP.body))))))))) (by kernel_rfl) rfl (V_move rfl) ?_
                  refine TA_take (i := 12) (is := [0, 0, 0, 0, 0]) (done' := #[true, true, true, true, true, true, true, true, true, true, true, true, true, false, false, false, false, false]) rfl rfl rfl rfl (by kernel_rfl) (QP.block (QP.then (QP.then (QP.block (QP.block (QP.then (QP.then (QP.block (QP.then QP.body))))))))) (by kernel_rfl) rfl (V_idxArr (i := s1.1) rfl rfl Try.underlying125 TryI.inf5 rfl h12.1 h12.2 (k := (s1.1).toNat) (k01 _)) ?_
                  refine TA_take (i := 13) (is := [0, 0, 0, 0, 0]) (done' := #[true, true, true, true, true, true, true, true, true, true, true, true, true, true, false, false, false, false]) rfl rfl rfl rfl (by kernel_rfl) (QP.block (QP.then (QP.then (QP.block (QP.block (QP.then (QP.then (QP.block (QP.then QP.body))))))))) (by kernel_rfl) rfl (V_load rfl (Src.own (j := 4) rfl) (get_vec (f := v8) (V := j1.2) (toNat_lt h12.1 h12.2)) Try.isAgg5) ?_
                  refine TA_take (i := 14) (is := [0, 0, 0, 0, 0]) (done' := #[true, true, true, true, true, true, true, true, true, true, true, true, true, true, true, false, false, false]) rfl rfl rfl rfl (by kernel_rfl) (QP.block (QP.then (QP.then (QP.block (QP.block (QP.then (QP.then (QP.block (QP.then QP.body))))))))) (by kernel_rfl) rfl (V_bin rfl rfl (fun w => xor8 w (vg (lg s1.2 ((w64 (s0.2.1 - n1)).toNat)) ((s1.1).toNat)) (vg j1.2 ((s1.1).toNat)))) ?_
                  refine TA_all (rs := [15]) (by kernel_rfl) rfl ?_
                  refine ⟨?_, trivial⟩
                  refine TO_v (is := [0, 0, 0, 0, 0]) (done' := #[true, true, true, true, true, true, true, true, true, true, true, true, true, true, true, true, false, false]) rfl rfl rfl rfl (by kernel_rfl) (V_idxSl (i := s0.2.1) rfl rfl Try.underlying74 TryI.inf125 rfl (fun _ h => by cases h) h13.1 h13.2 (k := ((s0.2.1).toNat) * 4) rfl) (fun _ => rfl) ?_
                  refine TA_take (i := 16) (is := [0, 0, 0, 0, 0]) (done' := #[true, true, true, true, true, true, true, true, true, true, true, true, true, true, true, true, true, false]) rfl rfl rfl rfl (by kernel_rfl) (QP.block (QP.then (QP.then (QP.block (QP.block (QP.then (QP.then (QP.block (QP.then QP.body))))))))) (by kernel_rfl) rfl (V_idxArr (i := s1.1) rfl rfl Try.underlying125 TryI.inf5 rfl h15.1 h15.2 (k := ((s0.2.1).toNat) * 4 + (s1.1).toNat) (k1 _ _)) ?_
                  refine TA_all (rs := [17]) (by kernel_rfl) rfl ?_
                  refine ⟨?_, trivial⟩
                  refine TO_n (is := []) (R := fun _ => []) (done' := #[true, true, true, true, true, true, true, true, true, true, true, true, true, true, true, true, true, true]) rfl rfl rfl (by kernel_rfl) (E_store (j := 3) rfl rfl TryI.inf5 rfl rfl rfl (lt_eF (g := fun V : Vector (BitVec 8) 4 => e8 V.toList) (s := 4) (fun _ => by simp) h14 (toNat_lt h15.1 h15.2)) (cs' := eF (fun V : Vector (BitVec 8) 4 => e8 V.toList) (s1.2.set ((s0.2.1).toNat) (vp (lg s1.2 ((s0.2.1).toNat)) ((s1.1).toNat) ((vg (lg s1.2 ((w64 (s0.2.1 - n1)).toNat)) ((s1.1).toNat)) ^^^ (vg j1.2 ((s1.1).toNat)))))) (set_eF (g := fun V : Vector (BitVec 8) 4 => e8 V.toList) (s := 4) (fun _ => by simp) s1.2 ((s0.2.1).toNat) ((s1.1).toNat) _ _ h14 (toNat_lt h15.1 h15.2) set_vec)) (fun h => by cases h) (fun _ => ?_)
                  refine TA_reE (j := 3) (A := some (b2, 0)) (cs := eF (fun V : Vector (BitVec 8) 4 => e8 V.toList) (s1.2.set ((s0.2.1).toNat) (vp (lg s1.2 ((s0.2.1).toNat)) ((s1.1).toNat) ((vg (lg s1.2 ((w64 (s0.2.1 - n1)).toNat)) ((s1.1).toNat)) ^^^ (vg j1.2 ((s1.1).toNat)))))) (cs' := eF (fun V : Vector (BitVec 8) 4 => e8 V.toList) m_3) rfl (congrArg (eF (fun V : Vector (BitVec 8) 4 => e8 V.toList)) hm_3) ?_
                  refine TA_done (by kernel_rfl) ?_ 0
                  refine TX_block_normal ?_
                  refine TX_next ?_
                  refine TC_region ?_
                  refine TL_v rfl rfl rfl (V_bin rfl rfl (fun w => addI w s1.1 1)) ?_
                  refine TL_v rfl rfl rfl (V_move rfl) ?_
                  refine TL_nil ?_
                  refine TX.sub (m' := [(0, vs key), (4, ptr (some (b1, 0)) 0), (5, vi n1), (6, sl (some (b2, 0)) ((w64 (4 * (w64 (n1 + 7)))).toNat) ((w64 (4 * (w64 (n1 + 7)))).toNat)), (7, v8 j1.1), (8, vi s0.2.1), (9, ptr (some (b3, 0)) 0), (32, vi ((w64 (4 * (w64 (n1 + 7)))).toNat : Int)), (33, vi s0.2.1), (112, vi (w64 (s1.1 + 1)))]) ⟨rfl, rfl, rfl, rfl, rfl, rfl, rfl, rfl, rfl, rfl, trivial⟩ ?_
                  refine TX.pull (is := [0, 0, 0, 0, 0]) (L' := [⟨some (b1, 0), e8 r_1.toList⟩, ⟨some (b1, 256), [sl An1 ((([] : List (Vector (BitVec 8) 16))).length) ((([] : List (Vector (BitVec 8) 16)) ++ ([] : List (Vector (BitVec 8) 16))).length)]⟩, ⟨An1, eF (fun V : Vector (BitVec 8) 16 => e8 V.toList) (([] : List (Vector (BitVec 8) 16)) ++ ([] : List (Vector (BitVec 8) 16)))⟩, ⟨some (b2, 0), eF (fun V : Vector (BitVec 8) 4 => e8 V.toList) m_3⟩, ⟨some (b3, 0), e8 j1.2.toList⟩]) rfl ?_
                  obtain rfl := Option.some.inj H
                  exact fun a w hs => hK (w64 (s1.1 + 1), m_3) rfl () a w hs
                · replace H := ite_f (of_decide_eq_false hc) H
                  refine TC_exit ?_
                  refine TX_then_exit ?_
                  refine TX_then_exit ?_
                  refine TX.sub (m' := [(0, vs key), (4, ptr (some (b1, 0)) 0), (5, vi n1), (6, sl (some (b2, 0)) ((w64 (4 * (w64 (n1 + 7)))).toNat) ((w64 (4 * (w64 (n1 + 7)))).toNat)), (7, v8 j1.1), (32, vi ((w64 (4 * (w64 (n1 + 7)))).toNat : Int)), (33, vi s0.2.1)]) ⟨rfl, rfl, rfl, rfl, rfl, rfl, rfl, trivial⟩ ?_
                  refine TX.pull (is := [0, 0, 0, 0]) (L' := [⟨some (b1, 0), e8 r_1.toList⟩, ⟨some (b1, 256), [sl An1 ((([] : List (Vector (BitVec 8) 16))).length) ((([] : List (Vector (BitVec 8) 16)) ++ ([] : List (Vector (BitVec 8) 16))).length)]⟩, ⟨An1, eF (fun V : Vector (BitVec 8) 16 => e8 V.toList) (([] : List (Vector (BitVec 8) 16)) ++ ([] : List (Vector (BitVec 8) 16)))⟩, ⟨some (b2, 0), eF (fun V : Vector (BitVec 8) 4 => e8 V.toList) s1.2⟩]) rfl ?_
                  obtain rfl := Option.some.inj H
                  exact hE s1.2 rfl ()
              · intro g
                refine TX_block_exit ?_
                refine TX_block_normal ?_
                refine TX_next ?_
                refine TC_region ?_
                refine TL_v rfl rfl rfl (V_bin rfl rfl (fun w => addI w s0.2.1 1)) ?_
                refine TL_v rfl rfl rfl (V_move rfl) ?_
                refine TL_nil ?_
                refine TX.sub (m' := [(0, vs key), (4, ptr (some (b1, 0)) 0), (5, vi n1), (6, sl (some (b2, 0)) ((w64 (4 * (w64 (n1 + 7)))).toNat) ((w64 (4 * (w64 (n1 + 7)))).toNat)), (7, v8 j1.1), (32, vi ((w64 (4 * (w64 (n1 + 7)))).toNat : Int)), (33, vi (w64 (s0.2.1 + 1)))]) ⟨rfl, rfl, rfl, rfl, rfl, rfl, rfl, trivial⟩ ?_
                refine TX.pull (is := [0, 0, 0, 0]) (L' := [⟨some (b1, 0), e8 r_1.toList⟩, ⟨some (b1, 256), [sl An1 ((([] : List (Vector (BitVec 8) 16))).length) ((([] : List (Vector (BitVec 8) 16)) ++ ([] : List (Vector (BitVec 8) 16))).length)]⟩, ⟨An1, eF (fun V : Vector (BitVec 8) 16 => e8 V.toList) (([] : List (Vector (BitVec 8) 16)) ++ ([] : List (Vector (BitVec 8) 16)))⟩, ⟨some (b2, 0), eF (fun V : Vector (BitVec 8) 4 => e8 V.toList) t_2⟩]) rfl ?_
                obtain rfl := Option.some.inj H
                exact fun a w hs => hK (j1.1, w64 (s0.2.1 + 1), t_2) rfl () a w hs
            · intro hJ
              replace H := Hj
              refine TC_cond (b := (decide ((s0.2.1.tmod n1) = 0))) rfl (fun hc => ?_) (fun hc => ?_)
              · replace H := ite_t (of_decide_eq_true hc) H
                refine TC_seq ?_
                obtain ⟨m_4, hm_4, H⟩ := ltt_elim H
                refine TA_begin [⟨some (b3, 0), e8 m_2.toList⟩, ⟨some (b1, 0), e8 r_1.toList⟩, ⟨some (b1, 256), [sl An1 ((([] : List (Vector (BitVec 8) 16))).length) ((([] : List (Vector (BitVec 8) 16)) ++ ([] : List (Vector (BitVec 8) 16))).length)]⟩, ⟨An1, eF (fun V : Vector (BitVec 8) 16 => e8 V.toList) (([] : List (Vector (BitVec 8) 16)) ++ ([] : List (Vector (BitVec 8) 16)))⟩, ⟨some (b2, 0), eF (fun V : Vector (BitVec 8) 4 => e8 V.toList) s0.2.2⟩] 31 (by kernel_rfl) (N := 32) rfl ?_
                refine TA_take (i := 0) (is := [0, 0, 0, 0, 0]) (done' := #[true, false, false, false, false, false, false, false, false, false, false, false, false, false, false, false, false, false, false, false, false, false, false, false, false, false, false, false, false, false, false, false]) rfl rfl rfl rfl (by kernel_rfl) (QP.then (QP.then (QP.block (QP.then (QP.then (QP.block (QP.then QP.body))))))) (by kernel_rfl) rfl (V_move rfl) ?_
                refine TA_take (i := 1) (is := [0, 0, 0, 0, 0]) (done' := #[true, true, false, false, false, false, false, false, false, false, false, false, false, false, false, false, false, false, false, false, false, false, false, false, false, false, false, false, false, false, false, false]) rfl rfl rfl rfl (by kernel_rfl) (QP.then (QP.then (QP.block (QP.then (QP.then (QP.block (QP.then QP.body))))))) (by kernel_rfl) rfl (V_idxArr (i := 1) rfl rfl Try.underlying125 TryI.inf5 rfl (by decide) (by decide) (k := 1) (k01 _)) ?_
                refine TA_take (i := 2) (is := [0, 0, 0, 0, 0]) (done' := #[true, true, true, false, false, false, false, false, false, false, false, false, false, false, false, false, false, false, false, false, false, false, false, false, false, false, false, false, false, false, false, false]) rfl rfl rfl rfl (by kernel_rfl) (QP.then (QP.then (QP.block (QP.then (QP.then (QP.block (QP.then QP.body))))))) (by kernel_rfl) rfl (V_load rfl (Src.own (j := 0) rfl) (get_vec (f := v8) (V := m_2) (by decide : 1 < 4)) Try.isAgg5) ?_
                refine TA_take (i := 3) (is := [0, 0, 0, 0, 0]) (done' := #[true, true, true, true, false, false, false, false, false, false, false, false, false, false, false, false, false, false, false, false, false, false, false, false, false, false, false, false, false, false, false, false]) rfl rfl rfl rfl (by kernel_rfl) (QP.then (QP.then (QP.block (QP.then (QP.then (QP.block (QP.then QP.body))))))) (by kernel_rfl) rfl (V_nilCheck rfl) ?_
                refine TA_take (i := 4) (is := [0, 0, 0, 0, 0]) (done' := #[true, true, true, true, true, false, false, false, false, false, false, false, false, false, false, false, false, false, false, false, false, false, false, false, false, false, false, false, false, false, false, false]) rfl rfl rfl rfl (by kernel_rfl) (QP.then (QP.then (QP.block (QP.then (QP.then (QP.block (QP.then QP.body))))))) (by kernel_rfl) rfl (V_fieldE rfl Try.underlying124 rfl rfl TryI.inf120 rfl (v := ptr (some (b1, 0)) 0) rfl) ?_
                refine TA_take (i := 5) (is := [0, 0, 0, 0, 0]) (done' := #[true, true, true, true, true, true, false, false, false, false, false, false, false, false, false, false, false, false, false, false, false, false, false, false, false, false, false, false, false, false, false, false]) rfl rfl rfl rfl (by kernel_rfl) (QP.then (QP.then (QP.block (QP.then (QP.then (QP.block (QP.then QP.body))))))) (by kernel_rfl) rfl (V_idxArr (i := ((vg m_2 1).toNat : Int)) rfl rfl Try.underlying120 TryI.inf5 rfl (Int.natCast_nonneg _) (zb (n := 8) (k := 256) (vg m_2 1) (by decide)) (k := (vg m_2 1).toNat) (k01 _)) ?_
                refine TA_take (i := 6) (is := [0, 0, 0, 0, 0]) (done' := #[true, true, true, true, true, true, true, false, false, false, false, false, false, false, false, false, false, false, false, false, false, false, false, false, false, false, false, false, false, false, false, false]) rfl rfl rfl rfl (by kernel_rfl) (QP.then (QP.then (QP.block (QP.then (QP.then (QP.block (QP.then QP.body))))))) (by kernel_rfl) rfl (V_load rfl (Src.own (j := 1) rfl) (get_vec (f := v8) (V := r_1) (toNat_lt (Int.natCast_nonneg _) (zb (n := 8) (k := 256) (vg m_2 1) (by decide)))) Try.isAgg5) ?_
                refine TA_take (i := 7) (is := [0, 0, 0, 0, 0]) (done' := #[true, true, true, true, true, true, true, true, false, false, false, false, false, false, false, false, false, false, false, false, false, false, false, false, false, false, false, false, false, false, false, false]) rfl rfl rfl rfl (by kernel_rfl) (QP.then (QP.then (QP.block (QP.then (QP.then (QP.block (QP.then QP.body))))))) (by kernel_rfl) rfl (V_move rfl) ?_
                refine TA_take (i := 8) (is := [0, 0, 0, 0, 0]) (done' := #[true, true, true, true, true, true, true, true, true, false, false, false, false, false, false, false, false, false, false, false, false, false, false, false, false, false, false, false, false, false, false, false]) rfl rfl rfl rfl (by kernel_rfl) (QP.then (QP.then (QP.block (QP.then (QP.then (QP.block (QP.then QP.body))))))) (by kernel_rfl) rfl (V_bin rfl rfl (fun w => xor8 w (vg r_1 ((vg m_2 1).toNat)) s0.1)) ?_
                refine TA_take (i := 9) (is := [0, 0, 0, 0, 0]) (done' := #[true, true, true, true, true, true, true, true, true, true, false, false, false, false, false, false, false, false, false, false, false, false, false, false, false, false, false, false, false, false, false, false]) rfl rfl rfl rfl (by kernel_rfl) (QP.then (QP.then (QP.block (QP.then (QP.then (QP.block (QP.then QP.body))))))) (by kernel_rfl) rfl (V_move rfl) ?_
                refine TA_take (i := 10) (is := [0, 0, 0, 0, 0]) (done' := #[true, true, true, true, true, true, true, true, true, true, true, false, false, false, false, false, false, false, false, false, false, false, false, false, false, false, false, false, false, false, false, false]) rfl rfl rfl rfl (by kernel_rfl) (QP.then (QP.then (QP.block (QP.then (QP.then (QP.block (QP.then QP.body))))))) (by kernel_rfl) rfl (V_idxArr (i := 2) rfl rfl Try.underlying125 TryI.inf5 rfl (by decide) (by decide) (k := 2) (k01 _)) ?_
                refine TA_take (i := 11) (is := [0, 0, 0, 0, 0]) (done' := #[true, true, true, true, true, true, true, true, true, true, true, true, false, false, false, false, false, false, false, false, false, false, false, false, false, false, false, false, false, false, false, false]) rfl rfl rfl rfl (by kernel_rfl) (QP.then (QP.then (QP.block (QP.then (QP.then (QP.block (QP.then QP.body))))))) (by kernel_rfl) rfl (V_load rfl (Src.own (j := 0) rfl) (get_vec (f := v8) (V := m_2) (by decide : 2 < 4)) Try.isAgg5) ?_
                refine TA_take (i := 12) (is := [0, 0, 0, 0, 0]) (done' := #[true, true, true, true, true, true, true, true, true, true, true, true, true, false, false, false, false, false, false, false, false, false, false, false, false, false, false, false, false, false, false, false]) rfl rfl rfl rfl (by kernel_rfl) (QP.then (QP.then (QP.block (QP.then (QP.then (QP.block (QP.then QP.body))))))) (by kernel_rfl) rfl (V_nilCheck rfl) ?_
                refine TA_take (i := 13) (is := [0, 0, 0, 0, 0]) (done' := #[true, true, true, true, true, true, true, true, true, true, true, true, true, true, false, false, false, false, false, false, false, false, false, false, false, false, false, false, false, false, false, false]) rfl rfl rfl rfl (by kernel_rfl) (QP.then (QP.then (QP.block (QP.then (QP.then (QP.block (QP.then QP.body))))))) (by kernel_rfl) rfl (V_fieldE rfl Try.underlying124 rfl rfl TryI.inf120 rfl (v := ptr (some (b1, 0)) 0) rfl) ?_
                refine TA_take (i := 14) (is := [0, 0, 0, 0, 0]) (done' := #[true, true, true, true, true, true, true, true, true, true, true, true, true, true, true, false, false, false, false, false, false, false, false, false, false, false, false, false, false, false, false, false]) rfl rfl rfl rfl (by kernel_rfl) (QP.then (QP.then (QP.block (QP.then (QP.then (QP.block (QP.then QP.body))))))) (by kernel_rfl) rfl (V_idxArr (i := ((vg m_2 2).toNat : Int)) rfl rfl Try.underlying120 TryI.inf5 rfl (Int.natCast_nonneg _) (zb (n := 8) (k := 256) (vg m_2 2) (by decide)) (k := (vg m_2 2).toNat) (k01 _)) ?_
                refine TA_take (i := 15) (is := [0, 0, 0, 0, 0]) (done' := #[true, true, true, true, true, true, true, true, true, true, true, true, true, true, true, true, false, false, false, false, false, false, false, false, false, false, false, false, false, false, false, false]) rfl rfl rfl rfl (by kernel_rfl) (QP.then (QP.then (QP.block (QP.then (QP.then (QP.block (QP.then QP.body))))))) (by kernel_rfl) rfl (V_load rfl (Src.own (j := 1) rfl) (get_vec (f := v8) (V := r_1) (toNat_lt (Int.natCast_nonneg _) (zb (n := 8) (k := 256) (vg m_2 2) (by decide)))) Try.isAgg5) ?_
                refine TA_take (i := 16) (is := [0, 0, 0, 0, 0]) (done' := #[true, true, true, true, true, true, true, true, true, true, true, true, true, true, true, true, true, false, false, false, false, false, false, false, false, false, false, false, false, false, false, false]) rfl rfl rfl rfl (by kernel_rfl) (QP.then (QP.then (QP.block (QP.then (QP.then (QP.block (QP.then QP.body))))))) (by kernel_rfl) rfl (V_move rfl) ?_
                refine TA_take (i := 17) (is := [0, 0, 0, 0, 0]) (done' := #[true, true, true, true, true, true, true, true, true, true, true, true, true, true, true, true, true, true, false, false, false, false, false, false, false, false, false, false, false, false, false, false]) rfl rfl rfl rfl (by kernel_rfl) (QP.then (QP.then (QP.block (QP.then (QP.then (QP.block (QP.then QP.body))))))) (by kernel_rfl) rfl (V_idxArr (i := 3) rfl rfl Try.underlying125 TryI.inf5 rfl (by decide) (by decide) (k := 3) (k01 _)) ?_
                refine TA_take (i := 18) (is := [0, 0, 0, 0, 0]) (done' := #[true, true, true, true, true, true, true, true, true, true, true, true, true, true, true, true, true, true, true, false, false, false, false, false, false, false, false, false, false, false, false, false]) rfl rfl rfl rfl (by kernel_rfl) (QP.then (QP.then (QP.block (QP.then (QP.then (QP.block (QP.then QP.body))))))) (by kernel_rfl) rfl (V_load rfl (Src.own (j := 0) rfl) (get_vec (f := v8) (V := m_2) (by decide : 3 < 4)) Try.isAgg5) ?_
                refine TA_take (i := 19) (is := [0, 0, 0, 0, 0]) (done' := #[true, true, true, true, true, true, true, true, true, true, true, true, true, true, true, true, true, true, true, true, false, false, false, false, false, false, false, false, false, false, false, false]) rfl rfl rfl rfl (by kernel_rfl) (QP.then (QP.then (QP.block (QP.then (QP.then (QP.block (QP.then QP.body))))))) (by kernel_rfl) rfl (V_nilCheck rfl) ?_
                refine TA_take (i := 20) (is := [0, 0, 0, 0, 0]) (done' := #[true, true, true, true, true, true, true, true, true, true, true, true, true, true, true, true, true, true, true, true, true, false, false, false, false, false, false, false, false, false, false, false]) rfl rfl rfl rfl (by kernel_rfl) (QP.then (QP.then (QP.block (QP.then (QP.then (QP.block (QP.then QP.body))))))) (by kernel_rfl) rfl (V_fieldE rfl Try.underlying124 rfl rfl TryI.inf120 rfl (v := ptr (some (b1, 0)) 0) rfl) ?_
                refine TA_take (i := 21) (is := [0, 0, 0, 0, 0]) (done' := #[true, true, true, true, true, true, true, true, true, true, true, true, true, true, true, true, true, true, true, true, true, true, false, false, false, false, false, false, false, false, false, false]) rfl rfl rfl rfl (by kernel_rfl) (QP.then (QP.then (QP.block (QP.then (QP.then (QP.block (QP.then QP.body))))))) (by kernel_rfl) rfl (V_idxArr (i := ((vg m_2 3).toNat : Int)) rfl rfl Try.underlying120 TryI.inf5 rfl (Int.natCast_nonneg _) (zb (n := 8) (k := 256) (vg m_2 3) (by decide)) (k := (vg m_2 3).toNat) (k01 _)) ?_
                refine TA_take (i := 22) (is := [0, 0, 0, 0, 0]) (done' := #[true, true, true, true, true, true, true, true, true, true, true, true, true, true, true, true, true, true, true, true, true, true, true, false, false, false, false, false, false, false, false, false]) rfl rfl rfl rfl (by kernel_rfl) (QP.then (QP.then (QP.block (QP.then (QP.then (QP.block (QP.then QP.body))))))) (by kernel_rfl) rfl (V_load rfl (Src.own (j := 1) rfl) (get_vec (f := v8) (V := r_1) (toNat_lt (Int.natCast_nonneg _) (zb (n := 8) (k := 256) (vg m_2 3) (by decide)))) Try.isAgg5) ?_
                refine TA_take (i := 23) (is := [0, 0, 0, 0, 0]) (done' := #[true, true, true, true, true, true, true, true, true, true, true, true, true, true, true, true, true, true, true, true, true, true, true, true, false, false, false, false, false, false, false, false]) rfl rfl rfl rfl (by kernel_rfl) (QP.then (QP.then (QP.block (QP.then (QP.then (QP.block (QP.then QP.body))))))) (by kernel_rfl) rfl (V_move rfl) ?_
                refine TA_take (i := 24) (is := [0, 0, 0, 0, 0]) (done' := #[true, true, true, true, true, true, true, true, true, true, true, true, true, true, true, true, true, true, true, true, true, true, true, true, true, false, false, false, false, false, false, false]) rfl rfl rfl rfl (by kernel_rfl) (QP.then (QP.then (QP.block (QP.then (QP.then (QP.block (QP.then QP.body))))))) (by kernel_rfl) rfl (V_idxArr (i := 0) rfl rfl Try.underlying125 TryI.inf5 rfl (by decide) (by decide) (k := 0) (k01 _)) ?_
                refine TA_take (i := 25) (is := [0, 0, 0, 0, 0]) (done' := #[true, true, true, true, true, true, true, true, true, true, true, true, true, true, true, true, true, true, true, true, true, true, true, true, true, true, false, false, false, false, false, false]) rfl rfl rfl rfl (by kernel_rfl) (QP.then (QP.then (QP.block (QP.then (QP.then (QP.block (QP.then QP.body))))))) (by kernel_rfl) rfl (V_load rfl (Src.own (j := 0) rfl) (get_vec (f := v8) (V := m_2) (by decide : 0 < 4)) Try.isAgg5) ?_
                refine TA_take (i := 26) (is := [0, 0, 0, 0, 0]) (done' := #[true, true, true, true, true, true, true, true, true, true, true, true, true, true, true, true, true, true, true, true, true, true, true, true, true, true, true, false, false, false, false, false]) rfl rfl rfl rfl (by kernel_rfl) (QP.then (QP.then (QP.block (QP.then (QP.then (QP.block (QP.then QP.body))))))) (by kernel_rfl) rfl (V_nilCheck rfl) ?_
                refine TA_take (i := 27) (is := [0, 0, 0, 0, 0]) (done' := #[true, true, true, true, true, true, true, true, true, true, true, true, true, true, true, true, true, true, true, true, true, true, true, true, true, true, true, true, false, false, false, false]) rfl rfl rfl rfl (by kernel_rfl) (QP.then (QP.then (QP.block (QP.then (QP.then (QP.block (QP.then QP.body))))))) (by kernel_rfl) rfl (V_fieldE rfl Try.underlying124 rfl rfl TryI.inf120 rfl (v := ptr (some (b1, 0)) 0) rfl) ?_
                refine TA_take (i := 28) (is := [0, 0, 0, 0, 0]) (done' := #[true, true, true, true, true, true, true, true, true, true, true, true, true, true, true, true, true, true, true, true, true, true, true, true, true, true, true, true, true, false, false, false]) rfl rfl rfl rfl (by kernel_rfl) (QP.then (QP.then (QP.block (QP.then (QP.then (QP.block (QP.then QP.body))))))) (by kernel_rfl) rfl (V_idxArr (i := ((vg m_2 0).toNat : Int)) rfl rfl Try.underlying120 TryI.inf5 rfl (Int.natCast_nonneg _) (zb (n := 8) (k := 256) (vg m_2 0) (by decide)) (k := (vg m_2 0).toNat) (k01 _)) ?_
                refine TA_take (i := 29) (is := [0, 0, 0, 0, 0]) (done' := #[true, true, true, true, true, true, true, true, true, true, true, true, true, true, true, true, true, true, true, true, true, true, true, true, true, true, true, true, true, true, false, false]) rfl rfl rfl rfl (by kernel_rfl) (QP.then (QP.then (QP.block (QP.then (QP.then (QP.block (QP.then QP.body))))))) (by kernel_rfl) rfl (V_load rfl (Src.own (j := 1) rfl) (get_vec (f := v8) (V := r_1) (toNat_lt (Int.natCast_nonneg _) (zb (n := 8) (k := 256) (vg m_2 0) (by decide)))) Try.isAgg5) ?_
                refine TA_take (i := 30) (is := [0, 0, 0, 0, 0]) (done' := #[true, true, true, true, true, true, true, true, true, true, true, true, true, true, true, true, true, true, true, true, true, true, true, true, true, true, true, true, true, true, true, false]) rfl rfl rfl rfl (by kernel_rfl) (QP.then (QP.then (QP.block (QP.then (QP.then (QP.block (QP.then QP.body))))))) (by kernel_rfl) rfl (V_buildArr (pv := [(0, v8 ((vg r_1 ((vg m_2 1).toNat)) ^^^ s0.1)), (1, v8 (vg r_1 ((vg m_2 2).toNat))), (2, v8 (vg r_1 ((vg m_2 3).toNat))), (3, v8 (vg r_1 ((vg m_2 0).toNat)))]) rfl rfl Try.underlying125 TryI.inf125 TryI.inf5 rfl TryI.zer125 (cs := e8 ((#v[(vg r_1 ((vg m_2 1).toNat)) ^^^ s0.1, vg r_1 ((vg m_2 2).toNat), vg r_1 ((vg m_2 3).toNat), vg r_1 ((vg m_2 0).toNat)] : Vector (BitVec 8) 4).toList)) (by kernel_rfl)) ?_
                refine TA_all (rs := [31]) (by kernel_rfl) rfl ?_
                refine ⟨?_, trivial⟩
                refine TO_n (is := []) (R := fun _ => []) (done' := #[true, true, true, true, true, true, true, true, true, true, true, true, true, true, true, true, true, true, true, true, true, true, true, true, true, true, true, true, true, true, true, true]) rfl rfl rfl (by kernel_rfl) (E_storeAgg (n := 4) (j := 0) (vs := e8 ((#v[(vg r_1 ((vg m_2 1).toNat)) ^^^ s0.1, vg r_1 ((vg m_2 2).toNat), vg r_1 ((vg m_2 3).toNat), vg r_1 ((vg m_2 0).toNat)] : Vector (BitVec 8) 4).toList)) rfl rfl TryI.inf125 rfl (lenV (f := v8) (#v[(vg r_1 ((vg m_2 1).toNat)) ^^^ s0.1, vg r_1 ((vg m_2 2).toNat), vg r_1 ((vg m_2 3).toNat), vg r_1 ((vg m_2 0).toNat)] : Vector (BitVec 8) 4)) (OneC.map (fun _ => rfl) _) rfl (Nat.le_of_eq (by simp)) (cs' := e8 ((#v[(vg r_1 ((vg m_2 1).toNat)) ^^^ s0.1, vg r_1 ((vg m_2 2).toNat), vg r_1 ((vg m_2 3).toNat), vg r_1 ((vg m_2 0).toNat)] : Vector (BitVec 8) 4).toList)) (splice_all (by simp))) (fun h => by cases h) (fun _ => ?_)
                refine TA_reE (j := 0) (A := some (b3, 0)) (cs := e8 ((#v[(vg r_1 ((vg m_2 1).toNat)) ^^^ s0.1, vg r_1 ((vg m_2 2).toNat), vg r_1 ((vg m_2 3).toNat), vg r_1 ((vg m_2 0).toNat)] : Vector (BitVec 8) 4).toList)) (cs' := e8 m_4.toList) rfl (congrArg (fun z : Vector (BitVec 8) 4 => e8 (Vector.toList z)) hm_4) ?_
                refine TA_done (by kernel_rfl) ?_ 0
                refine TX_next ?_
                refine TC.sub (m' := [(0, vs key), (4, ptr (some (b1, 0)) 0), (5, vi n1), (6, sl (some (b2, 0)) ((w64 (4 * (w64 (n1 + 7)))).toNat) ((w64 (4 * (w64 (n1 + 7)))).toNat)), (7, v8 s0.1), (8, vi s0.2.1), (9, ptr (some (b3, 0)) 0), (32, vi ((w64 (4 * (w64 (n1 + 7)))).toNat : Int)), (33, vi s0.2.1)]) ⟨rfl, rfl, rfl, rfl, rfl, rfl, rfl, rfl, rfl, trivial⟩ ?_
                refine TC_region ?_
                refine TL_v rfl rfl rfl (V_move rfl) ?_
                obtain ⟨r_2, hr_2, H⟩ := bind_elim H
                refine TL_e rfl rfl rfl (E_call (Γ := Unit) (val := fun g => v8 r_2) (mem := fun g => []) (vs := [v8 s0.1]) (Lin := []) (Ro := []) (is := []) rfl Try.call82 (F82_calls s0.1 r_2 hr_2) rfl trivial) (fun g_2 => ?_)
                refine TL_v rfl rfl rfl (V_assign rfl) ?_
                refine TL_nil ?_
                refine TX.sub (m' := [(0, vs key), (4, ptr (some (b1, 0)) 0), (5, vi n1), (6, sl (some (b2, 0)) ((w64 (4 * (w64 (n1 + 7)))).toNat) ((w64 (4 * (w64 (n1 + 7)))).toNat)), (7, v8 r_2), (8, vi s0.2.1), (9, ptr (some (b3, 0)) 0), (32, vi ((w64 (4 * (w64 (n1 + 7)))).toNat : Int)), (33, vi s0.2.1)]) ⟨rfl, rfl, rfl, rfl, rfl, rfl, rfl, rfl, rfl, trivial⟩ ?_
                refine TX.pull (is := [1, 1, 1, 1, 0]) (L' := [⟨some (b1, 0), e8 r_1.toList⟩, ⟨some (b1, 256), [sl An1 ((([] : List (Vector (BitVec 8) 16))).length) ((([] : List (Vector (BitVec 8) 16)) ++ ([] : List (Vector (BitVec 8) 16))).length)]⟩, ⟨An1, eF (fun V : Vector (BitVec 8) 16 => e8 V.toList) (([] : List (Vector (BitVec 8) 16)) ++ ([] : List (Vector (BitVec 8) 16)))⟩, ⟨some (b2, 0), eF (fun V : Vector (BitVec 8) 4 => e8 V.toList) s0.2.2⟩, ⟨some (b3, 0), e8 m_4.toList⟩]) rfl ?_
                obtain rfl := Option.some.inj H
                exact hJ ()
              · replace H := ite_f (of_decide_eq_false hc) H
                refine TC_seq ?_
                refine TC_region ?_
                refine TL_v rfl rfl rfl (V_move rfl) ?_
                refine TL_v rfl rfl rfl (V_bin rfl rfl (fun w => eqlI w n1 8)) ?_
                refine TL_v rfl rfl rfl (V_move rfl) ?_
                refine TL_fork (d := 92) (b := (decide (n1 = 8))) rfl (fun hc => ?_) (fun hc => ?_)
                · replace H := ite_t (of_decide_eq_true hc) H
                  refine TL_want rfl rfl rfl rfl rfl rfl (V_move rfl) ?_
                  refine TL_want rfl rfl rfl rfl rfl rfl (V_move rfl) ?_
                  obtain ⟨h16, H⟩ := if_elim H
                  refine TL_want rfl rfl rfl rfl rfl rfl (V_bin rfl rfl (fun w => remI w s0.2.1 n1 h16)) ?_
                  refine TL_want rfl rfl rfl rfl rfl rfl (V_bin rfl rfl (fun w => eqlI w (s0.2.1.tmod n1) 4)) ?_
                  refine TL_v rfl rfl rfl (V_pick (b := true) rfl rfl) ?_
                  refine TL_nil ?_
                  refine TX_next ?_
                  refine TC.sub (m' := [(0, vs key), (4, ptr (some (b1, 0)) 0), (5, vi n1), (6, sl (some (b2, 0)) ((w64 (4 * (w64 (n1 + 7)))).toNat) ((w64 (4 * (w64 (n1 + 7)))).toNat)), (7, v8 s0.1), (8, vi s0.2.1), (9, ptr (some (b3, 0)) 0), (32, vi ((w64 (4 * (w64 (n1 + 7)))).toNat : Int)), (33, vi s0.2.1), (97, vb (decide ((s0.2.1.tmod n1) = 4)))]) ⟨rfl, rfl, rfl, rfl, rfl, rfl, rfl, rfl, rfl, rfl, trivial⟩ ?_
                  refine TC_cond (b := (decide ((s0.2.1.tmod n1) = 4))) rfl (fun hc => ?_) (fun hc => ?_)
                  · replace H := ite_t (of_decide_eq_true hc) H
                    refine TC_seq ?_
                    refine TC_region ?_
                    refine TL_v rfl rfl rfl (V_move rfl) ?_
                    refine TL_nil ?_
                    refine TX_next ?_
                    refine TC_block ?_
                    obtain ⟨t_3, Hl, H⟩ := bind_elim H
                    refine TC.sub (m' := [(0, vs key), (4, ptr (some (b1, 0)) 0), (5, vi n1), (6, sl (some (b2, 0)) ((w64 (4 * (w64 (n1 + 7)))).toNat) ((w64 (4 * (w64 (n1 + 7)))).toNat)), (7, v8 s0.1), (8, vi s0.2.1), (9, ptr (some (b3, 0)) 0), (32, vi ((w64 (4 * (w64 (n1 + 7)))).toNat : Int)), (33, vi s0.2.1), (98, vi 0)]) ⟨rfl, rfl, rfl, rfl, rfl, rfl, rfl, rfl, rfl, rfl, trivial⟩ ?_
                    refine TC.pull (is := [1, 1, 1, 1, 0]) (L' := [⟨some (b1, 0), e8 r_1.toList⟩, ⟨some (b1, 256), [sl An1 ((([] : List (Vector (BitVec 8) 16))).length) ((([] : List (Vector (BitVec 8) 16)) ++ ([] : List (Vector (BitVec 8) 16))).length)]⟩, ⟨An1, eF (fun V : Vector (BitVec 8) 16 => e8 V.toList) (([] : List (Vector (BitVec 8) 16)) ++ ([] : List (Vector (BitVec 8) 16)))⟩, ⟨some (b2, 0), eF (fun V : Vector (BitVec 8) 4 => e8 V.toList) s0.2.2⟩, ⟨some (b3, 0), e8 m_2.toList⟩]) rfl ?_
                    refine TC_loopL (id := 2) (body := (aes_New.b2 r_1)) (σ := Int × Vector (BitVec 8) 4) (Γ := Unit) (Γx := Unit) (fun s2 g2_ => [(0, vs key), (4, ptr (some (b1, 0)) 0), (5, vi n1), (6, sl (some (b2, 0)) ((w64 (4 * (w64 (n1 + 7)))).toNat) ((w64 (4 * (w64 (n1 + 7)))).toNat)), (7, v8 s0.1), (8, vi s0.2.1), (9, ptr (some (b3, 0)) 0), (32, vi ((w64 (4 * (w64 (n1 + 7)))).toNat : Int)), (33, vi s0.2.1), (98, vi s2.1)]) (fun s2 g2_ => [⟨some (b1, 0), e8 r_1.toList⟩, ⟨some (b1, 256), [sl An1 ((([] : List (Vector (BitVec 8) 16))).length) ((([] : List (Vector (BitVec 8) 16)) ++ ([] : List (Vector (BitVec 8) 16))).length)]⟩, ⟨An1, eF (fun V : Vector (BitVec 8) 16 => e8 V.toList) (([] : List (Vector (BitVec 8) 16)) ++ ([] : List (Vector (BitVec 8) 16)))⟩, ⟨some (b2, 0), eF (fun V : Vector (BitVec 8) 4 => e8 V.toList) s0.2.2⟩, ⟨some (b3, 0), e8 s2.2.toList⟩]) (fun t g => [(0, vs key), (4, ptr (some (b1, 0)) 0), (5, vi n1), (6, sl (some (b2, 0)) ((w64 (4 * (w64 (n1 + 7)))).toNat) ((w64 (4 * (w64 (n1 + 7)))).toNat)), (7, v8 s0.1), (8, vi s0.2.1), (9, ptr (some (b3, 0)) 0), (32, vi ((w64 (4 * (w64 (n1 + 7)))).toNat : Int)), (33, vi s0.2.1)]) (fun t g => [⟨some (b1, 0), e8 r_1.toList⟩, ⟨some (b1, 256), [sl An1 ((([] : List (Vector (BitVec 8) 16))).length) ((([] : List (Vector (BitVec 8) 16)) ++ ([] : List (Vector (BitVec 8) 16))).length)]⟩, ⟨An1, eF (fun V : Vector (BitVec 8) 16 => e8 V.toList) (([] : List (Vector (BitVec 8) 16)) ++ ([] : List (Vector (BitVec 8) 16)))⟩, ⟨some (b2, 0), eF (fun V : Vector (BitVec 8) 4 => e8 V.toList) s0.2.2⟩, ⟨some (b3, 0), e8 t.toList⟩]) ?_ BIG (0, m_2) () t_3 Hl ?_
                    · intro s2 g2_ r1 H K hK hE
                      unfold aes_New.b2 at H
                      refine TC_seq ?_
                      refine TC_region ?_
                      refine TL_v rfl rfl rfl (V_bin rfl rfl (fun w => lssI w s2.1 4)) ?_
                      refine TL_nil ?_
                      refine TX_next ?_
                      refine TC_seq ?_
                      refine TC_cond (b := (decide (s2.1 < 4))) rfl (fun hc => ?_) (fun hc => ?_)
                      · replace H := ite_t (of_decide_eq_true hc) H
                        refine TC_skip ?_
                        refine TX_next ?_
                        refine TC_seq ?_
                        refine TC_block ?_
                        refine TC_seq ?_
                        refine TC_region ?_
                        refine TL_v rfl rfl rfl (V_move rfl) ?_
                        refine TL_v rfl rfl rfl (V_assign rfl) ?_
                        refine TL_nil ?_
                        refine TX_next ?_
                        obtain ⟨h17, H⟩ := if_elim H
                        obtain ⟨h18, H⟩ := if_elim H
                        obtain ⟨m_5, hm_5, H⟩ := ltt_elim H
                        refine TA_begin [⟨some (b1, 0), e8 r_1.toList⟩, ⟨some (b1, 256), [sl An1 ((([] : List (Vector (BitVec 8) 16))).length) ((([] : List (Vector (BitVec 8) 16)) ++ ([] : List (Vector (BitVec 8) 16))).length)]⟩, ⟨An1, eF (fun V : Vector (BitVec 8) 16 => e8 V.toList) (([] : List (Vector (BitVec 8) 16)) ++ ([] : List (Vector (BitVec 8) 16)))⟩, ⟨some (b2, 0), eF (fun V : Vector (BitVec 8) 4 => e8 V.toList) s0.2.2⟩, ⟨some (b3, 0), e8 s2.2.toList⟩] 10 (by kernel_rfl) (N := 11) rfl ?_
                        refine TA_take (i := 0) (is := [0, 0, 0, 0, 0]) (done' := #[true, false, false, false, false, false, false, false, false, false, false]) rfl rfl rfl rfl (by kernel_rfl) (QP.block (QP.then (QP.then (QP.block (QP.then (QP.block (QP.then (QP.then (QP.block (QP.then QP.body)))))))))) (by kernel_rfl) rfl (V_move rfl) ?_
                        refine TA_take (i := 1) (is := [0, 0, 0, 0, 0]) (done' := #[true, true, false, false, false, false, false, false, false, false, false]) rfl rfl rfl rfl (by kernel_rfl) (QP.block (QP.then (QP.then (QP.block (QP.then (QP.block (QP.then (QP.then (QP.block (QP.then QP.body)))))))))) (by kernel_rfl) rfl (V_move rfl) ?_
                        refine TA_take (i := 2) (is := [0, 0, 0, 0, 0]) (done' := #[true, true, true, false, false, false, false, false, false, false, false]) rfl rfl rfl rfl (by kernel_rfl) (QP.block (QP.then (QP.then (QP.block (QP.then (QP.block (QP.then (QP.then (QP.block (QP.then QP.body)))))))))) (by kernel_rfl) rfl (V_move rfl) ?_
                        refine TA_take (i := 3) (is := [0, 0, 0, 0, 0]) (done' := #[true, true, true, true, false, false, false, false, false, false, false]) rfl rfl rfl rfl (by kernel_rfl) (QP.block (QP.then (QP.then (QP.block (QP.then (QP.block (QP.then (QP.then (QP.block (QP.then QP.body)))))))))) (by kernel_rfl) rfl (V_idxArr (i := s2.1) rfl rfl Try.underlying125 TryI.inf5 rfl h17.1 h17.2 (k := (s2.1).toNat) (k01 _)) ?_
                        refine TA_take (i := 4) (is := [0, 0, 0, 0, 0]) (done' := #[true, true, true, true, true, false, false, false, false, false, false]) rfl rfl rfl rfl (by kernel_rfl) (QP.block (QP.then (QP.then (QP.block (QP.then (QP.block (QP.then (QP.then (QP.block (QP.then QP.body)))))))))) (by kernel_rfl) rfl (V_load rfl (Src.own (j := 4) rfl) (get_vec (f := v8) (V := s2.2) (toNat_lt h17.1 h17.2)) Try.isAgg5) ?_
                        refine TA_take (i := 5) (is := [0, 0, 0, 0, 0]) (done' := #[true, true, true, true, true, true, false, false, false, false, false]) rfl rfl rfl rfl (by kernel_rfl) (QP.block (QP.then (QP.then (QP.block (QP.then (QP.block (QP.then (QP.then (QP.block (QP.then QP.body)))))))))) (by kernel_rfl) rfl (V_nilCheck rfl) ?_
                        refine TA_take (i := 6) (is := [0, 0, 0, 0, 0]) (done' := #[true, true, true, true, true, true, true, false, false, false, false]) rfl rfl rfl rfl (by kernel_rfl) (QP.block (QP.then (QP.then (QP.block (QP.then (QP.block (QP.then (QP.then (QP.block (QP.then QP.body)))))))))) (by kernel_rfl) rfl (V_fieldE rfl Try.underlying124 rfl rfl TryI.inf120 rfl (v := ptr (some (b1, 0)) 0) rfl) ?_
                        refine TA_take (i := 7) (is := [0, 0, 0, 0, 0]) (done' := #[true, true, true, true, true, true, true, true, false, false, false]) rfl rfl rfl rfl (by kernel_rfl) (QP.block (QP.then (QP.then (QP.block (QP.then (QP.block (QP.then (QP.then (QP.block (QP.then QP.body)))))))))) (by kernel_rfl) rfl (V_idxArr (i := ((vg s2.2 ((s2.1).toNat)).toNat : Int)) rfl rfl Try.underlying120 TryI.inf5 rfl (Int.natCast_nonneg _) (zb (n := 8) (k := 256) (vg s2.2 ((s2.1).toNat)) (by decide)) (k := (vg s2.2 ((s2.1).toNat)).toNat) (k01 _)) ?_
                        refine TA_take (i := 8) (is := [0, 0, 0, 0, 0]) (done' := #[true, true, true, true, true, true, true, true, true, false, false]) rfl rfl rfl rfl (by kernel_rfl) (QP.block (QP.then (QP.then (QP.block (QP.then (QP.block (QP.then (QP.then (QP.block (QP.then QP.body)))))))))) (by kernel_rfl) rfl (V_load rfl (Src.own (j := 0) rfl) (get_vec (f := v8) (V := r_1) (toNat_lt (Int.natCast_nonneg _) (zb (n := 8) (k := 256) (vg s2.2 ((s2.1).toNat)) (by decide)))) Try.isAgg5) ?_
                        refine TA_take (i := 9) (is := [0, 0, 0, 0, 0]) (done' := #[true, true, true, true, true, true, true, true, true, true, false]) rfl rfl rfl rfl (by kernel_rfl) (QP.block (QP.then (QP.then (QP.block (QP.then (QP.block (QP.then (QP.then (QP.block (QP.then QP.body)))))))))) (by kernel_rfl) rfl (V_idxArr (i := s2.1) rfl rfl Try.underlying125 TryI.inf5 rfl h18.1 h18.2 (k := (s2.1).toNat) (k01 _)) ?_
                        refine TA_all (rs := [10]) (by kernel_rfl) rfl ?_
                        refine ⟨?_, trivial⟩
                        refine TO_n (is := []) (R := fun _ => []) (done' := #[true, true, true, true, true, true, true, true, true, true, true]) rfl rfl rfl (by kernel_rfl) (E_store (j := 4) rfl rfl TryI.inf5 rfl rfl rfl (by simpa using (toNat_lt h18.1 h18.2)) (cs' := e8 ((vp s2.2 ((s2.1).toNat) (vg r_1 ((vg s2.2 ((s2.1).toNat)).toNat))).toList)) set_vec) (fun h => by cases h) (fun _ => ?_)
                        refine TA_reE (j := 4) (A := some (b3, 0)) (cs := e8 ((vp s2.2 ((s2.1).toNat) (vg r_1 ((vg s2.2 ((s2.1).toNat)).toNat))).toList)) (cs' := e8 m_5.toList) rfl (congrArg (fun z : Vector (BitVec 8) 4 => e8 (Vector.toList z)) hm_5) ?_
                        refine TA_done (by kernel_rfl) ?_ 0
                        refine TX_block_normal ?_
                        refine TX_next ?_
                        refine TC_region ?_
                        refine TL_v rfl rfl rfl (V_bin rfl rfl (fun w => addI w s2.1 1)) ?_
                        refine TL_v rfl rfl rfl (V_move rfl) ?_
                        refine TL_nil ?_
                        refine TX.sub (m' := [(0, vs key), (4, ptr (some (b1, 0)) 0), (5, vi n1), (6, sl (some (b2, 0)) ((w64 (4 * (w64 (n1 + 7)))).toNat) ((w64 (4 * (w64 (n1 + 7)))).toNat)), (7, v8 s0.1), (8, vi s0.2.1), (9, ptr (some (b3, 0)) 0), (32, vi ((w64 (4 * (w64 (n1 + 7)))).toNat : Int)), (33, vi s0.2.1), (98, vi (w64 (s2.1 + 1)))]) ⟨rfl, rfl, rfl, rfl, rfl, rfl, rfl, rfl, rfl, rfl, trivial⟩ ?_
                        refine TX.pull (is := [0, 0, 0, 0, 0]) (L' := [⟨some (b1, 0), e8 r_1.toList⟩, ⟨some (b1, 256), [sl An1 ((([] : List (Vector (BitVec 8) 16))).length) ((([] : List (Vector (BitVec 8) 16)) ++ ([] : List (Vector (BitVec 8) 16))).length)]⟩, ⟨An1, eF (fun V : Vector (BitVec 8) 16 => e8 V.toList) (([] : List (Vector (BitVec 8) 16)) ++ ([] : List (Vector (BitVec 8) 16)))⟩, ⟨some (b2, 0), eF (fun V : Vector (BitVec 8) 4 => e8 V.toList) s0.2.2⟩, ⟨some (b3, 0), e8 m_5.toList⟩]) rfl ?_
                        obtain rfl := Option.some.inj H
                        exact fun a w hs => hK (w64 (s2.1 + 1), m_5) rfl () a w hs
                      · replace H := ite_f (of_decide_eq_false hc) H
                        refine TC_exit ?_
                        refine TX_then_exit ?_
                        refine TX_then_exit ?_
                        refine TX.sub (m' := [(0, vs key), (4, ptr (some (b1, 0)) 0), (5, vi n1), (6, sl (some (b2, 0)) ((w64 (4 * (w64 (n1 + 7)))).toNat) ((w64 (4 * (w64 (n1 + 7)))).toNat)), (7, v8 s0.1), (8, vi s0.2.1), (9, ptr (some (b3, 0)) 0), (32, vi ((w64 (4 * (w64 (n1 + 7)))).toNat : Int)), (33, vi s0.2.1)]) ⟨rfl, rfl, rfl, rfl, rfl, rfl, rfl, rfl, rfl, trivial⟩ ?_
                        refine TX.pull (is := [0, 0, 0, 0, 0]) (L' := [⟨some (b1, 0), e8 r_1.toList⟩, ⟨some (b1, 256), [sl An1 ((([] : List (Vector (BitVec 8) 16))).length) ((([] : List (Vector (BitVec 8) 16)) ++ ([] : List (Vector (BitVec 8) 16))).length)]⟩, ⟨An1, eF (fun V : Vector (BitVec 8) 16 => e8 V.toList) (([] : List (Vector (BitVec 8) 16)) ++ ([] : List (Vector (BitVec 8) 16)))⟩, ⟨some (b2, 0), eF (fun V : Vector (BitVec 8) 4 => e8 V.toList) s0.2.2⟩, ⟨some (b3, 0), e8 s2.2.toList⟩]) rfl ?_
                        obtain rfl := Option.some.inj H
                        exact hE s2.2 rfl ()
                    · intro g
                      refine TX_block_exit ?_
                      refine TX.sub (m' := [(0, vs key), (4, ptr (some (b1, 0)) 0), (5, vi n1), (6, sl (some (b2, 0)) ((w64 (4 * (w64 (n1 + 7)))).toNat) ((w64 (4 * (w64 (n1 + 7)))).toNat)), (7, v8 s0.1), (8, vi s0.2.1), (9, ptr (some (b3, 0)) 0), (32, vi ((w64 (4 * (w64 (n1 + 7)))).toNat : Int)), (33, vi s0.2.1)]) ⟨rfl, rfl, rfl, rfl, rfl, rfl, rfl, rfl, rfl, trivial⟩ ?_
                      refine TX.pull (is := [0, 0, 0, 0, 0]) (L' := [⟨some (b1, 0), e8 r_1.toList⟩, ⟨some (b1, 256), [sl An1 ((([] : List (Vector (BitVec 8) 16))).length) ((([] : List (Vector (BitVec 8) 16)) ++ ([] : List (Vector (BitVec 8) 16))).length)]⟩, ⟨An1, eF (fun V : Vector (BitVec 8) 16 => e8 V.toList) (([] : List (Vector (BitVec 8) 16)) ++ ([] : List (Vector (BitVec 8) 16)))⟩, ⟨some (b2, 0), eF (fun V : Vector (BitVec 8) 4 => e8 V.toList) s0.2.2⟩, ⟨some (b3, 0), e8 t_3.toList⟩]) rfl ?_
                      obtain rfl := Option.some.inj H
                      exact hJ ()
                  · replace H := ite_f (of_decide_eq_false hc) H
                    refine TC_skip ?_
                    refine TX.sub (m' := [(0, vs key), (4, ptr (some (b1, 0)) 0), (5, vi n1), (6, sl (some (b2, 0)) ((w64 (4 * (w64 (n1 + 7)))).toNat) ((w64 (4 * (w64 (n1 + 7)))).toNat)), (7, v8 s0.1), (8, vi s0.2.1), (9, ptr (some (b3, 0)) 0), (32, vi ((w64 (4 * (w64 (n1 + 7)))).toNat : Int)), (33, vi s0.2.1)]) ⟨rfl, rfl, rfl, rfl, rfl, rfl, rfl, rfl, rfl, trivial⟩ ?_
                    refine TX.pull (is := [1, 1, 1, 1, 0]) (L' := [⟨some (b1, 0), e8 r_1.toList⟩, ⟨some (b1, 256), [sl An1 ((([] : List (Vector (BitVec 8) 16))).length) ((([] : List (Vector (BitVec 8) 16)) ++ ([] : List (Vector (BitVec 8) 16))).length)]⟩, ⟨An1, eF (fun V : Vector (BitVec 8) 16 => e8 V.toList) (([] : List (Vector (BitVec 8) 16)) ++ ([] : List (Vector (BitVec 8) 16)))⟩, ⟨some (b2, 0), eF (fun V : Vector (BitVec 8) 4 => e8 V.toList) s0.2.2⟩, ⟨some (b3, 0), e8 m_2.toList⟩]) rfl ?_
                    obtain rfl := Option.some.inj H
                    exact hJ ()
                · replace H := ite_f (of_decide_eq_false hc) H
                  refine TL_skip rfl rfl rfl rfl rfl rfl rfl ?_
                  refine TL_skip rfl rfl rfl rfl rfl rfl rfl ?_
                  refine TL_skip rfl rfl rfl rfl rfl rfl rfl ?_
                  refine TL_skip rfl rfl rfl rfl rfl rfl rfl ?_
                  refine TL_v rfl rfl rfl (V_pick (b := false) rfl rfl) ?_
                  refine TL_nil ?_
                  refine TX_next ?_
                  refine TC.sub (m' := [(0, vs key), (4, ptr (some (b1, 0)) 0), (5, vi n1), (6, sl (some (b2, 0)) ((w64 (4 * (w64 (n1 + 7)))).toNat) ((w64 (4 * (w64 (n1 + 7)))).toNat)), (7, v8 s0.1), (8, vi s0.2.1), (9, ptr (some (b3, 0)) 0), (32, vi ((w64 (4 * (w64 (n1 + 7)))).toNat : Int)), (33, vi s0.2.1), (97, vb false)]) ⟨rfl, rfl, rfl, rfl, rfl, rfl, rfl, rfl, rfl, rfl, trivial⟩ ?_
                  refine TC_cond_f rfl ?_
                  refine TC_skip ?_
                  refine TX.sub (m' := [(0, vs key), (4, ptr (some (b1, 0)) 0), (5, vi n1), (6, sl (some (b2, 0)) ((w64 (4 * (w64 (n1 + 7)))).toNat) ((w64 (4 * (w64 (n1 + 7)))).toNat)), (7, v8 s0.1), (8, vi s0.2.1), (9, ptr (some (b3, 0)) 0), (32, vi ((w64 (4 * (w64 (n1 + 7)))).toNat : Int)), (33, vi s0.2.1)]) ⟨rfl, rfl, rfl, rfl, rfl, rfl, rfl, rfl, rfl, trivial⟩ ?_
                  refine TX.pull (is := [1, 1, 1, 1, 0]) (L' := [⟨some (b1, 0), e8 r_1.toList⟩, ⟨some (b1, 256), [sl An1 ((([] : List (Vector (BitVec 8) 16))).length) ((([] : List (Vector (BitVec 8) 16)) ++ ([] : List (Vector (BitVec 8) 16))).length)]⟩, ⟨An1, eF (fun V : Vector (BitVec 8) 16 => e8 V.toList) (([] : List (Vector (BitVec 8) 16)) ++ ([] : List (Vector (BitVec 8) 16)))⟩, ⟨some (b2, 0), eF (fun V : Vector (BitVec 8) 4 => e8 V.toList) s0.2.2⟩, ⟨some (b3, 0), e8 m_2.toList⟩]) rfl ?_
                  obtain rfl := Option.some.inj H
                  exact hJ ()
        · replace H := ite_f (of_decide_eq_false hc) H
          refine TC_exit ?_
          refine TX_then_exit ?_
          refine TX_then_exit ?_
          refine TX.sub (m' := [(4, ptr (some (b1, 0)) 0), (5, vi n1), (6, sl (some (b2, 0)) ((w64 (4 * (w64 (n1 + 7)))).toNat) ((w64 (4 * (w64 (n1 + 7)))).toNat))]) ⟨rfl, rfl, rfl, trivial⟩ ?_
          refine TX.pull (is := [0, 0, 0, 0]) (L' := [⟨some (b1, 0), e8 r_1.toList⟩, ⟨some (b1, 256), [sl An1 ((([] : List (Vector (BitVec 8) 16))).length) ((([] : List (Vector (BitVec 8) 16)) ++ ([] : List (Vector (BitVec 8) 16))).length)]⟩, ⟨An1, eF (fun V : Vector (BitVec 8) 16 => e8 V.toList) (([] : List (Vector (BitVec 8) 16)) ++ ([] : List (Vector (BitVec 8) 16)))⟩, ⟨some (b2, 0), eF (fun V : Vector (BitVec 8) 4 => e8 V.toList) s0.2.2⟩]) rfl ?_
          obtain rfl := Option.some.inj H
          exact hE s0.2.2 rfl ()
      · intro g
        refine TX_block_exit ?_
        refine TX_next ?_
        refine TC_seq ?_
        refine TC_region ?_
        refine TL_v rfl rfl rfl (V_move rfl) ?_
        refine TL_v rfl rfl rfl (V_move rfl) ?_
        refine TL_v rfl rfl rfl (V_bin rfl rfl (fun w => addI w n1 7)) ?_
        obtain ⟨h19, H⟩ := if_elim H
        refine TL_e rfl rfl rfl (E_mkN rfl rfl Try.underlying122 TryI.inf71 TryI.zer71 (by kernel_rfl) rfl rfl (B := 16) rfl h19.1 (Int.le_refl _) (by have := h19; omega) (by have := h19; omega) (n' := (w64 (n1 + 7)).toNat) (c' := (w64 (n1 + 7)).toNat) rfl rfl (cs := eF (fun V : Vector (BitVec 8) 16 => e8 V.toList) (List.replicate ((w64 (n1 + 7)).toNat) (Vector.replicate 16 0#8))) (rep_eF (g := fun V : Vector (BitVec 8) 16 => e8 V.toList))) (fun b4 => ?_)
        refine TL_v rfl rfl rfl (V_nilCheck rfl) ?_
        refine TL_v rfl rfl rfl (V_fieldE rfl Try.underlying124 rfl rfl TryI.inf122 rfl (v := ptr (some (b1, 256)) 0) rfl) ?_
        refine TL_n rfl rfl (E_store (j := 2) rfl rfl TryI.inf122 rfl rfl rfl (Nat.lt_succ_self 0) (cs' := [sl (some (b4, 0)) ((w64 (n1 + 7)).toNat) ((w64 (n1 + 7)).toNat)]) rfl) (fun _ => ?_)
        refine TL_nil ?_
        refine TX_next ?_
        refine TC_seq ?_
        refine TC_seq ?_
        refine TC_region ?_
        refine TL_v rfl rfl rfl (V_move rfl) ?_
        refine TL_v rfl rfl rfl (V_len_slice rfl Try.underlying74) ?_
        refine TL_v rfl rfl rfl (V_move rfl) ?_
        refine TL_nil ?_
        refine TX_next ?_
        refine TC_block ?_
        obtain ⟨t_4, Hl, H⟩ := bind_elim H
        refine TC.sub (m' := [(4, ptr (some (b1, 0)) 0), (6, sl (some (b2, 0)) ((w64 (4 * (w64 (n1 + 7)))).toNat) ((w64 (4 * (w64 (n1 + 7)))).toNat)), (141, vi ((w64 (4 * (w64 (n1 + 7)))).toNat : Int)), (142, vi 0)]) ⟨rfl, rfl, rfl, rfl, trivial⟩ ?_
        refine TC.pull (is := [1, 1, 0, 1]) (L' := [⟨some (b1, 0), e8 r_1.toList⟩, ⟨some (b1, 256), [sl (some (b4, 0)) ((w64 (n1 + 7)).toNat) ((w64 (n1 + 7)).toNat)]⟩, ⟨some (b4, 0), eF (fun V : Vector (BitVec 8) 16 => e8 V.toList) (List.replicate ((w64 (n1 + 7)).toNat) (Vector.replicate 16 0#8))⟩, ⟨some (b2, 0), eF (fun V : Vector (BitVec 8) 4 => e8 V.toList) t_1⟩]) rfl ?_
        refine TC_loopL (id := 6) (body := (aes_New.b3 n1 t_1)) (σ := Int × List (Vector (BitVec 8) 16)) (Γ := Unit) (Γx := Unit) (fun s3 g3_ => [(4, ptr (some (b1, 0)) 0), (6, sl (some (b2, 0)) ((w64 (4 * (w64 (n1 + 7)))).toNat) ((w64 (4 * (w64 (n1 + 7)))).toNat)), (141, vi ((w64 (4 * (w64 (n1 + 7)))).toNat : Int)), (142, vi s3.1)]) (fun s3 g3_ => [⟨some (b1, 0), e8 r_1.toList⟩, ⟨some (b1, 256), [sl (some (b4, 0)) ((w64 (n1 + 7)).toNat) ((w64 (n1 + 7)).toNat)]⟩, ⟨some (b4, 0), eF (fun V : Vector (BitVec 8) 16 => e8 V.toList) s3.2⟩, ⟨some (b2, 0), eF (fun V : Vector (BitVec 8) 4 => e8 V.toList) t_1⟩]) (fun t g => [(4, ptr (some (b1, 0)) 0)]) (fun t g => [⟨some (b1, 0), e8 r_1.toList⟩, ⟨some (b1, 256), [sl (some (b4, 0)) ((w64 (n1 + 7)).toNat) ((w64 (n1 + 7)).toNat)]⟩, ⟨some (b4, 0), eF (fun V : Vector (BitVec 8) 16 => e8 V.toList) t⟩]) ?_ BIG (0, List.replicate ((w64 (n1 + 7)).toNat) (Vector.replicate 16 0#8)) () t_4 Hl ?_
        · intro s3 g3_ r1 H K hK hE
          unfold aes_New.b3 at H
          refine TC_seq ?_
          refine TC_region ?_
          refine TL_v rfl rfl rfl (V_bin rfl rfl (fun w => lssI w s3.1 ((w64 (4 * (w64 (n1 + 7)))).toNat : Int))) ?_
          refine TL_nil ?_
          refine TX_next ?_
          refine TC_seq ?_
          refine TC_cond (b := (decide (s3.1 < ((w64 (4 * (w64 (n1 + 7)))).toNat : Int)))) rfl (fun hc => ?_) (fun hc => ?_)
          · replace H := ite_t (of_decide_eq_true hc) H
            refine TC_skip ?_
            refine TX_next ?_
            refine TC_seq ?_
            refine TC_block ?_
            refine TC_seq ?_
            refine TC_region ?_
            refine TL_v rfl rfl rfl (V_move rfl) ?_
            refine TL_v rfl rfl rfl (V_assign rfl) ?_
            refine TL_nil ?_
            refine TX_next ?_
            obtain ⟨h20, H⟩ := if_elim H
            obtain ⟨h21, H⟩ := if_elim H
            obtain ⟨h22, H⟩ := if_elim H
            obtain ⟨h23, H⟩ := if_elim H
            obtain ⟨h24, H⟩ := if_elim H
            obtain ⟨h25, H⟩ := if_elim H
            obtain ⟨h26, H⟩ := if_elim H
            obtain ⟨m_6, hm_6, H⟩ := ltt_elim H
            refine TA_begin [⟨some (b1, 0), e8 r_1.toList⟩, ⟨some (b1, 256), [sl (some (b4, 0)) ((w64 (n1 + 7)).toNat) ((w64 (n1 + 7)).toNat)]⟩, ⟨some (b2, 0), eF (fun V : Vector (BitVec 8) 4 => e8 V.toList) t_1⟩] 16 (by kernel_rfl) (N := 16) rfl ?_
            refine TA_take (i := 0) (is := [0, 0, 1]) (done' := #[true, false, false, false, false, false, false, false, false, false, false, false, false, false, false, false]) rfl rfl rfl rfl (by kernel_rfl) (QP.block (QP.then (QP.then (QP.block (QP.then QP.body))))) (by kernel_rfl) rfl (V_move rfl) ?_
            refine TA_take (i := 1) (is := [0, 0, 1]) (done' := #[true, true, false, false, false, false, false, false, false, false, false, false, false, false, false, false]) rfl rfl rfl rfl (by kernel_rfl) (QP.block (QP.then (QP.then (QP.block (QP.then QP.body))))) (by kernel_rfl) rfl (V_nilCheck rfl) ?_
            refine TA_take (i := 2) (is := [0, 0, 1]) (done' := #[true, true, true, false, false, false, false, false, false, false, false, false, false, false, false, false]) rfl rfl rfl rfl (by kernel_rfl) (QP.block (QP.then (QP.then (QP.block (QP.then QP.body))))) (by kernel_rfl) rfl (V_fieldE rfl Try.underlying124 rfl rfl TryI.inf122 rfl (v := ptr (some (b1, 256)) 0) rfl) ?_
            refine TA_take (i := 3) (is := [0, 0, 1]) (done' := #[true, true, true, true, false, false, false, false, false, false, false, false, false, false, false, false]) rfl rfl rfl rfl (by kernel_rfl) (QP.block (QP.then (QP.then (QP.block (QP.then QP.body))))) (by kernel_rfl) rfl (V_load rfl (Src.own (j := 1) rfl) rfl Try.isAgg122) ?_
            refine TA_take (i := 4) (is := [0, 0, 1]) (done' := #[true, true, true, true, true, false, false, false, false, false, false, false, false, false, false, false]) rfl rfl rfl rfl (by kernel_rfl) (QP.block (QP.then (QP.then (QP.block (QP.then QP.body))))) (by kernel_rfl) rfl (V_move rfl) ?_
            refine TA_take (i := 5) (is := [0, 0, 1]) (done' := #[true, true, true, true, true, true, false, false, false, false, false, false, false, false, false, false]) rfl rfl rfl rfl (by kernel_rfl) (QP.block (QP.then (QP.then (QP.block (QP.then QP.body))))) (by kernel_rfl) rfl (V_bin rfl rfl (fun w => quoI w s3.1 4 (by decide))) ?_
            refine TA_take (i := 6) (is := [0, 0, 1]) (done' := #[true, true, true, true, true, true, true, false, false, false, false, false, false, false, false, false]) rfl rfl rfl rfl (by kernel_rfl) (QP.block (QP.then (QP.then (QP.block (QP.then QP.body))))) (by kernel_rfl) rfl (V_idxSl (i := w64 (s3.1.tdiv 4)) rfl rfl Try.underlying122 TryI.inf71 rfl (fun _ h => by cases h) h20.1 h20.2 (k := ((w64 (s3.1.tdiv 4)).toNat) * 16) rfl) ?_
            refine TA_take (i := 7) (is := [0, 0, 1]) (done' := #[true, true, true, true, true, true, true, true, false, false, false, false, false, false, false, false]) rfl rfl rfl rfl (by kernel_rfl) (QP.block (QP.then (QP.then (QP.block (QP.then QP.body))))) (by kernel_rfl) rfl (V_move rfl) ?_
            refine TA_take (i := 8) (is := [0, 0, 1]) (done' := #[true, true, true, true, true, true, true, true, true, false, false, false, false, false, false, false]) rfl rfl rfl rfl (by kernel_rfl) (QP.block (QP.then (QP.then (QP.block (QP.then QP.body))))) (by kernel_rfl) rfl (V_bin rfl rfl (fun w => remI w s3.1 4 (by decide))) ?_
            refine TA_take (i := 9) (is := [0, 0, 1]) (done' := #[true, true, true, true, true, true, true, true, true, true, false, false, false, false, false, false]) rfl rfl rfl rfl (by kernel_rfl) (QP.block (QP.then (QP.then (QP.block (QP.then QP.body))))) (by kernel_rfl) rfl (V_bin rfl rfl (fun w => mulI w 4 (s3.1.tmod 4))) ?_
            refine TA_take (i := 10) (is := [0, 0, 1]) (done' := #[true, true, true, true, true, true, true, true, true, true, true, false, false, false, false, false]) rfl rfl rfl rfl (by kernel_rfl) (QP.block (QP.then (QP.then (QP.block (QP.then QP.body))))) (by kernel_rfl) rfl (V_sliceWin (l := (w64 (4 * (s3.1.tmod 4))).toNat) (h := 16) rfl (by simp) Try.underlying71 TryI.inf5 rfl (Bnd.some' (i := w64 (4 * (s3.1.tmod 4))) rfl h22) Bnd.none' h23 (Nat.le_refl _) h24) ?_
            refine TA_take (i := 11) (is := [0, 0, 1]) (done' := #[true, true, true, true, true, true, true, true, true, true, true, true, false, false, false, false]) rfl rfl rfl rfl (by kernel_rfl) (QP.block (QP.then (QP.then (QP.block (QP.then QP.body))))) (by kernel_rfl) rfl (V_move rfl) ?_
            refine TA_take (i := 12) (is := [0, 0, 1]) (done' := #[true, true, true, true, true, true, true, true, true, true, true, true, true, false, false, false]) rfl rfl rfl rfl (by kernel_rfl) (QP.block (QP.then (QP.then (QP.block (QP.then QP.body))))) (by kernel_rfl) rfl (V_move rfl) ?_
            refine TA_take (i := 13) (is := [0, 0, 1]) (done' := #[true, true, true, true, true, true, true, true, true, true, true, true, true, true, false, false]) rfl rfl rfl rfl (by kernel_rfl) (QP.block (QP.then (QP.then (QP.block (QP.then QP.body))))) (by kernel_rfl) rfl (V_idxSl (i := s3.1) rfl rfl Try.underlying74 TryI.inf125 rfl (fun _ h => by cases h) h25.1 h25.2 (k := ((s3.1).toNat) * 4) rfl) ?_
            refine TA_take (i := 14) (is := [0, 0, 1]) (done' := #[true, true, true, true, true, true, true, true, true, true, true, true, true, true, true, false]) rfl rfl rfl rfl (by kernel_rfl) (QP.block (QP.then (QP.then (QP.block (QP.then QP.body))))) (by kernel_rfl) rfl (V_sliceWin (l := 0) (h := 4) rfl (by simp) Try.underlying125 TryI.inf5 rfl Bnd.none' Bnd.none' (Nat.zero_le _) (Nat.le_refl _) (by decide)) ?_
            refine TA_all (rs := [15]) (by kernel_rfl) rfl ?_
            refine ⟨?_, trivial⟩
            refine TO_e (is := [0, 0, 1]) (done' := #[true, true, true, true, true, true, true, true, true, true, true, true, true, true, true, true]) rfl rfl rfl rfl (by kernel_rfl) (E_copyB (o := ((w64 (s3.1.tdiv 4)).toNat) * 16 + ((w64 (4 * (s3.1.tmod 4))).toNat)) (j := 2) (ds := (sub ((lg t_1 ((s3.1).toNat)).toList) 0 4)) rfl rfl (by simp) Try.underlying30 TryI.inf5 rfl (srcWin1 0 4 h26 (Src.own (j := 3) rfl)) (sub_length (by simp)) rfl rfl (copy_row (n := 16) (l := (w64 (4 * (s3.1.tmod 4))).toNat) (d := 16 - ((w64 (4 * (s3.1.tmod 4))).toNat)) h21 (by omega)) (cs' := eF (fun V : Vector (BitVec 8) 16 => e8 V.toList) (s3.2.set ((w64 (s3.1.tdiv 4)).toNat) (vsp (lg s3.2 ((w64 (s3.1.tdiv 4)).toNat)) ((w64 (4 * (s3.1.tmod 4))).toNat) ((sub ((lg t_1 ((s3.1).toNat)).toList) 0 4).take (min (4 - 0) (16 - ((w64 (4 * (s3.1.tmod 4))).toNat))))))) (splice_lvec h21 (take_room (n := 16) (l := (w64 (4 * (s3.1.tmod 4))).toNat) (d := 16 - ((w64 (4 * (s3.1.tmod 4))).toNat)) (by omega)))) (fun _ _ => rfl) (fun _ => ?_)
            refine TA_reE (j := 2) (A := some (b4, 0)) (cs := eF (fun V : Vector (BitVec 8) 16 => e8 V.toList) (s3.2.set ((w64 (s3.1.tdiv 4)).toNat) (vsp (lg s3.2 ((w64 (s3.1.tdiv 4)).toNat)) ((w64 (4 * (s3.1.tmod 4))).toNat) ((sub ((lg t_1 ((s3.1).toNat)).toList) 0 4).take (min (4 - 0) (16 - ((w64 (4 * (s3.1.tmod 4))).toNat))))))) (cs' := eF (fun V : Vector (BitVec 8) 16 => e8 V.toList) m_6) rfl (congrArg (eF (fun V : Vector (BitVec 8) 16 => e8 V.toList)) hm_6) ?_
            refine TA_done (by kernel_rfl) ?_ 0
            refine TX_block_normal ?_
            refine TX_next ?_
            refine TC_region ?_
            refine TL_v rfl rfl rfl (V_bin rfl rfl (fun w => addI w s3.1 1)) ?_
            refine TL_v rfl rfl rfl (V_move rfl) ?_
            refine TL_nil ?_
            refine TX.sub (m' := [(4, ptr (some (b1, 0)) 0), (6, sl (some (b2, 0)) ((w64 (4 * (w64 (n1 + 7)))).toNat) ((w64 (4 * (w64 (n1 + 7)))).toNat)), (141, vi ((w64 (4 * (w64 (n1 + 7)))).toNat : Int)), (142, vi (w64 (s3.1 + 1)))]) ⟨rfl, rfl, rfl, rfl, trivial⟩ ?_
            refine TX.pull (is := [0, 0, 0, 0]) (L' := [⟨some (b1, 0), e8 r_1.toList⟩, ⟨some (b1, 256), [sl (some (b4, 0)) ((w64 (n1 + 7)).toNat) ((w64 (n1 + 7)).toNat)]⟩, ⟨some (b4, 0), eF (fun V : Vector (BitVec 8) 16 => e8 V.toList) m_6⟩, ⟨some (b2, 0), eF (fun V : Vector (BitVec 8) 4 => e8 V.toList) t_1⟩]) rfl ?_
            obtain rfl := Option.some.inj H
            exact fun a w hs => hK (w64 (s3.1 + 1), m_6) rfl () a w hs
          · replace H := ite_f (of_decide_eq_false hc) H
            refine TC_exit ?_
            refine TX_then_exit ?_
            refine TX_then_exit ?_
            refine TX.sub (m' := [(4, ptr (some (b1, 0)) 0)]) ⟨rfl, trivial⟩ ?_
            refine TX.pull (is := [0, 0, 0]) (L' := [⟨some (b1, 0), e8 r_1.toList⟩, ⟨some (b1, 256), [sl (some (b4, 0)) ((w64 (n1 + 7)).toNat) ((w64 (n1 + 7)).toNat)]⟩, ⟨some (b4, 0), eF (fun V : Vector (BitVec 8) 16 => e8 V.toList) s3.2⟩]) rfl ?_
            obtain rfl := Option.some.inj H
            exact hE s3.2 rfl ()
        · intro g
          refine TX_block_exit ?_
          refine TX_next ?_
          refine TC_seq ?_
          refine TC_region ?_
          refine TL_v rfl rfl rfl (V_move rfl) ?_
          refine TL_v rfl rfl rfl (V_assign rfl) ?_
          refine TL_v rfl rfl rfl (V_assign rfl) ?_
          refine TL_nil ?_
          refine TX_next ?_
          refine TC_ret ?_
          have hrv := Option.some.inj H
          subst hrv
          exact TX_ret (rs := [.tmp 2, .tmp 3]) (vs := [ptr (some (b1, 0)) 0, vb true]) rfl ⟨rfl, rfl, trivial⟩ (fun w' hs' => ⟨((), (b1, b4)), rfl, Step.left (Step.pulled (is := [0, 0, 0]) (A := [⟨some (b1, 0), e8 r_1.toList⟩, ⟨some (b1, 256), [sl (some (b4, 0)) ((w64 (n1 + 7)).toNat) ((w64 (n1 + 7)).toNat)]⟩, ⟨some (b4, 0), eF (fun V : Vector (BitVec 8) 16 => e8 V.toList) t_4⟩]) hs' rfl)⟩)
  · replace H := ite_f (of_decide_eq_false hc) H
    refine TL_skip rfl rfl rfl rfl rfl rfl rfl ?_
    refine TL_skip rfl rfl rfl rfl rfl rfl rfl ?_
    refine TL_skip rfl rfl rfl rfl rfl rfl rfl ?_
    refine TL_v rfl rfl rfl (V_pick (b := false) rfl rfl) ?_
    refine TL_nil ?_
    refine TX_next ?_
    refine TC_cond_f rfl ?_
    refine TC_skip ?_
    refine TX_next ?_
    refine TC_seq ?_
    refine TC_region ?_
    obtain ⟨r_3, hr_3, H⟩ := bind_elim H
    refine TL_e rfl rfl rfl (E_call (Γ := Unit) (val := fun g => Value.agg (flat [(256, e8 r_3.toList)]).toArray) (mem := fun g => []) (vs := []) (Lin := []) (Ro := []) (is := []) rfl Try.call81 (F81_calls r_3 hr_3) rfl trivial) (fun g_3 => ?_)
    refine TL_v rfl rfl rfl (V_buildStruct (pv := [(0, Value.agg (flat [(256, e8 r_3.toList)]).toArray)]) (pl := [(0, 256), (256, 1)]) rfl rfl Try.underlying124 TryI.inf124 TryI.places124 TryI.zer124 (cs := flat [(256, e8 r_3.toList), (1, [sl none 0 0])]) (fill_part [] [(1, [sl none 0 0])] rfl rfl trivial rfl (lenV (f := v8) (Vector.replicate 256 0#8)) (lenV (f := v8) r_3) fill_end)) ?_
    refine TL_e rfl rfl rfl (E_boxP [(256, e8 r_3.toList), (1, [sl none 0 0])] rfl rfl ⟨(lenV (f := v8) r_3), rfl, trivial⟩) (fun b5 => ?_)
    refine TL_gen (Lf := fun An2 => [⟨some (b5, 0), e8 r_3.toList⟩, ⟨some (b5, 256), [sl An2 ((([] : List (Vector (BitVec 8) 16))).length) ((([] : List (Vector (BitVec 8) 16)) ++ ([] : List (Vector (BitVec 8) 16))).length)]⟩]) (z := eF (fun V : Vector (BitVec 8) 16 => e8 V.toList) (([] : List (Vector (BitVec 8) 16)) ++ ([] : List (Vector (BitVec 8) 16)))) rfl rfl (fun An2 => ?_)
    refine TL_v rfl rfl rfl (V_assign rfl) ?_
    refine TL_nil ?_
    refine TX_next ?_
    refine TC_seq ?_
    refine TC_region ?_
    refine TL_v rfl rfl rfl (V_move rfl) ?_
    refine TL_v rfl rfl rfl (V_len_str rfl Try.underlying9) ?_
    refine TL_v rfl rfl rfl (V_bin rfl rfl (fun w => quoI w ((key).length : Int) 4 (by decide))) ?_
    refine TL_v rfl rfl rfl (V_assign rfl) ?_
    obtain ⟨n2, hn2, H⟩ := ltt_elim H
    refine TL_re (d := 5) (v := vi (w64 (((key).length : Int).tdiv 4))) (v' := vi n2) rfl (congrArg vi hn2) ?_
    refine TL_nil ?_
    refine TX_next ?_
    refine TC_seq ?_
    refine TC_region ?_
    refine TL_v rfl rfl rfl (V_move rfl) ?_
    refine TL_v rfl rfl rfl (V_bin rfl rfl (fun w => addI w n2 7)) ?_
    refine TL_v rfl rfl rfl (V_bin rfl rfl (fun w => mulI w 4 (w64 (n2 + 7)))) ?_
    obtain ⟨h27, H⟩ := if_elim H
    refine TL_e rfl rfl rfl (E_mkN rfl rfl Try.underlying74 TryI.inf125 TryI.zer125 (by kernel_rfl) rfl rfl (B := 4) rfl h27.1 (Int.le_refl _) (by have := h27; omega) (by have := h27; omega) (n' := (w64 (4 * (w64 (n2 + 7)))).toNat) (c' := (w64 (4 * (w64 (n2 + 7)))).toNat) rfl rfl (cs := eF (fun V : Vector (BitVec 8) 4 => e8 V.toList) (List.replicate ((w64 (4 * (w64 (n2 + 7)))).toNat) (Vector.replicate 4 0#8))) (rep_eF (g := fun V : Vector (BitVec 8) 4 => e8 V.toList))) (fun b6 => ?_)
    refine TL_v rfl rfl rfl (V_assign rfl) ?_
    refine TL_nil ?_
    refine TX_next ?_
    refine TC_seq ?_
    refine TC_region ?_
    refine TL_v rfl rfl rfl (V_assign rfl) ?_
    refine TL_nil ?_
    refine TX_next ?_
    refine TC_seq ?_
    refine TC_seq ?_
    refine TC_region ?_
    refine TL_v rfl rfl rfl (V_move rfl) ?_
    refine TL_v rfl rfl rfl (V_len_slice rfl Try.underlying74) ?_
    refine TL_v rfl rfl rfl (V_move rfl) ?_
    refine TL_nil ?_
    refine TX_next ?_
    refine TC_block ?_
    obtain ⟨t_5, Hl, H⟩ := bind_elim H
    refine TC.sub (m' := [(0, vs key), (4, ptr (some (b5, 0)) 0), (5, vi n2), (6, sl (some (b6, 0)) ((w64 (4 * (w64 (n2 + 7)))).toNat) ((w64 (4 * (w64 (n2 + 7)))).toNat)), (7, v8 1#8), (32, vi ((w64 (4 * (w64 (n2 + 7)))).toNat : Int)), (33, vi 0)]) ⟨rfl, rfl, rfl, rfl, rfl, rfl, rfl, trivial⟩ ?_
    refine TC.pull (is := [2, 2, 1, 0]) (L' := [⟨some (b5, 0), e8 r_3.toList⟩, ⟨some (b5, 256), [sl An2 ((([] : List (Vector (BitVec 8) 16))).length) ((([] : List (Vector (BitVec 8) 16)) ++ ([] : List (Vector (BitVec 8) 16))).length)]⟩, ⟨An2, eF (fun V : Vector (BitVec 8) 16 => e8 V.toList) (([] : List (Vector (BitVec 8) 16)) ++ ([] : List (Vector (BitVec 8) 16)))⟩, ⟨some (b6, 0), eF (fun V : Vector (BitVec 8) 4 => e8 V.toList) (List.replicate ((w64 (4 * (w64 (n2 + 7)))).toNat) (Vector.replicate 4 0#8))⟩]) rfl ?_
    refine TC_loopL (id := 0) (body := (aes_New.b4 key r_3 n2)) (σ := BitVec 8 × Int × List (Vector (BitVec 8) 4)) (Γ := Unit) (Γx := Unit) (fun s4 g4_ => [(0, vs key), (4, ptr (some (b5, 0)) 0), (5, vi n2), (6, sl (some (b6, 0)) ((w64 (4 * (w64 (n2 + 7)))).toNat) ((w64 (4 * (w64 (n2 + 7)))).toNat)), (7, v8 s4.1), (32, vi ((w64 (4 * (w64 (n2 + 7)))).toNat : Int)), (33, vi s4.2.1)]) (fun s4 g4_ => [⟨some (b5, 0), e8 r_3.toList⟩, ⟨some (b5, 256), [sl An2 ((([] : List (Vector (BitVec 8) 16))).length) ((([] : List (Vector (BitVec 8) 16)) ++ ([] : List (Vector (BitVec 8) 16))).length)]⟩, ⟨An2, eF (fun V : Vector (BitVec 8) 16 => e8 V.toList) (([] : List (Vector (BitVec 8) 16)) ++ ([] : List (Vector (BitVec 8) 16)))⟩, ⟨some (b6, 0), eF (fun V : Vector (BitVec 8) 4 => e8 V.toList) s4.2.2⟩]) (fun t g => [(4, ptr (some (b5, 0)) 0), (5, vi n2), (6, sl (some (b6, 0)) ((w64 (4 * (w64 (n2 + 7)))).toNat) ((w64 (4 * (w64 (n2 + 7)))).toNat))]) (fun t g => [⟨some (b5, 0), e8 r_3.toList⟩, ⟨some (b5, 256), [sl An2 ((([] : List (Vector (BitVec 8) 16))).length) ((([] : List (Vector (BitVec 8) 16)) ++ ([] : List (Vector (BitVec 8) 16))).length)]⟩, ⟨An2, eF (fun V : Vector (BitVec 8) 16 => e8 V.toList) (([] : List (Vector (BitVec 8) 16)) ++ ([] : List (Vector (BitVec 8) 16)))⟩, ⟨some (b6, 0), eF (fun V : Vector (BitVec 8) 4 => e8 V.toList) t⟩]) ?_ BIG (1#8, 0, List.replicate ((w64 (4 * (w64 (n2 + 7)))).toNat) (Vector.replicate 4 0#8)) () t_5 Hl ?_
    · intro s4 g4_ r1 H K hK hE
      unfold aes_New.b4 at H
      refine TC_seq ?_
      refine TC_region ?_
      refine TL_v rfl rfl rfl (V_bin rfl rfl (fun w => lssI w s4.2.1 ((w64 (4 * (w64 (n2 + 7)))).toNat : Int))) ?_
      refine TL_nil ?_
      refine TX_next ?_
      refine TC_seq ?_
      refine TC_cond (b := (decide (s4.2.1 < ((w64 (4 * (w64 (n2 + 7)))).toNat : Int)))) rfl (fun hc => ?_) (fun hc => ?_)
      · replace H := ite_t (of_decide_eq_true hc) H
        refine TC_skip ?_
        refine TX_next ?_
        refine TC_seq ?_
        refine TC_block ?_
        refine TC_seq ?_
        refine TC_region ?_
        refine TL_v rfl rfl rfl (V_move rfl) ?_
        refine TL_v rfl rfl rfl (V_assign rfl) ?_
        refine TL_nil ?_
        refine TX_next ?_
        refine TC_seq ?_
        refine TC_seq ?_
        refine TC_region ?_
        refine TL_v rfl rfl rfl (V_move rfl) ?_
        refine TL_v rfl rfl rfl (V_move rfl) ?_
        refine TL_v rfl rfl rfl (V_bin rfl rfl (fun w => lssI w s4.2.1 n2)) ?_
        refine TL_nil ?_
        refine TX_next ?_
        refine TC_cond (b := (decide (s4.2.1 < n2))) rfl (fun hc => ?_) (fun hc => ?_)
        · replace H := ite_t (of_decide_eq_true hc) H
          refine TC_seq ?_
          obtain ⟨h28, H⟩ := if_elim H
          obtain ⟨h29, H⟩ := if_elim H
          obtain ⟨h30, H⟩ := if_elim H
          obtain ⟨h31, H⟩ := if_elim H
          obtain ⟨m_7, hm_7, H⟩ := ltt_elim H
          refine TA_begin [⟨some (b5, 0), e8 r_3.toList⟩, ⟨some (b5, 256), [sl An2 ((([] : List (Vector (BitVec 8) 16))).length) ((([] : List (Vector (BitVec 8) 16)) ++ ([] : List (Vector (BitVec 8) 16))).length)]⟩, ⟨An2, eF (fun V : Vector (BitVec 8) 16 => e8 V.toList) (([] : List (Vector (BitVec 8) 16)) ++ ([] : List (Vector (BitVec 8) 16)))⟩] 9 (by kernel_rfl) (N := 9) rfl ?_
          refine TA_take (i := 0) (is := [0, 0, 0]) (done' := #[true, false, false, false, false, false, false, false, false]) rfl rfl rfl rfl (by kernel_rfl) (QP.then (QP.then (QP.block (QP.then (QP.then (QP.block (QP.then QP.body))))))) (by kernel_rfl) rfl (V_move rfl) ?_
          refine TA_take (i := 1) (is := [0, 0, 0]) (done' := #[true, true, false, false, false, false, false, false, false]) rfl rfl rfl rfl (by kernel_rfl) (QP.then (QP.then (QP.block (QP.then (QP.then (QP.block (QP.then QP.body))))))) (by kernel_rfl) rfl (V_move rfl) ?_
          refine TA_take (i := 2) (is := [0, 0, 0]) (done' := #[true, true, true, false, false, false, false, false, false]) rfl rfl rfl rfl (by kernel_rfl) (QP.then (QP.then (QP.block (QP.then (QP.then (QP.block (QP.then QP.body))))))) (by kernel_rfl) rfl (V_idxSl (i := s4.2.1) rfl rfl Try.underlying74 TryI.inf125 rfl (fun _ h => by cases h) h28.1 h28.2 (k := ((s4.2.1).toNat) * 4) rfl) ?_
          refine TA_take (i := 3) (is := [0, 0, 0]) (done' := #[true, true, true, true, false, false, false, false, false]) rfl rfl rfl rfl (by kernel_rfl) (QP.then (QP.then (QP.block (QP.then (QP.then (QP.block (QP.then QP.body))))))) (by kernel_rfl) rfl (V_sliceWin (l := 0) (h := 4) rfl (by simp) Try.underlying125 TryI.inf5 rfl Bnd.none' Bnd.none' (Nat.zero_le _) (Nat.le_refl _) (by decide)) ?_
          refine TA_take (i := 4) (is := [0, 0, 0]) (done' := #[true, true, true, true, true, false, false, false, false]) rfl rfl rfl rfl (by kernel_rfl) (QP.then (QP.then (QP.block (QP.then (QP.then (QP.block (QP.then QP.body))))))) (by kernel_rfl) rfl (V_move rfl) ?_
          refine TA_take (i := 5) (is := [0, 0, 0]) (done' := #[true, true, true, true, true, true, false, false, false]) rfl rfl rfl rfl (by kernel_rfl) (QP.then (QP.then (QP.block (QP.then (QP.then (QP.block (QP.then QP.body))))))) (by kernel_rfl) rfl (V_move rfl) ?_
          refine TA_take (i := 6) (is := [0, 0, 0]) (done' := #[true, true, true, true, true, true, true, false, false]) rfl rfl rfl rfl (by kernel_rfl) (QP.then (QP.then (QP.block (QP.then (QP.then (QP.block (QP.then QP.body))))))) (by kernel_rfl) rfl (V_bin rfl rfl (fun w => mulI w 4 s4.2.1)) ?_
          refine TA_take (i := 7) (is := [0, 0, 0]) (done' := #[true, true, true, true, true, true, true, true, false]) rfl rfl rfl rfl (by kernel_rfl) (QP.then (QP.then (QP.block (QP.then (QP.then (QP.block (QP.then QP.body))))))) (by kernel_rfl) rfl (V_sliceStr (l := (w64 (4 * s4.2.1)).toNat) (h := (key).length) rfl Try.underlying9 (Bnd.some' (i := w64 (4 * s4.2.1)) rfl h30) Bnd.none' h31 (Nat.le_refl _)) ?_
          refine TA_all (rs := [8]) (by kernel_rfl) rfl ?_
          refine ⟨?_, trivial⟩
          refine TO_e (is := [0, 0, 0]) (done' := #[true, true, true, true, true, true, true, true, true]) rfl rfl rfl rfl (by kernel_rfl) (E_copyStr (o := ((s4.2.1).toNat) * 4 + 0) (j := 3) rfl rfl (by simp) Try.underlying30 TryI.inf5 rfl rfl (copy_row (n := 4) (l := 0) (d := 4 - 0) h29 (by omega)) (cs' := eF (fun V : Vector (BitVec 8) 4 => e8 V.toList) (s4.2.2.set ((s4.2.1).toNat) (vsp (lg s4.2.2 ((s4.2.1).toNat)) 0 ((sub key ((w64 (4 * s4.2.1)).toNat) ((key).length)).take (min ((sub key ((w64 (4 * s4.2.1)).toNat) ((key).length)).length) (4 - 0)))))) (splice_lvec h29 (take_room (n := 4) (l := 0) (d := 4 - 0) (by omega)))) (fun _ _ => rfl) (fun _ => ?_)
          refine TA_reE (j := 3) (A := some (b6, 0)) (cs := eF (fun V : Vector (BitVec 8) 4 => e8 V.toList) (s4.2.2.set ((s4.2.1).toNat) (vsp (lg s4.2.2 ((s4.2.1).toNat)) 0 ((sub key ((w64 (4 * s4.2.1)).toNat) ((key).length)).take (min ((sub key ((w64 (4 * s4.2.1)).toNat) ((key).length)).length) (4 - 0)))))) (cs' := eF (fun V : Vector (BitVec 8) 4 => e8 V.toList) m_7) rfl (congrArg (eF (fun V : Vector (BitVec 8) 4 => e8 V.toList)) hm_7) ?_
          refine TA_done (by kernel_rfl) ?_ 0
          refine TX_next ?_
          refine TC_exit ?_
          refine TX_then_exit ?_
          refine TX_block_exit ?_
          refine TX_next ?_
          refine TC_region ?_
          refine TL_v rfl rfl rfl (V_bin rfl rfl (fun w => addI w s4.2.1 1)) ?_
          refine TL_v rfl rfl rfl (V_move rfl) ?_
          refine TL_nil ?_
          refine TX.sub (m' := [(0, vs key), (4, ptr (some (b5, 0)) 0), (5, vi n2), (6, sl (some (b6, 0)) ((w64 (4 * (w64 (n2 + 7)))).toNat) ((w64 (4 * (w64 (n2 + 7)))).toNat)), (7, v8 s4.1), (32, vi ((w64 (4 * (w64 (n2 + 7)))).toNat : Int)), (33, vi (w64 (s4.2.1 + 1)))]) ⟨rfl, rfl, rfl, rfl, rfl, rfl, rfl, trivial⟩ ?_
          refine TX.pull (is := [0, 0, 0, 0]) (L' := [⟨some (b5, 0), e8 r_3.toList⟩, ⟨some (b5, 256), [sl An2 ((([] : List (Vector (BitVec 8) 16))).length) ((([] : List (Vector (BitVec 8) 16)) ++ ([] : List (Vector (BitVec 8) 16))).length)]⟩, ⟨An2, eF (fun V : Vector (BitVec 8) 16 => e8 V.toList) (([] : List (Vector (BitVec 8) 16)) ++ ([] : List (Vector (BitVec 8) 16)))⟩, ⟨some (b6, 0), eF (fun V : Vector (BitVec 8) 4 => e8 V.toList) m_7⟩]) rfl ?_
          obtain rfl := Option.some.inj H
          exact fun a w hs => hK (s4.1, w64 (s4.2.1 + 1), m_7) rfl () a w hs
        · replace H := ite_f (of_decide_eq_false hc) H
          refine TC_skip ?_
          refine TX_next ?_
          refine TC_seq ?_
          refine TC_region ?_
          refine TL_v rfl rfl rfl (V_move rfl) ?_
          refine TL_v rfl rfl rfl (V_move rfl) ?_
          refine TL_v rfl rfl rfl (V_bin rfl rfl (fun w => subI w s4.2.1 1)) ?_
          obtain ⟨h32, H⟩ := if_elim H
          obtain ⟨h33, H⟩ := if_elim H
          refine TL_v rfl rfl rfl (V_idxSl (i := w64 (s4.2.1 - 1)) rfl rfl Try.underlying74 TryI.inf125 rfl (fun _ h => by cases h) h32.1 h32.2 (k := ((w64 (s4.2.1 - 1)).toNat) * 4) rfl) ?_
          refine TL_v rfl rfl rfl (V_loadPart (n := 4) (ds := e8 ((lg s4.2.2 ((w64 (s4.2.1 - 1)).toNat)).toList)) rfl (Src.own (j := 3) rfl) (part_eF (g := fun V : Vector (BitVec 8) 4 => e8 V.toList) (s := 4) (fun _ => by simp) s4.2.2 ((w64 (s4.2.1 - 1)).toNat) h33) (by simp) rfl Try.isAgg125 TryI.inf125 rfl) ?_
          refine TL_e rfl rfl rfl (E_allocP [(4, e8 ((Vector.replicate 4 0#8).toList))] TryI.inf125 TryI.zer125 ⟨(lenV (f := v8) (Vector.replicate 4 0#8)), trivial⟩) (fun b7 => ?_)
          refine TL_n rfl rfl (E_storeAgg (n := 4) (j := 0) (vs := e8 ((lg s4.2.2 ((w64 (s4.2.1 - 1)).toNat)).toList)) rfl rfl TryI.inf125 rfl (lenV (f := v8) (lg s4.2.2 ((w64 (s4.2.1 - 1)).toNat))) (OneC.map (fun _ => rfl) _) rfl (Nat.le_of_eq (by simp)) (cs' := e8 ((lg s4.2.2 ((w64 (s4.2.1 - 1)).toNat)).toList)) (splice_all (by simp))) (fun _ => ?_)
          obtain ⟨m_8, hm_8, H⟩ := ltt_elim H
          refine TL_reE (j := 0) (A := some (b7, 0)) (cs := e8 ((lg s4.2.2 ((w64 (s4.2.1 - 1)).toNat)).toList)) (cs' := e8 m_8.toList) rfl (congrArg (fun z : Vector (BitVec 8) 4 => e8 (Vector.toList z)) hm_8) ?_
          refine TL_nil ?_
          refine TX_next ?_
          refine TC_seq ?_
          refine TC_seq ?_
          refine TC_region ?_
          refine TL_v rfl rfl rfl (V_move rfl) ?_
          refine TL_v rfl rfl rfl (V_move rfl) ?_
          obtain ⟨h34, H⟩ := if_elim H
          refine TL_v rfl rfl rfl (V_bin rfl rfl (fun w => remI w s4.2.1 n2 h34)) ?_
          refine TL_v rfl rfl rfl (V_bin rfl rfl (fun w => eqlI w (s4.2.1.tmod n2) 0)) ?_
          refine TL_nil ?_
          refine TX_next ?_
          obtain ⟨j2, Hj, H⟩ := bind_elim H
          refine TC_join (Γ := Unit) (fun gj2 => [(0, vs key), (4, ptr (some (b5, 0)) 0), (5, vi n2), (6, sl (some (b6, 0)) ((w64 (4 * (w64 (n2 + 7)))).toNat) ((w64 (4 * (w64 (n2 + 7)))).toNat)), (7, v8 j2.1), (8, vi s4.2.1), (9, ptr (some (b7, 0)) 0), (32, vi ((w64 (4 * (w64 (n2 + 7)))).toNat : Int)), (33, vi s4.2.1)]) (fun gj2 => [⟨some (b5, 0), e8 r_3.toList⟩, ⟨some (b5, 256), [sl An2 ((([] : List (Vector (BitVec 8) 16))).length) ((([] : List (Vector (BitVec 8) 16)) ++ ([] : List (Vector (BitVec 8) 16))).length)]⟩, ⟨An2, eF (fun V : Vector (BitVec 8) 16 => e8 V.toList) (([] : List (Vector (BitVec 8) 16)) ++ ([] : List (Vector (BitVec 8) 16)))⟩, ⟨some (b6, 0), eF (fun V : Vector (BitVec 8) 4 => e8 V.toList) s4.2.2⟩, ⟨some (b7, 0), e8 j2.2.toList⟩]) ?_ ?_
          · intro gj2
            refine TX_next ?_
            refine TC_seq ?_
            refine TC_region ?_
            refine TL_v rfl rfl rfl (V_move rfl) ?_
            refine TL_nil ?_
            refine TX_next ?_
            refine TC_block ?_
            obtain ⟨t_6, Hl, H⟩ := bind_elim H
            refine TC.sub (m' := [(0, vs key), (4, ptr (some (b5, 0)) 0), (5, vi n2), (6, sl (some (b6, 0)) ((w64 (4 * (w64 (n2 + 7)))).toNat) ((w64 (4 * (w64 (n2 + 7)))).toNat)), (7, v8 j2.1), (8, vi s4.2.1), (9, ptr (some (b7, 0)) 0), (32, vi ((w64 (4 * (w64 (n2 + 7)))).toNat : Int)), (33, vi s4.2.1), (112, vi 0)]) ⟨rfl, rfl, rfl, rfl, rfl, rfl, rfl, rfl, rfl, rfl, trivial⟩ ?_
            refine TC.pull (is := [0, 0, 0, 0, 0]) (L' := [⟨some (b5, 0), e8 r_3.toList⟩, ⟨some (b5, 256), [sl An2 ((([] : List (Vector (BitVec 8) 16))).length) ((([] : List (Vector (BitVec 8) 16)) ++ ([] : List (Vector (BitVec 8) 16))).length)]⟩, ⟨An2, eF (fun V : Vector (BitVec 8) 16 => e8 V.toList) (([] : List (Vector (BitVec 8) 16)) ++ ([] : List (Vector (BitVec 8) 16)))⟩, ⟨some (b6, 0), eF (fun V : Vector (BitVec 8) 4 => e8 V.toList) s4.2.2⟩, ⟨some (b7, 0), e8 j2.2.toList⟩]) rfl ?_
            refine TC_loopL (id := 4) (body := (aes_New.b5 n2 s4 j2)) (σ := Int × List (Vector (BitVec 8) 4)) (Γ := Unit) (Γx := Unit) (fun s5 g5_ => [(0, vs key), (4, ptr (some (b5, 0)) 0), (5, vi n2), (6, sl (some (b6, 0)) ((w64 (4 * (w64 (n2 + 7)))).toNat) ((w64 (4 * (w64 (n2 + 7)))).toNat)), (7, v8 j2.1), (8, vi s4.2.1), (9, ptr (some (b7, 0)) 0), (32, vi ((w64 (4 * (w64 (n2 + 7)))).toNat : Int)), (33, vi s4.2.1), (112, vi s5.1)]) (fun s5 g5_ => [⟨some (b5, 0), e8 r_3.toList⟩, ⟨some (b5, 256), [sl An2 ((([] : List (Vector (BitVec 8) 16))).length) ((([] : List (Vector (BitVec 8) 16)) ++ ([] : List (Vector (BitVec 8) 16))).length)]⟩, ⟨An2, eF (fun V : Vector (BitVec 8) 16 => e8 V.toList) (([] : List (Vector (BitVec 8) 16)) ++ ([] : List (Vector (BitVec 8) 16)))⟩, ⟨some (b6, 0), eF (fun V : Vector (BitVec 8) 4 => e8 V.toList) s5.2⟩, ⟨some (b7, 0), e8 j2.2.toList⟩]) (fun t g => [(0, vs key), (4, ptr (some (b5, 0)) 0), (5, vi n2), (6, sl (some (b6, 0)) ((w64 (4 * (w64 (n2 + 7)))).toNat) ((w64 (4 * (w64 (n2 + 7)))).toNat)), (7, v8 j2.1), (32, vi ((w64 (4 * (w64 (n2 + 7)))).toNat : Int)), (33, vi s4.2.1)]) (fun t g => [⟨some (b5, 0), e8 r_3.toList⟩, ⟨some (b5, 256), [sl An2 ((([] : List (Vector (BitVec 8) 16))).length) ((([] : List (Vector (BitVec 8) 16)) ++ ([] : List (Vector (BitVec 8) 16))).length)]⟩, ⟨An2, eF (fun V : Vector (BitVec 8) 16 => e8 V.toList) (([] : List (Vector (BitVec 8) 16)) ++ ([] : List (Vector (BitVec 8) 16)))⟩, ⟨some (b6, 0), eF (fun V : Vector (BitVec 8) 4 => e8 V.toList) t⟩]) ?_ BIG (0, s4.2.2) () t_6 Hl ?_
            · intro s5 g5_ r1 H K hK hE
              unfold aes_New.b5 at H
              refine TC_seq ?_
              refine TC_region ?_
              refine TL_v rfl rfl rfl (V_bin rfl rfl (fun w => lssI w s5.1 4)) ?_
              refine TL_nil ?_
              refine TX_next ?_
              refine TC_seq ?_
              refine TC_cond (b := (decide (s5.1 < 4))) rfl (fun hc => ?_) (fun hc => ?_)
              · replace H := ite_t (of_decide_eq_true hc) H
                refine TC_skip ?_
                refine TX_next ?_
                refine TC_seq ?_
                refine TC_block ?_
                refine TC_seq ?_
                refine TC_region ?_
                refine TL_v rfl rfl rfl (V_move rfl) ?_
                refine TL_v rfl rfl rfl (V_assign rfl) ?_
                refine TL_nil ?_
                refine TX_next ?_
                obtain ⟨h35, H⟩ := if_elim H
                obtain ⟨h36, H⟩ := if_elim H
                obtain ⟨h37, H⟩ := if_elim H
                obtain ⟨h38, H⟩ := if_elim H
                obtain ⟨h39, H⟩ := if_elim H
                obtain ⟨h40, H⟩ := if_elim H
                obtain ⟨h41, H⟩ := if_elim H
                obtain ⟨m_9, hm_9, H⟩ := ltt_elim H
                refine TA_begin [⟨some (b5, 0), e8 r_3.toList⟩, ⟨some (b5, 256), [sl An2 ((([] : List (Vector (BitVec 8) 16))).length) ((([] : List (Vector (BitVec 8) 16)) ++ ([] : List (Vector (BitVec 8) 16))).length)]⟩, ⟨An2, eF (fun V : Vector (BitVec 8) 16 => e8 V.toList) (([] : List (Vector (BitVec 8) 16)) ++ ([] : List (Vector (BitVec 8) 16)))⟩, ⟨some (b6, 0), eF (fun V : Vector (BitVec 8) 4 => e8 V.toList) s5.2⟩, ⟨some (b7, 0), e8 j2.2.toList⟩] 17 (by kernel_rfl) (N := 18) rfl ?_
                refine TA_take (i := 0) (is := [0, 0, 0, 0, 0]) (done' := #[true, false, false, false, false, false, false, false, false, false, false, false, false, false, false, false, false, false]) rfl rfl rfl rfl (by kernel_rfl) (QP.block (QP.then (QP.then (QP.block (QP.block (QP.then (QP.then (QP.block (QP.then QP.body))))))))) (by kernel_rfl) rfl (V_move rfl) ?_
                refine TA_take (i := 1) (is := [0, 0, 0, 0, 0]) (done' := #[true, true, false, false, false, false, false, false, false, false, false, false, false, false, false, false, false, false]) rfl rfl rfl rfl (by kernel_rfl) (QP.block (QP.then (QP.then (QP.block (QP.block (QP.then (QP.then (QP.block (QP.then QP.body))))))))) (by kernel_rfl) rfl (V_move rfl) ?_
                refine TA_take (i := 2) (is := [0, 0, 0, 0, 0]) (done' := #[true, true, true, false, false, false, false, false, false, false, false, false, false, false, false, false, false, false]) rfl rfl rfl rfl (by kernel_rfl) (QP.block (QP.then (QP.then (QP.block (QP.block (QP.then (QP.then (QP.block (QP.then QP.body))))))))) (by kernel_rfl) rfl (V_move rfl) ?_
                refine TA_take (i := 3) (is := [0, 0, 0, 0, 0]) (done' := #[true, true, true, true, false, false, false, false, false, false, false, false, false, false, false, false, false, false]) rfl rfl rfl rfl (by kernel_rfl) (QP.block (QP.then (QP.then (QP.block (QP.block (QP.then (QP.then (QP.block (QP.then QP.body))))))))) (by kernel_rfl) rfl (V_move rfl) ?_
                refine TA_take (i := 4) (is := [0, 0, 0, 0, 0]) (done' := #[true, true, true, true, true, false, false, false, false, false, false, false, false, false, false, false, false, false]) rfl rfl rfl rfl (by kernel_rfl) (QP.block (QP.then (QP.then (QP.block (QP.block (QP.then (QP.then (QP.block (QP.then QP.body))))))))) (by kernel_rfl) rfl (V_move rfl) ?_
                refine TA_take (i := 5) (is := [0, 0, 0, 0, 0]) (done' := #[true, true, true, true, true, true, false, false, false, false, false, false, false, false, false, false, false, false]) rfl rfl rfl rfl (by kernel_rfl) (QP.block (QP.then (QP.then (QP.block (QP.block (QP.then (QP.then (QP.block (QP.then QP.body))))))))) (by kernel_rfl) rfl (V_move rfl) ?_
                refine TA_take (i := 6) (is := [0, 0, 0, 0, 0]) (done' := #[true, true, true, true, true, true, true, false, false, false, false, false, false, false, false, false, false, false]) rfl rfl rfl rfl (by kernel_rfl) (QP.block (QP.then (QP.then (QP.block (QP.block (QP.then (QP.then (QP.block (QP.then QP.body))))))))) (by kernel_rfl) rfl (V_bin rfl rfl (fun w => subI w s4.2.1 n2)) ?_
                refine TA_take (i := 7) (is := [0, 0, 0, 0, 0]) (done' := #[true, true, true, true, true, true, true, true, false, false, false, false, false, false, false, false, false, false]) rfl rfl rfl rfl (by kernel_rfl) (QP.block (QP.then (QP.then (QP.block (QP.block (QP.then (QP.then (QP.block (QP.then QP.body))))))))) (by kernel_rfl) rfl (V_move rfl) ?_
                refine TA_take (i := 8) (is := [0, 0, 0, 0, 0]) (done' := #[true, true, true, true, true, true, true, true, true, false, false, false, false, false, false, false, false, false]) rfl rfl rfl rfl (by kernel_rfl) (QP.block (QP.then (QP.then (QP.block (QP.block (QP.then (QP.then (QP.block (QP.then QP.body))))))))) (by kernel_rfl) rfl (V_idxSl (i := w64 (s4.2.1 - n2)) rfl rfl Try.underlying74 TryI.inf125 rfl (fun _ h => by cases h) h35.1 h35.2 (k := ((w64 (s4.2.1 - n2)).toNat) * 4) rfl) ?_
                refine TA_take (i := 9) (is := [0, 0, 0, 0, 0]) (done' := #[true, true, true, true, true, true, true, true, true, true, false, false, false, false, false, false, false, false]) rfl rfl rfl rfl (by kernel_rfl) (QP.block (QP.then (QP.then (QP.block (QP.block (QP.then (QP.then (QP.block (QP.then QP.body))))))))) (by kernel_rfl) rfl (V_idxArr (i := s5.1) rfl rfl Try.underlying125 TryI.inf5 rfl h37.1 h37.2 (k := ((w64 (s4.2.1 - n2)).toNat) * 4 + (s5.1).toNat) (k1 _ _)) ?_
                refine TA_take (i := 10) (is := [0, 0, 0, 0, 0]) (done' := #[true, true, true, true, true, true, true, true, true, true, true, false, false, false, false, false, false, false]) rfl rfl rfl rfl (by kernel_rfl) (QP.block (QP.then (QP.then (QP.block (QP.block (QP.then (QP.then (QP.block (QP.then QP.body))))))))) (by kernel_rfl) rfl (V_load rfl (Src.own (j := 3) rfl) ((get_eF (g := fun V : Vector (BitVec 8) 4 => e8 V.toList) (s := 4) (fun _ => by simp) s5.2 ((w64 (s4.2.1 - n2)).toNat) ((s5.1).toNat) h36 (toNat_lt h37.1 h37.2)).trans (get_vec (toNat_lt h37.1 h37.2))) Try.isAgg5) ?_
                refine TA_take (i := 11) (is := [0, 0, 0, 0, 0]) (done' := #[true, true, true, true, true, true, true, true, true, true, true, true, false, false, false, false, false, false]) rfl rfl rfl rfl (by kernel_rfl) (QP.block (QP.then (QP.then (QP.block (QP.block (QP.then (QP.then (QP.block (QP.then QP.body))))))))) (by kernel_rfl) rfl (V_move rfl) ?_
                refine TA_take (i := 12) (is := [0, 0, 0, 0, 0]) (done' := #[true, true, true, true, true, true, true, true, true, true, true, true, true, false, false, false, false, false]) rfl rfl rfl rfl (by kernel_rfl) (QP.block (QP.then (QP.then (QP.block (QP.block (QP.then (QP.then (QP.block (QP.then QP.body))))))))) (by kernel_rfl) rfl (V_idxArr (i := s5.1) rfl rfl Try.underlying125 TryI.inf5 rfl h38.1 h38.2 (k := (s5.1).toNat) (k01 _)) ?_
                refine TA_take (i := 13) (is := [0, 0, 0, 0, 0]) (done' := #[true, true, true, true, true, true, true, true, true, true, true, true, true, true, false, false, false, false]) rfl rfl rfl rfl (by kernel_rfl) (QP.block (QP.then (QP.then (QP.block (QP.block (QP.then (QP.then (QP.block (QP.then QP.body))))))))) (by kernel_rfl) rfl (V_load rfl (Src.own (j := 4) rfl) (get_vec (f := v8) (V := j2.2) (toNat_lt h38.1 h38.2)) Try.isAgg5) ?_
                refine TA_take (i := 14) (is := [0, 0, 0, 0, 0]) (done' := #[true, true, true, true, true, true, true, true, true, true, true, true, true, true, true, false, false, false]) rfl rfl rfl rfl (by kernel_rfl) (QP.block (QP.then (QP.then (QP.block (QP.block (QP.then (QP.then (QP.block (QP.then QP.body))))))))) (by kernel_rfl) rfl (V_bin rfl rfl (fun w => xor8 w (vg (lg s5.2 ((w64 (s4.2.1 - n2)).toNat)) ((s5.1).toNat)) (vg j2.2 ((s5.1).toNat)))) ?_
                refine TA_all (rs := [15]) (by kernel_rfl) rfl ?_
                refine ⟨?_, trivial⟩
                refine TO_v (is := [0, 0, 0, 0, 0]) (done' := #[true, true, true, true, true, true, true, true, true, true, true, true, true, true, true, true, false, false]) rfl rfl rfl rfl (by kernel_rfl) (V_idxSl (i := s4.2.1) rfl rfl Try.underlying74 TryI.inf125 rfl (fun _ h => by cases h) h39.1 h39.2 (k := ((s4.2.1).toNat) * 4) rfl) (fun _ => rfl) ?_
                refine TA_take (i := 16) (is := [0, 0, 0, 0, 0]) (done' := #[true, true, true, true, true, true, true, true, true, true, true, true, true, true, true, true, true, false]) rfl rfl rfl rfl (by kernel_rfl) (QP.block (QP.then (QP.then (QP.block (QP.block (QP.then (QP.then (QP.block (QP.then QP.body))))))))) (by kernel_rfl) rfl (V_idxArr (i := s5.1) rfl rfl Try.underlying125 TryI.inf5 rfl h41.1 h41.2 (k := ((s4.2.1).toNat) * 4 + (s5.1).toNat) (k1 _ _)) ?_
                refine TA_all (rs := [17]) (by kernel_rfl) rfl ?_
                refine ⟨?_, trivial⟩
                refine TO_n (is := []) (R := fun _ => []) (done' := #[true, true, true, true, true, true, true, true, true, true, true, true, true, true, true, true, true, true]) rfl rfl rfl (by kernel_rfl) (E_store (j := 3) rfl rfl TryI.inf5 rfl rfl rfl (lt_eF (g := fun V : Vector (BitVec 8) 4 => e8 V.toList) (s := 4) (fun _ => by simp) h40 (toNat_lt h41.1 h41.2)) (cs' := eF (fun V : Vector (BitVec 8) 4 => e8 V.toList) (s5.2.set ((s4.2.1).toNat) (vp (lg s5.2 ((s4.2.1).toNat)) ((s5.1).toNat) ((vg (lg s5.2 ((w64 (s4.2.1 - n2)).toNat)) ((s5.1).toNat)) ^^^ (vg j2.2 ((s5.1).toNat)))))) (set_eF (g := fun V : Vector (BitVec 8) 4 => e8 V.toList) (s := 4) (fun _ => by simp) s5.2 ((s4.2.1).toNat) ((s5.1).toNat) _ _ h40 (toNat_lt h41.1 h41.2) set_vec)) (fun h => by cases h) (fun _ => ?_)
                refine TA_reE (j := 3) (A := some (b6, 0)) (cs := eF (fun V : Vector (BitVec 8) 4 => e8 V.toList) (s5.2.set ((s4.2.1).toNat) (vp (lg s5.2 ((s4.2.1).toNat)) ((s5.1).toNat) ((vg (lg s5.2 ((w64 (s4.2.1 - n2)).toNat)) ((s5.1).toNat)) ^^^ (vg j2.2 ((s5.1).toNat)))))) (cs' := eF (fun V : Vector (BitVec 8) 4 => e8 V.toList) m_9) rfl (congrArg (eF (fun V : Vector (BitVec 8) 4 => e8 V.toList)) hm_9) ?_
                refine TA_done (by kernel_rfl) ?_ 0
                refine TX_block_normal ?_
                refine TX_next ?_
                refine TC_region ?_
                refine TL_v rfl rfl rfl (V_bin rfl rfl (fun w => addI w s5.1 1)) ?_
                refine TL_v rfl rfl rfl (V_move rfl) ?_
                refine TL_nil ?_
                refine TX.sub (m' := [(0, vs key), (4, ptr (some (b5, 0)) 0), (5, vi n2), (6, sl (some (b6, 0)) ((w64 (4 * (w64 (n2 + 7)))).toNat) ((w64 (4 * (w64 (n2 + 7)))).toNat)), (7, v8 j2.1), (8, vi s4.2.1), (9, ptr (some (b7, 0)) 0), (32, vi ((w64 (4 * (w64 (n2 + 7)))).toNat : Int)), (33, vi s4.2.1), (112, vi (w64 (s5.1 + 1)))]) ⟨rfl, rfl, rfl, rfl, rfl, rfl, rfl, rfl, rfl, rfl, trivial⟩ ?_
                refine TX.pull (is := [0, 0, 0, 0, 0]) (L' := [⟨some (b5, 0), e8 r_3.toList⟩, ⟨some (b5, 256), [sl An2 ((([] : List (Vector (BitVec 8) 16))).length) ((([] : List (Vector (BitVec 8) 16)) ++ ([] : List (Vector (BitVec 8) 16))).length)]⟩, ⟨An2, eF (fun V : Vector (BitVec 8) 16 => e8 V.toList) (([] : List (Vector (BitVec 8) 16)) ++ ([] : List (Vector (BitVec 8) 16)))⟩, ⟨some (b6, 0), eF (fun V : Vector (BitVec 8) 4 => e8 V.toList) m_9⟩, ⟨some (b7, 0), e8 j2.2.toList⟩]) rfl ?_
                obtain rfl := Option.some.inj H
                exact fun a w hs => hK (w64 (s5.1 + 1), m_9) rfl () a w hs
              · replace H := ite_f (of_decide_eq_false hc) H
                refine TC_exit ?_
                refine TX_then_exit ?_
                refine TX_then_exit ?_
                refine TX.sub (m' := [(0, vs key), (4, ptr (some (b5, 0)) 0), (5, vi n2), (6, sl (some (b6, 0)) ((w64 (4 * (w64 (n2 + 7)))).toNat) ((w64 (4 * (w64 (n2 + 7)))).toNat)), (7, v8 j2.1), (32, vi ((w64 (4 * (w64 (n2 + 7)))).toNat : Int)), (33, vi s4.2.1)]) ⟨rfl, rfl, rfl, rfl, rfl, rfl, rfl, trivial⟩ ?_
                refine TX.pull (is := [0, 0, 0, 0]) (L' := [⟨some (b5, 0), e8 r_3.toList⟩, ⟨some (b5, 256), [sl An2 ((([] : List (Vector (BitVec 8) 16))).length) ((([] : List (Vector (BitVec 8) 16)) ++ ([] : List (Vector (BitVec 8) 16))).length)]⟩, ⟨An2, eF (fun V : Vector (BitVec 8) 16 => e8 V.toList) (([] : List (Vector (BitVec 8) 16)) ++ ([] : List (Vector (BitVec 8) 16)))⟩, ⟨some (b6, 0), eF (fun V : Vector (BitVec 8) 4 => e8 V.toList) s5.2⟩]) rfl ?_
                obtain rfl := Option.some.inj H
                exact hE s5.2 rfl ()
            · intro g
              refine TX_block_exit ?_
              refine TX_block_normal ?_
              refine TX_next ?_
              refine TC_region ?_
              refine TL_v rfl rfl rfl (V_bin rfl rfl (fun w => addI w s4.2.1 1)) ?_
              refine TL_v rfl rfl rfl (V_move rfl) ?_
              refine TL_nil ?_
              refine TX.sub (m' := [(0, vs key), (4, ptr (some (b5, 0)) 0), (5, vi n2), (6, sl (some (b6, 0)) ((w64 (4 * (w64 (n2 + 7)))).toNat) ((w64 (4 * (w64 (n2 + 7)))).toNat)), (7, v8 j2.1), (32, vi ((w64 (4 * (w64 (n2 + 7)))).toNat : Int)), (33, vi (w64 (s4.2.1 + 1)))]) ⟨rfl, rfl, rfl, rfl, rfl, rfl, rfl, trivial⟩ ?_
              refine TX.pull (is := [0, 0, 0, 0]) (L' := [⟨some (b5, 0), e8 r_3.toList⟩, ⟨some (b5, 256), [sl An2 ((([] : List (Vector (BitVec 8) 16))).length) ((([] : List (Vector (BitVec 8) 16)) ++ ([] : List (Vector (BitVec 8) 16))).length)]⟩, ⟨An2, eF (fun V : Vector (BitVec 8) 16 => e8 V.toList) (([] : List (Vector (BitVec 8) 16)) ++ ([] : List (Vector (BitVec 8) 16)))⟩, ⟨some (b6, 0), eF (fun V : Vector (BitVec 8) 4 => e8 V.toList) t_6⟩]) rfl ?_
              obtain rfl := Option.some.inj H
              exact fun a w hs => hK (j2.1, w64 (s4.2.1 + 1), t_6) rfl () a w hs
          · intro hJ
            replace H := Hj
            refine TC_cond (b := (decide ((s4.2.1.tmod n2) = 0))) rfl (fun hc => ?_) (fun hc => ?_)
            · replace H := ite_t (of_decide_eq_true hc) H
              refine TC_seq ?_
              obtain ⟨m_10, hm_10, H⟩ := ltt_elim H
              refine TA_begin [⟨some (b7, 0), e8 m_8.toList⟩, ⟨some (b5, 0), e8 r_3.toList⟩, ⟨some (b5, 256), [sl An2 ((([] : List (Vector (BitVec 8) 16))).length) ((([] : List (Vector (BitVec 8) 16)) ++ ([] : List (Vector (BitVec 8) 16))).length)]⟩, ⟨An2, eF (fun V : Vector (BitVec 8) 16 => e8 V.toList) (([] : List (Vector (BitVec 8) 16)) ++ ([] : List (Vector (BitVec 8) 16)))⟩, ⟨some (b6, 0), eF (fun V : Vector (BitVec 8) 4 => e8 V.toList) s4.2.2⟩] 31 (by kernel_rfl) (N := 32) rfl ?_
              refine TA_take (i := 0) (is := [0, 0, 0, 0, 0]) (done' := #[true, false, false, false, false, false, false, false, false, false, false, false, false, false, false, false, false, false, false, false, false, false, false, false, false, false, false, false, false, false, false, false]) rfl rfl rfl rfl (by kernel_rfl) (QP.then (QP.then (QP.block (QP.then (QP.then (QP.block (QP.then QP.body))))))) (by kernel_rfl) rfl (V_move rfl) ?_
              refine TA_take (i := 1) (is := [0, 0, 0, 0, 0]) (done' := #[true, true, false, false, false, false, false, false, false, false, false, false, false, false, false, false, false, false, false, false, false, false, false, false, false, false, false, false, false, false, false, false]) rfl rfl rfl rfl (by kernel_rfl) (QP.then (QP.then (QP.block (QP.then (QP.then (QP.block (QP.then QP.body))))))) (by kernel_rfl) rfl (V_idxArr (i := 1) rfl rfl Try.underlying125 TryI.inf5 rfl (by decide) (by decide) (k := 1) (k01 _)) ?_
              refine TA_take (i := 2) (is := [0, 0, 0, 0, 0]) (done' := #[true, true, true, false, false, false, false, false, false, false, false, false, false, false, false, false, false, false, false, false, false, false, false, false, false, false, false, false, false, false, false, false]) rfl rfl rfl rfl (by kernel_rfl) (QP.then (QP.then (QP.block (QP.then (QP.then (QP.block (QP.then QP.body))))))) (by kernel_rfl) rfl (V_load rfl (Src.own (j := 0) rfl) (get_vec (f := v8) (V := m_8) (by decide : 1 < 4)) Try.isAgg5) ?_
              refine TA_take (i := 3) (is := [0, 0, 0, 0, 0]) (done' := #[true, true, true, true, false, false, false, false, false, false, false, false, false, false, false, false, false, false, false, false, false, false, false, false, false, false, false, false, false, false, false, false]) rfl rfl rfl rfl (by kernel_rfl) (QP.then (QP.then (QP.block (QP.then (QP.then (QP.block (QP.then QP.body))))))) (by kernel_rfl) rfl (V_nilCheck rfl) ?_
              refine TA_take (i := 4) (is := [0, 0, 0, 0, 0]) (done' := #[true, true, true, true, true, false, false, false, false, false, false, false, false, false, false, false, false, false, false, false, false, false, false, false, false, false, false, false, false, false, false, false]) rfl rfl rfl rfl (by kernel_rfl) (QP.then (QP.then (QP.block (QP.then (QP.then (QP.block (QP.then QP.body))))))) (by kernel_rfl) rfl (V_fieldE rfl Try.underlying124 rfl rfl TryI.inf120 rfl (v := ptr (some (b5, 0)) 0) rfl) ?_
              refine TA_take (i := 5) (is := [0, 0, 0, 0, 0]) (done' := #[true, true, true, true, true, true, false, false, false, false, false, false, false, false, false, false, false, false, false, false, false, false, false, false, false, false, false, false, false, false, false, false]) rfl rfl rfl rfl (by kernel_rfl) (QP.then (QP.then (QP.block (QP.then (QP.then (QP.block (QP.then QP.body))))))) (by kernel_rfl) rfl (V_idxArr (i := ((vg m_8 1).toNat : Int)) rfl rfl Try.underlying120 TryI.inf5 rfl (Int.natCast_nonneg _) (zb (n := 8) (k := 256) (vg m_8 1) (by decide)) (k := (vg m_8 1).toNat) (k01 _)) ?_
              refine TA_take (i := 6) (is := [0, 0, 0, 0, 0]) (done' := #[true, true, true, true, true, true, true, false, false, false, false, false, false, false, false, false, false, false, false, false, false, false, false, false, false, false, false, false, false, false, false, false]) rfl rfl rfl rfl (by kernel_rfl) (QP.then (QP.then (QP.block (QP.then (QP.then (QP.block (QP.then QP.body))))))) (by kernel_rfl) rfl (V_load rfl (Src.own (j := 1) rfl) (get_vec (f := v8) (V := r_3) (toNat_lt (Int.natCast_nonneg _) (zb (n := 8) (k := 256) (vg m_8 1) (by decide)))) Try.isAgg5) ?_
              refine TA_take (i := 7) (is := [0, 0, 0, 0, 0]) (done' := #[true, true, true, true, true, true, true, true, false, false, false, false, false, false, false, false, false, false, false, false, false, false, false, false, false, false, false, false, false, false, false, false]) rfl rfl rfl rfl (by kernel_rfl) (QP.then (QP.then (QP.block (QP.then (QP.then (QP.block (QP.then QP.body))))))) (by kernel_rfl) rfl (V_move rfl) ?_
              refine TA_take (i := 8) (is := [0, 0, 0, 0, 0]) (done' := #[true, true, true, true, true, true, true, true, true, false, false, false, false, false, false, false, false, false, false, false, false, false, false, false, false, false, false, false, false, false, false, false]) rfl rfl rfl rfl (by kernel_rfl) (QP.then (QP.then (QP.block (QP.then (QP.then (QP.block (QP.then QP.body))))))) (by kernel_rfl) rfl (V_bin rfl rfl (fun w => xor8 w (vg r_3 ((vg m_8 1).toNat)) s4.1)) ?_
              refine TA_take (i := 9) (is := [0, 0, 0, 0, 0]) (done' := #[true, true, true, true, true, true, true, true, true, true, false, false, false, false, false, false, false, false, false, false, false, false, false, false, false, false, false, false, false, false, false, false]) rfl rfl rfl rfl (by kernel_rfl) (QP.then (QP.then (QP.block (QP.then (QP.then (QP.block (QP.then QP.body))))))) (by kernel_rfl) rfl (V_move rfl) ?_
              refine TA_take (i := 10) (is := [0, 0, 0, 0, 0]) (done' := #[true, true, true, true, true, true, true, true, true, true, true, false, false, false, false, false, false, false, false, false, false, false, false, false, false, false, false, false, false, false, false, false]) rfl rfl rfl rfl (by kernel_rfl) (QP.then (QP.then (QP.block (QP.then (QP.then (QP.block (QP.then QP.body))))))) (by kernel_rfl) rfl (V_idxArr (i := 2) rfl rfl Try.underlying125 TryI.inf5 rfl (by decide) (by decide) (k := 2) (k01 _)) ?_
              refine TA_take (i := 11) (is := [0, 0, 0, 0, 0]) (done' := #[true, true, true, true, true, true, true, true, true, true, true, true, false, false, false, false, false, false, false, false, false, false, false, false, false, false, false, false, false, false, false, false]) rfl rfl rfl rfl (by kernel_rfl) (QP.then (QP.then (QP.block (QP.then (QP.then (QP.block (QP.then QP.body))))))) (by kernel_rfl) rfl (V_load rfl (Src.own (j := 0) rfl) (get_vec (f := v8) (V := m_8) (by decide : 2 < 4)) Try.isAgg5) ?_
              refine TA_take (i := 12) (is := [0, 0, 0, 0, 0]) (done' := #[true, true, true, true, true, true, true, true, true, true, true, true, true, false, false, false, false, false, false, false, false, false, false, false, false, false, false, false, false, false, false, false]) rfl rfl rfl rfl (by kernel_rfl) (QP.then (QP.then (QP.block (QP.then (QP.then (QP.block (QP.then QP.body))))))) (by kernel_rfl) rfl (V_nilCheck rfl) ?_
              refine TA_take (i := 13) (is := [0, 0, 0, 0, 0]) (done' := #[true, true, true, true, true, true, true, true, true, true, true, true, true, true, false, false, false, false, false, false, false, false, false, false, false, false, false, false, false, false, false, false]) rfl rfl rfl rfl (by kernel_rfl) (QP.then (QP.then (QP.block (QP.then (QP.then (QP.block (QP.then QP.body))))))) (by kernel_rfl) rfl (V_fieldE rfl Try.underlying124 rfl rfl TryI.inf120 rfl (v := ptr (some (b5, 0)) 0) rfl) ?_
              refine TA_take (i := 14) (is := [0, 0, 0, 0, 0]) (done' := #[true, true, true, true, true, true, true, true, true, true, true, true, true, true, true, false, false, false, false, false, false, false, false, false, false, false, false, false, false, false, false, false]) rfl rfl rfl rfl (by kernel_rfl) (QP.then (QP.then (QP.block (QP.then (QP.then (QP.block (QP.then QP.body))))))) (by kernel_rfl) rfl (V_idxArr (i := ((vg m_8 2).toNat : Int)) rfl rfl Try.underlying120 TryI.inf5 rfl (Int.natCast_nonneg _) (zb (n := 8) (k := 256) (vg m_8 2) (by decide)) (k := (vg m_8 2).toNat) (k01 _)) ?_
              refine TA_take (i := 15) (is := [0, 0, 0, 0, 0]) (done' := #[true, true, true, true, true, true, true, true, true, true, true, true, true, true, true, true, false, false, false, false, false, false, false, false, false, false, false, false, false, false, false, false]) rfl rfl rfl rfl (by kernel_rfl) (QP.then (QP.then (QP.block (QP.then (QP.then (QP.block (QP.then QP.body))))))) (by kernel_rfl) rfl (V_load rfl (Src.own (j := 1) rfl) (get_vec (f := v8) (V := r_3) (toNat_lt (Int.natCast_nonneg _) (zb (n := 8) (k := 256) (vg m_8 2) (by decide)))) Try.isAgg5) ?_
              refine TA_take (i := 16) (is := [0, 0, 0, 0, 0]) (done' := #[true, true, true, true, true, true, true, true, true, true, true, true, true, true, true, true, true, false, false, false, false, false, false, false, false, false, false, false, false, false, false, false]) rfl rfl rfl rfl (by kernel_rfl) (QP.then (QP.then (QP.block (QP.then (QP.then (QP.block (QP.then QP.body))))))) (by kernel_rfl) rfl (V_move rfl) ?_
              refine TA_take (i := 17) (is := [0, 0, 0, 0, 0]) (done' := #[true, true, true, true, true, true, true, true, true, true, true, true, true, true, true, true, true, true, false, false, false, false, false, false, false, false, false, false, false, false, false, false]) rfl rfl rfl rfl (by kernel_rfl) (QP.then (QP.then (QP.block (QP.then (QP.then (QP.block (QP.then QP.body))))))) (by kernel_rfl) rfl (V_idxArr (i := 3) rfl rfl Try.underlying125 TryI.inf5 rfl (by decide) (by decide) (k := 3) (k01 _)) ?_
              refine TA_take (i := 18) (is := [0, 0, 0, 0, 0]) (done' := #[true, true, true, true, true, true, true, true, true, true, true, true, true, true, true, true, true, true, true, false, false, false, false, false, false, false, false, false, false, false, false, false]) rfl rfl rfl rfl (by kernel_rfl) (QP.then (QP.then (QP.block (QP.then (QP.then (QP.block (QP.then QP.body))))))) (by kernel_rfl) rfl (V_load rfl (Src.own (j := 0) rfl) (get_vec (f := v8) (V := m_8) (by decide : 3 < 4)) Try.isAgg5) ?_
              refine TA_take (i := 19) (is := [0, 0, 0, 0, 0]) (done' := #[true, true, true, true, true, true, true, true, true, true, true, true, true, true, true, true, true, true, true, true, false, false, false, false, false, false, false, false, false, false, false, false]) rfl rfl rfl rfl (by kernel_rfl) (QP.then (QP.then (QP.block (QP.then (QP.then (QP.block (QP.then QP.body))))))) (by kernel_rfl) rfl (V_nilCheck rfl) ?_
              refine TA_take (i := 20) (is := [0, 0, 0, 0, 0]) (done' := #[true, true, true, true, true, true, true, true, true, true, true, true, true, true, true, true, true, true, true, true, true, false, false, false, false, false, false, false, false, false, false, false]) rfl rfl rfl rfl (by kernel_rfl) (QP.then (QP.then (QP.block (QP.then (QP.then (QP.block (QP.then QP.body))))))) (by kernel_rfl) rfl (V_fieldE rfl Try.underlying124 rfl rfl TryI.inf120 rfl (v := ptr (some (b5, 0)) 0) rfl) ?_
              refine TA_take (i := 21) (is := [0, 0, 0, 0, 0]) (done' := #[true, true, true, true, true, true, true, true, true, true, true, true, true, true, true, true, true, true, true, true, true, true, false, false, false, false, false, false, false, false, false, false]) rfl rfl rfl rfl (by kernel_rfl) (QP.then (QP.then (QP.block (QP.then (QP.then (QP.block (QP.then QP.body))))))) (by kernel_rfl) rfl (V_idxArr (i := ((vg m_8 3).toNat : Int)) rfl rfl Try.underlying120 TryI.inf5 rfl (Int.natCast_nonneg _) (zb (n := 8) (k := 256) (vg m_8 3) (by decide)) (k := (vg m_8 3).toNat) (k01 _)) ?_
              refine TA_take (i := 22) (is := [0, 0, 0, 0, 0]) (done' := #[true, true, true, true, true, true, true, true, true, true, true, true, true, true, true, true, true, true, true, true, true, true, true, false, false, false, false, false, false, false, false, false]) rfl rfl rfl rfl (by kernel_rfl) (QP.then (QP.then (QP.block (QP.then (QP.then (QP.block (QP.then QP.body))))))) (by kernel_rfl) rfl (V_load rfl (Src.own (j := 1) rfl) (get_vec (f := v8) (V := r_3) (toNat_lt (Int.natCast_nonneg _) (zb (n := 8) (k := 256) (vg m_8 3) (by decide)))) Try.isAgg5) ?_
              refine TA_take (i := 23) (is := [0, 0, 0, 0, 0]) (done' := #[true, true, true, true, true, true, true, true, true, true, true, true, true, true, true, true, true, true, true, true, true, true, true, true, false, false, false, false, false, false, false, false]) rfl rfl rfl rfl (by kernel_rfl) (QP.then (QP.then (QP.block (QP.then (QP.then (QP.block (QP.then QP.body))))))) (by kernel_rfl) rfl (V_move rfl) ?_
              refine TA_take (i := 24) (is := [0, 0, 0, 0, 0]) (done' := #[true, true, true, true, true, true, true, true, true, true, true, true, true, true, true, true, true, true, true, true, true, true, true, true, true, false, false, false, false, false, false, false]) rfl rfl rfl rfl (by kernel_rfl) (QP.then (QP.then (QP.block (QP.then (QP.then (QP.block (QP.then QP.body))))))) (by kernel_rfl) rfl (V_idxArr (i := 0) rfl rfl Try.underlying125 TryI.inf5 rfl (by decide) (by decide) (k := 0) (k01 _)) ?_
              refine TA_take (i := 25) (is := [0, 0, 0, 0, 0]) (done' := #[true, true, true, true, true, true, true, true, true, true, true, true, true, true, true, true, true, true, true, true, true, true, true, true, true, true, false, false, false, false, false, false]) rfl rfl rfl rfl (by kernel_rfl) (QP.then (QP.then (QP.block (QP.then (QP.then (QP.block (QP.then QP.body))))))) (by kernel_rfl) rfl (V_load rfl (Src.own (j := 0) rfl) (get_vec (f := v8) (V := m_8) (by decide : 0 < 4)) Try.isAgg5) ?_
              refine TA_take (i := 26) (is := [0, 0, 0, 0, 0]) (done' := #[true, true, true, true, true, true, true, true, true, true, true, true, true, true, true, true, true, true, true, true, true, true, true, true, true, true, true, false, false, false, false, false]) rfl rfl rfl rfl (by kernel_rfl) (QP.then (QP.then (QP.block (QP.then (QP.then (QP.block (QP.then QP.body))))))) (by kernel_rfl) rfl (V_nilCheck rfl) ?_
              refine TA_take (i := 27) (is := [0, 0, 0, 0, 0]) (done' := #[true, true, true, true, true, true, true, true, true, true, true, true, true, true, true, true, true, true, true, true, true, true, true, true, true, true, true, true, false, false, false, false]) rfl rfl rfl rfl (by kernel_rfl) (QP.then (QP.then (QP.block (QP.then (QP.then (QP.block (QP.then QP.body))))))) (by kernel_rfl) rfl (V_fieldE rfl Try.underlying124 rfl rfl TryI.inf120 rfl (v := ptr (some (b5, 0)) 0) rfl) ?_
              refine TA_take (i := 28) (is := [0, 0, 0, 0, 0]) (done' := #[true, true, true, true, true, true, true, true, true, true, true, true, true, true, true, true, true, true, true, true, true, true, true, true, true, true, true, true, true, false, false, false]) rfl rfl rfl rfl (by kernel_rfl) (QP.then (QP.then (QP.block (QP.then (QP.then (QP.block (QP.then QP.body))))))) (by kernel_rfl) rfl (V_idxArr (i := ((vg m_8 0).toNat : Int)) rfl rfl Try.underlying120 TryI.inf5 rfl (Int.natCast_nonneg _) (zb (n := 8) (k := 256) (vg m_8 0) (by decide)) (k := (vg m_8 0).toNat) (k01 _)) ?_
              refine TA_take (i := 29) (is := [0, 0, 0, 0, 0]) (done' := #[true, true, true, true, true, true, true, true, true, true, true, true, true, true, true, true, true, true, true, true, true, true, true, true, true, true, true, true, true, true, false, false]) rfl rfl rfl rfl (by kernel_rfl) (QP.then (QP.then (QP.block (QP.then (QP.then (QP.block (QP.then QP.body))))))) (by kernel_rfl) rfl (V_load rfl (Src.own (j := 1) rfl) (get_vec (f := v8) (V := r_3) (toNat_lt (Int.natCast_nonneg _) (zb (n := 8) (k := 256) (vg m_8 0) (by decide)))) Try.isAgg5) ?_
              refine TA_take (i := 30) (is := [0, 0, 0, 0, 0]) (done' := #[true, true, true, true, true, true, true, true, true, true, true, true, true, true, true, true, true, true, true, true, true, true, true, true, true, true, true, true, true, true, true, false]) rfl rfl rfl rfl (by kernel_rfl) (QP.then (QP.then (QP.block (QP.then (QP.then (QP.block (QP.then QP.body))))))) (by kernel_rfl) rfl (V_buildArr (pv := [(0, v8 ((vg r_3 ((vg m_8 1).toNat)) ^^^ s4.1)), (1, v8 (vg r_3 ((vg m_8 2).toNat))), (2, v8 (vg r_3 ((vg m_8 3).toNat))), (3, v8 (vg r_3 ((vg m_8 0).toNat)))]) rfl rfl Try.underlying125 TryI.inf125 TryI.inf5 rfl TryI.zer125 (cs := e8 ((#v[(vg r_3 ((vg m_8 1).toNat)) ^^^ s4.1, vg r_3 ((vg m_8 2).toNat), vg r_3 ((vg m_8 3).toNat), vg r_3 ((vg m_8 0).toNat)] : Vector (BitVec 8) 4).toList)) (by kernel_rfl)) ?_
              refine TA_all (rs := [31]) (by kernel_rfl) rfl ?_
              refine ⟨?_, trivial⟩
              refine TO_n (is := []) (R := fun _ => []) (done' := #[true, true, true, true, true, true, true, true, true, true, true, true, true, true, true, true, true, true, true, true, true, true, true, true, true, true, true, true, true, true, true, true]) rfl rfl rfl (by kernel_rfl) (E_storeAgg (n := 4) (j := 0) (vs := e8 ((#v[(vg r_3 ((vg m_8 1).toNat)) ^^^ s4.1, vg r_3 ((vg m_8 2).toNat), vg r_3 ((vg m_8 3).toNat), vg r_3 ((vg m_8 0).toNat)] : Vector (BitVec 8) 4).toList)) rfl rfl TryI.inf125 rfl (lenV (f := v8) (#v[(vg r_3 ((vg m_8 1).toNat)) ^^^ s4.1, vg r_3 ((vg m_8 2).toNat), vg r_3 ((vg m_8 3).toNat), vg r_3 ((vg m_8 0).toNat)] : Vector (BitVec 8) 4)) (OneC.map (fun _ => rfl) _) rfl (Nat.le_of_eq (by simp)) (cs' := e8 ((#v[(vg r_3 ((vg m_8 1).toNat)) ^^^ s4.1, vg r_3 ((vg m_8 2).toNat), vg r_3 ((vg m_8 3).toNat), vg r_3 ((vg m_8 0).toNat)] : Vector (BitVec 8) 4).toList)) (splice_all (by simp))) (fun h => by cases h) (fun _ => ?_)
              refine TA_reE (j := 0) (A := some (b7, 0)) (cs := e8 ((#v[(vg r_3 ((vg m_8 1).toNat)) ^^^ s4.1, vg r_3 ((vg m_8 2).toNat), vg r_3 ((vg m_8 3).toNat), vg r_3 ((vg m_8 0).toNat)] : Vector (BitVec 8) 4).toList)) (cs' := e8 m_10.toList) rfl (congrArg (fun z : Vector (BitVec 8) 4 => e8 (Vector.toList z)) hm_10) ?_
              refine TA_done (by kernel_rfl) ?_ 0
              refine TX_next ?_
              refine TC.sub (m' := [(0, vs key), (4, ptr (some (b5, 0)) 0), (5, vi n2), (6, sl (some (b6, 0)) ((w64 (4 * (w64 (n2 + 7)))).toNat) ((w64 (4 * (w64 (n2 + 7)))).toNat)), (7, v8 s4.1), (8, vi s4.2.1), (9, ptr (some (b7, 0)) 0), (32, vi ((w64 (4 * (w64 (n2 + 7)))).toNat : Int)), (33, vi s4.2.1)]) ⟨rfl, rfl, rfl, rfl, rfl, rfl, rfl, rfl, rfl, trivial⟩ ?_
              refine TC_region ?_
              refine TL_v rfl rfl rfl (V_move rfl) ?_
              obtain ⟨r_4, hr_4, H⟩ := bind_elim H
              refine TL_e rfl rfl rfl (E_call (Γ := Unit) (val := fun g => v8 r_4) (mem := fun g => []) (vs := [v8 s4.1]) (Lin := []) (Ro := []) (is := []) rfl Try.call82 (F82_calls s4.1 r_4 hr_4) rfl trivial) (fun g_4 => ?_)
              refine TL_v rfl rfl rfl (V_assign rfl) ?_
              refine TL_nil ?_
              refine TX.sub (m' := [(0, vs key), (4, ptr (some (b5, 0)) 0), (5, vi n2), (6, sl (some (b6, 0)) ((w64 (4 * (w64 (n2 + 7)))).toNat) ((w64 (4 * (w64 (n2 + 7)))).toNat)), (7, v8 r_4), (8, vi s4.2.1), (9, ptr (some (b7, 0)) 0), (32, vi ((w64 (4 * (w64 (n2 + 7)))).toNat : Int)), (33, vi s4.2.1)]) ⟨rfl, rfl, rfl, rfl, rfl, rfl, rfl, rfl, rfl, trivial⟩ ?_
              refine TX.pull (is := [1, 1, 1, 1, 0]) (L' := [⟨some (b5, 0), e8 r_3.toList⟩, ⟨some (b5, 256), [sl An2 ((([] : List (Vector (BitVec 8) 16))).length) ((([] : List (Vector (BitVec 8) 16)) ++ ([] : List (Vector (BitVec 8) 16))).length)]⟩, ⟨An2, eF (fun V : Vector (BitVec 8) 16 => e8 V.toList) (([] : List (Vector (BitVec 8) 16)) ++ ([] : List (Vector (BitVec 8) 16)))⟩, ⟨some (b6, 0), eF (fun V : Vector (BitVec 8) 4 => e8 V.toList) s4.2.2⟩, ⟨some (b7, 0), e8 m_10.toList⟩]) rfl ?_
              obtain rfl := Option.some.inj H
              exact hJ ()
            · replace H := ite_f (of_decide_eq_false hc) H
              refine TC_seq ?_
              refine TC_region ?_
              refine TL_v rfl rfl rfl (V_move rfl) ?_
              refine TL_v rfl rfl rfl (V_bin rfl rfl (fun w => eqlI w n2 8)) ?_
              refine TL_v rfl rfl rfl (V_move rfl) ?_
              refine TL_fork (d := 92) (b := (decide (n2 = 8))) rfl (fun hc => ?_) (fun hc => ?_)
              · replace H := ite_t (of_decide_eq_true hc) H
                refine TL_want rfl rfl rfl rfl rfl rfl (V_move rfl) ?_
                refine TL_want rfl rfl rfl rfl rfl rfl (V_move rfl) ?_
                obtain ⟨h42, H⟩ := if_elim H
                refine TL_want rfl rfl rfl rfl rfl rfl (V_bin rfl rfl (fun w => remI w s4.2.1 n2 h42)) ?_
                refine TL_want rfl rfl rfl rfl rfl rfl (V_bin rfl rfl (fun w => eqlI w (s4.2.1.tmod n2) 4)) ?_
                refine TL_v rfl rfl rfl (V_pick (b := true) rfl rfl) ?_
                refine TL_nil ?_
                refine TX_next ?_
                refine TC.sub (m' := [(0, vs key), (4, ptr (some (b5, 0)) 0), (5, vi n2), (6, sl (some (b6, 0)) ((w64 (4 * (w64 (n2 + 7)))).toNat) ((w64 (4 * (w64 (n2 + 7)))).toNat)), (7, v8 s4.1), (8, vi s4.2.1), (9, ptr (some (b7, 0)) 0), (32, vi ((w64 (4 * (w64 (n2 + 7)))).toNat : Int)), (33, vi s4.2.1), (97, vb (decide ((s4.2.1.tmod n2) = 4)))]) ⟨rfl, rfl, rfl, rfl, rfl, rfl, rfl, rfl, rfl, rfl, trivial⟩ ?_
                refine TC_cond (b := (decide ((s4.2.1.tmod n2) = 4))) rfl (fun hc => ?_) (fun hc => ?_)
                · replace H := ite_t (of_decide_eq_true hc) H
                  refine TC_seq ?_
                  refine TC_region ?_
                  refine TL_v rfl rfl rfl (V_move rfl) ?_
                  refine TL_nil ?_
                  refine TX_next ?_
                  refine TC_block ?_
                  obtain ⟨t_7, Hl, H⟩ := bind_elim H
                  refine TC.sub (m' := [(0, vs key), (4, ptr (some (b5, 0)) 0), (5, vi n2), (6, sl (some (b6, 0)) ((w64 (4 * (w64 (n2 + 7)))).toNat) ((w64 (4 * (w64 (n2 + 7)))).toNat)), (7, v8 s4.1), (8, vi s4.2.1), (9, ptr (some (b7, 0)) 0), (32, vi ((w64 (4 * (w64 (n2 + 7)))).toNat : Int)), (33, vi s4.2.1), (98, vi 0)]) ⟨rfl, rfl, rfl, rfl, rfl, rfl, rfl, rfl, rfl, rfl, trivial⟩ ?_
                  refine TC.pull (is := [1, 1, 1, 1, 0]) (L' := [⟨some (b5, 0), e8 r_3.toList⟩, ⟨some (b5, 256), [sl An2 ((([] : List (Vector (BitVec 8) 16))).length) ((([] : List (Vector (BitVec 8) 16)) ++ ([] : List (Vector (BitVec 8) 16))).length)]⟩, ⟨An2, eF (fun V : Vector (BitVec 8) 16 => e8 V.toList) (([] : List (Vector (BitVec 8) 16)) ++ ([] : List (Vector (BitVec 8) 16)))⟩, ⟨some (b6, 0), eF (fun V : Vector (BitVec 8) 4 => e8 V.toList) s4.2.2⟩, ⟨some (b7, 0), e8 m_8.toList⟩]) rfl ?_
                  refine TC_loopL (id := 2) (body := (aes_New.b6 r_3)) (σ := Int × Vector (BitVec 8) 4) (Γ := Unit) (Γx := Unit) (fun s6 g6_ => [(0, vs key), (4, ptr (some (b5, 0)) 0), (5, vi n2), (6, sl (some (b6, 0)) ((w64 (4 * (w64 (n2 + 7)))).toNat) ((w64 (4 * (w64 (n2 + 7)))).toNat)), (7, v8 s4.1), (8, vi s4.2.1), (9, ptr (some (b7, 0)) 0), (32, vi ((w64 (4 * (w64 (n2 + 7)))).toNat : Int)), (33, vi s4.2.1), (98, vi s6.1)]) (fun s6 g6_ => [⟨some (b5, 0), e8 r_3.toList⟩, ⟨some (b5, 256), [sl An2 ((([] : List (Vector (BitVec 8) 16))).length) ((([] : List (Vector (BitVec 8) 16)) ++ ([] : List (Vector (BitVec 8) 16))).length)]⟩, ⟨An2, eF (fun V : Vector (BitVec 8) 16 => e8 V.toList) (([] : List (Vector (BitVec 8) 16)) ++ ([] : List (Vector (BitVec 8) 16)))⟩, ⟨some (b6, 0), eF (fun V : Vector (BitVec 8) 4 => e8 V.toList) s4.2.2⟩, ⟨some (b7, 0), e8 s6.2.toList⟩]) (fun t g => [(0, vs key), (4, ptr (some (b5, 0)) 0), (5, vi n2), (6, sl (some (b6, 0)) ((w64 (4 * (w64 (n2 + 7)))).toNat) ((w64 (4 * (w64 (n2 + 7)))).toNat)), (7, v8 s4.1), (8, vi s4.2.1), (9, ptr (some (b7, 0)) 0), (32, vi ((w64 (4 * (w64 (n2 + 7)))).toNat : Int)), (33, vi s4.2.1)]) (fun t g => [⟨some (b5, 0), e8 r_3.toList⟩, ⟨some (b5, 256), [sl An2 ((([] : List (Vector (BitVec 8) 16))).length) ((([] : List (Vector (BitVec 8) 16)) ++ ([] : List (Vector (BitVec 8) 16))).length)]⟩, ⟨An2, eF (fun V : Vector (BitVec 8) 16 => e8 V.toList) (([] : List (Vector (BitVec 8) 16)) ++ ([] : List (Vector (BitVec 8) 16)))⟩, ⟨some (b6, 0), eF (fun V : Vector (BitVec 8) 4 => e8 V.toList) s4.2.2⟩, ⟨some (b7, 0), e8 t.toList⟩]) ?_ BIG (0, m_8) () t_7 Hl ?_
                  · intro s6 g6_ r1 H K hK hE
                    unfold aes_New.b6 at H
                    refine TC_seq ?_
                    refine TC_region ?_
                    refine TL_v rfl rfl rfl (V_bin rfl rfl (fun w => lssI w s6.1 4)) ?_
                    refine TL_nil ?_
                    refine TX_next ?_
                    refine TC_seq ?_
                    refine TC_cond (b := (decide (s6.1 < 4))) rfl (fun hc => ?_) (fun hc => ?_)
                    · replace H := ite_t (of_decide_eq_true hc) H
                      refine TC_skip ?_
                      refine TX_next ?_
                      refine TC_seq ?_
                      refine TC_block ?_
                      refine TC_seq ?_
                      refine TC_region ?_
                      refine TL_v rfl rfl rfl (V_move rfl) ?_
                      refine TL_v rfl rfl rfl (V_assign rfl) ?_
                      refine TL_nil ?_
                      refine TX_next ?_
                      obtain ⟨h43, H⟩ := if_elim H
                      obtain ⟨h44, H⟩ := if_elim H
                      obtain ⟨m_11, hm_11, H⟩ := ltt_elim H
                      refine TA_begin [⟨some (b5, 0), e8 r_3.toList⟩, ⟨some (b5, 256), [sl An2 ((([] : List (Vector (BitVec 8) 16))).length) ((([] : List (Vector (BitVec 8) 16)) ++ ([] : List (Vector (BitVec 8) 16))).length)]⟩, ⟨An2, eF (fun V : Vector (BitVec 8) 16 => e8 V.toList) (([] : List (Vector (BitVec 8) 16)) ++ ([] : List (Vector (BitVec 8) 16)))⟩, ⟨some (b6, 0), eF (fun V : Vector (BitVec 8) 4 => e8 V.toList) s4.2.2⟩, ⟨some (b7, 0), e8 s6.2.toList⟩] 10 (by kernel_rfl) (N := 11) rfl ?_
                      refine TA_take (i := 0) (is := [0, 0, 0, 0, 0]) (done' := #[true, false, false, false, false, false, false, false, false, false, false]) rfl rfl rfl rfl (by kernel_rfl) (QP.block (QP.then (QP.then (QP.block (QP.then (QP.block (QP.then (QP.then (QP.block (QP.then QP.body)))))))))) (by kernel_rfl) rfl (V_move rfl) ?_
                      refine TA_take (i := 1) (is := [0, 0, 0, 0, 0]) (done' := #[true, true, false, false, false, false, false, false, false, false, false]) rfl rfl rfl rfl (by kernel_rfl) (QP.block (QP.then (QP.then (QP.block (QP.then (QP.block (QP.then (QP.then (QP.block (QP.then QP.body)))))))))) (by kernel_rfl) rfl (V_move rfl) ?_
                      refine TA_take (i := 2) (is := [0, 0, 0, 0, 0]) (done' := #[true, true, true, false, false, false, false, false, false, false, false]) rfl rfl rfl rfl (by kernel_rfl) (QP.block (QP.then (QP.then (QP.block (QP.then (QP.block (QP.then (QP.then (QP.block (QP.then QP.body)))))))))) (by kernel_rfl) rfl (V_move rfl) ?_
                      refine TA_take (i := 3) (is := [0, 0, 0, 0, 0]) (done' := #[true, true, true, true, false, false, false, false, false, false, false]) rfl rfl rfl rfl (by kernel_rfl) (QP.block (QP.then (QP.then (QP.block (QP.then (QP.block (QP.then (QP.then (QP.block (QP.then QP.body)))))))))) (by kernel_rfl) rfl (V_idxArr (i := s6.1) rfl rfl Try.underlying125 TryI.inf5 rfl h43.1 h43.2 (k := (s6.1).toNat) (k01 _)) ?_
                      refine TA_take (i := 4) (is := [0, 0, 0, 0, 0]) (done' := #[true, true, true, true, true, false, false, false, false, false, false]) rfl rfl rfl rfl (by kernel_rfl) (QP.block (QP.then (QP.then (QP.block (QP.then (QP.block (QP.then (QP.then (QP.block (QP.then QP.body)))))))))) (by kernel_rfl) rfl (V_load rfl (Src.own (j := 4) rfl) (get_vec (f := v8) (V := s6.2) (toNat_lt h43.1 h43.2)) Try.isAgg5) ?_
                      refine TA_take (i := 5) (is := [0, 0, 0, 0, 0]) (done' := #[true, true, true, true, true, true, false, false, false, false, false]) rfl rfl rfl rfl (by kernel_rfl) (QP.block (QP.then (QP.then (QP.block (QP.then (QP.block (QP.then (QP.then (QP.block (QP.then QP.body)))))))))) (by kernel_rfl) rfl (V_nilCheck rfl) ?_
                      refine TA_take (i := 6) (is := [0, 0, 0, 0, 0]) (done' := #[true, true, true, true, true, true, true, false, false, false, false]) rfl rfl rfl rfl (by kernel_rfl) (QP.block (QP.then (QP.then (QP.block (QP.then (QP.block (QP.then (QP.then (QP.block (QP.then QP.body)))))))))) (by kernel_rfl) rfl (V_fieldE rfl Try.underlying124 rfl rfl TryI.inf120 rfl (v := ptr (some (b5, 0)) 0) rfl) ?_
                      refine TA_take (i := 7) (is := [0, 0, 0, 0, 0]) (done' := #[true, true, true, true, true, true, true, true, false, false, false]) rfl rfl rfl rfl (by kernel_rfl) (QP.block (QP.then (QP.then (QP.block (QP.then (QP.block (QP.then (QP.then (QP.block (QP.then QP.body)))))))))) (by kernel_rfl) rfl (V_idxArr (i := ((vg s6.2 ((s6.1).toNat)).toNat : Int)) rfl rfl Try.underlying120 TryI.inf5 rfl (Int.natCast_nonneg _) (zb (n := 8) (k := 256) (vg s6.2 ((s6.1).toNat)) (by decide)) (k := (vg s6.2 ((s6.1).toNat)).toNat) (k01 _)) ?_
                      refine TA_take (i := 8) (is := [0, 0, 0, 0, 0]) (done' := #[true, true, true, true, true, true, true, true, true, false, false]) rfl rfl rfl rfl (by kernel_rfl) (QP.block (QP.then (QP.then (QP.block (QP.then (QP.block (QP.then (QP.then (QP.block (QP.then QP.body)))))))))) (by kernel_rfl) rfl (V_load rfl (Src.own (j := 0) rfl) (get_vec (f := v8) (V := r_3) (toNat_lt (Int.natCast_nonneg _) (zb (n := 8) (k := 256) (vg s6.2 ((s6.1).toNat)) (by decide)))) Try.isAgg5) ?_
                      refine TA_take (i := 9) (is := [0, 0, 0, 0, 0]) (done' := #[true, true, true, true, true, true, true, true, true, true, false]) rfl rfl rfl rfl (by kernel_rfl) (QP.block (QP.then (QP.then (QP.block (QP.then (QP.block (QP.then (QP.then (QP.block (QP.then QP.body)))))))))) (by kernel_rfl) rfl (V_idxArr (i := s6.1) rfl rfl Try.underlying125 TryI.inf5 rfl h44.1 h44.2 (k := (s6.1).toNat) (k01 _)) ?_
                      refine TA_all (rs := [10]) (by kernel_rfl) rfl ?_
                      refine ⟨?_, trivial⟩
                      refine TO_n (is := []) (R := fun _ => []) (done' := #[true, true, true, true, true, true, true, true, true, true, true]) rfl rfl rfl (by kernel_rfl) (E_store (j := 4) rfl rfl TryI.inf5 rfl rfl rfl (by simpa using (toNat_lt h44.1 h44.2)) (cs' := e8 ((vp s6.2 ((s6.1).toNat) (vg r_3 ((vg s6.2 ((s6.1).toNat)).toNat))).toList)) set_vec) (fun h => by cases h) (fun _ => ?_)
                      refine TA_reE (j := 4) (A := some (b7, 0)) (cs := e8 ((vp s6.2 ((s6.1).toNat) (vg r_3 ((vg s6.2 ((s6.1).toNat)).toNat))).toList)) (cs' := e8 m_11.toList) rfl (congrArg (fun z : Vector (BitVec 8) 4 => e8 (Vector.toList z)) hm_11) ?_
                      refine TA_done (by kernel_rfl) ?_ 0
                      refine TX_block_normal ?_
                      refine TX_next ?_
                      refine TC_region ?_
                      refine TL_v rfl rfl rfl (V_bin rfl rfl (fun w => addI w s6.1 1)) ?_
                      refine TL_v rfl rfl rfl (V_move rfl) ?_
                      refine TL_nil ?_
                      refine TX.sub (m' := [(0, vs key), (4, ptr (some (b5, 0)) 0), (5, vi n2), (6, sl (some (b6, 0)) ((w64 (4 * (w64 (n2 + 7)))).toNat) ((w64 (4 * (w64 (n2 + 7)))).toNat)), (7, v8 s4.1), (8, vi s4.2.1), (9, ptr (some (b7, 0)) 0), (32, vi ((w64 (4 * (w64 (n2 + 7)))).toNat : Int)), (33, vi s4.2.1), (98, vi (w64 (s6.1 + 1)))]) ⟨rfl, rfl, rfl, rfl, rfl, rfl, rfl, rfl, rfl, rfl, trivial⟩ ?_
                      refine TX.pull (is := [0, 0, 0, 0, 0]) (L' := [⟨some (b5, 0), e8 r_3.toList⟩, ⟨some (b5, 256), [sl An2 ((([] : List (Vector (BitVec 8) 16))).length) ((([] : List (Vector (BitVec 8) 16)) ++ ([] : List (Vector (BitVec 8) 16))).length)]⟩, ⟨An2, eF (fun V : Vector (BitVec 8) 16 => e8 V.toList) (([] : List (Vector (BitVec 8) 16)) ++ ([] : List (Vector (BitVec 8) 16)))⟩, ⟨some (b6, 0), eF (fun V : Vector (BitVec 8) 4 => e8 V.toList) s4.2.2⟩, ⟨some (b7, 0), e8 m_11.toList⟩]) rfl ?_
                      obtain rfl := Option.some.inj H
                      exact fun a w hs => hK (w64 (s6.1 + 1), m_11) rfl () a w hs
                    · replace H := ite_f (of_decide_eq_false hc) H
                      refine TC_exit ?_
                      refine TX_then_exit ?_
                      refine TX_then_exit ?_
                      refine TX.sub (m' := [(0, vs key), (4, ptr (some (b5, 0)) 0), (5, vi n2), (6, sl (some (b6, 0)) ((w64 (4 * (w64 (n2 + 7)))).toNat) ((w64 (4 * (w64 (n2 + 7)))).toNat)), (7, v8 s4.1), (8, vi s4.2.1), (9, ptr (some (b7, 0)) 0), (32, vi ((w64 (4 * (w64 (n2 + 7)))).toNat : Int)), (33, vi s4.2.1)]) ⟨rfl, rfl, rfl, rfl, rfl, rfl, rfl, rfl, rfl, trivial⟩ ?_
                      refine TX.pull (is := [0, 0, 0, 0, 0]) (L' := [⟨some (b5, 0), e8 r_3.toList⟩, ⟨some (b5, 256), [sl An2 ((([] : List (Vector (BitVec 8) 16))).length) ((([] : List (Vector (BitVec 8) 16)) ++ ([] : List (Vector (BitVec 8) 16))).length)]⟩, ⟨An2, eF (fun V : Vector (BitVec 8) 16 => e8 V.toList) (([] : List (Vector (BitVec 8) 16)) ++ ([] : List (Vector (BitVec 8) 16)))⟩, ⟨some (b6, 0), eF (fun V : Vector (BitVec 8) 4 => e8 V.toList) s4.2.2⟩, ⟨some (b7, 0), e8 s6.2.toList⟩]) rfl ?_
                      obtain rfl := Option.some.inj H
                      exact hE s6.2 rfl ()
                  · intro g
                    refine TX_block_exit ?_
                    refine TX.sub (m' := [(0, vs key), (4, ptr (some (b5, 0)) 0), (5, vi n2), (6, sl (some (b6, 0)) ((w64 (4 * (w64 (n2 + 7)))).toNat) ((w64 (4 * (w64 (n2 + 7)))).toNat)), (7, v8 s4.1), (8, vi s4.2.1), (9, ptr (some (b7, 0)) 0), (32, vi ((w64 (4 * (w64 (n2 + 7)))).toNat : Int)), (33, vi s4.2.1)]) ⟨rfl, rfl, rfl, rfl, rfl, rfl, rfl, rfl, rfl, trivial⟩ ?_
                    refine TX.pull (is := [0, 0, 0, 0, 0]) (L' := [⟨some (b5, 0), e8 r_3.toList⟩, ⟨some (b5, 256), [sl An2 ((([] : List (Vector (BitVec 8) 16))).length) ((([] : List (Vector (BitVec 8) 16)) ++ ([] : List (Vector (BitVec 8) 16))).length)]⟩, ⟨An2, eF (fun V : Vector (BitVec 8) 16 => e8 V.toList) (([] : List (Vector (BitVec 8) 16)) ++ ([] : List (Vector (BitVec 8) 16)))⟩, ⟨some (b6, 0), eF (fun V : Vector (BitVec 8) 4 => e8 V.toList) s4.2.2⟩, ⟨some (b7, 0), e8 t_7.toList⟩]) rfl ?_
                    obtain rfl := Option.some.inj H
                    exact hJ ()
                · replace H := ite_f (of_decide_eq_false hc) H
                  refine TC_skip ?_
                  refine TX.sub (m' := [(0, vs key), (4, ptr (some (b5, 0)) 0), (5, vi n2), (6, sl (some (b6, 0)) ((w64 (4 * (w64 (n2 + 7)))).toNat) ((w64 (4 * (w64 (n2 + 7)))).toNat)), (7, v8 s4.1), (8, vi s4.2.1), (9, ptr (some (b7, 0)) 0), (32, vi ((w64 (4 * (w64 (n2 + 7)))).toNat : Int)), (33, vi s4.2.1)]) ⟨rfl, rfl, rfl, rfl, rfl, rfl, rfl, rfl, rfl, trivial⟩ ?_
                  refine TX.pull (is := [1, 1, 1, 1, 0]) (L' := [⟨some (b5, 0), e8 r_3.toList⟩, ⟨some (b5, 256), [sl An2 ((([] : List (Vector (BitVec 8) 16))).length) ((([] : List (Vector (BitVec 8) 16)) ++ ([] : List (Vector (BitVec 8) 16))).length)]⟩, ⟨An2, eF (fun V : Vector (BitVec 8) 16 => e8 V.toList) (([] : List (Vector (BitVec 8) 16)) ++ ([] : List (Vector (BitVec 8) 16)))⟩, ⟨some (b6, 0), eF (fun V : Vector (BitVec 8) 4 => e8 V.toList) s4.2.2⟩, ⟨some (b7, 0), e8 m_8.toList⟩]) rfl ?_
                  obtain rfl := Option.some.inj H
                  exact hJ ()
              · replace H := ite_f (of_decide_eq_false hc) H
                refine TL_skip rfl rfl rfl rfl rfl rfl rfl ?_
                refine TL_skip rfl rfl rfl rfl rfl rfl rfl ?_
                refine TL_skip rfl rfl rfl rfl rfl rfl rfl ?_
                refine TL_skip rfl rfl rfl rfl rfl rfl rfl ?_
                refine TL_v rfl rfl rfl (V_pick (b := false) rfl rfl) ?_
                refine TL_nil ?_
                refine TX_next ?_
                refine TC.sub (m' := [(0, vs key), (4, ptr (some (b5, 0)) 0), (5, vi n2), (6, sl (some (b6, 0)) ((w64 (4 * (w64 (n2 + 7)))).toNat) ((w64 (4 * (w64 (n2 + 7)))).toNat)), (7, v8 s4.1), (8, vi s4.2.1), (9, ptr (some (b7, 0)) 0), (32, vi ((w64 (4 * (w64 (n2 + 7)))).toNat : Int)), (33, vi s4.2.1), (97, vb false)]) ⟨rfl, rfl, rfl, rfl, rfl, rfl, rfl, rfl, rfl, rfl, trivial⟩ ?_
                refine TC_cond_f rfl ?_
                refine TC_skip ?_
                refine TX.sub (m' := [(0, vs key), (4, ptr (some (b5, 0)) 0), (5, vi n2), (6, sl (some (b6, 0)) ((w64 (4 * (w64 (n2 + 7)))).toNat) ((w64 (4 * (w64 (n2 + 7)))).toNat)), (7, v8 s4.1), (8, vi s4.2.1), (9, ptr (some (b7, 0)) 0), (32, vi ((w64 (4 * (w64 (n2 + 7)))).toNat : Int)), (33, vi s4.2.1)]) ⟨rfl, rfl, rfl, rfl, rfl, rfl, rfl, rfl, rfl, trivial⟩ ?_
                refine TX.pull (is := [1, 1, 1, 1, 0]) (L' := [⟨some (b5, 0), e8 r_3.toList⟩, ⟨some (b5, 256), [sl An2 ((([] : List (Vector (BitVec 8) 16))).length) ((([] : List (Vector (BitVec 8) 16)) ++ ([] : List (Vector (BitVec 8) 16))).length)]⟩, ⟨An2, eF (fun V : Vector (BitVec 8) 16 => e8 V.toList) (([] : List (Vector (BitVec 8) 16)) ++ ([] : List (Vector (BitVec 8) 16)))⟩, ⟨some (b6, 0), eF (fun V : Vector (BitVec 8) 4 => e8 V.toList) s4.2.2⟩, ⟨some (b7, 0), e8 m_8.toList⟩]) rfl ?_
                obtain rfl := Option.some.inj H
                exact hJ ()
      · replace H := ite_f (of_decide_eq_false hc) H
        refine TC_exit ?_
        refine TX_then_exit ?_
        refine TX_then_exit ?_
        refine TX.sub (m' := [(4, ptr (some (b5, 0)) 0), (5, vi n2), (6, sl (some (b6, 0)) ((w64 (4 * (w64 (n2 + 7)))).toNat) ((w64 (4 * (w64 (n2 + 7)))).toNat))]) ⟨rfl, rfl, rfl, trivial⟩ ?_
        refine TX.pull (is := [0, 0, 0, 0]) (L' := [⟨some (b5, 0), e8 r_3.toList⟩, ⟨some (b5, 256), [sl An2 ((([] : List (Vector (BitVec 8) 16))).length) ((([] : List (Vector (BitVec 8) 16)) ++ ([] : List (Vector (BitVec 8) 16))).length)]⟩, ⟨An2, eF (fun V : Vector (BitVec 8) 16 => e8 V.toList) (([] : List (Vector (BitVec 8) 16)) ++ ([] : List (Vector (BitVec 8) 16)))⟩, ⟨some (b6, 0), eF (fun V : Vector (BitVec 8) 4 => e8 V.toList) s4.2.2⟩]) rfl ?_
        obtain rfl := Option.some.inj H
        exact hE s4.2.2 rfl ()
    · intro g
      refine TX_block_exit ?_
      refine TX_next ?_
      refine TC_seq ?_
      refine TC_region ?_
      refine TL_v rfl rfl rfl (V_move rfl) ?_
      refine TL_v rfl rfl rfl (V_move rfl) ?_
      refine TL_v rfl rfl rfl (V_bin rfl rfl (fun w => addI w n2 7)) ?_
      obtain ⟨h45, H⟩ := if_elim H
      refine TL_e rfl rfl rfl (E_mkN rfl rfl Try.underlying122 TryI.inf71 TryI.zer71 (by kernel_rfl) rfl rfl (B := 16) rfl h45.1 (Int.le_refl _) (by have := h45; omega) (by have := h45; omega) (n' := (w64 (n2 + 7)).toNat) (c' := (w64 (n2 + 7)).toNat) rfl rfl (cs := eF (fun V : Vector (BitVec 8) 16 => e8 V.toList) (List.replicate ((w64 (n2 + 7)).toNat) (Vector.replicate 16 0#8))) (rep_eF (g := fun V : Vector (BitVec 8) 16 => e8 V.toList))) (fun b8 => ?_)
      refine TL_v rfl rfl rfl (V_nilCheck rfl) ?_
      refine TL_v rfl rfl rfl (V_fieldE rfl Try.underlying124 rfl rfl TryI.inf122 rfl (v := ptr (some (b5, 256)) 0) rfl) ?_
      refine TL_n rfl rfl (E_store (j := 2) rfl rfl TryI.inf122 rfl rfl rfl (Nat.lt_succ_self 0) (cs' := [sl (some (b8, 0)) ((w64 (n2 + 7)).toNat) ((w64 (n2 + 7)).toNat)]) rfl) (fun _ => ?_)
      refine TL_nil ?_
      refine TX_next ?_
      refine TC_seq ?_
      refine TC_seq ?_
      refine TC_region ?_
      refine TL_v rfl rfl rfl (V_move rfl) ?_
      refine TL_v rfl rfl rfl (V_len_slice rfl Try.underlying74) ?_
      refine TL_v rfl rfl rfl (V_move rfl) ?_
      refine TL_nil ?_
      refine TX_next ?_
      refine TC_block ?_
      obtain ⟨t_8, Hl, H⟩ := bind_elim H
      refine TC.sub (m' := [(4, ptr (some (b5, 0)) 0), (6, sl (some (b6, 0)) ((w64 (4 * (w64 (n2 + 7)))).toNat) ((w64 (4 * (w64 (n2 + 7)))).toNat)), (141, vi ((w64 (4 * (w64 (n2 + 7)))).toNat : Int)), (142, vi 0)]) ⟨rfl, rfl, rfl, rfl, trivial⟩ ?_
      refine TC.pull (is := [1, 1, 0, 1]) (L' := [⟨some (b5, 0), e8 r_3.toList⟩, ⟨some (b5, 256), [sl (some (b8, 0)) ((w64 (n2 + 7)).toNat) ((w64 (n2 + 7)).toNat)]⟩, ⟨some (b8, 0), eF (fun V : Vector (BitVec 8) 16 => e8 V.toList) (List.replicate ((w64 (n2 + 7)).toNat) (Vector.replicate 16 0#8))⟩, ⟨some (b6, 0), eF (fun V : Vector (BitVec 8) 4 => e8 V.toList) t_5⟩]) rfl ?_
      refine TC_loopL (id := 6) (body := (aes_New.b7 n2 t_5)) (σ := Int × List (Vector (BitVec 8) 16)) (Γ := Unit) (Γx := Unit) (fun s7 g7_ => [(4, ptr (some (b5, 0)) 0), (6, sl (some (b6, 0)) ((w64 (4 * (w64 (n2 + 7)))).toNat) ((w64 (4 * (w64 (n2 + 7)))).toNat)), (141, vi ((w64 (4 * (w64 (n2 + 7)))).toNat : Int)), (142, vi s7.1)]) (fun s7 g7_ => [⟨some (b5, 0), e8 r_3.toList⟩, ⟨some (b5, 256), [sl (some (b8, 0)) ((w64 (n2 + 7)).toNat) ((w64 (n2 + 7)).toNat)]⟩, ⟨some (b8, 0), eF (fun V : Vector (BitVec 8) 16 => e8 V.toList) s7.2⟩, ⟨some (b6, 0), eF (fun V : Vector (BitVec 8) 4 => e8 V.toList) t_5⟩]) (fun t g => [(4, ptr (some (b5, 0)) 0)]) (fun t g => [⟨some (b5, 0), e8 r_3.toList⟩, ⟨some (b5, 256), [sl (some (b8, 0)) ((w64 (n2 + 7)).toNat) ((w64 (n2 + 7)).toNat)]⟩, ⟨some (b8, 0), eF (fun V : Vector (BitVec 8) 16 => e8 V.toList) t⟩]) ?_ BIG (0, List.replicate ((w64 (n2 + 7)).toNat) (Vector.replicate 16 0#8)) () t_8 Hl ?_
      · intro s7 g7_ r1 H K hK hE
        unfold aes_New.b7 at H
        refine TC_seq ?_
        refine TC_region ?_
        refine TL_v rfl rfl rfl (V_bin rfl rfl (fun w => lssI w s7.1 ((w64 (4 * (w64 (n2 + 7)))).toNat : Int))) ?_
        refine TL_nil ?_
        refine TX_next ?_
        refine TC_seq ?_
        refine TC_cond (b := (decide (s7.1 < ((w64 (4 * (w64 (n2 + 7)))).toNat : Int)))) rfl (fun hc => ?_) (fun hc => ?_)
        · replace H := ite_t (of_decide_eq_true hc) H
          refine TC_skip ?_
          refine TX_next ?_
          refine TC_seq ?_
          refine TC_block ?_
          refine TC_seq ?_
          refine TC_region ?_
          refine TL_v rfl rfl rfl (V_move rfl) ?_
          refine TL_v rfl rfl rfl (V_assign rfl) ?_
          refine TL_nil ?_
          refine TX_next ?_
          obtain ⟨h46, H⟩ := if_elim H
          obtain ⟨h47, H⟩ := if_elim H
          obtain ⟨h48, H⟩ := if_elim H
          obtain ⟨h49, H⟩ := if_elim H
          obtain ⟨h50, H⟩ := if_elim H
          obtain ⟨h51, H⟩ := if_elim H
          obtain ⟨h52, H⟩ := if_elim H
          obtain ⟨m_12, hm_12, H⟩ := ltt_elim H
          refine TA_begin [⟨some (b5, 0), e8 r_3.toList⟩, ⟨some (b5, 256), [sl (some (b8, 0)) ((w64 (n2 + 7)).toNat) ((w64 (n2 + 7)).toNat)]⟩, ⟨some (b6, 0), eF (fun V : Vector (BitVec 8) 4 => e8 V.toList) t_5⟩] 16 (by kernel_rfl) (N := 16) rfl ?_
          refine TA_take (i := 0) (is := [0, 0, 1]) (done' := #[true, false, false, false, false, false, false, false, false, false, false, false, false, false, false, false]) rfl rfl rfl rfl (by kernel_rfl) (QP.block (QP.then (QP.then (QP.block (QP.then QP.body))))) (by kernel_rfl) rfl (V_move rfl) ?_
          refine TA_take (i := 1) (is := [0, 0, 1]) (done' := #[true, true, false, false, false, false, false, false, false, false, false, false, false, false, false, false]) rfl rfl rfl rfl (by kernel_rfl) (QP.block (QP.then (QP.then (QP.block (QP.then QP.body))))) (by kernel_rfl) rfl (V_nilCheck rfl) ?_
          refine TA_take (i := 2) (is := [0, 0, 1]) (done' := #[true, true, true, false, false, false, false, false, false, false, false, false, false, false, false, false]) rfl rfl rfl rfl (by kernel_rfl) (QP.block (QP.then (QP.then (QP.block (QP.then QP.body))))) (by kernel_rfl) rfl (V_fieldE rfl Try.underlying124 rfl rfl TryI.inf122 rfl (v := ptr (some (b5, 256)) 0) rfl) ?_
          refine TA_take (i := 3) (is := [0, 0, 1]) (done' := #[true, true, true, true, false, false, false, false, false, false, false, false, false, false, false, false]) rfl rfl rfl rfl (by kernel_rfl) (QP.block (QP.then (QP.then (QP.block (QP.then QP.body))))) (by kernel_rfl) rfl (V_load rfl (Src.own (j := 1) rfl) rfl Try.isAgg122) ?_
          refine TA_take (i := 4) (is := [0, 0, 1]) (done' := #[true, true, true, true, true, false, false, false, false, false, false, false, false, false, false, false]) rfl rfl rfl rfl (by kernel_rfl) (QP.block (QP.then (QP.then (QP.block (QP.then QP.body))))) (by kernel_rfl) rfl (V_move rfl) ?_
          refine TA_take (i := 5) (is := [0, 0, 1]) (done' := #[true, true, true, true, true, true, false, false, false, false, false, false, false, false, false, false]) rfl rfl rfl rfl (by kernel_rfl) (QP.block (QP.then (QP.then (QP.block (QP.then QP.body))))) (by kernel_rfl) rfl (V_bin rfl rfl (fun w => quoI w s7.1 4 (by decide))) ?_
          refine TA_take (i := 6) (is := [0, 0, 1]) (done' := #[true, true, true, true, true, true, true, false, false, false, false, false, false, false, false, false]) rfl rfl rfl rfl (by kernel_rfl) (QP.block (QP.then (QP.then (QP.block (QP.then QP.body))))) (by kernel_rfl) rfl (V_idxSl (i := w64 (s7.1.tdiv 4)) rfl rfl Try.underlying122 TryI.inf71 rfl (fun _ h => by cases h) h46.1 h46.2 (k := ((w64 (s7.1.tdiv 4)).toNat) * 16) rfl) ?_
          refine TA_take (i := 7) (is := [0, 0, 1]) (done' := #[true, true, true, true, true, true, true, true, false, false, false, false, false, false, false, false]) rfl rfl rfl rfl (by kernel_rfl) (QP.block (QP.then (QP.then (QP.block (QP.then QP.body))))) (by kernel_rfl) rfl (V_move rfl) ?_
          refine TA_take (i := 8) (is := [0, 0, 1]) (done' := #[true, true, true, true, true, true, true, true, true, false, false, false, false, false, false, false]) rfl rfl rfl rfl (by kernel_rfl) (QP.block (QP.then (QP.then (QP.block (QP.then QP.body))))) (by kernel_rfl) rfl (V_bin rfl rfl (fun w => remI w s7.1 4 (by decide))) ?_
          refine TA_take (i := 9) (is := [0, 0, 1]) (done' := #[true, true, true, true, true, true, true, true, true, true, false, false, false, false, false, false]) rfl rfl rfl rfl (by kernel_rfl) (QP.block (QP.then (QP.then (QP.block (QP.then QP.body))))) (by kernel_rfl) rfl (V_bin rfl rfl (fun w => mulI w 4 (s7.1.tmod 4))) ?_
          refine TA_take (i := 10) (is := [0, 0, 1]) (done' := #[true, true, true, true, true, true, true, true, true, true, true, false, false, false, false, false]) rfl rfl rfl rfl (by kernel_rfl) (QP.block (QP.then (QP.then (QP.block (QP.then QP.body))))) (by kernel_rfl) rfl (V_sliceWin (l := (w64 (4 * (s7.1.tmod 4))).toNat) (h := 16) rfl (by simp) Try.underlying71 TryI.inf5 rfl (Bnd.some' (i := w64 (4 * (s7.1.tmod 4))) rfl h48) Bnd.none' h49 (Nat.le_refl _) h50) ?_
          refine TA_take (i := 11) (is := [0, 0, 1]) (done' := #[true, true, true, true, true, true, true, true, true, true, true, true, false, false, false, false]) rfl rfl rfl rfl (by kernel_rfl) (QP.block (QP.then (QP.then (QP.block (QP.then QP.body))))) (by kernel_rfl) rfl (V_move rfl) ?_
          refine TA_take (i := 12) (is := [0, 0, 1]) (done' := #[true, true, true, true, true, true, true, true, true, true, true, true, true, false, false, false]) rfl rfl rfl rfl (by kernel_rfl) (QP.block (QP.then (QP.then (QP.block (QP.then QP.body))))) (by kernel_rfl) rfl (V_move rfl) ?_
          refine TA_take (i := 13) (is := [0, 0, 1]) (done' := #[true, true, true, true, true, true, true, true, true, true, true, true, true, true, false, false]) rfl rfl rfl rfl (by kernel_rfl) (QP.block (QP.then (QP.then (QP.block (QP.then QP.body))))) (by kernel_rfl) rfl (V_idxSl (i := s7.1) rfl rfl Try.underlying74 TryI.inf125 rfl (fun _ h => by cases h) h51.1 h51.2 (k := ((s7.1).toNat) * 4) rfl) ?_
          refine TA_take (i := 14) (is := [0, 0, 1]) (done' := #[true, true, true, true, true, true, true, true, true, true, true, true, true, true, true, false]) rfl rfl rfl rfl (by kernel_rfl) (QP.block (QP.then (QP.then (QP.block (QP.then QP.body))))) (by kernel_rfl) rfl (V_sliceWin (l := 0) (h := 4) rfl (by simp) Try.underlying125 TryI.inf5 rfl Bnd.none' Bnd.none' (Nat.zero_le _) (Nat.le_refl _) (by decide)) ?_
          refine TA_all (rs := [15]) (by kernel_rfl) rfl ?_
          refine ⟨?_, trivial⟩
          refine TO_e (is := [0, 0, 1]) (done' := #[true, true, true, true, true, true, true, true, true, true, true, true, true, true, true, true]) rfl rfl rfl rfl (by kernel_rfl) (E_copyB (o := ((w64 (s7.1.tdiv 4)).toNat) * 16 + ((w64 (4 * (s7.1.tmod 4))).toNat)) (j := 2) (ds := (sub ((lg t_5 ((s7.1).toNat)).toList) 0 4)) rfl rfl (by simp) Try.underlying30 TryI.inf5 rfl (srcWin1 0 4 h52 (Src.own (j := 3) rfl)) (sub_length (by simp)) rfl rfl (copy_row (n := 16) (l := (w64 (4 * (s7.1.tmod 4))).toNat) (d := 16 - ((w64 (4 * (s7.1.tmod 4))).toNat)) h47 (by omega)) (cs' := eF (fun V : Vector (BitVec 8) 16 => e8 V.toList) (s7.2.set ((w64 (s7.1.tdiv 4)).toNat) (vsp (lg s7.2 ((w64 (s7.1.tdiv 4)).toNat)) ((w64 (4 * (s7.1.tmod 4))).toNat) ((sub ((lg t_5 ((s7.1).toNat)).toList) 0 4).take (min (4 - 0) (16 - ((w64 (4 * (s7.1.tmod 4))).toNat))))))) (splice_lvec h47 (take_room (n := 16) (l := (w64 (4 * (s7.1.tmod 4))).toNat) (d := 16 - ((w64 (4 * (s7.1.tmod 4))).toNat)) (by omega)))) (fun _ _ => rfl) (fun _ => ?_)
          refine TA_reE (j := 2) (A := some (b8, 0)) (cs := eF (fun V : Vector (BitVec 8) 16 => e8 V.toList) (s7.2.set ((w64 (s7.1.tdiv 4)).toNat) (vsp (lg s7.2 ((w64 (s7.1.tdiv 4)).toNat)) ((w64 (4 * (s7.1.tmod 4))).toNat) ((sub ((lg t_5 ((s7.1).toNat)).toList) 0 4).take (min (4 - 0) (16 - ((w64 (4 * (s7.1.tmod 4))).toNat))))))) (cs' := eF (fun V : Vector (BitVec 8) 16 => e8 V.toList) m_12) rfl (congrArg (eF (fun V : Vector (BitVec 8) 16 => e8 V.toList)) hm_12) ?_
          refine TA_done (by kernel_rfl) ?_ 0
          refine TX_block_normal ?_
          refine TX_next ?_
          refine TC_region ?_
          refine TL_v rfl rfl rfl (V_bin rfl rfl (fun w => addI w s7.1 1)) ?_
          refine TL_v rfl rfl rfl (V_move rfl) ?_
          refine TL_nil ?_
          refine TX.sub (m' := [(4, ptr (some (b5, 0)) 0), (6, sl (some (b6, 0)) ((w64 (4 * (w64 (n2 + 7)))).toNat) ((w64 (4 * (w64 (n2 + 7)))).toNat)), (141, vi ((w64 (4 * (w64 (n2 + 7)))).toNat : Int)), (142, vi (w64 (s7.1 + 1)))]) ⟨rfl, rfl, rfl, rfl, trivial⟩ ?_
          refine TX.pull (is := [0, 0, 0, 0]) (L' := [⟨some (b5, 0), e8 r_3.toList⟩, ⟨some (b5, 256), [sl (some (b8, 0)) ((w64 (n2 + 7)).toNat) ((w64 (n2 + 7)).toNat)]⟩, ⟨some (b8, 0), eF (fun V : Vector (BitVec 8) 16 => e8 V.toList) m_12⟩, ⟨some (b6, 0), eF (fun V : Vector (BitVec 8) 4 => e8 V.toList) t_5⟩]) rfl ?_
          obtain rfl := Option.some.inj H
          exact fun a w hs => hK (w64 (s7.1 + 1), m_12) rfl () a w hs
        · replace H := ite_f (of_decide_eq_false hc) H
          refine TC_exit ?_
          refine TX_then_exit ?_
          refine TX_then_exit ?_
          refine TX.sub (m' := [(4, ptr (some (b5, 0)) 0)]) ⟨rfl, trivial⟩ ?_
          refine TX.pull (is := [0, 0, 0]) (L' := [⟨some (b5, 0), e8 r_3.toList⟩, ⟨some (b5, 256), [sl (some (b8, 0)) ((w64 (n2 + 7)).toNat) ((w64 (n2 + 7)).toNat)]⟩, ⟨some (b8, 0), eF (fun V : Vector (BitVec 8) 16 => e8 V.toList) s7.2⟩]) rfl ?_
          obtain rfl := Option.some.inj H
          exact hE s7.2 rfl ()
      · intro g
        refine TX_block_exit ?_
        refine TX_next ?_
        refine TC_seq ?_
        refine TC_region ?_
        refine TL_v rfl rfl rfl (V_move rfl) ?_
        refine TL_v rfl rfl rfl (V_assign rfl) ?_
        refine TL_v rfl rfl rfl (V_assign rfl) ?_
        refine TL_nil ?_
        refine TX_next ?_
        refine TC_ret ?_
        have hrv := Option.some.inj H
        subst hrv
        exact TX_ret (rs := [.tmp 2, .tmp 3]) (vs := [ptr (some (b5, 0)) 0, vb true]) rfl ⟨rfl, rfl, trivial⟩ (fun w' hs' => ⟨((), (b5, b8)), rfl, Step.left (Step.pulled (is := [0, 0, 0]) (A := [⟨some (b5, 0), e8 r_3.toList⟩, ⟨some (b5, 256), [sl (some (b8, 0)) ((w64 (n2 + 7)).toNat) ((w64 (n2 + 7)).toNat)]⟩, ⟨some (b8, 0), eF (fun V : Vector (BitVec 8) 16 => e8 V.toList) t_8⟩]) hs' rfl)⟩)

end Go.Proofs
end

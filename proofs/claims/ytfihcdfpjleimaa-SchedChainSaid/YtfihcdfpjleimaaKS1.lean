/-
  Part KS1 of the proofs of this seat: F71, F72, F73, F69, F70, F65, F66, F67.
-/
import Derived.Test.YtfihcdfpjleimaaK2
section
namespace Go.Proofs
open Go Go.Kx
set_option linter.unusedVariables false
set_option linter.unusedSimpArgs false
def sha_word.b0 (b : List (BitVec 8)) (s0 : BitVec 64 × Int) : Option ((BitVec 64 × Int) ⊕ (BitVec 64)) :=
  if s0.2 < ((b).length : Int) then (if 0 ≤ s0.2 ∧ s0.2 < ((b).length : Int) then (ltt (lg b ((s0.2).toNat)) fun (c1 : BitVec 8) => (ltt ((s0.1 <<< 8) ||| (c1.setWidth 64)) fun (x1 : BitVec 64) => (some (.inl (x1, w64 (s0.2 + 1)))))) else none) else (some (.inr s0.1))

def sha_word (b : List (BitVec 8)) : Option (BitVec 64) :=
  (loop (sha_word.b0 b) BIG (0#64, 0)).bind fun (t_1 : BitVec 64) => (some t_1)

set_option maxHeartbeats 4000000 in
set_option maxRecDepth 20000 in
theorem F71_calls (Ab : Adr) (cb : Nat) (b : List (BitVec 8)) (hcb : (b).length ≤ cb) (r : BitVec 64) (H : sha_word b = some r) :
    Does Try.prog 71 [sl Ab ((b).length) cb] [] [⟨Ab, e8 b⟩] (Γ := Unit) (fun g => v64 r) (fun g => []) := by
  intro w hmem hro hd
  refine calls_of (N := 19) (m0 := [(0, sl Ab ((b).length) cb)]) Try.func71 rfl Try.ntmps71 (argM_ok [sl Ab ((b).length) cb]) rfl hmem hro hd ?_
  unfold sha_word at H
  refine TC_seq ?_
  refine TC_region ?_
  refine TL_v rfl rfl rfl (V_assign rfl) ?_
  refine TL_nil ?_
  refine TX_next ?_
  refine TC_seq ?_
  refine TC_region ?_
  refine TL_v rfl rfl rfl (V_assign rfl) ?_
  refine TL_nil ?_
  refine TX_next ?_
  refine TC_seq ?_
  refine TC_seq ?_
  refine TC_region ?_
  refine TL_v rfl rfl rfl (V_move rfl) ?_
  refine TL_v rfl rfl rfl (V_len_slice rfl Try.underlying49) ?_
  refine TL_v rfl rfl rfl (V_move rfl) ?_
  refine TL_nil ?_
  refine TX_next ?_
  refine TC_block ?_
  obtain ⟨t_1, Hl, H⟩ := bind_elim H
  refine TC.sub (m' := [(3, v64 0#64), (6, sl Ab ((b).length) cb), (7, vi ((b).length : Int)), (8, vi 0)]) ⟨rfl, rfl, rfl, rfl, trivial⟩ ?_
  refine TC.pull (is := []) (L' := []) rfl ?_
  refine TC_loopL (id := 0) (body := (sha_word.b0 b)) (σ := BitVec 64 × Int) (Γ := Unit) (Γx := Unit) (fun s0 g0_ => [(3, v64 s0.1), (6, sl Ab ((b).length) cb), (7, vi ((b).length : Int)), (8, vi s0.2)]) (fun s0 g0_ => []) (fun t g => [(3, v64 t)]) (fun t g => []) ?_ BIG (0#64, 0) () t_1 Hl ?_
  · intro s0 g0_ r1 H K hK hE
    unfold sha_word.b0 at H
    refine TC_seq ?_
    refine TC_region ?_
    refine TL_v rfl rfl rfl (V_bin rfl rfl (fun w => lssI w s0.2 ((b).length : Int))) ?_
    refine TL_nil ?_
    refine TX_next ?_
    refine TC_seq ?_
    refine TC_cond (b := (decide (s0.2 < ((b).length : Int)))) rfl (fun hc => ?_) (fun hc => ?_)
    · replace H := ite_t (of_decide_eq_true hc) H
      refine TC_skip ?_
      refine TX_next ?_
      refine TC_seq ?_
      refine TC_block ?_
      refine TC_seq ?_
      refine TC_region ?_
      obtain ⟨h1, H⟩ := if_elim H
      refine TL_v rfl rfl rfl (V_idxSlS (i := s0.2) rfl rfl Try.underlying49 TryI.inf5 rfl (Src.ro (j := 0) rfl) (map_ne (toNat_lt h1.1 h1.2)) h1.1 h1.2 (k := (s0.2).toNat) (km1 _)) ?_
      refine TL_v rfl rfl rfl (V_load rfl (Src.ro (j := 0) rfl) (get_map (f := v8) (l := b) (toNat_lt h1.1 h1.2)) Try.isAgg5) ?_
      refine TL_v rfl rfl rfl (V_assign rfl) ?_
      obtain ⟨c1, hc1, H⟩ := ltt_elim H
      refine TL_re (d := 5) (v := v8 (lg b ((s0.2).toNat))) (v' := v8 c1) rfl (congrArg v8 hc1) ?_
      refine TL_nil ?_
      refine TX_next ?_
      refine TC_region ?_
      refine TL_v rfl rfl rfl (V_move rfl) ?_
      refine TL_v rfl rfl rfl (V_bin rfl rfl (fun w => shl64 w s0.1 .u64 8 (by decide))) ?_
      refine TL_v rfl rfl rfl (V_move rfl) ?_
      refine TL_v rfl rfl rfl (V_conv rfl (fun w => cv8to64 w _ _ Try.underlying71 (TryI.und5) c1)) ?_
      refine TL_v rfl rfl rfl (V_bin rfl rfl (fun w => or64 w (s0.1 <<< 8) (c1.setWidth 64))) ?_
      refine TL_v rfl rfl rfl (V_assign rfl) ?_
      obtain ⟨x1, hx1, H⟩ := ltt_elim H
      refine TL_re (d := 3) (v := v64 ((s0.1 <<< 8) ||| (c1.setWidth 64))) (v' := v64 x1) rfl (congrArg v64 hx1) ?_
      refine TL_nil ?_
      refine TX_block_normal ?_
      refine TX_next ?_
      refine TC_region ?_
      refine TL_v rfl rfl rfl (V_bin rfl rfl (fun w => addI w s0.2 1)) ?_
      refine TL_v rfl rfl rfl (V_move rfl) ?_
      refine TL_nil ?_
      refine TX.sub (m' := [(3, v64 x1), (6, sl Ab ((b).length) cb), (7, vi ((b).length : Int)), (8, vi (w64 (s0.2 + 1)))]) ⟨rfl, rfl, rfl, rfl, trivial⟩ ?_
      refine TX.pull (is := []) (L' := []) rfl ?_
      obtain rfl := Option.some.inj H
      exact fun a w hs => hK (x1, w64 (s0.2 + 1)) rfl () a w hs
    · replace H := ite_f (of_decide_eq_false hc) H
      refine TC_exit ?_
      refine TX_then_exit ?_
      refine TX_then_exit ?_
      refine TX.sub (m' := [(3, v64 s0.1)]) ⟨rfl, trivial⟩ ?_
      refine TX.pull (is := []) (L' := []) rfl ?_
      obtain rfl := Option.some.inj H
      exact hE s0.1 rfl ()
  · intro g
    refine TX_block_exit ?_
    refine TX_next ?_
    refine TC_seq ?_
    refine TC_region ?_
    refine TL_v rfl rfl rfl (V_move rfl) ?_
    refine TL_v rfl rfl rfl (V_assign rfl) ?_
    refine TL_nil ?_
    refine TX_next ?_
    refine TC_ret ?_
    have hrv := Option.some.inj H
    subst hrv
    exact TX_ret (rs := [.tmp 2]) (vs := [v64 t_1]) rfl ⟨rfl, trivial⟩ (fun w' hs' => ⟨(), rfl, Step.left (Step.pulled (is := []) (A := []) hs' rfl)⟩)

end Go.Proofs
end

section
namespace Go.Proofs
open Go Go.Kx
set_option linter.unusedVariables false
set_option linter.unusedSimpArgs false
def math_bits_RotateLeft32 (x : BitVec 32) (k : Int) : Option (BitVec 32) :=
  ltt ((BitVec.ofInt 64 k) &&& 31#64) fun (s_1 : BitVec 64) => (ltt ((x <<< s_1.toNat) ||| (x >>> (32#64 - s_1).toNat)) fun (x1 : BitVec 32) => (some x1))

set_option maxHeartbeats 4000000 in
set_option maxRecDepth 20000 in
theorem F72_calls (x : BitVec 32) (k : Int) (r : BitVec 32) (H : math_bits_RotateLeft32 x k = some r) :
    Does Try.prog 72 [v32 x, vi k] [] [] (Γ := Unit) (fun g => v32 r) (fun g => []) := by
  intro w hmem hro hd
  refine calls_of (N := 17) (m0 := [(0, v32 x), (1, vi k)]) Try.func72 rfl Try.ntmps72 (argM_ok [v32 x, vi k]) rfl hmem hro hd ?_
  unfold math_bits_RotateLeft32 at H
  refine TC_seq ?_
  refine TC_region ?_
  refine TL_v rfl rfl rfl (V_assign rfl) ?_
  refine TL_nil ?_
  refine TX_next ?_
  refine TC_seq ?_
  refine TC_region ?_
  refine TL_v rfl rfl rfl (V_move rfl) ?_
  refine TL_v rfl rfl rfl (V_conv rfl (fun w => cvI64 w _ _ Try.underlying42 (TryI.und3) .i64 k)) ?_
  refine TL_v rfl rfl rfl (V_bin rfl rfl (fun w => and64 w (BitVec.ofInt 64 k) 31#64)) ?_
  refine TL_v rfl rfl rfl (V_assign rfl) ?_
  obtain ⟨s_1, hs_1, H⟩ := ltt_elim H
  refine TL_re (d := 5) (v := v64 ((BitVec.ofInt 64 k) &&& 31#64)) (v' := v64 s_1) rfl (congrArg v64 hs_1) ?_
  refine TL_nil ?_
  refine TX_next ?_
  refine TC_seq ?_
  refine TC_region ?_
  refine TL_v rfl rfl rfl (V_move rfl) ?_
  refine TL_v rfl rfl rfl (V_move rfl) ?_
  refine TL_v rfl rfl rfl (V_bin rfl rfl (fun w => shl32 w x .u64 (s_1.toNat : Int) (Int.natCast_nonneg _))) ?_
  refine TL_v rfl rfl rfl (V_move rfl) ?_
  refine TL_v rfl rfl rfl (V_move rfl) ?_
  refine TL_v rfl rfl rfl (V_bin rfl rfl (fun w => sub64 w 32#64 s_1)) ?_
  refine TL_v rfl rfl rfl (V_bin rfl rfl (fun w => shr32 w x .u64 ((32#64 - s_1).toNat : Int) (Int.natCast_nonneg _))) ?_
  refine TL_v rfl rfl rfl (V_bin rfl rfl (fun w => or32 w (x <<< s_1.toNat) (x >>> (32#64 - s_1).toNat))) ?_
  refine TL_v rfl rfl rfl (V_assign rfl) ?_
  obtain ⟨x1, hx1, H⟩ := ltt_elim H
  refine TL_re (d := 4) (v := v32 ((x <<< s_1.toNat) ||| (x >>> (32#64 - s_1).toNat))) (v' := v32 x1) rfl (congrArg v32 hx1) ?_
  refine TL_nil ?_
  refine TX_next ?_
  refine TC_ret ?_
  have hrv := Option.some.inj H
  subst hrv
  exact TX_ret (rs := [.tmp 4]) (vs := [v32 x1]) rfl ⟨rfl, trivial⟩ (fun w' hs' => ⟨(), rfl, Step.left (Step.pulled (is := []) (A := []) hs' rfl)⟩)

end Go.Proofs
end

section
namespace Go.Proofs
open Go Go.Kx
set_option linter.unusedVariables false
set_option linter.unusedSimpArgs false
def math_bits_RotateLeft64 (x : BitVec 64) (k : Int) : Option (BitVec 64) :=
  ltt ((BitVec.ofInt 64 k) &&& 63#64) fun (s_1 : BitVec 64) => (ltt ((x <<< s_1.toNat) ||| (x >>> (64#64 - s_1).toNat)) fun (x1 : BitVec 64) => (some x1))

set_option maxHeartbeats 4000000 in
set_option maxRecDepth 20000 in
theorem F73_calls (x : BitVec 64) (k : Int) (r : BitVec 64) (H : math_bits_RotateLeft64 x k = some r) :
    Does Try.prog 73 [v64 x, vi k] [] [] (Γ := Unit) (fun g => v64 r) (fun g => []) := by
  intro w hmem hro hd
  refine calls_of (N := 17) (m0 := [(0, v64 x), (1, vi k)]) Try.func73 rfl Try.ntmps73 (argM_ok [v64 x, vi k]) rfl hmem hro hd ?_
  unfold math_bits_RotateLeft64 at H
  refine TC_seq ?_
  refine TC_region ?_
  refine TL_v rfl rfl rfl (V_assign rfl) ?_
  refine TL_nil ?_
  refine TX_next ?_
  refine TC_seq ?_
  refine TC_region ?_
  refine TL_v rfl rfl rfl (V_move rfl) ?_
  refine TL_v rfl rfl rfl (V_conv rfl (fun w => cvI64 w _ _ Try.underlying42 (TryI.und3) .i64 k)) ?_
  refine TL_v rfl rfl rfl (V_bin rfl rfl (fun w => and64 w (BitVec.ofInt 64 k) 63#64)) ?_
  refine TL_v rfl rfl rfl (V_assign rfl) ?_
  obtain ⟨s_1, hs_1, H⟩ := ltt_elim H
  refine TL_re (d := 5) (v := v64 ((BitVec.ofInt 64 k) &&& 63#64)) (v' := v64 s_1) rfl (congrArg v64 hs_1) ?_
  refine TL_nil ?_
  refine TX_next ?_
  refine TC_seq ?_
  refine TC_region ?_
  refine TL_v rfl rfl rfl (V_move rfl) ?_
  refine TL_v rfl rfl rfl (V_move rfl) ?_
  refine TL_v rfl rfl rfl (V_bin rfl rfl (fun w => shl64 w x .u64 (s_1.toNat : Int) (Int.natCast_nonneg _))) ?_
  refine TL_v rfl rfl rfl (V_move rfl) ?_
  refine TL_v rfl rfl rfl (V_move rfl) ?_
  refine TL_v rfl rfl rfl (V_bin rfl rfl (fun w => sub64 w 64#64 s_1)) ?_
  refine TL_v rfl rfl rfl (V_bin rfl rfl (fun w => shr64 w x .u64 ((64#64 - s_1).toNat : Int) (Int.natCast_nonneg _))) ?_
  refine TL_v rfl rfl rfl (V_bin rfl rfl (fun w => or64 w (x <<< s_1.toNat) (x >>> (64#64 - s_1).toNat))) ?_
  refine TL_v rfl rfl rfl (V_assign rfl) ?_
  obtain ⟨x1, hx1, H⟩ := ltt_elim H
  refine TL_re (d := 4) (v := v64 ((x <<< s_1.toNat) ||| (x >>> (64#64 - s_1).toNat))) (v' := v64 x1) rfl (congrArg v64 hx1) ?_
  refine TL_nil ?_
  refine TX_next ?_
  refine TC_ret ?_
  have hrv := Option.some.inj H
  subst hrv
  exact TX_ret (rs := [.tmp 4]) (vs := [v64 x1]) rfl ⟨rfl, trivial⟩ (fun w' hs' => ⟨(), rfl, Step.left (Step.pulled (is := []) (A := []) hs' rfl)⟩)

end Go.Proofs
end

section
namespace Go.Proofs
open Go Go.Kx
set_option linter.unusedVariables false
set_option linter.unusedSimpArgs false
def sha_Hash_turns256.b0 (b : List (BitVec 8)) (s0 : Int × Vector (BitVec 32) 64) : Option ((Int × Vector (BitVec 32) 64) ⊕ (Vector (BitVec 32) 64)) :=
  if s0.1 < 64 then (if s0.1 < 16 then (if 0 ≤ w64 ((w64 (4 * s0.1)) + 4) then (if 0 ≤ w64 (4 * s0.1) then (if (w64 ((w64 (4 * s0.1)) + 4)).toNat ≤ (b).length then (if (w64 (4 * s0.1)).toNat ≤ (w64 ((w64 (4 * s0.1)) + 4)).toNat then (if (w64 ((w64 (4 * s0.1)) + 4)).toNat ≤ (b).length then (if (w64 ((w64 (4 * s0.1)) + 4)).toNat ≤ (b).length then ((sha_word (sub b ((w64 (4 * s0.1)).toNat) ((w64 ((w64 (4 * s0.1)) + 4)).toNat))).bind fun (r_1 : BitVec 64) => (if 0 ≤ s0.1 ∧ s0.1 < (64 : Int) then (ltt (vp s0.2 ((s0.1).toNat) (r_1.setWidth 32)) fun (m_1 : Vector (BitVec 32) 64) => (some (.inl (w64 (s0.1 + 1), m_1)))) else none)) else none) else none) else none) else none) else none) else none) else (if 0 ≤ w64 (s0.1 - 15) ∧ w64 (s0.1 - 15) < (64 : Int) then (if 0 ≤ w64 (s0.1 - 2) ∧ w64 (s0.1 - 2) < (64 : Int) then (ltt (vg s0.2 ((w64 (s0.1 - 15)).toNat)) fun (x1 : BitVec 32) => (ltt (vg s0.2 ((w64 (s0.1 - 2)).toNat)) fun (y1 : BitVec 32) => (if 0 ≤ w64 (s0.1 - 16) ∧ w64 (s0.1 - 16) < (64 : Int) then (if 0 ≤ w64 (s0.1 - 7) ∧ w64 (s0.1 - 7) < (64 : Int) then ((math_bits_RotateLeft32 x1 (-7)).bind fun (r_2 : BitVec 32) => ((math_bits_RotateLeft32 x1 (-18)).bind fun (r_3 : BitVec 32) => ((math_bits_RotateLeft32 y1 (-17)).bind fun (r_4 : BitVec 32) => ((math_bits_RotateLeft32 y1 (-19)).bind fun (r_5 : BitVec 32) => (if 0 ≤ s0.1 ∧ s0.1 < (64 : Int) then (ltt (vp s0.2 ((s0.1).toNat) ((((vg s0.2 ((w64 (s0.1 - 16)).toNat)) + (vg s0.2 ((w64 (s0.1 - 7)).toNat))) + ((r_2 ^^^ r_3) ^^^ (x1 >>> 3))) + ((r_4 ^^^ r_5) ^^^ (y1 >>> 10)))) fun (m_2 : Vector (BitVec 32) 64) => (some (.inl (w64 (s0.1 + 1), m_2)))) else none))))) else none) else none))) else none) else none)) else (some (.inr s0.2))

def sha_Hash_turns256.b1 (h_h : Vector (BitVec 64) 8) (s1 : Int × Vector (BitVec 32) 8) : Option ((Int × Vector (BitVec 32) 8) ⊕ (Vector (BitVec 32) 8)) :=
  if s1.1 < 8 then (if 0 ≤ s1.1 ∧ s1.1 < (8 : Int) then (if 0 ≤ s1.1 ∧ s1.1 < (8 : Int) then (ltt (vp s1.2 ((s1.1).toNat) ((vg h_h ((s1.1).toNat)).setWidth 32)) fun (m_3 : Vector (BitVec 32) 8) => (some (.inl (w64 (s1.1 + 1), m_3)))) else none) else none) else (some (.inr s1.2))

def sha_Hash_turns256.b2 (h_k : Vector (BitVec 64) 80) (t_1 : Vector (BitVec 32) 64) (s2 : Int × Vector (BitVec 32) 8) : Option ((Int × Vector (BitVec 32) 8) ⊕ (Vector (BitVec 32) 8)) :=
  if s2.1 < 64 then ((math_bits_RotateLeft32 (vg s2.2 4) (-6)).bind fun (r_6 : BitVec 32) => ((math_bits_RotateLeft32 (vg s2.2 4) (-11)).bind fun (r_7 : BitVec 32) => ((math_bits_RotateLeft32 (vg s2.2 4) (-25)).bind fun (r_8 : BitVec 32) => (if 0 ≤ s2.1 ∧ s2.1 < (80 : Int) then (if 0 ≤ s2.1 ∧ s2.1 < (64 : Int) then (ltt (((((vg s2.2 7) + ((r_6 ^^^ r_7) ^^^ r_8)) + (((vg s2.2 4) &&& (vg s2.2 5)) ^^^ ((~~~(vg s2.2 4)) &&& (vg s2.2 6)))) + (((vg h_k ((s2.1).toNat)) >>> 32).setWidth 32)) + (vg t_1 ((s2.1).toNat))) fun (t_4 : BitVec 32) => ((math_bits_RotateLeft32 (vg s2.2 0) (-2)).bind fun (r_9 : BitVec 32) => ((math_bits_RotateLeft32 (vg s2.2 0) (-13)).bind fun (r_10 : BitVec 32) => ((math_bits_RotateLeft32 (vg s2.2 0) (-22)).bind fun (r_11 : BitVec 32) => (ltt (((r_9 ^^^ r_10) ^^^ r_11) + ((((vg s2.2 0) &&& (vg s2.2 1)) ^^^ ((vg s2.2 0) &&& (vg s2.2 2))) ^^^ ((vg s2.2 1) &&& (vg s2.2 2)))) fun (u1 : BitVec 32) => (ltt ((#v[t_4 + u1, vg s2.2 0, vg s2.2 1, vg s2.2 2, (vg s2.2 3) + t_4, vg s2.2 4, vg s2.2 5, vg s2.2 6] : Vector (BitVec 32) 8)) fun (m_4 : Vector (BitVec 32) 8) => (some (.inl (w64 (s2.1 + 1), m_4))))))))) else none) else none)))) else (some (.inr s2.2))

def sha_Hash_turns256.b3 (t_3 : Vector (BitVec 32) 8) (s3 : Int × Vector (BitVec 64) 8) : Option ((Int × Vector (BitVec 64) 8) ⊕ (Vector (BitVec 64) 8)) :=
  if s3.1 < 8 then (if 0 ≤ s3.1 ∧ s3.1 < (8 : Int) then (if 0 ≤ s3.1 ∧ s3.1 < (8 : Int) then (if 0 ≤ s3.1 ∧ s3.1 < (8 : Int) then (ltt (vp s3.2 ((s3.1).toNat) ((((vg s3.2 ((s3.1).toNat)).setWidth 32) + (vg t_3 ((s3.1).toNat))).setWidth 64)) fun (m_5 : Vector (BitVec 64) 8) => (some (.inl (w64 (s3.1 + 1), m_5)))) else none) else none) else none) else (some (.inr s3.2))

def sha_Hash_turns256 (h_n : Int) (h_h : Vector (BitVec 64) 8) (h_k : Vector (BitVec 64) 80) (h_rest : List (BitVec 8)) (h_all : BitVec 64) (b : List (BitVec 8)) : Option (Vector (BitVec 64) 8) :=
  (loop (sha_Hash_turns256.b0 b) BIG (0, Vector.replicate 64 0#32)).bind fun (t_1 : Vector (BitVec 32) 64) => ((loop (sha_Hash_turns256.b1 h_h) BIG (0, Vector.replicate 8 0#32)).bind fun (t_2 : Vector (BitVec 32) 8) => ((loop (sha_Hash_turns256.b2 h_k t_1) BIG (0, t_2)).bind fun (t_3 : Vector (BitVec 32) 8) => ((loop (sha_Hash_turns256.b3 t_3) BIG (0, h_h)).bind fun (t_5 : Vector (BitVec 64) 8) => (some t_5))))

set_option maxHeartbeats 4000000 in
set_option maxRecDepth 20000 in
theorem F69_calls (bh : Nat) (obh : Nat) (Ah_rest : Adr) (ch_rest : Nat) (Ab : Adr) (cb : Nat) (h_n : Int) (h_h : Vector (BitVec 64) 8) (h_k : Vector (BitVec 64) 80) (h_rest : List (BitVec 8)) (h_all : BitVec 64) (b : List (BitVec 8)) (hch_rest : (h_rest).length ≤ ch_rest) (hcb : (b).length ≤ cb) (r : Vector (BitVec 64) 8) (H : sha_Hash_turns256 h_n h_h h_k h_rest h_all b = some r) :
    Does Try.prog 69 [ptr (some (bh, obh)) 0, sl Ab ((b).length) cb] [⟨some (bh, obh + 1), e64 h_h.toList⟩] [⟨some (bh, obh), [vi h_n]⟩, ⟨some (bh, obh + 9), e64 h_k.toList⟩, ⟨some (bh, obh + 89), [sl Ah_rest ((h_rest).length) ch_rest]⟩, ⟨some (bh, obh + 90), [v64 h_all]⟩, ⟨Ah_rest, e8 h_rest⟩, ⟨Ab, e8 b⟩] (Γ := Unit) (fun g => Value.tuple [].toArray) (fun g => [⟨some (bh, obh + 1), e64 r.toList⟩]) := by
  intro w hmem hro hd
  refine calls_of (N := 191) (m0 := [(0, ptr (some (bh, obh)) 0), (1, sl Ab ((b).length) cb)]) Try.func69 rfl Try.ntmps69 (argM_ok [ptr (some (bh, obh)) 0, sl Ab ((b).length) cb]) rfl hmem hro hd ?_
  unfold sha_Hash_turns256 at H
  refine TC_seq ?_
  refine TC_region ?_
  refine TL_e rfl rfl rfl (E_allocP [(64, e32 ((Vector.replicate 64 0#32).toList))] TryI.inf83 TryI.zer83 ⟨(lenV (f := v32) (Vector.replicate 64 0#32)), trivial⟩) (fun b1 => ?_)
  refine TL_nil ?_
  refine TX_next ?_
  refine TC_seq ?_
  refine TC_seq ?_
  refine TC_region ?_
  refine TL_v rfl rfl rfl (V_move rfl) ?_
  refine TL_nil ?_
  refine TX_next ?_
  refine TC_block ?_
  obtain ⟨t_1, Hl, H⟩ := bind_elim H
  refine TC.sub (m' := [(0, ptr (some (bh, obh)) 0), (1, sl Ab ((b).length) cb), (4, ptr (some (b1, 0)) 0), (16, vi 0)]) ⟨rfl, rfl, rfl, rfl, trivial⟩ ?_
  refine TC.pull (is := [1, 0]) (L' := [⟨some (bh, obh + 1), e64 h_h.toList⟩, ⟨some (b1, 0), e32 ((Vector.replicate 64 0#32).toList)⟩]) rfl ?_
  refine TC_loopL (id := 0) (body := (sha_Hash_turns256.b0 b)) (σ := Int × Vector (BitVec 32) 64) (Γ := Unit) (Γx := Unit) (fun s0 g0_ => [(0, ptr (some (bh, obh)) 0), (1, sl Ab ((b).length) cb), (4, ptr (some (b1, 0)) 0), (16, vi s0.1)]) (fun s0 g0_ => [⟨some (bh, obh + 1), e64 h_h.toList⟩, ⟨some (b1, 0), e32 s0.2.toList⟩]) (fun t g => [(0, ptr (some (bh, obh)) 0), (4, ptr (some (b1, 0)) 0)]) (fun t g => [⟨some (bh, obh + 1), e64 h_h.toList⟩, ⟨some (b1, 0), e32 t.toList⟩]) ?_ BIG (0, Vector.replicate 64 0#32) () t_1 Hl ?_
  · intro s0 g0_ r1 H K hK hE
    unfold sha_Hash_turns256.b0 at H
    refine TC_seq ?_
    refine TC_region ?_
    refine TL_v rfl rfl rfl (V_bin rfl rfl (fun w => lssI w s0.1 64)) ?_
    refine TL_nil ?_
    refine TX_next ?_
    refine TC_seq ?_
    refine TC_cond (b := (decide (s0.1 < 64))) rfl (fun hc => ?_) (fun hc => ?_)
    · replace H := ite_t (of_decide_eq_true hc) H
      refine TC_skip ?_
      refine TX_next ?_
      refine TC_seq ?_
      refine TC_block ?_
      refine TC_seq ?_
      refine TC_region ?_
      refine TL_v rfl rfl rfl (V_move rfl) ?_
      refine TL_v rfl rfl rfl (V_assign rfl) ?_
      refine TL_nil ?_
      refine TX_next ?_
      refine TC_seq ?_
      refine TC_seq ?_
      refine TC_region ?_
      refine TL_v rfl rfl rfl (V_move rfl) ?_
      refine TL_v rfl rfl rfl (V_bin rfl rfl (fun w => lssI w s0.1 16)) ?_
      refine TL_nil ?_
      refine TX_next ?_
      refine TC_cond (b := (decide (s0.1 < 16))) rfl (fun hc => ?_) (fun hc => ?_)
      · replace H := ite_t (of_decide_eq_true hc) H
        refine TC_seq ?_
        refine TC_region ?_
        refine TL_v rfl rfl rfl (V_move rfl) ?_
        refine TL_v rfl rfl rfl (V_move rfl) ?_
        refine TL_v rfl rfl rfl (V_move rfl) ?_
        refine TL_v rfl rfl rfl (V_bin rfl rfl (fun w => mulI w 4 s0.1)) ?_
        refine TL_v rfl rfl rfl (V_move rfl) ?_
        refine TL_v rfl rfl rfl (V_bin rfl rfl (fun w => mulI w 4 s0.1)) ?_
        refine TL_v rfl rfl rfl (V_bin rfl rfl (fun w => addI w (w64 (4 * s0.1)) 4)) ?_
        obtain ⟨h1, H⟩ := if_elim H
        obtain ⟨h2, H⟩ := if_elim H
        obtain ⟨h3, H⟩ := if_elim H
        obtain ⟨h4, H⟩ := if_elim H
        refine TL_v rfl rfl rfl (V_sliceVw0 (l := (w64 (4 * s0.1)).toNat) (h := (w64 ((w64 (4 * s0.1)) + 4)).toNat) rfl Try.underlying49 TryI.inf5 rfl (Bnd.some' (i := w64 (4 * s0.1)) rfl h2) (Bnd.some' (i := w64 ((w64 (4 * s0.1)) + 4)) rfl h1) h4 (Nat.le_trans h3 hcb)) ?_
        obtain ⟨h5, H⟩ := if_elim H
        obtain ⟨h6, H⟩ := if_elim H
        refine TL_re (d := 28) (v := sl (cutB Ab cb ((w64 (4 * s0.1)).toNat) 0 1) (((w64 ((w64 (4 * s0.1)) + 4)).toNat) - ((w64 (4 * s0.1)).toNat)) (cb - ((w64 (4 * s0.1)).toNat))) (v' := sl (cutB Ab cb ((w64 (4 * s0.1)).toNat) 0 1) ((sub b ((w64 (4 * s0.1)).toNat) ((w64 ((w64 (4 * s0.1)) + 4)).toNat)).length) (cb - ((w64 (4 * s0.1)).toNat))) rfl (congrArg (fun n => sl (cutB Ab cb ((w64 (4 * s0.1)).toNat) 0 1) n (cb - ((w64 (4 * s0.1)).toNat))) (sub_length h6).symm) ?_
        obtain ⟨r_1, hr_1, H⟩ := bind_elim H
        refine TL_e rfl rfl rfl (E_call (Γ := Unit) (val := fun g => v64 r_1) (mem := fun g => []) (vs := [sl (cutB Ab cb ((w64 (4 * s0.1)).toNat) 0 1) ((sub b ((w64 (4 * s0.1)).toNat) ((w64 ((w64 (4 * s0.1)) + 4)).toNat)).length) (cb - ((w64 (4 * s0.1)).toNat))]) (Lin := []) (Ro := [⟨cutB Ab cb ((w64 (4 * s0.1)).toNat) 0 1, e8 (sub b ((w64 (4 * s0.1)).toNat) ((w64 ((w64 (4 * s0.1)) + 4)).toNat))⟩]) (is := []) rfl Try.call71 (F71_calls (cutB Ab cb ((w64 (4 * s0.1)).toNat) 0 1) (cb - ((w64 (4 * s0.1)).toNat)) (sub b ((w64 (4 * s0.1)).toNat) ((w64 ((w64 (4 * s0.1)) + 4)).toNat)) (vw_cap h5 (Nat.le_trans h3 hcb)) r_1 hr_1) rfl ⟨(srcdVw (lst := b) (SrcD.ro (j := 5) rfl) (Nat.le_trans h3 hcb)), trivial⟩) (fun g_1 => ?_)
        refine TL_re (d := 28) (v := sl (cutB Ab cb ((w64 (4 * s0.1)).toNat) 0 1) ((sub b ((w64 (4 * s0.1)).toNat) ((w64 ((w64 (4 * s0.1)) + 4)).toNat)).length) (cb - ((w64 (4 * s0.1)).toNat))) (v' := sl (cutB Ab cb ((w64 (4 * s0.1)).toNat) 0 1) (((w64 ((w64 (4 * s0.1)) + 4)).toNat) - ((w64 (4 * s0.1)).toNat)) (cb - ((w64 (4 * s0.1)).toNat))) rfl (congrArg (fun n => sl (cutB Ab cb ((w64 (4 * s0.1)).toNat) 0 1) n (cb - ((w64 (4 * s0.1)).toNat))) (sub_length h6)) ?_
        refine TL_v rfl rfl rfl (V_conv rfl (fun w => cv64to32 w _ _ Try.underlying67 (TryI.und71) r_1)) ?_
        obtain ⟨h7, H⟩ := if_elim H
        refine TL_v rfl rfl rfl (V_idxArr (i := s0.1) rfl rfl Try.underlying83 TryI.inf67 rfl h7.1 h7.2 (k := (s0.1).toNat) (k01 _)) ?_
        refine TL_n rfl rfl (E_store (j := 1) rfl rfl TryI.inf67 rfl rfl rfl (by simpa using (toNat_lt h7.1 h7.2)) (cs' := e32 ((vp s0.2 ((s0.1).toNat) (r_1.setWidth 32)).toList)) set_vec) (fun _ => ?_)
        obtain ⟨m_1, hm_1, H⟩ := ltt_elim H
        refine TL_reE (j := 1) (A := some (b1, 0)) (cs := e32 ((vp s0.2 ((s0.1).toNat) (r_1.setWidth 32)).toList)) (cs' := e32 m_1.toList) rfl (congrArg (fun z : Vector (BitVec 32) 64 => e32 (Vector.toList z)) hm_1) ?_
        refine TL_nil ?_
        refine TX_next ?_
        refine TC_exit ?_
        refine TX_then_exit ?_
        refine TX_block_exit ?_
        refine TX_next ?_
        refine TC_region ?_
        refine TL_v rfl rfl rfl (V_bin rfl rfl (fun w => addI w s0.1 1)) ?_
        refine TL_v rfl rfl rfl (V_move rfl) ?_
        refine TL_nil ?_
        refine TX.sub (m' := [(0, ptr (some (bh, obh)) 0), (1, sl Ab ((b).length) cb), (4, ptr (some (b1, 0)) 0), (16, vi (w64 (s0.1 + 1)))]) ⟨rfl, rfl, rfl, rfl, trivial⟩ ?_
        refine TX.pull (is := [0, 0]) (L' := [⟨some (bh, obh + 1), e64 h_h.toList⟩, ⟨some (b1, 0), e32 m_1.toList⟩]) rfl ?_
        obtain rfl := Option.some.inj H
        exact fun a w hs => hK (w64 (s0.1 + 1), m_1) rfl () a w hs
      · replace H := ite_f (of_decide_eq_false hc) H
        refine TC_skip ?_
        refine TX_next ?_
        refine TC_seq ?_
        obtain ⟨h8, H⟩ := if_elim H
        obtain ⟨h9, H⟩ := if_elim H
        obtain ⟨x1, hx1, H⟩ := ltt_elim H
        obtain ⟨y1, hy1, H⟩ := ltt_elim H
        refine TA_begin [⟨some (bh, obh + 1), e64 h_h.toList⟩, ⟨some (b1, 0), e32 s0.2.toList⟩] 10 (by kernel_rfl) (N := 10) rfl ?_
        refine TA_take (i := 0) (is := [0, 0]) (done' := #[true, false, false, false, false, false, false, false, false, false]) rfl rfl rfl rfl (by kernel_rfl) (QP.then (QP.block (QP.then (QP.then (QP.block (QP.then QP.body)))))) (by kernel_rfl) rfl (V_move rfl) ?_
        refine TA_take (i := 1) (is := [0, 0]) (done' := #[true, true, false, false, false, false, false, false, false, false]) rfl rfl rfl rfl (by kernel_rfl) (QP.then (QP.block (QP.then (QP.then (QP.block (QP.then QP.body)))))) (by kernel_rfl) rfl (V_bin rfl rfl (fun w => subI w s0.1 15)) ?_
        refine TA_take (i := 2) (is := [0, 0]) (done' := #[true, true, true, false, false, false, false, false, false, false]) rfl rfl rfl rfl (by kernel_rfl) (QP.then (QP.block (QP.then (QP.then (QP.block (QP.then QP.body)))))) (by kernel_rfl) rfl (V_idxArr (i := w64 (s0.1 - 15)) rfl rfl Try.underlying83 TryI.inf67 rfl h8.1 h8.2 (k := (w64 (s0.1 - 15)).toNat) (k01 _)) ?_
        refine TA_take (i := 3) (is := [0, 0]) (done' := #[true, true, true, true, false, false, false, false, false, false]) rfl rfl rfl rfl (by kernel_rfl) (QP.then (QP.block (QP.then (QP.then (QP.block (QP.then QP.body)))))) (by kernel_rfl) rfl (V_load rfl (Src.own (j := 1) rfl) (get_vec (f := v32) (V := s0.2) (toNat_lt h8.1 h8.2)) Try.isAgg67) ?_
        refine TA_take (i := 4) (is := [0, 0]) (done' := #[true, true, true, true, true, false, false, false, false, false]) rfl rfl rfl rfl (by kernel_rfl) (QP.then (QP.block (QP.then (QP.then (QP.block (QP.then QP.body)))))) (by kernel_rfl) rfl (V_move rfl) ?_
        refine TA_take (i := 5) (is := [0, 0]) (done' := #[true, true, true, true, true, true, false, false, false, false]) rfl rfl rfl rfl (by kernel_rfl) (QP.then (QP.block (QP.then (QP.then (QP.block (QP.then QP.body)))))) (by kernel_rfl) rfl (V_bin rfl rfl (fun w => subI w s0.1 2)) ?_
        refine TA_take (i := 6) (is := [0, 0]) (done' := #[true, true, true, true, true, true, true, false, false, false]) rfl rfl rfl rfl (by kernel_rfl) (QP.then (QP.block (QP.then (QP.then (QP.block (QP.then QP.body)))))) (by kernel_rfl) rfl (V_idxArr (i := w64 (s0.1 - 2)) rfl rfl Try.underlying83 TryI.inf67 rfl h9.1 h9.2 (k := (w64 (s0.1 - 2)).toNat) (k01 _)) ?_
        refine TA_take (i := 7) (is := [0, 0]) (done' := #[true, true, true, true, true, true, true, true, false, false]) rfl rfl rfl rfl (by kernel_rfl) (QP.then (QP.block (QP.then (QP.then (QP.block (QP.then QP.body)))))) (by kernel_rfl) rfl (V_load rfl (Src.own (j := 1) rfl) (get_vec (f := v32) (V := s0.2) (toNat_lt h9.1 h9.2)) Try.isAgg67) ?_
        refine TA_take (i := 8) (is := [0, 0]) (done' := #[true, true, true, true, true, true, true, true, true, false]) rfl rfl rfl rfl (by kernel_rfl) (QP.then (QP.block (QP.then (QP.then (QP.block (QP.then QP.body)))))) (by kernel_rfl) rfl (V_assign rfl) ?_
        refine TA_re (d := 6) (v := v32 (vg s0.2 ((w64 (s0.1 - 15)).toNat))) (v' := v32 x1) rfl (congrArg v32 hx1) ?_
        refine TA_take (i := 9) (is := [0, 0]) (done' := #[true, true, true, true, true, true, true, true, true, true]) rfl rfl rfl rfl (by kernel_rfl) (QP.then (QP.block (QP.then (QP.then (QP.block (QP.then QP.body)))))) (by kernel_rfl) rfl (V_assign rfl) ?_
        refine TA_re (d := 7) (v := v32 (vg s0.2 ((w64 (s0.1 - 2)).toNat))) (v' := v32 y1) rfl (congrArg v32 hy1) ?_
        refine TA_done (by kernel_rfl) ?_ 0
        refine TX_next ?_
        obtain ⟨h10, H⟩ := if_elim H
        obtain ⟨h11, H⟩ := if_elim H
        obtain ⟨r_2, hr_2, H⟩ := bind_elim H
        obtain ⟨r_3, hr_3, H⟩ := bind_elim H
        obtain ⟨r_4, hr_4, H⟩ := bind_elim H
        obtain ⟨r_5, hr_5, H⟩ := bind_elim H
        obtain ⟨h12, H⟩ := if_elim H
        obtain ⟨m_2, hm_2, H⟩ := ltt_elim H
        refine TA_begin [⟨some (bh, obh + 1), e64 h_h.toList⟩, ⟨some (b1, 0), e32 s0.2.toList⟩] 29 (by kernel_rfl) (N := 30) rfl ?_
        refine TA_take (i := 0) (is := [0, 0]) (done' := #[true, false, false, false, false, false, false, false, false, false, false, false, false, false, false, false, false, false, false, false, false, false, false, false, false, false, false, false, false, false]) rfl rfl rfl rfl (by kernel_rfl) (QP.block (QP.then (QP.then (QP.block (QP.then QP.body))))) (by kernel_rfl) rfl (V_move rfl) ?_
        refine TA_take (i := 1) (is := [0, 0]) (done' := #[true, true, false, false, false, false, false, false, false, false, false, false, false, false, false, false, false, false, false, false, false, false, false, false, false, false, false, false, false, false]) rfl rfl rfl rfl (by kernel_rfl) (QP.block (QP.then (QP.then (QP.block (QP.then QP.body))))) (by kernel_rfl) rfl (V_move rfl) ?_
        refine TA_take (i := 2) (is := [0, 0]) (done' := #[true, true, true, false, false, false, false, false, false, false, false, false, false, false, false, false, false, false, false, false, false, false, false, false, false, false, false, false, false, false]) rfl rfl rfl rfl (by kernel_rfl) (QP.block (QP.then (QP.then (QP.block (QP.then QP.body))))) (by kernel_rfl) rfl (V_bin rfl rfl (fun w => subI w s0.1 16)) ?_
        refine TA_take (i := 3) (is := [0, 0]) (done' := #[true, true, true, true, false, false, false, false, false, false, false, false, false, false, false, false, false, false, false, false, false, false, false, false, false, false, false, false, false, false]) rfl rfl rfl rfl (by kernel_rfl) (QP.block (QP.then (QP.then (QP.block (QP.then QP.body))))) (by kernel_rfl) rfl (V_idxArr (i := w64 (s0.1 - 16)) rfl rfl Try.underlying83 TryI.inf67 rfl h10.1 h10.2 (k := (w64 (s0.1 - 16)).toNat) (k01 _)) ?_
        refine TA_take (i := 4) (is := [0, 0]) (done' := #[true, true, true, true, true, false, false, false, false, false, false, false, false, false, false, false, false, false, false, false, false, false, false, false, false, false, false, false, false, false]) rfl rfl rfl rfl (by kernel_rfl) (QP.block (QP.then (QP.then (QP.block (QP.then QP.body))))) (by kernel_rfl) rfl (V_load rfl (Src.own (j := 1) rfl) (get_vec (f := v32) (V := s0.2) (toNat_lt h10.1 h10.2)) Try.isAgg67) ?_
        refine TA_take (i := 5) (is := [0, 0]) (done' := #[true, true, true, true, true, true, false, false, false, false, false, false, false, false, false, false, false, false, false, false, false, false, false, false, false, false, false, false, false, false]) rfl rfl rfl rfl (by kernel_rfl) (QP.block (QP.then (QP.then (QP.block (QP.then QP.body))))) (by kernel_rfl) rfl (V_move rfl) ?_
        refine TA_take (i := 6) (is := [0, 0]) (done' := #[true, true, true, true, true, true, true, false, false, false, false, false, false, false, false, false, false, false, false, false, false, false, false, false, false, false, false, false, false, false]) rfl rfl rfl rfl (by kernel_rfl) (QP.block (QP.then (QP.then (QP.block (QP.then QP.body))))) (by kernel_rfl) rfl (V_bin rfl rfl (fun w => subI w s0.1 7)) ?_
        refine TA_take (i := 7) (is := [0, 0]) (done' := #[true, true, true, true, true, true, true, true, false, false, false, false, false, false, false, false, false, false, false, false, false, false, false, false, false, false, false, false, false, false]) rfl rfl rfl rfl (by kernel_rfl) (QP.block (QP.then (QP.then (QP.block (QP.then QP.body))))) (by kernel_rfl) rfl (V_idxArr (i := w64 (s0.1 - 7)) rfl rfl Try.underlying83 TryI.inf67 rfl h11.1 h11.2 (k := (w64 (s0.1 - 7)).toNat) (k01 _)) ?_
        refine TA_take (i := 8) (is := [0, 0]) (done' := #[true, true, true, true, true, true, true, true, true, false, false, false, false, false, false, false, false, false, false, false, false, false, false, false, false, false, false, false, false, false]) rfl rfl rfl rfl (by kernel_rfl) (QP.block (QP.then (QP.then (QP.block (QP.then QP.body))))) (by kernel_rfl) rfl (V_load rfl (Src.own (j := 1) rfl) (get_vec (f := v32) (V := s0.2) (toNat_lt h11.1 h11.2)) Try.isAgg67) ?_
        refine TA_take (i := 9) (is := [0, 0]) (done' := #[true, true, true, true, true, true, true, true, true, true, false, false, false, false, false, false, false, false, false, false, false, false, false, false, false, false, false, false, false, false]) rfl rfl rfl rfl (by kernel_rfl) (QP.block (QP.then (QP.then (QP.block (QP.then QP.body))))) (by kernel_rfl) rfl (V_bin rfl rfl (fun w => add32 w (vg s0.2 ((w64 (s0.1 - 16)).toNat)) (vg s0.2 ((w64 (s0.1 - 7)).toNat)))) ?_
        refine TA_take (i := 10) (is := [0, 0]) (done' := #[true, true, true, true, true, true, true, true, true, true, true, false, false, false, false, false, false, false, false, false, false, false, false, false, false, false, false, false, false, false]) rfl rfl rfl rfl (by kernel_rfl) (QP.block (QP.then (QP.then (QP.block (QP.then QP.body))))) (by kernel_rfl) rfl (V_move rfl) ?_
        refine TA_take (i := 12) (is := [0, 0]) (done' := #[true, true, true, true, true, true, true, true, true, true, true, false, true, false, false, false, false, false, false, false, false, false, false, false, false, false, false, false, false, false]) rfl rfl rfl rfl (by kernel_rfl) (QP.block (QP.then (QP.then (QP.block (QP.then QP.body))))) (by kernel_rfl) rfl (V_move rfl) ?_
        refine TA_take (i := 15) (is := [0, 0]) (done' := #[true, true, true, true, true, true, true, true, true, true, true, false, true, false, false, true, false, false, false, false, false, false, false, false, false, false, false, false, false, false]) rfl rfl rfl rfl (by kernel_rfl) (QP.block (QP.then (QP.then (QP.block (QP.then QP.body))))) (by kernel_rfl) rfl (V_move rfl) ?_
        refine TA_take (i := 16) (is := [0, 0]) (done' := #[true, true, true, true, true, true, true, true, true, true, true, false, true, false, false, true, true, false, false, false, false, false, false, false, false, false, false, false, false, false]) rfl rfl rfl rfl (by kernel_rfl) (QP.block (QP.then (QP.then (QP.block (QP.then QP.body))))) (by kernel_rfl) rfl (V_bin rfl rfl (fun w => shr32 w x1 .u64 3 (by decide))) ?_
        refine TA_take (i := 19) (is := [0, 0]) (done' := #[true, true, true, true, true, true, true, true, true, true, true, false, true, false, false, true, true, false, false, true, false, false, false, false, false, false, false, false, false, false]) rfl rfl rfl rfl (by kernel_rfl) (QP.block (QP.then (QP.then (QP.block (QP.then QP.body))))) (by kernel_rfl) rfl (V_move rfl) ?_
        refine TA_take (i := 21) (is := [0, 0]) (done' := #[true, true, true, true, true, true, true, true, true, true, true, false, true, false, false, true, true, false, false, true, false, true, false, false, false, false, false, false, false, false]) rfl rfl rfl rfl (by kernel_rfl) (QP.block (QP.then (QP.then (QP.block (QP.then QP.body))))) (by kernel_rfl) rfl (V_move rfl) ?_
        refine TA_take (i := 24) (is := [0, 0]) (done' := #[true, true, true, true, true, true, true, true, true, true, true, false, true, false, false, true, true, false, false, true, false, true, false, false, true, false, false, false, false, false]) rfl rfl rfl rfl (by kernel_rfl) (QP.block (QP.then (QP.then (QP.block (QP.then QP.body))))) (by kernel_rfl) rfl (V_move rfl) ?_
        refine TA_take (i := 25) (is := [0, 0]) (done' := #[true, true, true, true, true, true, true, true, true, true, true, false, true, false, false, true, true, false, false, true, false, true, false, false, true, true, false, false, false, false]) rfl rfl rfl rfl (by kernel_rfl) (QP.block (QP.then (QP.then (QP.block (QP.then QP.body))))) (by kernel_rfl) rfl (V_bin rfl rfl (fun w => shr32 w y1 .u64 10 (by decide))) ?_
        refine TA_all (rs := [11]) (by kernel_rfl) rfl ?_
        refine ⟨?_, trivial⟩
        refine TO_e (is := [0, 0]) (done' := #[true, true, true, true, true, true, true, true, true, true, true, true, true, false, false, true, true, false, false, true, false, true, false, false, true, true, false, false, false, false]) rfl rfl rfl rfl (by kernel_rfl) (E_call (Γ := Unit) (val := fun g => v32 r_2) (mem := fun g => []) (vs := [v32 x1, vi (-7)]) (Lin := []) (Ro := []) (is := []) rfl Try.call72 (F72_calls x1 (-7) r_2 hr_2) rfl trivial) (fun _ _ => rfl) (fun g_2 => ?_)
        refine TA_all (rs := [13]) (by kernel_rfl) rfl ?_
        refine ⟨?_, trivial⟩
        refine TO_e (is := [0, 0]) (done' := #[true, true, true, true, true, true, true, true, true, true, true, true, true, true, false, true, true, false, false, true, false, true, false, false, true, true, false, false, false, false]) rfl rfl rfl rfl (by kernel_rfl) (E_call (Γ := Unit) (val := fun g => v32 r_3) (mem := fun g => []) (vs := [v32 x1, vi (-18)]) (Lin := []) (Ro := []) (is := []) rfl Try.call72 (F72_calls x1 (-18) r_3 hr_3) rfl trivial) (fun _ _ => rfl) (fun g_3 => ?_)
        refine TA_take (i := 14) (is := [0, 0]) (done' := #[true, true, true, true, true, true, true, true, true, true, true, true, true, true, true, true, true, false, false, true, false, true, false, false, true, true, false, false, false, false]) rfl rfl rfl rfl (by kernel_rfl) (QP.block (QP.then (QP.then (QP.block (QP.then QP.body))))) (by kernel_rfl) rfl (V_bin rfl rfl (fun w => xor32 w r_2 r_3)) ?_
        refine TA_take (i := 17) (is := [0, 0]) (done' := #[true, true, true, true, true, true, true, true, true, true, true, true, true, true, true, true, true, true, false, true, false, true, false, false, true, true, false, false, false, false]) rfl rfl rfl rfl (by kernel_rfl) (QP.block (QP.then (QP.then (QP.block (QP.then QP.body))))) (by kernel_rfl) rfl (V_bin rfl rfl (fun w => xor32 w (r_2 ^^^ r_3) (x1 >>> 3))) ?_
        refine TA_take (i := 18) (is := [0, 0]) (done' := #[true, true, true, true, true, true, true, true, true, true, true, true, true, true, true, true, true, true, true, true, false, true, false, false, true, true, false, false, false, false]) rfl rfl rfl rfl (by kernel_rfl) (QP.block (QP.then (QP.then (QP.block (QP.then QP.body))))) (by kernel_rfl) rfl (V_bin rfl rfl (fun w => add32 w ((vg s0.2 ((w64 (s0.1 - 16)).toNat)) + (vg s0.2 ((w64 (s0.1 - 7)).toNat))) ((r_2 ^^^ r_3) ^^^ (x1 >>> 3)))) ?_
        refine TA_all (rs := [20]) (by kernel_rfl) rfl ?_
        refine ⟨?_, trivial⟩
        refine TO_e (is := [0, 0]) (done' := #[true, true, true, true, true, true, true, true, true, true, true, true, true, true, true, true, true, true, true, true, true, true, false, false, true, true, false, false, false, false]) rfl rfl rfl rfl (by kernel_rfl) (E_call (Γ := Unit) (val := fun g => v32 r_4) (mem := fun g => []) (vs := [v32 y1, vi (-17)]) (Lin := []) (Ro := []) (is := []) rfl Try.call72 (F72_calls y1 (-17) r_4 hr_4) rfl trivial) (fun _ _ => rfl) (fun g_4 => ?_)
        refine TA_all (rs := [22]) (by kernel_rfl) rfl ?_
        refine ⟨?_, trivial⟩
        refine TO_e (is := [0, 0]) (done' := #[true, true, true, true, true, true, true, true, true, true, true, true, true, true, true, true, true, true, true, true, true, true, true, false, true, true, false, false, false, false]) rfl rfl rfl rfl (by kernel_rfl) (E_call (Γ := Unit) (val := fun g => v32 r_5) (mem := fun g => []) (vs := [v32 y1, vi (-19)]) (Lin := []) (Ro := []) (is := []) rfl Try.call72 (F72_calls y1 (-19) r_5 hr_5) rfl trivial) (fun _ _ => rfl) (fun g_5 => ?_)
        refine TA_take (i := 23) (is := [0, 0]) (done' := #[true, true, true, true, true, true, true, true, true, true, true, true, true, true, true, true, true, true, true, true, true, true, true, true, true, true, false, false, false, false]) rfl rfl rfl rfl (by kernel_rfl) (QP.block (QP.then (QP.then (QP.block (QP.then QP.body))))) (by kernel_rfl) rfl (V_bin rfl rfl (fun w => xor32 w r_4 r_5)) ?_
        refine TA_take (i := 26) (is := [0, 0]) (done' := #[true, true, true, true, true, true, true, true, true, true, true, true, true, true, true, true, true, true, true, true, true, true, true, true, true, true, true, false, false, false]) rfl rfl rfl rfl (by kernel_rfl) (QP.block (QP.then (QP.then (QP.block (QP.then QP.body))))) (by kernel_rfl) rfl (V_bin rfl rfl (fun w => xor32 w (r_4 ^^^ r_5) (y1 >>> 10))) ?_
        refine TA_take (i := 27) (is := [0, 0]) (done' := #[true, true, true, true, true, true, true, true, true, true, true, true, true, true, true, true, true, true, true, true, true, true, true, true, true, true, true, true, false, false]) rfl rfl rfl rfl (by kernel_rfl) (QP.block (QP.then (QP.then (QP.block (QP.then QP.body))))) (by kernel_rfl) rfl (V_bin rfl rfl (fun w => add32 w (((vg s0.2 ((w64 (s0.1 - 16)).toNat)) + (vg s0.2 ((w64 (s0.1 - 7)).toNat))) + ((r_2 ^^^ r_3) ^^^ (x1 >>> 3))) ((r_4 ^^^ r_5) ^^^ (y1 >>> 10)))) ?_
        refine TA_take (i := 28) (is := [0, 0]) (done' := #[true, true, true, true, true, true, true, true, true, true, true, true, true, true, true, true, true, true, true, true, true, true, true, true, true, true, true, true, true, false]) rfl rfl rfl rfl (by kernel_rfl) (QP.block (QP.then (QP.then (QP.block (QP.then QP.body))))) (by kernel_rfl) rfl (V_idxArr (i := s0.1) rfl rfl Try.underlying83 TryI.inf67 rfl h12.1 h12.2 (k := (s0.1).toNat) (k01 _)) ?_
        refine TA_all (rs := [29]) (by kernel_rfl) rfl ?_
        refine ⟨?_, trivial⟩
        refine TO_n (is := []) (R := fun _ => []) (done' := #[true, true, true, true, true, true, true, true, true, true, true, true, true, true, true, true, true, true, true, true, true, true, true, true, true, true, true, true, true, true]) rfl rfl rfl (by kernel_rfl) (E_store (j := 1) rfl rfl TryI.inf67 rfl rfl rfl (by simpa using (toNat_lt h12.1 h12.2)) (cs' := e32 ((vp s0.2 ((s0.1).toNat) ((((vg s0.2 ((w64 (s0.1 - 16)).toNat)) + (vg s0.2 ((w64 (s0.1 - 7)).toNat))) + ((r_2 ^^^ r_3) ^^^ (x1 >>> 3))) + ((r_4 ^^^ r_5) ^^^ (y1 >>> 10)))).toList)) set_vec) (fun h => by cases h) (fun _ => ?_)
        refine TA_reE (j := 1) (A := some (b1, 0)) (cs := e32 ((vp s0.2 ((s0.1).toNat) ((((vg s0.2 ((w64 (s0.1 - 16)).toNat)) + (vg s0.2 ((w64 (s0.1 - 7)).toNat))) + ((r_2 ^^^ r_3) ^^^ (x1 >>> 3))) + ((r_4 ^^^ r_5) ^^^ (y1 >>> 10)))).toList)) (cs' := e32 m_2.toList) rfl (congrArg (fun z : Vector (BitVec 32) 64 => e32 (Vector.toList z)) hm_2) ?_
        refine TA_done (by kernel_rfl) ?_ 0
        refine TX_block_normal ?_
        refine TX_next ?_
        refine TC.sub (m' := [(0, ptr (some (bh, obh)) 0), (1, sl Ab ((b).length) cb), (4, ptr (some (b1, 0)) 0), (16, vi s0.1)]) ⟨rfl, rfl, rfl, rfl, trivial⟩ ?_
        refine TC_region ?_
        refine TL_v rfl rfl rfl (V_bin rfl rfl (fun w => addI w s0.1 1)) ?_
        refine TL_v rfl rfl rfl (V_move rfl) ?_
        refine TL_nil ?_
        refine TX.sub (m' := [(0, ptr (some (bh, obh)) 0), (1, sl Ab ((b).length) cb), (4, ptr (some (b1, 0)) 0), (16, vi (w64 (s0.1 + 1)))]) ⟨rfl, rfl, rfl, rfl, trivial⟩ ?_
        refine TX.pull (is := [0, 0]) (L' := [⟨some (bh, obh + 1), e64 h_h.toList⟩, ⟨some (b1, 0), e32 m_2.toList⟩]) rfl ?_
        obtain rfl := Option.some.inj H
        exact fun a w hs => hK (w64 (s0.1 + 1), m_2) rfl () a w hs
    · replace H := ite_f (of_decide_eq_false hc) H
      refine TC_exit ?_
      refine TX_then_exit ?_
      refine TX_then_exit ?_
      refine TX.sub (m' := [(0, ptr (some (bh, obh)) 0), (4, ptr (some (b1, 0)) 0)]) ⟨rfl, rfl, trivial⟩ ?_
      refine TX.pull (is := [0, 0]) (L' := [⟨some (bh, obh + 1), e64 h_h.toList⟩, ⟨some (b1, 0), e32 s0.2.toList⟩]) rfl ?_
      obtain rfl := Option.some.inj H
      exact hE s0.2 rfl ()
  · intro g
    refine TX_block_exit ?_
    refine TX_next ?_
    refine TC_seq ?_
    refine TC_region ?_
    refine TL_e rfl rfl rfl (E_allocP [(8, e32 ((Vector.replicate 8 0#32).toList))] TryI.inf68 TryI.zer68 ⟨(lenV (f := v32) (Vector.replicate 8 0#32)), trivial⟩) (fun b2 => ?_)
    refine TL_nil ?_
    refine TX_next ?_
    refine TC_seq ?_
    refine TC_seq ?_
    refine TC_region ?_
    refine TL_v rfl rfl rfl (V_move rfl) ?_
    refine TL_nil ?_
    refine TX_next ?_
    refine TC_block ?_
    obtain ⟨t_2, Hl, H⟩ := bind_elim H
    refine TC.sub (m' := [(0, ptr (some (bh, obh)) 0), (4, ptr (some (b1, 0)) 0), (8, ptr (some (b2, 0)) 0), (70, vi 0)]) ⟨rfl, rfl, rfl, rfl, trivial⟩ ?_
    refine TC.pull (is := [1, 1, 0]) (L' := [⟨some (bh, obh + 1), e64 h_h.toList⟩, ⟨some (b1, 0), e32 t_1.toList⟩, ⟨some (b2, 0), e32 ((Vector.replicate 8 0#32).toList)⟩]) rfl ?_
    refine TC_loopL (id := 2) (body := (sha_Hash_turns256.b1 h_h)) (σ := Int × Vector (BitVec 32) 8) (Γ := Unit) (Γx := Unit) (fun s1 g1_ => [(0, ptr (some (bh, obh)) 0), (4, ptr (some (b1, 0)) 0), (8, ptr (some (b2, 0)) 0), (70, vi s1.1)]) (fun s1 g1_ => [⟨some (bh, obh + 1), e64 h_h.toList⟩, ⟨some (b1, 0), e32 t_1.toList⟩, ⟨some (b2, 0), e32 s1.2.toList⟩]) (fun t g => [(0, ptr (some (bh, obh)) 0), (4, ptr (some (b1, 0)) 0), (8, ptr (some (b2, 0)) 0)]) (fun t g => [⟨some (bh, obh + 1), e64 h_h.toList⟩, ⟨some (b1, 0), e32 t_1.toList⟩, ⟨some (b2, 0), e32 t.toList⟩]) ?_ BIG (0, Vector.replicate 8 0#32) () t_2 Hl ?_
    · intro s1 g1_ r1 H K hK hE
      unfold sha_Hash_turns256.b1 at H
      refine TC_seq ?_
      refine TC_region ?_
      refine TL_v rfl rfl rfl (V_bin rfl rfl (fun w => lssI w s1.1 8)) ?_
      refine TL_nil ?_
      refine TX_next ?_
      refine TC_seq ?_
      refine TC_cond (b := (decide (s1.1 < 8))) rfl (fun hc => ?_) (fun hc => ?_)
      · replace H := ite_t (of_decide_eq_true hc) H
        refine TC_skip ?_
        refine TX_next ?_
        refine TC_seq ?_
        refine TC_block ?_
        refine TC_seq ?_
        refine TC_region ?_
        refine TL_v rfl rfl rfl (V_move rfl) ?_
        refine TL_v rfl rfl rfl (V_assign rfl) ?_
        refine TL_nil ?_
        refine TX_next ?_
        refine TC_region ?_
        refine TL_v rfl rfl rfl (V_move rfl) ?_
        refine TL_v rfl rfl rfl (V_move rfl) ?_
        refine TL_v rfl rfl rfl (V_move rfl) ?_
        refine TL_v rfl rfl rfl (V_nilCheck rfl) ?_
        refine TL_v rfl rfl rfl (V_fieldE rfl Try.underlying90 rfl rfl TryI.inf72 rfl (v := ptr (some (bh, obh + 1)) 0) rfl) ?_
        obtain ⟨h13, H⟩ := if_elim H
        refine TL_v rfl rfl rfl (V_idxArr (i := s1.1) rfl rfl Try.underlying72 TryI.inf71 rfl h13.1 h13.2 (k := (s1.1).toNat) (k01 _)) ?_
        refine TL_v rfl rfl rfl (V_load rfl (Src.own (j := 0) rfl) (get_vec (f := v64) (V := h_h) (toNat_lt h13.1 h13.2)) Try.isAgg71) ?_
        refine TL_v rfl rfl rfl (V_conv rfl (fun w => cv64to32 w _ _ Try.underlying67 (TryI.und71) (vg h_h ((s1.1).toNat)))) ?_
        obtain ⟨h14, H⟩ := if_elim H
        refine TL_v rfl rfl rfl (V_idxArr (i := s1.1) rfl rfl Try.underlying68 TryI.inf67 rfl h14.1 h14.2 (k := (s1.1).toNat) (k01 _)) ?_
        refine TL_n rfl rfl (E_store (j := 2) rfl rfl TryI.inf67 rfl rfl rfl (by simpa using (toNat_lt h14.1 h14.2)) (cs' := e32 ((vp s1.2 ((s1.1).toNat) ((vg h_h ((s1.1).toNat)).setWidth 32)).toList)) set_vec) (fun _ => ?_)
        obtain ⟨m_3, hm_3, H⟩ := ltt_elim H
        refine TL_reE (j := 2) (A := some (b2, 0)) (cs := e32 ((vp s1.2 ((s1.1).toNat) ((vg h_h ((s1.1).toNat)).setWidth 32)).toList)) (cs' := e32 m_3.toList) rfl (congrArg (fun z : Vector (BitVec 32) 8 => e32 (Vector.toList z)) hm_3) ?_
        refine TL_nil ?_
        refine TX_block_normal ?_
        refine TX_next ?_
        refine TC_region ?_
        refine TL_v rfl rfl rfl (V_bin rfl rfl (fun w => addI w s1.1 1)) ?_
        refine TL_v rfl rfl rfl (V_move rfl) ?_
        refine TL_nil ?_
        refine TX.sub (m' := [(0, ptr (some (bh, obh)) 0), (4, ptr (some (b1, 0)) 0), (8, ptr (some (b2, 0)) 0), (70, vi (w64 (s1.1 + 1)))]) ⟨rfl, rfl, rfl, rfl, trivial⟩ ?_
        refine TX.pull (is := [0, 0, 0]) (L' := [⟨some (bh, obh + 1), e64 h_h.toList⟩, ⟨some (b1, 0), e32 t_1.toList⟩, ⟨some (b2, 0), e32 m_3.toList⟩]) rfl ?_
        obtain rfl := Option.some.inj H
        exact fun a w hs => hK (w64 (s1.1 + 1), m_3) rfl () a w hs
      · replace H := ite_f (of_decide_eq_false hc) H
        refine TC_exit ?_
        refine TX_then_exit ?_
        refine TX_then_exit ?_
        refine TX.sub (m' := [(0, ptr (some (bh, obh)) 0), (4, ptr (some (b1, 0)) 0), (8, ptr (some (b2, 0)) 0)]) ⟨rfl, rfl, rfl, trivial⟩ ?_
        refine TX.pull (is := [0, 0, 0]) (L' := [⟨some (bh, obh + 1), e64 h_h.toList⟩, ⟨some (b1, 0), e32 t_1.toList⟩, ⟨some (b2, 0), e32 s1.2.toList⟩]) rfl ?_
        obtain rfl := Option.some.inj H
        exact hE s1.2 rfl ()
    · intro g
      refine TX_block_exit ?_
      refine TX_next ?_
      refine TC_seq ?_
      refine TC_seq ?_
      refine TC_region ?_
      refine TL_v rfl rfl rfl (V_move rfl) ?_
      refine TL_nil ?_
      refine TX_next ?_
      refine TC_block ?_
      obtain ⟨t_3, Hl, H⟩ := bind_elim H
      refine TC.sub (m' := [(0, ptr (some (bh, obh)) 0), (4, ptr (some (b1, 0)) 0), (8, ptr (some (b2, 0)) 0), (83, vi 0)]) ⟨rfl, rfl, rfl, rfl, trivial⟩ ?_
      refine TC.pull (is := [0, 0, 0]) (L' := [⟨some (bh, obh + 1), e64 h_h.toList⟩, ⟨some (b1, 0), e32 t_1.toList⟩, ⟨some (b2, 0), e32 t_2.toList⟩]) rfl ?_
      refine TC_loopL (id := 4) (body := (sha_Hash_turns256.b2 h_k t_1)) (σ := Int × Vector (BitVec 32) 8) (Γ := Unit) (Γx := Unit) (fun s2 g2_ => [(0, ptr (some (bh, obh)) 0), (4, ptr (some (b1, 0)) 0), (8, ptr (some (b2, 0)) 0), (83, vi s2.1)]) (fun s2 g2_ => [⟨some (bh, obh + 1), e64 h_h.toList⟩, ⟨some (b1, 0), e32 t_1.toList⟩, ⟨some (b2, 0), e32 s2.2.toList⟩]) (fun t g => [(0, ptr (some (bh, obh)) 0), (8, ptr (some (b2, 0)) 0)]) (fun t g => [⟨some (bh, obh + 1), e64 h_h.toList⟩, ⟨some (b2, 0), e32 t.toList⟩]) ?_ BIG (0, t_2) () t_3 Hl ?_
      · intro s2 g2_ r1 H K hK hE
        unfold sha_Hash_turns256.b2 at H
        refine TC_seq ?_
        refine TC_region ?_
        refine TL_v rfl rfl rfl (V_bin rfl rfl (fun w => lssI w s2.1 64)) ?_
        refine TL_nil ?_
        refine TX_next ?_
        refine TC_seq ?_
        refine TC_cond (b := (decide (s2.1 < 64))) rfl (fun hc => ?_) (fun hc => ?_)
        · replace H := ite_t (of_decide_eq_true hc) H
          refine TC_skip ?_
          refine TX_next ?_
          refine TC_seq ?_
          refine TC_block ?_
          refine TC_seq ?_
          refine TC_region ?_
          refine TL_v rfl rfl rfl (V_move rfl) ?_
          refine TL_v rfl rfl rfl (V_assign rfl) ?_
          refine TL_nil ?_
          refine TX_next ?_
          refine TC_seq ?_
          refine TA_begin [⟨some (bh, obh + 1), e64 h_h.toList⟩, ⟨some (b1, 0), e32 t_1.toList⟩, ⟨some (b2, 0), e32 s2.2.toList⟩] 6 (by kernel_rfl) (N := 6) rfl ?_
          refine TA_take (i := 0) (is := [0, 0, 0]) (done' := #[true, false, false, false, false, false]) rfl rfl rfl rfl (by kernel_rfl) (QP.then (QP.block (QP.then (QP.then (QP.block (QP.then QP.body)))))) (by kernel_rfl) rfl (V_idxArr (i := 4) rfl rfl Try.underlying68 TryI.inf67 rfl (by decide) (by decide) (k := 4) (k01 _)) ?_
          refine TA_take (i := 1) (is := [0, 0, 0]) (done' := #[true, true, false, false, false, false]) rfl rfl rfl rfl (by kernel_rfl) (QP.then (QP.block (QP.then (QP.then (QP.block (QP.then QP.body)))))) (by kernel_rfl) rfl (V_load rfl (Src.own (j := 2) rfl) (get_vec (f := v32) (V := s2.2) (by decide : 4 < 8)) Try.isAgg67) ?_
          refine TA_take (i := 2) (is := [0, 0, 0]) (done' := #[true, true, true, false, false, false]) rfl rfl rfl rfl (by kernel_rfl) (QP.then (QP.block (QP.then (QP.then (QP.block (QP.then QP.body)))))) (by kernel_rfl) rfl (V_idxArr (i := 0) rfl rfl Try.underlying68 TryI.inf67 rfl (by decide) (by decide) (k := 0) (k01 _)) ?_
          refine TA_take (i := 3) (is := [0, 0, 0]) (done' := #[true, true, true, true, false, false]) rfl rfl rfl rfl (by kernel_rfl) (QP.then (QP.block (QP.then (QP.then (QP.block (QP.then QP.body)))))) (by kernel_rfl) rfl (V_load rfl (Src.own (j := 2) rfl) (get_vec (f := v32) (V := s2.2) (by decide : 0 < 8)) Try.isAgg67) ?_
          refine TA_take (i := 4) (is := [0, 0, 0]) (done' := #[true, true, true, true, true, false]) rfl rfl rfl rfl (by kernel_rfl) (QP.then (QP.block (QP.then (QP.then (QP.block (QP.then QP.body)))))) (by kernel_rfl) rfl (V_assign rfl) ?_
          refine TA_take (i := 5) (is := [0, 0, 0]) (done' := #[true, true, true, true, true, true]) rfl rfl rfl rfl (by kernel_rfl) (QP.then (QP.block (QP.then (QP.then (QP.block (QP.then QP.body)))))) (by kernel_rfl) rfl (V_assign rfl) ?_
          refine TA_done (by kernel_rfl) ?_ 0
          refine TX_next ?_
          refine TC_seq ?_
          obtain ⟨r_6, hr_6, H⟩ := bind_elim H
          obtain ⟨r_7, hr_7, H⟩ := bind_elim H
          obtain ⟨r_8, hr_8, H⟩ := bind_elim H
          obtain ⟨h15, H⟩ := if_elim H
          obtain ⟨h16, H⟩ := if_elim H
          obtain ⟨t_4, ht_4, H⟩ := ltt_elim H
          refine TA_begin [⟨some (bh, obh + 1), e64 h_h.toList⟩, ⟨some (b1, 0), e32 t_1.toList⟩, ⟨some (b2, 0), e32 s2.2.toList⟩] 36 (by kernel_rfl) (N := 36) rfl ?_
          refine TA_take (i := 0) (is := [0, 0, 0]) (done' := #[true, false, false, false, false, false, false, false, false, false, false, false, false, false, false, false, false, false, false, false, false, false, false, false, false, false, false, false, false, false, false, false, false, false, false, false]) rfl rfl rfl rfl (by kernel_rfl) (QP.then (QP.block (QP.then (QP.then (QP.block (QP.then QP.body)))))) (by kernel_rfl) rfl (V_idxArr (i := 7) rfl rfl Try.underlying68 TryI.inf67 rfl (by decide) (by decide) (k := 7) (k01 _)) ?_
          refine TA_take (i := 1) (is := [0, 0, 0]) (done' := #[true, true, false, false, false, false, false, false, false, false, false, false, false, false, false, false, false, false, false, false, false, false, false, false, false, false, false, false, false, false, false, false, false, false, false, false]) rfl rfl rfl rfl (by kernel_rfl) (QP.then (QP.block (QP.then (QP.then (QP.block (QP.then QP.body)))))) (by kernel_rfl) rfl (V_load rfl (Src.own (j := 2) rfl) (get_vec (f := v32) (V := s2.2) (by decide : 7 < 8)) Try.isAgg67) ?_
          refine TA_take (i := 2) (is := [0, 0, 0]) (done' := #[true, true, true, false, false, false, false, false, false, false, false, false, false, false, false, false, false, false, false, false, false, false, false, false, false, false, false, false, false, false, false, false, false, false, false, false]) rfl rfl rfl rfl (by kernel_rfl) (QP.then (QP.block (QP.then (QP.then (QP.block (QP.then QP.body)))))) (by kernel_rfl) rfl (V_move rfl) ?_
          refine TA_take (i := 4) (is := [0, 0, 0]) (done' := #[true, true, true, false, true, false, false, false, false, false, false, false, false, false, false, false, false, false, false, false, false, false, false, false, false, false, false, false, false, false, false, false, false, false, false, false]) rfl rfl rfl rfl (by kernel_rfl) (QP.then (QP.block (QP.then (QP.then (QP.block (QP.then QP.body)))))) (by kernel_rfl) rfl (V_move rfl) ?_
          refine TA_take (i := 7) (is := [0, 0, 0]) (done' := #[true, true, true, false, true, false, false, true, false, false, false, false, false, false, false, false, false, false, false, false, false, false, false, false, false, false, false, false, false, false, false, false, false, false, false, false]) rfl rfl rfl rfl (by kernel_rfl) (QP.then (QP.block (QP.then (QP.then (QP.block (QP.then QP.body)))))) (by kernel_rfl) rfl (V_move rfl) ?_
          refine TA_take (i := 11) (is := [0, 0, 0]) (done' := #[true, true, true, false, true, false, false, true, false, false, false, true, false, false, false, false, false, false, false, false, false, false, false, false, false, false, false, false, false, false, false, false, false, false, false, false]) rfl rfl rfl rfl (by kernel_rfl) (QP.then (QP.block (QP.then (QP.then (QP.block (QP.then QP.body)))))) (by kernel_rfl) rfl (V_move rfl) ?_
          refine TA_take (i := 12) (is := [0, 0, 0]) (done' := #[true, true, true, false, true, false, false, true, false, false, false, true, true, false, false, false, false, false, false, false, false, false, false, false, false, false, false, false, false, false, false, false, false, false, false, false]) rfl rfl rfl rfl (by kernel_rfl) (QP.then (QP.block (QP.then (QP.then (QP.block (QP.then QP.body)))))) (by kernel_rfl) rfl (V_idxArr (i := 5) rfl rfl Try.underlying68 TryI.inf67 rfl (by decide) (by decide) (k := 5) (k01 _)) ?_
          refine TA_take (i := 13) (is := [0, 0, 0]) (done' := #[true, true, true, false, true, false, false, true, false, false, false, true, true, true, false, false, false, false, false, false, false, false, false, false, false, false, false, false, false, false, false, false, false, false, false, false]) rfl rfl rfl rfl (by kernel_rfl) (QP.then (QP.block (QP.then (QP.then (QP.block (QP.then QP.body)))))) (by kernel_rfl) rfl (V_load rfl (Src.own (j := 2) rfl) (get_vec (f := v32) (V := s2.2) (by decide : 5 < 8)) Try.isAgg67) ?_
          refine TA_take (i := 14) (is := [0, 0, 0]) (done' := #[true, true, true, false, true, false, false, true, false, false, false, true, true, true, true, false, false, false, false, false, false, false, false, false, false, false, false, false, false, false, false, false, false, false, false, false]) rfl rfl rfl rfl (by kernel_rfl) (QP.then (QP.block (QP.then (QP.then (QP.block (QP.then QP.body)))))) (by kernel_rfl) rfl (V_bin rfl rfl (fun w => and32 w (vg s2.2 4) (vg s2.2 5))) ?_
          refine TA_take (i := 15) (is := [0, 0, 0]) (done' := #[true, true, true, false, true, false, false, true, false, false, false, true, true, true, true, true, false, false, false, false, false, false, false, false, false, false, false, false, false, false, false, false, false, false, false, false]) rfl rfl rfl rfl (by kernel_rfl) (QP.then (QP.block (QP.then (QP.then (QP.block (QP.then QP.body)))))) (by kernel_rfl) rfl (V_move rfl) ?_
          refine TA_take (i := 16) (is := [0, 0, 0]) (done' := #[true, true, true, false, true, false, false, true, false, false, false, true, true, true, true, true, true, false, false, false, false, false, false, false, false, false, false, false, false, false, false, false, false, false, false, false]) rfl rfl rfl rfl (by kernel_rfl) (QP.then (QP.block (QP.then (QP.then (QP.block (QP.then QP.body)))))) (by kernel_rfl) rfl (V_un rfl (fun w => not32 w (vg s2.2 4))) ?_
          refine TA_take (i := 17) (is := [0, 0, 0]) (done' := #[true, true, true, false, true, false, false, true, false, false, false, true, true, true, true, true, true, true, false, false, false, false, false, false, false, false, false, false, false, false, false, false, false, false, false, false]) rfl rfl rfl rfl (by kernel_rfl) (QP.then (QP.block (QP.then (QP.then (QP.block (QP.then QP.body)))))) (by kernel_rfl) rfl (V_idxArr (i := 6) rfl rfl Try.underlying68 TryI.inf67 rfl (by decide) (by decide) (k := 6) (k01 _)) ?_
          refine TA_take (i := 18) (is := [0, 0, 0]) (done' := #[true, true, true, false, true, false, false, true, false, false, false, true, true, true, true, true, true, true, true, false, false, false, false, false, false, false, false, false, false, false, false, false, false, false, false, false]) rfl rfl rfl rfl (by kernel_rfl) (QP.then (QP.block (QP.then (QP.then (QP.block (QP.then QP.body)))))) (by kernel_rfl) rfl (V_load rfl (Src.own (j := 2) rfl) (get_vec (f := v32) (V := s2.2) (by decide : 6 < 8)) Try.isAgg67) ?_
          refine TA_take (i := 19) (is := [0, 0, 0]) (done' := #[true, true, true, false, true, false, false, true, false, false, false, true, true, true, true, true, true, true, true, true, false, false, false, false, false, false, false, false, false, false, false, false, false, false, false, false]) rfl rfl rfl rfl (by kernel_rfl) (QP.then (QP.block (QP.then (QP.then (QP.block (QP.then QP.body)))))) (by kernel_rfl) rfl (V_bin rfl rfl (fun w => and32 w (~~~(vg s2.2 4)) (vg s2.2 6))) ?_
          refine TA_take (i := 20) (is := [0, 0, 0]) (done' := #[true, true, true, false, true, false, false, true, false, false, false, true, true, true, true, true, true, true, true, true, true, false, false, false, false, false, false, false, false, false, false, false, false, false, false, false]) rfl rfl rfl rfl (by kernel_rfl) (QP.then (QP.block (QP.then (QP.then (QP.block (QP.then QP.body)))))) (by kernel_rfl) rfl (V_bin rfl rfl (fun w => xor32 w ((vg s2.2 4) &&& (vg s2.2 5)) ((~~~(vg s2.2 4)) &&& (vg s2.2 6)))) ?_
          refine TA_take (i := 22) (is := [0, 0, 0]) (done' := #[true, true, true, false, true, false, false, true, false, false, false, true, true, true, true, true, true, true, true, true, true, false, true, false, false, false, false, false, false, false, false, false, false, false, false, false]) rfl rfl rfl rfl (by kernel_rfl) (QP.then (QP.block (QP.then (QP.then (QP.block (QP.then QP.body)))))) (by kernel_rfl) rfl (V_move rfl) ?_
          refine TA_take (i := 23) (is := [0, 0, 0]) (done' := #[true, true, true, false, true, false, false, true, false, false, false, true, true, true, true, true, true, true, true, true, true, false, true, true, false, false, false, false, false, false, false, false, false, false, false, false]) rfl rfl rfl rfl (by kernel_rfl) (QP.then (QP.block (QP.then (QP.then (QP.block (QP.then QP.body)))))) (by kernel_rfl) rfl (V_move rfl) ?_
          refine TA_take (i := 24) (is := [0, 0, 0]) (done' := #[true, true, true, false, true, false, false, true, false, false, false, true, true, true, true, true, true, true, true, true, true, false, true, true, true, false, false, false, false, false, false, false, false, false, false, false]) rfl rfl rfl rfl (by kernel_rfl) (QP.then (QP.block (QP.then (QP.then (QP.block (QP.then QP.body)))))) (by kernel_rfl) rfl (V_nilCheck rfl) ?_
          refine TA_take (i := 25) (is := [0, 0, 0]) (done' := #[true, true, true, false, true, false, false, true, false, false, false, true, true, true, true, true, true, true, true, true, true, false, true, true, true, true, false, false, false, false, false, false, false, false, false, false]) rfl rfl rfl rfl (by kernel_rfl) (QP.then (QP.block (QP.then (QP.then (QP.block (QP.then QP.body)))))) (by kernel_rfl) rfl (V_fieldE rfl Try.underlying90 rfl rfl TryI.inf85 rfl (v := ptr (some (bh, obh + 9)) 0) rfl) ?_
          refine TA_take (i := 26) (is := [0, 0, 0]) (done' := #[true, true, true, false, true, false, false, true, false, false, false, true, true, true, true, true, true, true, true, true, true, false, true, true, true, true, true, false, false, false, false, false, false, false, false, false]) rfl rfl rfl rfl (by kernel_rfl) (QP.then (QP.block (QP.then (QP.then (QP.block (QP.then QP.body)))))) (by kernel_rfl) rfl (V_idxArr (i := s2.1) rfl rfl Try.underlying85 TryI.inf71 rfl h15.1 h15.2 (k := (s2.1).toNat) (k01 _)) ?_
          refine TA_take (i := 27) (is := [0, 0, 0]) (done' := #[true, true, true, false, true, false, false, true, false, false, false, true, true, true, true, true, true, true, true, true, true, false, true, true, true, true, true, true, false, false, false, false, false, false, false, false]) rfl rfl rfl rfl (by kernel_rfl) (QP.then (QP.block (QP.then (QP.then (QP.block (QP.then QP.body)))))) (by kernel_rfl) rfl (V_load rfl (Src.ro (j := 1) rfl) (get_vec (f := v64) (V := h_k) (toNat_lt h15.1 h15.2)) Try.isAgg71) ?_
          refine TA_take (i := 28) (is := [0, 0, 0]) (done' := #[true, true, true, false, true, false, false, true, false, false, false, true, true, true, true, true, true, true, true, true, true, false, true, true, true, true, true, true, true, false, false, false, false, false, false, false]) rfl rfl rfl rfl (by kernel_rfl) (QP.then (QP.block (QP.then (QP.then (QP.block (QP.then QP.body)))))) (by kernel_rfl) rfl (V_bin rfl rfl (fun w => shr64 w (vg h_k ((s2.1).toNat)) .u64 32 (by decide))) ?_
          refine TA_take (i := 29) (is := [0, 0, 0]) (done' := #[true, true, true, false, true, false, false, true, false, false, false, true, true, true, true, true, true, true, true, true, true, false, true, true, true, true, true, true, true, true, false, false, false, false, false, false]) rfl rfl rfl rfl (by kernel_rfl) (QP.then (QP.block (QP.then (QP.then (QP.block (QP.then QP.body)))))) (by kernel_rfl) rfl (V_conv rfl (fun w => cv64to32 w _ _ Try.underlying67 (TryI.und71) ((vg h_k ((s2.1).toNat)) >>> 32))) ?_
          refine TA_take (i := 31) (is := [0, 0, 0]) (done' := #[true, true, true, false, true, false, false, true, false, false, false, true, true, true, true, true, true, true, true, true, true, false, true, true, true, true, true, true, true, true, false, true, false, false, false, false]) rfl rfl rfl rfl (by kernel_rfl) (QP.then (QP.block (QP.then (QP.then (QP.block (QP.then QP.body)))))) (by kernel_rfl) rfl (V_move rfl) ?_
          refine TA_take (i := 32) (is := [0, 0, 0]) (done' := #[true, true, true, false, true, false, false, true, false, false, false, true, true, true, true, true, true, true, true, true, true, false, true, true, true, true, true, true, true, true, false, true, true, false, false, false]) rfl rfl rfl rfl (by kernel_rfl) (QP.then (QP.block (QP.then (QP.then (QP.block (QP.then QP.body)))))) (by kernel_rfl) rfl (V_idxArr (i := s2.1) rfl rfl Try.underlying83 TryI.inf67 rfl h16.1 h16.2 (k := (s2.1).toNat) (k01 _)) ?_
          refine TA_take (i := 33) (is := [0, 0, 0]) (done' := #[true, true, true, false, true, false, false, true, false, false, false, true, true, true, true, true, true, true, true, true, true, false, true, true, true, true, true, true, true, true, false, true, true, true, false, false]) rfl rfl rfl rfl (by kernel_rfl) (QP.then (QP.block (QP.then (QP.then (QP.block (QP.then QP.body)))))) (by kernel_rfl) rfl (V_load rfl (Src.own (j := 1) rfl) (get_vec (f := v32) (V := t_1) (toNat_lt h16.1 h16.2)) Try.isAgg67) ?_
          refine TA_all (rs := [3]) (by kernel_rfl) rfl ?_
          refine ⟨?_, trivial⟩
          refine TO_e (is := [0, 0, 0]) (done' := #[true, true, true, true, true, false, false, true, false, false, false, true, true, true, true, true, true, true, true, true, true, false, true, true, true, true, true, true, true, true, false, true, true, true, false, false]) rfl rfl rfl rfl (by kernel_rfl) (E_call (Γ := Unit) (val := fun g => v32 r_6) (mem := fun g => []) (vs := [v32 (vg s2.2 4), vi (-6)]) (Lin := []) (Ro := []) (is := []) rfl Try.call72 (F72_calls (vg s2.2 4) (-6) r_6 hr_6) rfl trivial) (fun _ _ => rfl) (fun g_6 => ?_)
          refine TA_all (rs := [5]) (by kernel_rfl) rfl ?_
          refine ⟨?_, trivial⟩
          refine TO_e (is := [0, 0, 0]) (done' := #[true, true, true, true, true, true, false, true, false, false, false, true, true, true, true, true, true, true, true, true, true, false, true, true, true, true, true, true, true, true, false, true, true, true, false, false]) rfl rfl rfl rfl (by kernel_rfl) (E_call (Γ := Unit) (val := fun g => v32 r_7) (mem := fun g => []) (vs := [v32 (vg s2.2 4), vi (-11)]) (Lin := []) (Ro := []) (is := []) rfl Try.call72 (F72_calls (vg s2.2 4) (-11) r_7 hr_7) rfl trivial) (fun _ _ => rfl) (fun g_7 => ?_)
          refine TA_take (i := 6) (is := [0, 0, 0]) (done' := #[true, true, true, true, true, true, true, true, false, false, false, true, true, true, true, true, true, true, true, true, true, false, true, true, true, true, true, true, true, true, false, true, true, true, false, false]) rfl rfl rfl rfl (by kernel_rfl) (QP.then (QP.block (QP.then (QP.then (QP.block (QP.then QP.body)))))) (by kernel_rfl) rfl (V_bin rfl rfl (fun w => xor32 w r_6 r_7)) ?_
          refine TA_all (rs := [8]) (by kernel_rfl) rfl ?_
          refine ⟨?_, trivial⟩
          refine TO_e (is := [0, 0, 0]) (done' := #[true, true, true, true, true, true, true, true, true, false, false, true, true, true, true, true, true, true, true, true, true, false, true, true, true, true, true, true, true, true, false, true, true, true, false, false]) rfl rfl rfl rfl (by kernel_rfl) (E_call (Γ := Unit) (val := fun g => v32 r_8) (mem := fun g => []) (vs := [v32 (vg s2.2 4), vi (-25)]) (Lin := []) (Ro := []) (is := []) rfl Try.call72 (F72_calls (vg s2.2 4) (-25) r_8 hr_8) rfl trivial) (fun _ _ => rfl) (fun g_8 => ?_)
          refine TA_take (i := 9) (is := [0, 0, 0]) (done' := #[true, true, true, true, true, true, true, true, true, true, false, true, true, true, true, true, true, true, true, true, true, false, true, true, true, true, true, true, true, true, false, true, true, true, false, false]) rfl rfl rfl rfl (by kernel_rfl) (QP.then (QP.block (QP.then (QP.then (QP.block (QP.then QP.body)))))) (by kernel_rfl) rfl (V_bin rfl rfl (fun w => xor32 w (r_6 ^^^ r_7) r_8)) ?_
          refine TA_take (i := 10) (is := [0, 0, 0]) (done' := #[true, true, true, true, true, true, true, true, true, true, true, true, true, true, true, true, true, true, true, true, true, false, true, true, true, true, true, true, true, true, false, true, true, true, false, false]) rfl rfl rfl rfl (by kernel_rfl) (QP.then (QP.block (QP.then (QP.then (QP.block (QP.then QP.body)))))) (by kernel_rfl) rfl (V_bin rfl rfl (fun w => add32 w (vg s2.2 7) ((r_6 ^^^ r_7) ^^^ r_8))) ?_
          refine TA_take (i := 21) (is := [0, 0, 0]) (done' := #[true, true, true, true, true, true, true, true, true, true, true, true, true, true, true, true, true, true, true, true, true, true, true, true, true, true, true, true, true, true, false, true, true, true, false, false]) rfl rfl rfl rfl (by kernel_rfl) (QP.then (QP.block (QP.then (QP.then (QP.block (QP.then QP.body)))))) (by kernel_rfl) rfl (V_bin rfl rfl (fun w => add32 w ((vg s2.2 7) + ((r_6 ^^^ r_7) ^^^ r_8)) (((vg s2.2 4) &&& (vg s2.2 5)) ^^^ ((~~~(vg s2.2 4)) &&& (vg s2.2 6))))) ?_
          refine TA_take (i := 30) (is := [0, 0, 0]) (done' := #[true, true, true, true, true, true, true, true, true, true, true, true, true, true, true, true, true, true, true, true, true, true, true, true, true, true, true, true, true, true, true, true, true, true, false, false]) rfl rfl rfl rfl (by kernel_rfl) (QP.then (QP.block (QP.then (QP.then (QP.block (QP.then QP.body)))))) (by kernel_rfl) rfl (V_bin rfl rfl (fun w => add32 w (((vg s2.2 7) + ((r_6 ^^^ r_7) ^^^ r_8)) + (((vg s2.2 4) &&& (vg s2.2 5)) ^^^ ((~~~(vg s2.2 4)) &&& (vg s2.2 6)))) (((vg h_k ((s2.1).toNat)) >>> 32).setWidth 32))) ?_
          refine TA_take (i := 34) (is := [0, 0, 0]) (done' := #[true, true, true, true, true, true, true, true, true, true, true, true, true, true, true, true, true, true, true, true, true, true, true, true, true, true, true, true, true, true, true, true, true, true, true, false]) rfl rfl rfl rfl (by kernel_rfl) (QP.then (QP.block (QP.then (QP.then (QP.block (QP.then QP.body)))))) (by kernel_rfl) rfl (V_bin rfl rfl (fun w => add32 w ((((vg s2.2 7) + ((r_6 ^^^ r_7) ^^^ r_8)) + (((vg s2.2 4) &&& (vg s2.2 5)) ^^^ ((~~~(vg s2.2 4)) &&& (vg s2.2 6)))) + (((vg h_k ((s2.1).toNat)) >>> 32).setWidth 32)) (vg t_1 ((s2.1).toNat)))) ?_
          refine TA_take (i := 35) (is := [0, 0, 0]) (done' := #[true, true, true, true, true, true, true, true, true, true, true, true, true, true, true, true, true, true, true, true, true, true, true, true, true, true, true, true, true, true, true, true, true, true, true, true]) rfl rfl rfl rfl (by kernel_rfl) (QP.then (QP.block (QP.then (QP.then (QP.block (QP.then QP.body)))))) (by kernel_rfl) rfl (V_assign rfl) ?_
          refine TA_re (d := 13) (v := v32 (((((vg s2.2 7) + ((r_6 ^^^ r_7) ^^^ r_8)) + (((vg s2.2 4) &&& (vg s2.2 5)) ^^^ ((~~~(vg s2.2 4)) &&& (vg s2.2 6)))) + (((vg h_k ((s2.1).toNat)) >>> 32).setWidth 32)) + (vg t_1 ((s2.1).toNat)))) (v' := v32 t_4) rfl (congrArg v32 ht_4) ?_
          refine TA_done (by kernel_rfl) ?_ 0
          refine TX_next ?_
          refine TC.sub (m' := [(0, ptr (some (bh, obh)) 0), (4, ptr (some (b1, 0)) 0), (8, ptr (some (b2, 0)) 0), (12, v32 (vg s2.2 0)), (13, v32 t_4), (83, vi s2.1)]) ⟨rfl, rfl, rfl, rfl, rfl, rfl, trivial⟩ ?_
          refine TC_seq ?_
          obtain ⟨r_9, hr_9, H⟩ := bind_elim H
          obtain ⟨r_10, hr_10, H⟩ := bind_elim H
          obtain ⟨r_11, hr_11, H⟩ := bind_elim H
          obtain ⟨u1, hu1, H⟩ := ltt_elim H
          refine TA_begin [⟨some (bh, obh + 1), e64 h_h.toList⟩, ⟨some (b1, 0), e32 t_1.toList⟩, ⟨some (b2, 0), e32 s2.2.toList⟩] 25 (by kernel_rfl) (N := 25) rfl ?_
          refine TA_take (i := 0) (is := [0, 0, 0]) (done' := #[true, false, false, false, false, false, false, false, false, false, false, false, false, false, false, false, false, false, false, false, false, false, false, false, false]) rfl rfl rfl rfl (by kernel_rfl) (QP.then (QP.block (QP.then (QP.then (QP.block (QP.then QP.body)))))) (by kernel_rfl) rfl (V_move rfl) ?_
          refine TA_take (i := 2) (is := [0, 0, 0]) (done' := #[true, false, true, false, false, false, false, false, false, false, false, false, false, false, false, false, false, false, false, false, false, false, false, false, false]) rfl rfl rfl rfl (by kernel_rfl) (QP.then (QP.block (QP.then (QP.then (QP.block (QP.then QP.body)))))) (by kernel_rfl) rfl (V_move rfl) ?_
          refine TA_take (i := 5) (is := [0, 0, 0]) (done' := #[true, false, true, false, false, true, false, false, false, false, false, false, false, false, false, false, false, false, false, false, false, false, false, false, false]) rfl rfl rfl rfl (by kernel_rfl) (QP.then (QP.block (QP.then (QP.then (QP.block (QP.then QP.body)))))) (by kernel_rfl) rfl (V_move rfl) ?_
          refine TA_take (i := 8) (is := [0, 0, 0]) (done' := #[true, false, true, false, false, true, false, false, true, false, false, false, false, false, false, false, false, false, false, false, false, false, false, false, false]) rfl rfl rfl rfl (by kernel_rfl) (QP.then (QP.block (QP.then (QP.then (QP.block (QP.then QP.body)))))) (by kernel_rfl) rfl (V_move rfl) ?_
          refine TA_take (i := 9) (is := [0, 0, 0]) (done' := #[true, false, true, false, false, true, false, false, true, true, false, false, false, false, false, false, false, false, false, false, false, false, false, false, false]) rfl rfl rfl rfl (by kernel_rfl) (QP.then (QP.block (QP.then (QP.then (QP.block (QP.then QP.body)))))) (by kernel_rfl) rfl (V_idxArr (i := 1) rfl rfl Try.underlying68 TryI.inf67 rfl (by decide) (by decide) (k := 1) (k01 _)) ?_
          refine TA_take (i := 10) (is := [0, 0, 0]) (done' := #[true, false, true, false, false, true, false, false, true, true, true, false, false, false, false, false, false, false, false, false, false, false, false, false, false]) rfl rfl rfl rfl (by kernel_rfl) (QP.then (QP.block (QP.then (QP.then (QP.block (QP.then QP.body)))))) (by kernel_rfl) rfl (V_load rfl (Src.own (j := 2) rfl) (get_vec (f := v32) (V := s2.2) (by decide : 1 < 8)) Try.isAgg67) ?_
          refine TA_take (i := 11) (is := [0, 0, 0]) (done' := #[true, false, true, false, false, true, false, false, true, true, true, true, false, false, false, false, false, false, false, false, false, false, false, false, false]) rfl rfl rfl rfl (by kernel_rfl) (QP.then (QP.block (QP.then (QP.then (QP.block (QP.then QP.body)))))) (by kernel_rfl) rfl (V_bin rfl rfl (fun w => and32 w (vg s2.2 0) (vg s2.2 1))) ?_
          refine TA_take (i := 12) (is := [0, 0, 0]) (done' := #[true, false, true, false, false, true, false, false, true, true, true, true, true, false, false, false, false, false, false, false, false, false, false, false, false]) rfl rfl rfl rfl (by kernel_rfl) (QP.then (QP.block (QP.then (QP.then (QP.block (QP.then QP.body)))))) (by kernel_rfl) rfl (V_move rfl) ?_
          refine TA_take (i := 13) (is := [0, 0, 0]) (done' := #[true, false, true, false, false, true, false, false, true, true, true, true, true, true, false, false, false, false, false, false, false, false, false, false, false]) rfl rfl rfl rfl (by kernel_rfl) (QP.then (QP.block (QP.then (QP.then (QP.block (QP.then QP.body)))))) (by kernel_rfl) rfl (V_idxArr (i := 2) rfl rfl Try.underlying68 TryI.inf67 rfl (by decide) (by decide) (k := 2) (k01 _)) ?_
          refine TA_take (i := 14) (is := [0, 0, 0]) (done' := #[true, false, true, false, false, true, false, false, true, true, true, true, true, true, true, false, false, false, false, false, false, false, false, false, false]) rfl rfl rfl rfl (by kernel_rfl) (QP.then (QP.block (QP.then (QP.then (QP.block (QP.then QP.body)))))) (by kernel_rfl) rfl (V_load rfl (Src.own (j := 2) rfl) (get_vec (f := v32) (V := s2.2) (by decide : 2 < 8)) Try.isAgg67) ?_
          refine TA_take (i := 15) (is := [0, 0, 0]) (done' := #[true, false, true, false, false, true, false, false, true, true, true, true, true, true, true, true, false, false, false, false, false, false, false, false, false]) rfl rfl rfl rfl (by kernel_rfl) (QP.then (QP.block (QP.then (QP.then (QP.block (QP.then QP.body)))))) (by kernel_rfl) rfl (V_bin rfl rfl (fun w => and32 w (vg s2.2 0) (vg s2.2 2))) ?_
          refine TA_take (i := 16) (is := [0, 0, 0]) (done' := #[true, false, true, false, false, true, false, false, true, true, true, true, true, true, true, true, true, false, false, false, false, false, false, false, false]) rfl rfl rfl rfl (by kernel_rfl) (QP.then (QP.block (QP.then (QP.then (QP.block (QP.then QP.body)))))) (by kernel_rfl) rfl (V_bin rfl rfl (fun w => xor32 w ((vg s2.2 0) &&& (vg s2.2 1)) ((vg s2.2 0) &&& (vg s2.2 2)))) ?_
          refine TA_take (i := 17) (is := [0, 0, 0]) (done' := #[true, false, true, false, false, true, false, false, true, true, true, true, true, true, true, true, true, true, false, false, false, false, false, false, false]) rfl rfl rfl rfl (by kernel_rfl) (QP.then (QP.block (QP.then (QP.then (QP.block (QP.then QP.body)))))) (by kernel_rfl) rfl (V_idxArr (i := 1) rfl rfl Try.underlying68 TryI.inf67 rfl (by decide) (by decide) (k := 1) (k01 _)) ?_
          refine TA_take (i := 18) (is := [0, 0, 0]) (done' := #[true, false, true, false, false, true, false, false, true, true, true, true, true, true, true, true, true, true, true, false, false, false, false, false, false]) rfl rfl rfl rfl (by kernel_rfl) (QP.then (QP.block (QP.then (QP.then (QP.block (QP.then QP.body)))))) (by kernel_rfl) rfl (V_load rfl (Src.own (j := 2) rfl) (get_vec (f := v32) (V := s2.2) (by decide : 1 < 8)) Try.isAgg67) ?_
          refine TA_take (i := 19) (is := [0, 0, 0]) (done' := #[true, false, true, false, false, true, false, false, true, true, true, true, true, true, true, true, true, true, true, true, false, false, false, false, false]) rfl rfl rfl rfl (by kernel_rfl) (QP.then (QP.block (QP.then (QP.then (QP.block (QP.then QP.body)))))) (by kernel_rfl) rfl (V_idxArr (i := 2) rfl rfl Try.underlying68 TryI.inf67 rfl (by decide) (by decide) (k := 2) (k01 _)) ?_
          refine TA_take (i := 20) (is := [0, 0, 0]) (done' := #[true, false, true, false, false, true, false, false, true, true, true, true, true, true, true, true, true, true, true, true, true, false, false, false, false]) rfl rfl rfl rfl (by kernel_rfl) (QP.then (QP.block (QP.then (QP.then (QP.block (QP.then QP.body)))))) (by kernel_rfl) rfl (V_load rfl (Src.own (j := 2) rfl) (get_vec (f := v32) (V := s2.2) (by decide : 2 < 8)) Try.isAgg67) ?_
          refine TA_take (i := 21) (is := [0, 0, 0]) (done' := #[true, false, true, false, false, true, false, false, true, true, true, true, true, true, true, true, true, true, true, true, true, true, false, false, false]) rfl rfl rfl rfl (by kernel_rfl) (QP.then (QP.block (QP.then (QP.then (QP.block (QP.then QP.body)))))) (by kernel_rfl) rfl (V_bin rfl rfl (fun w => and32 w (vg s2.2 1) (vg s2.2 2))) ?_
          refine TA_take (i := 22) (is := [0, 0, 0]) (done' := #[true, false, true, false, false, true, false, false, true, true, true, true, true, true, true, true, true, true, true, true, true, true, true, false, false]) rfl rfl rfl rfl (by kernel_rfl) (QP.then (QP.block (QP.then (QP.then (QP.block (QP.then QP.body)))))) (by kernel_rfl) rfl (V_bin rfl rfl (fun w => xor32 w (((vg s2.2 0) &&& (vg s2.2 1)) ^^^ ((vg s2.2 0) &&& (vg s2.2 2))) ((vg s2.2 1) &&& (vg s2.2 2)))) ?_
          refine TA_all (rs := [1]) (by kernel_rfl) rfl ?_
          refine ⟨?_, trivial⟩
          refine TO_e (is := [0, 0, 0]) (done' := #[true, true, true, false, false, true, false, false, true, true, true, true, true, true, true, true, true, true, true, true, true, true, true, false, false]) rfl rfl rfl rfl (by kernel_rfl) (E_call (Γ := Unit) (val := fun g => v32 r_9) (mem := fun g => []) (vs := [v32 (vg s2.2 0), vi (-2)]) (Lin := []) (Ro := []) (is := []) rfl Try.call72 (F72_calls (vg s2.2 0) (-2) r_9 hr_9) rfl trivial) (fun _ _ => rfl) (fun g_9 => ?_)
          refine TA_all (rs := [3]) (by kernel_rfl) rfl ?_
          refine ⟨?_, trivial⟩
          refine TO_e (is := [0, 0, 0]) (done' := #[true, true, true, true, false, true, false, false, true, true, true, true, true, true, true, true, true, true, true, true, true, true, true, false, false]) rfl rfl rfl rfl (by kernel_rfl) (E_call (Γ := Unit) (val := fun g => v32 r_10) (mem := fun g => []) (vs := [v32 (vg s2.2 0), vi (-13)]) (Lin := []) (Ro := []) (is := []) rfl Try.call72 (F72_calls (vg s2.2 0) (-13) r_10 hr_10) rfl trivial) (fun _ _ => rfl) (fun g_10 => ?_)
          refine TA_take (i := 4) (is := [0, 0, 0]) (done' := #[true, true, true, true, true, true, false, false, true, true, true, true, true, true, true, true, true, true, true, true, true, true, true, false, false]) rfl rfl rfl rfl (by kernel_rfl) (QP.then (QP.block (QP.then (QP.then (QP.block (QP.then QP.body)))))) (by kernel_rfl) rfl (V_bin rfl rfl (fun w => xor32 w r_9 r_10)) ?_
          refine TA_all (rs := [6]) (by kernel_rfl) rfl ?_
          refine ⟨?_, trivial⟩
          refine TO_e (is := [0, 0, 0]) (done' := #[true, true, true, true, true, true, true, false, true, true, true, true, true, true, true, true, true, true, true, true, true, true, true, false, false]) rfl rfl rfl rfl (by kernel_rfl) (E_call (Γ := Unit) (val := fun g => v32 r_11) (mem := fun g => []) (vs := [v32 (vg s2.2 0), vi (-22)]) (Lin := []) (Ro := []) (is := []) rfl Try.call72 (F72_calls (vg s2.2 0) (-22) r_11 hr_11) rfl trivial) (fun _ _ => rfl) (fun g_11 => ?_)
          refine TA_take (i := 7) (is := [0, 0, 0]) (done' := #[true, true, true, true, true, true, true, true, true, true, true, true, true, true, true, true, true, true, true, true, true, true, true, false, false]) rfl rfl rfl rfl (by kernel_rfl) (QP.then (QP.block (QP.then (QP.then (QP.block (QP.then QP.body)))))) (by kernel_rfl) rfl (V_bin rfl rfl (fun w => xor32 w (r_9 ^^^ r_10) r_11)) ?_
          refine TA_take (i := 23) (is := [0, 0, 0]) (done' := #[true, true, true, true, true, true, true, true, true, true, true, true, true, true, true, true, true, true, true, true, true, true, true, true, false]) rfl rfl rfl rfl (by kernel_rfl) (QP.then (QP.block (QP.then (QP.then (QP.block (QP.then QP.body)))))) (by kernel_rfl) rfl (V_bin rfl rfl (fun w => add32 w ((r_9 ^^^ r_10) ^^^ r_11) ((((vg s2.2 0) &&& (vg s2.2 1)) ^^^ ((vg s2.2 0) &&& (vg s2.2 2))) ^^^ ((vg s2.2 1) &&& (vg s2.2 2))))) ?_
          refine TA_take (i := 24) (is := [0, 0, 0]) (done' := #[true, true, true, true, true, true, true, true, true, true, true, true, true, true, true, true, true, true, true, true, true, true, true, true, true]) rfl rfl rfl rfl (by kernel_rfl) (QP.then (QP.block (QP.then (QP.then (QP.block (QP.then QP.body)))))) (by kernel_rfl) rfl (V_assign rfl) ?_
          refine TA_re (d := 14) (v := v32 (((r_9 ^^^ r_10) ^^^ r_11) + ((((vg s2.2 0) &&& (vg s2.2 1)) ^^^ ((vg s2.2 0) &&& (vg s2.2 2))) ^^^ ((vg s2.2 1) &&& (vg s2.2 2))))) (v' := v32 u1) rfl (congrArg v32 hu1) ?_
          refine TA_done (by kernel_rfl) ?_ 0
          refine TX_next ?_
          refine TC.sub (m' := [(0, ptr (some (bh, obh)) 0), (4, ptr (some (b1, 0)) 0), (8, ptr (some (b2, 0)) 0), (13, v32 t_4), (14, v32 u1), (83, vi s2.1)]) ⟨rfl, rfl, rfl, rfl, rfl, rfl, trivial⟩ ?_
          refine TC_region ?_
          refine TL_v rfl rfl rfl (V_move rfl) ?_
          refine TL_v rfl rfl rfl (V_move rfl) ?_
          refine TL_v rfl rfl rfl (V_bin rfl rfl (fun w => add32 w t_4 u1)) ?_
          refine TL_v rfl rfl rfl (V_idxArr (i := 0) rfl rfl Try.underlying68 TryI.inf67 rfl (by decide) (by decide) (k := 0) (k01 _)) ?_
          refine TL_v rfl rfl rfl (V_load rfl (Src.own (j := 2) rfl) (get_vec (f := v32) (V := s2.2) (by decide : 0 < 8)) Try.isAgg67) ?_
          refine TL_v rfl rfl rfl (V_idxArr (i := 1) rfl rfl Try.underlying68 TryI.inf67 rfl (by decide) (by decide) (k := 1) (k01 _)) ?_
          refine TL_v rfl rfl rfl (V_load rfl (Src.own (j := 2) rfl) (get_vec (f := v32) (V := s2.2) (by decide : 1 < 8)) Try.isAgg67) ?_
          refine TL_v rfl rfl rfl (V_idxArr (i := 2) rfl rfl Try.underlying68 TryI.inf67 rfl (by decide) (by decide) (k := 2) (k01 _)) ?_
          refine TL_v rfl rfl rfl (V_load rfl (Src.own (j := 2) rfl) (get_vec (f := v32) (V := s2.2) (by decide : 2 < 8)) Try.isAgg67) ?_
          refine TL_v rfl rfl rfl (V_idxArr (i := 3) rfl rfl Try.underlying68 TryI.inf67 rfl (by decide) (by decide) (k := 3) (k01 _)) ?_
          refine TL_v rfl rfl rfl (V_load rfl (Src.own (j := 2) rfl) (get_vec (f := v32) (V := s2.2) (by decide : 3 < 8)) Try.isAgg67) ?_
          refine TL_v rfl rfl rfl (V_move rfl) ?_
          refine TL_v rfl rfl rfl (V_bin rfl rfl (fun w => add32 w (vg s2.2 3) t_4)) ?_
          refine TL_v rfl rfl rfl (V_idxArr (i := 4) rfl rfl Try.underlying68 TryI.inf67 rfl (by decide) (by decide) (k := 4) (k01 _)) ?_
          refine TL_v rfl rfl rfl (V_load rfl (Src.own (j := 2) rfl) (get_vec (f := v32) (V := s2.2) (by decide : 4 < 8)) Try.isAgg67) ?_
          refine TL_v rfl rfl rfl (V_idxArr (i := 5) rfl rfl Try.underlying68 TryI.inf67 rfl (by decide) (by decide) (k := 5) (k01 _)) ?_
          refine TL_v rfl rfl rfl (V_load rfl (Src.own (j := 2) rfl) (get_vec (f := v32) (V := s2.2) (by decide : 5 < 8)) Try.isAgg67) ?_
          refine TL_v rfl rfl rfl (V_idxArr (i := 6) rfl rfl Try.underlying68 TryI.inf67 rfl (by decide) (by decide) (k := 6) (k01 _)) ?_
          refine TL_v rfl rfl rfl (V_load rfl (Src.own (j := 2) rfl) (get_vec (f := v32) (V := s2.2) (by decide : 6 < 8)) Try.isAgg67) ?_
          refine TL_v rfl rfl rfl (V_buildArr (pv := [(0, v32 (t_4 + u1)), (1, v32 (vg s2.2 0)), (2, v32 (vg s2.2 1)), (3, v32 (vg s2.2 2)), (4, v32 ((vg s2.2 3) + t_4)), (5, v32 (vg s2.2 4)), (6, v32 (vg s2.2 5)), (7, v32 (vg s2.2 6))]) rfl rfl Try.underlying68 TryI.inf68 TryI.inf67 rfl TryI.zer68 (cs := e32 ((#v[t_4 + u1, vg s2.2 0, vg s2.2 1, vg s2.2 2, (vg s2.2 3) + t_4, vg s2.2 4, vg s2.2 5, vg s2.2 6] : Vector (BitVec 32) 8).toList)) (by kernel_rfl)) ?_
          refine TL_n rfl rfl (E_storeAgg (n := 8) (j := 2) (vs := e32 ((#v[t_4 + u1, vg s2.2 0, vg s2.2 1, vg s2.2 2, (vg s2.2 3) + t_4, vg s2.2 4, vg s2.2 5, vg s2.2 6] : Vector (BitVec 32) 8).toList)) rfl rfl TryI.inf68 rfl (lenV (f := v32) (#v[t_4 + u1, vg s2.2 0, vg s2.2 1, vg s2.2 2, (vg s2.2 3) + t_4, vg s2.2 4, vg s2.2 5, vg s2.2 6] : Vector (BitVec 32) 8)) (OneC.map (fun _ => rfl) _) rfl (Nat.le_of_eq (by simp)) (cs' := e32 ((#v[t_4 + u1, vg s2.2 0, vg s2.2 1, vg s2.2 2, (vg s2.2 3) + t_4, vg s2.2 4, vg s2.2 5, vg s2.2 6] : Vector (BitVec 32) 8).toList)) (splice_all (by simp))) (fun _ => ?_)
          obtain ⟨m_4, hm_4, H⟩ := ltt_elim H
          refine TL_reE (j := 2) (A := some (b2, 0)) (cs := e32 ((#v[t_4 + u1, vg s2.2 0, vg s2.2 1, vg s2.2 2, (vg s2.2 3) + t_4, vg s2.2 4, vg s2.2 5, vg s2.2 6] : Vector (BitVec 32) 8).toList)) (cs' := e32 m_4.toList) rfl (congrArg (fun z : Vector (BitVec 32) 8 => e32 (Vector.toList z)) hm_4) ?_
          refine TL_nil ?_
          refine TX_block_normal ?_
          refine TX_next ?_
          refine TC_region ?_
          refine TL_v rfl rfl rfl (V_bin rfl rfl (fun w => addI w s2.1 1)) ?_
          refine TL_v rfl rfl rfl (V_move rfl) ?_
          refine TL_nil ?_
          refine TX.sub (m' := [(0, ptr (some (bh, obh)) 0), (4, ptr (some (b1, 0)) 0), (8, ptr (some (b2, 0)) 0), (83, vi (w64 (s2.1 + 1)))]) ⟨rfl, rfl, rfl, rfl, trivial⟩ ?_
          refine TX.pull (is := [0, 0, 0]) (L' := [⟨some (bh, obh + 1), e64 h_h.toList⟩, ⟨some (b1, 0), e32 t_1.toList⟩, ⟨some (b2, 0), e32 m_4.toList⟩]) rfl ?_
          obtain rfl := Option.some.inj H
          exact fun a w hs => hK (w64 (s2.1 + 1), m_4) rfl () a w hs
        · replace H := ite_f (of_decide_eq_false hc) H
          refine TC_exit ?_
          refine TX_then_exit ?_
          refine TX_then_exit ?_
          refine TX.sub (m' := [(0, ptr (some (bh, obh)) 0), (8, ptr (some (b2, 0)) 0)]) ⟨rfl, rfl, trivial⟩ ?_
          refine TX.pull (is := [0, 1]) (L' := [⟨some (bh, obh + 1), e64 h_h.toList⟩, ⟨some (b2, 0), e32 s2.2.toList⟩]) rfl ?_
          obtain rfl := Option.some.inj H
          exact hE s2.2 rfl ()
      · intro g
        refine TX_block_exit ?_
        refine TX_next ?_
        refine TC_seq ?_
        refine TC_region ?_
        refine TL_v rfl rfl rfl (V_move rfl) ?_
        refine TL_nil ?_
        refine TX_next ?_
        refine TC_block ?_
        obtain ⟨t_5, Hl, H⟩ := bind_elim H
        refine TC.sub (m' := [(0, ptr (some (bh, obh)) 0), (8, ptr (some (b2, 0)) 0), (170, vi 0)]) ⟨rfl, rfl, rfl, trivial⟩ ?_
        refine TC.pull (is := [0, 0]) (L' := [⟨some (bh, obh + 1), e64 h_h.toList⟩, ⟨some (b2, 0), e32 t_3.toList⟩]) rfl ?_
        refine TC_loopL (id := 6) (body := (sha_Hash_turns256.b3 t_3)) (σ := Int × Vector (BitVec 64) 8) (Γ := Unit) (Γx := Unit) (fun s3 g3_ => [(0, ptr (some (bh, obh)) 0), (8, ptr (some (b2, 0)) 0), (170, vi s3.1)]) (fun s3 g3_ => [⟨some (bh, obh + 1), e64 s3.2.toList⟩, ⟨some (b2, 0), e32 t_3.toList⟩]) (fun t g => []) (fun t g => [⟨some (bh, obh + 1), e64 t.toList⟩]) ?_ BIG (0, h_h) () t_5 Hl ?_
        · intro s3 g3_ r1 H K hK hE
          unfold sha_Hash_turns256.b3 at H
          refine TC_seq ?_
          refine TC_region ?_
          refine TL_v rfl rfl rfl (V_bin rfl rfl (fun w => lssI w s3.1 8)) ?_
          refine TL_nil ?_
          refine TX_next ?_
          refine TC_seq ?_
          refine TC_cond (b := (decide (s3.1 < 8))) rfl (fun hc => ?_) (fun hc => ?_)
          · replace H := ite_t (of_decide_eq_true hc) H
            refine TC_skip ?_
            refine TX_next ?_
            refine TC_seq ?_
            refine TC_block ?_
            refine TC_seq ?_
            refine TC_region ?_
            refine TL_v rfl rfl rfl (V_move rfl) ?_
            refine TL_v rfl rfl rfl (V_assign rfl) ?_
            refine TL_nil ?_
            refine TX_next ?_
            obtain ⟨h17, H⟩ := if_elim H
            obtain ⟨h18, H⟩ := if_elim H
            obtain ⟨h19, H⟩ := if_elim H
            obtain ⟨m_5, hm_5, H⟩ := ltt_elim H
            refine TA_begin [⟨some (bh, obh + 1), e64 s3.2.toList⟩, ⟨some (b2, 0), e32 t_3.toList⟩] 17 (by kernel_rfl) (N := 18) rfl ?_
            refine TA_take (i := 0) (is := [0, 0]) (done' := #[true, false, false, false, false, false, false, false, false, false, false, false, false, false, false, false, false, false]) rfl rfl rfl rfl (by kernel_rfl) (QP.block (QP.then (QP.then (QP.block QP.body)))) (by kernel_rfl) rfl (V_move rfl) ?_
            refine TA_take (i := 1) (is := [0, 0]) (done' := #[true, true, false, false, false, false, false, false, false, false, false, false, false, false, false, false, false, false]) rfl rfl rfl rfl (by kernel_rfl) (QP.block (QP.then (QP.then (QP.block QP.body)))) (by kernel_rfl) rfl (V_move rfl) ?_
            refine TA_take (i := 2) (is := [0, 0]) (done' := #[true, true, true, false, false, false, false, false, false, false, false, false, false, false, false, false, false, false]) rfl rfl rfl rfl (by kernel_rfl) (QP.block (QP.then (QP.then (QP.block QP.body)))) (by kernel_rfl) rfl (V_move rfl) ?_
            refine TA_take (i := 3) (is := [0, 0]) (done' := #[true, true, true, true, false, false, false, false, false, false, false, false, false, false, false, false, false, false]) rfl rfl rfl rfl (by kernel_rfl) (QP.block (QP.then (QP.then (QP.block QP.body)))) (by kernel_rfl) rfl (V_move rfl) ?_
            refine TA_take (i := 4) (is := [0, 0]) (done' := #[true, true, true, true, true, false, false, false, false, false, false, false, false, false, false, false, false, false]) rfl rfl rfl rfl (by kernel_rfl) (QP.block (QP.then (QP.then (QP.block QP.body)))) (by kernel_rfl) rfl (V_nilCheck rfl) ?_
            refine TA_take (i := 5) (is := [0, 0]) (done' := #[true, true, true, true, true, true, false, false, false, false, false, false, false, false, false, false, false, false]) rfl rfl rfl rfl (by kernel_rfl) (QP.block (QP.then (QP.then (QP.block QP.body)))) (by kernel_rfl) rfl (V_fieldE rfl Try.underlying90 rfl rfl TryI.inf72 rfl (v := ptr (some (bh, obh + 1)) 0) rfl) ?_
            refine TA_take (i := 6) (is := [0, 0]) (done' := #[true, true, true, true, true, true, true, false, false, false, false, false, false, false, false, false, false, false]) rfl rfl rfl rfl (by kernel_rfl) (QP.block (QP.then (QP.then (QP.block QP.body)))) (by kernel_rfl) rfl (V_idxArr (i := s3.1) rfl rfl Try.underlying72 TryI.inf71 rfl h17.1 h17.2 (k := (s3.1).toNat) (k01 _)) ?_
            refine TA_take (i := 7) (is := [0, 0]) (done' := #[true, true, true, true, true, true, true, true, false, false, false, false, false, false, false, false, false, false]) rfl rfl rfl rfl (by kernel_rfl) (QP.block (QP.then (QP.then (QP.block QP.body)))) (by kernel_rfl) rfl (V_load rfl (Src.own (j := 0) rfl) (get_vec (f := v64) (V := s3.2) (toNat_lt h17.1 h17.2)) Try.isAgg71) ?_
            refine TA_take (i := 8) (is := [0, 0]) (done' := #[true, true, true, true, true, true, true, true, true, false, false, false, false, false, false, false, false, false]) rfl rfl rfl rfl (by kernel_rfl) (QP.block (QP.then (QP.then (QP.block QP.body)))) (by kernel_rfl) rfl (V_conv rfl (fun w => cv64to32 w _ _ Try.underlying67 (TryI.und71) (vg s3.2 ((s3.1).toNat)))) ?_
            refine TA_take (i := 9) (is := [0, 0]) (done' := #[true, true, true, true, true, true, true, true, true, true, false, false, false, false, false, false, false, false]) rfl rfl rfl rfl (by kernel_rfl) (QP.block (QP.then (QP.then (QP.block QP.body)))) (by kernel_rfl) rfl (V_move rfl) ?_
            refine TA_take (i := 10) (is := [0, 0]) (done' := #[true, true, true, true, true, true, true, true, true, true, true, false, false, false, false, false, false, false]) rfl rfl rfl rfl (by kernel_rfl) (QP.block (QP.then (QP.then (QP.block QP.body)))) (by kernel_rfl) rfl (V_idxArr (i := s3.1) rfl rfl Try.underlying68 TryI.inf67 rfl h18.1 h18.2 (k := (s3.1).toNat) (k01 _)) ?_
            refine TA_take (i := 11) (is := [0, 0]) (done' := #[true, true, true, true, true, true, true, true, true, true, true, true, false, false, false, false, false, false]) rfl rfl rfl rfl (by kernel_rfl) (QP.block (QP.then (QP.then (QP.block QP.body)))) (by kernel_rfl) rfl (V_load rfl (Src.own (j := 1) rfl) (get_vec (f := v32) (V := t_3) (toNat_lt h18.1 h18.2)) Try.isAgg67) ?_
            refine TA_take (i := 12) (is := [0, 0]) (done' := #[true, true, true, true, true, true, true, true, true, true, true, true, true, false, false, false, false, false]) rfl rfl rfl rfl (by kernel_rfl) (QP.block (QP.then (QP.then (QP.block QP.body)))) (by kernel_rfl) rfl (V_bin rfl rfl (fun w => add32 w ((vg s3.2 ((s3.1).toNat)).setWidth 32) (vg t_3 ((s3.1).toNat)))) ?_
            refine TA_take (i := 13) (is := [0, 0]) (done' := #[true, true, true, true, true, true, true, true, true, true, true, true, true, true, false, false, false, false]) rfl rfl rfl rfl (by kernel_rfl) (QP.block (QP.then (QP.then (QP.block QP.body)))) (by kernel_rfl) rfl (V_conv rfl (fun w => cv32to64 w _ _ Try.underlying71 (TryI.und67) (((vg s3.2 ((s3.1).toNat)).setWidth 32) + (vg t_3 ((s3.1).toNat))))) ?_
            refine TA_all (rs := [14]) (by kernel_rfl) rfl ?_
            refine ⟨?_, trivial⟩
            refine TO_v (is := [0, 0]) (done' := #[true, true, true, true, true, true, true, true, true, true, true, true, true, true, true, false, false, false]) rfl rfl rfl rfl (by kernel_rfl) (V_nilCheck rfl) (fun _ => rfl) ?_
            refine TA_all (rs := [15]) (by kernel_rfl) rfl ?_
            refine ⟨?_, trivial⟩
            refine TO_v (is := [0, 0]) (done' := #[true, true, true, true, true, true, true, true, true, true, true, true, true, true, true, true, false, false]) rfl rfl rfl rfl (by kernel_rfl) (V_fieldE rfl Try.underlying90 rfl rfl TryI.inf72 rfl (v := ptr (some (bh, obh + 1)) 0) rfl) (fun _ => rfl) ?_
            refine TA_take (i := 16) (is := [0, 0]) (done' := #[true, true, true, true, true, true, true, true, true, true, true, true, true, true, true, true, true, false]) rfl rfl rfl rfl (by kernel_rfl) (QP.block (QP.then (QP.then (QP.block QP.body)))) (by kernel_rfl) rfl (V_idxArr (i := s3.1) rfl rfl Try.underlying72 TryI.inf71 rfl h19.1 h19.2 (k := (s3.1).toNat) (k01 _)) ?_
            refine TA_all (rs := [17]) (by kernel_rfl) rfl ?_
            refine ⟨?_, trivial⟩
            refine TO_n (is := []) (R := fun _ => []) (done' := #[true, true, true, true, true, true, true, true, true, true, true, true, true, true, true, true, true, true]) rfl rfl rfl (by kernel_rfl) (E_store (j := 0) rfl rfl TryI.inf71 rfl rfl rfl (by simpa using (toNat_lt h19.1 h19.2)) (cs' := e64 ((vp s3.2 ((s3.1).toNat) ((((vg s3.2 ((s3.1).toNat)).setWidth 32) + (vg t_3 ((s3.1).toNat))).setWidth 64)).toList)) set_vec) (fun h => by cases h) (fun _ => ?_)
            refine TA_reE (j := 0) (A := some (bh, obh + 1)) (cs := e64 ((vp s3.2 ((s3.1).toNat) ((((vg s3.2 ((s3.1).toNat)).setWidth 32) + (vg t_3 ((s3.1).toNat))).setWidth 64)).toList)) (cs' := e64 m_5.toList) rfl (congrArg (fun z : Vector (BitVec 64) 8 => e64 (Vector.toList z)) hm_5) ?_
            refine TA_done (by kernel_rfl) ?_ 0
            refine TX_block_normal ?_
            refine TX_next ?_
            refine TC_region ?_
            refine TL_v rfl rfl rfl (V_bin rfl rfl (fun w => addI w s3.1 1)) ?_
            refine TL_v rfl rfl rfl (V_move rfl) ?_
            refine TL_nil ?_
            refine TX.sub (m' := [(0, ptr (some (bh, obh)) 0), (8, ptr (some (b2, 0)) 0), (170, vi (w64 (s3.1 + 1)))]) ⟨rfl, rfl, rfl, trivial⟩ ?_
            refine TX.pull (is := [0, 0]) (L' := [⟨some (bh, obh + 1), e64 m_5.toList⟩, ⟨some (b2, 0), e32 t_3.toList⟩]) rfl ?_
            obtain rfl := Option.some.inj H
            exact fun a w hs => hK (w64 (s3.1 + 1), m_5) rfl () a w hs
          · replace H := ite_f (of_decide_eq_false hc) H
            refine TC_exit ?_
            refine TX_then_exit ?_
            refine TX_then_exit ?_
            refine TX.sub (m' := []) trivial ?_
            refine TX.pull (is := [0]) (L' := [⟨some (bh, obh + 1), e64 s3.2.toList⟩]) rfl ?_
            obtain rfl := Option.some.inj H
            exact hE s3.2 rfl ()
        · intro g
          refine TX_block_exit ?_
          have hrv := Option.some.inj H
          subst hrv
          exact TX_end (rs := []) (vs := []) rfl trivial (fun w' hs' => ⟨(), rfl, Step.left (Step.pulled (is := [0]) (A := [⟨some (bh, obh + 1), e64 t_5.toList⟩]) hs' rfl)⟩)

end Go.Proofs
end

section
namespace Go.Proofs
open Go Go.Kx
set_option linter.unusedVariables false
set_option linter.unusedSimpArgs false
def sha_Hash_turns384.b0 (b : List (BitVec 8)) (s0 : Int × Vector (BitVec 64) 80) : Option ((Int × Vector (BitVec 64) 80) ⊕ (Vector (BitVec 64) 80)) :=
  if s0.1 < 80 then (if s0.1 < 16 then (if 0 ≤ w64 ((w64 (8 * s0.1)) + 8) then (if 0 ≤ w64 (8 * s0.1) then (if (w64 ((w64 (8 * s0.1)) + 8)).toNat ≤ (b).length then (if (w64 (8 * s0.1)).toNat ≤ (w64 ((w64 (8 * s0.1)) + 8)).toNat then (if (w64 ((w64 (8 * s0.1)) + 8)).toNat ≤ (b).length then (if (w64 ((w64 (8 * s0.1)) + 8)).toNat ≤ (b).length then ((sha_word (sub b ((w64 (8 * s0.1)).toNat) ((w64 ((w64 (8 * s0.1)) + 8)).toNat))).bind fun (r_1 : BitVec 64) => (if 0 ≤ s0.1 ∧ s0.1 < (80 : Int) then (ltt (vp s0.2 ((s0.1).toNat) r_1) fun (m_1 : Vector (BitVec 64) 80) => (some (.inl (w64 (s0.1 + 1), m_1)))) else none)) else none) else none) else none) else none) else none) else none) else (if 0 ≤ w64 (s0.1 - 15) ∧ w64 (s0.1 - 15) < (80 : Int) then (if 0 ≤ w64 (s0.1 - 2) ∧ w64 (s0.1 - 2) < (80 : Int) then (ltt (vg s0.2 ((w64 (s0.1 - 15)).toNat)) fun (x1 : BitVec 64) => (ltt (vg s0.2 ((w64 (s0.1 - 2)).toNat)) fun (y1 : BitVec 64) => (if 0 ≤ w64 (s0.1 - 16) ∧ w64 (s0.1 - 16) < (80 : Int) then (if 0 ≤ w64 (s0.1 - 7) ∧ w64 (s0.1 - 7) < (80 : Int) then ((math_bits_RotateLeft64 x1 (-1)).bind fun (r_2 : BitVec 64) => ((math_bits_RotateLeft64 x1 (-8)).bind fun (r_3 : BitVec 64) => ((math_bits_RotateLeft64 y1 (-19)).bind fun (r_4 : BitVec 64) => ((math_bits_RotateLeft64 y1 (-61)).bind fun (r_5 : BitVec 64) => (if 0 ≤ s0.1 ∧ s0.1 < (80 : Int) then (ltt (vp s0.2 ((s0.1).toNat) ((((vg s0.2 ((w64 (s0.1 - 16)).toNat)) + (vg s0.2 ((w64 (s0.1 - 7)).toNat))) + ((r_2 ^^^ r_3) ^^^ (x1 >>> 7))) + ((r_4 ^^^ r_5) ^^^ (y1 >>> 6)))) fun (m_2 : Vector (BitVec 64) 80) => (some (.inl (w64 (s0.1 + 1), m_2)))) else none))))) else none) else none))) else none) else none)) else (some (.inr s0.2))

def sha_Hash_turns384.b1 (h_k : Vector (BitVec 64) 80) (t_1 : Vector (BitVec 64) 80) (s1 : Int × Vector (BitVec 64) 8) : Option ((Int × Vector (BitVec 64) 8) ⊕ (Vector (BitVec 64) 8)) :=
  if s1.1 < 80 then ((math_bits_RotateLeft64 (vg s1.2 4) (-14)).bind fun (r_6 : BitVec 64) => ((math_bits_RotateLeft64 (vg s1.2 4) (-18)).bind fun (r_7 : BitVec 64) => ((math_bits_RotateLeft64 (vg s1.2 4) (-41)).bind fun (r_8 : BitVec 64) => (if 0 ≤ s1.1 ∧ s1.1 < (80 : Int) then (if 0 ≤ s1.1 ∧ s1.1 < (80 : Int) then (ltt (((((vg s1.2 7) + ((r_6 ^^^ r_7) ^^^ r_8)) + (((vg s1.2 4) &&& (vg s1.2 5)) ^^^ ((~~~(vg s1.2 4)) &&& (vg s1.2 6)))) + (vg h_k ((s1.1).toNat))) + (vg t_1 ((s1.1).toNat))) fun (t_3 : BitVec 64) => ((math_bits_RotateLeft64 (vg s1.2 0) (-28)).bind fun (r_9 : BitVec 64) => ((math_bits_RotateLeft64 (vg s1.2 0) (-34)).bind fun (r_10 : BitVec 64) => ((math_bits_RotateLeft64 (vg s1.2 0) (-39)).bind fun (r_11 : BitVec 64) => (ltt (((r_9 ^^^ r_10) ^^^ r_11) + ((((vg s1.2 0) &&& (vg s1.2 1)) ^^^ ((vg s1.2 0) &&& (vg s1.2 2))) ^^^ ((vg s1.2 1) &&& (vg s1.2 2)))) fun (u1 : BitVec 64) => (ltt ((#v[t_3 + u1, vg s1.2 0, vg s1.2 1, vg s1.2 2, (vg s1.2 3) + t_3, vg s1.2 4, vg s1.2 5, vg s1.2 6] : Vector (BitVec 64) 8)) fun (m_3 : Vector (BitVec 64) 8) => (some (.inl (w64 (s1.1 + 1), m_3))))))))) else none) else none)))) else (some (.inr s1.2))

def sha_Hash_turns384.b2 (t_2 : Vector (BitVec 64) 8) (s2 : Int × Vector (BitVec 64) 8) : Option ((Int × Vector (BitVec 64) 8) ⊕ (Vector (BitVec 64) 8)) :=
  if s2.1 < 8 then (if 0 ≤ s2.1 ∧ s2.1 < (8 : Int) then (if 0 ≤ s2.1 ∧ s2.1 < (8 : Int) then (if 0 ≤ s2.1 ∧ s2.1 < (8 : Int) then (ltt (vp s2.2 ((s2.1).toNat) ((vg s2.2 ((s2.1).toNat)) + (vg t_2 ((s2.1).toNat)))) fun (m_4 : Vector (BitVec 64) 8) => (some (.inl (w64 (s2.1 + 1), m_4)))) else none) else none) else none) else (some (.inr s2.2))

def sha_Hash_turns384 (h_n : Int) (h_h : Vector (BitVec 64) 8) (h_k : Vector (BitVec 64) 80) (h_rest : List (BitVec 8)) (h_all : BitVec 64) (b : List (BitVec 8)) : Option (Vector (BitVec 64) 8) :=
  (loop (sha_Hash_turns384.b0 b) BIG (0, Vector.replicate 80 0#64)).bind fun (t_1 : Vector (BitVec 64) 80) => ((loop (sha_Hash_turns384.b1 h_k t_1) BIG (0, h_h)).bind fun (t_2 : Vector (BitVec 64) 8) => ((loop (sha_Hash_turns384.b2 t_2) BIG (0, h_h)).bind fun (t_4 : Vector (BitVec 64) 8) => (some t_4)))

set_option maxHeartbeats 4000000 in
set_option maxRecDepth 20000 in
theorem F70_calls (bh : Nat) (obh : Nat) (Ah_rest : Adr) (ch_rest : Nat) (Ab : Adr) (cb : Nat) (h_n : Int) (h_h : Vector (BitVec 64) 8) (h_k : Vector (BitVec 64) 80) (h_rest : List (BitVec 8)) (h_all : BitVec 64) (b : List (BitVec 8)) (hch_rest : (h_rest).length ≤ ch_rest) (hcb : (b).length ≤ cb) (r : Vector (BitVec 64) 8) (H : sha_Hash_turns384 h_n h_h h_k h_rest h_all b = some r) :
    Does Try.prog 70 [ptr (some (bh, obh)) 0, sl Ab ((b).length) cb] [⟨some (bh, obh + 1), e64 h_h.toList⟩] [⟨some (bh, obh), [vi h_n]⟩, ⟨some (bh, obh + 9), e64 h_k.toList⟩, ⟨some (bh, obh + 89), [sl Ah_rest ((h_rest).length) ch_rest]⟩, ⟨some (bh, obh + 90), [v64 h_all]⟩, ⟨Ah_rest, e8 h_rest⟩, ⟨Ab, e8 b⟩] (Γ := Unit) (fun g => Value.tuple [].toArray) (fun g => [⟨some (bh, obh + 1), e64 r.toList⟩]) := by
  intro w hmem hro hd
  refine calls_of (N := 174) (m0 := [(0, ptr (some (bh, obh)) 0), (1, sl Ab ((b).length) cb)]) Try.func70 rfl Try.ntmps70 (argM_ok [ptr (some (bh, obh)) 0, sl Ab ((b).length) cb]) rfl hmem hro hd ?_
  unfold sha_Hash_turns384 at H
  refine TC_seq ?_
  refine TC_region ?_
  refine TL_e rfl rfl rfl (E_allocP [(80, e64 ((Vector.replicate 80 0#64).toList))] TryI.inf85 TryI.zer85 ⟨(lenV (f := v64) (Vector.replicate 80 0#64)), trivial⟩) (fun b1 => ?_)
  refine TL_nil ?_
  refine TX_next ?_
  refine TC_seq ?_
  refine TC_seq ?_
  refine TC_region ?_
  refine TL_v rfl rfl rfl (V_move rfl) ?_
  refine TL_nil ?_
  refine TX_next ?_
  refine TC_block ?_
  obtain ⟨t_1, Hl, H⟩ := bind_elim H
  refine TC.sub (m' := [(0, ptr (some (bh, obh)) 0), (1, sl Ab ((b).length) cb), (4, ptr (some (b1, 0)) 0), (15, vi 0)]) ⟨rfl, rfl, rfl, rfl, trivial⟩ ?_
  refine TC.pull (is := [1, 0]) (L' := [⟨some (bh, obh + 1), e64 h_h.toList⟩, ⟨some (b1, 0), e64 ((Vector.replicate 80 0#64).toList)⟩]) rfl ?_
  refine TC_loopL (id := 0) (body := (sha_Hash_turns384.b0 b)) (σ := Int × Vector (BitVec 64) 80) (Γ := Unit) (Γx := Unit) (fun s0 g0_ => [(0, ptr (some (bh, obh)) 0), (1, sl Ab ((b).length) cb), (4, ptr (some (b1, 0)) 0), (15, vi s0.1)]) (fun s0 g0_ => [⟨some (bh, obh + 1), e64 h_h.toList⟩, ⟨some (b1, 0), e64 s0.2.toList⟩]) (fun t g => [(0, ptr (some (bh, obh)) 0), (4, ptr (some (b1, 0)) 0)]) (fun t g => [⟨some (bh, obh + 1), e64 h_h.toList⟩, ⟨some (b1, 0), e64 t.toList⟩]) ?_ BIG (0, Vector.replicate 80 0#64) () t_1 Hl ?_
  · intro s0 g0_ r1 H K hK hE
    unfold sha_Hash_turns384.b0 at H
    refine TC_seq ?_
    refine TC_region ?_
    refine TL_v rfl rfl rfl (V_bin rfl rfl (fun w => lssI w s0.1 80)) ?_
    refine TL_nil ?_
    refine TX_next ?_
    refine TC_seq ?_
    refine TC_cond (b := (decide (s0.1 < 80))) rfl (fun hc => ?_) (fun hc => ?_)
    · replace H := ite_t (of_decide_eq_true hc) H
      refine TC_skip ?_
      refine TX_next ?_
      refine TC_seq ?_
      refine TC_block ?_
      refine TC_seq ?_
      refine TC_region ?_
      refine TL_v rfl rfl rfl (V_move rfl) ?_
      refine TL_v rfl rfl rfl (V_assign rfl) ?_
      refine TL_nil ?_
      refine TX_next ?_
      refine TC_seq ?_
      refine TC_seq ?_
      refine TC_region ?_
      refine TL_v rfl rfl rfl (V_move rfl) ?_
      refine TL_v rfl rfl rfl (V_bin rfl rfl (fun w => lssI w s0.1 16)) ?_
      refine TL_nil ?_
      refine TX_next ?_
      refine TC_cond (b := (decide (s0.1 < 16))) rfl (fun hc => ?_) (fun hc => ?_)
      · replace H := ite_t (of_decide_eq_true hc) H
        refine TC_seq ?_
        refine TC_region ?_
        refine TL_v rfl rfl rfl (V_move rfl) ?_
        refine TL_v rfl rfl rfl (V_move rfl) ?_
        refine TL_v rfl rfl rfl (V_move rfl) ?_
        refine TL_v rfl rfl rfl (V_bin rfl rfl (fun w => mulI w 8 s0.1)) ?_
        refine TL_v rfl rfl rfl (V_move rfl) ?_
        refine TL_v rfl rfl rfl (V_bin rfl rfl (fun w => mulI w 8 s0.1)) ?_
        refine TL_v rfl rfl rfl (V_bin rfl rfl (fun w => addI w (w64 (8 * s0.1)) 8)) ?_
        obtain ⟨h1, H⟩ := if_elim H
        obtain ⟨h2, H⟩ := if_elim H
        obtain ⟨h3, H⟩ := if_elim H
        obtain ⟨h4, H⟩ := if_elim H
        refine TL_v rfl rfl rfl (V_sliceVw0 (l := (w64 (8 * s0.1)).toNat) (h := (w64 ((w64 (8 * s0.1)) + 8)).toNat) rfl Try.underlying49 TryI.inf5 rfl (Bnd.some' (i := w64 (8 * s0.1)) rfl h2) (Bnd.some' (i := w64 ((w64 (8 * s0.1)) + 8)) rfl h1) h4 (Nat.le_trans h3 hcb)) ?_
        obtain ⟨h5, H⟩ := if_elim H
        obtain ⟨h6, H⟩ := if_elim H
        refine TL_re (d := 27) (v := sl (cutB Ab cb ((w64 (8 * s0.1)).toNat) 0 1) (((w64 ((w64 (8 * s0.1)) + 8)).toNat) - ((w64 (8 * s0.1)).toNat)) (cb - ((w64 (8 * s0.1)).toNat))) (v' := sl (cutB Ab cb ((w64 (8 * s0.1)).toNat) 0 1) ((sub b ((w64 (8 * s0.1)).toNat) ((w64 ((w64 (8 * s0.1)) + 8)).toNat)).length) (cb - ((w64 (8 * s0.1)).toNat))) rfl (congrArg (fun n => sl (cutB Ab cb ((w64 (8 * s0.1)).toNat) 0 1) n (cb - ((w64 (8 * s0.1)).toNat))) (sub_length h6).symm) ?_
        obtain ⟨r_1, hr_1, H⟩ := bind_elim H
        refine TL_e rfl rfl rfl (E_call (Γ := Unit) (val := fun g => v64 r_1) (mem := fun g => []) (vs := [sl (cutB Ab cb ((w64 (8 * s0.1)).toNat) 0 1) ((sub b ((w64 (8 * s0.1)).toNat) ((w64 ((w64 (8 * s0.1)) + 8)).toNat)).length) (cb - ((w64 (8 * s0.1)).toNat))]) (Lin := []) (Ro := [⟨cutB Ab cb ((w64 (8 * s0.1)).toNat) 0 1, e8 (sub b ((w64 (8 * s0.1)).toNat) ((w64 ((w64 (8 * s0.1)) + 8)).toNat))⟩]) (is := []) rfl Try.call71 (F71_calls (cutB Ab cb ((w64 (8 * s0.1)).toNat) 0 1) (cb - ((w64 (8 * s0.1)).toNat)) (sub b ((w64 (8 * s0.1)).toNat) ((w64 ((w64 (8 * s0.1)) + 8)).toNat)) (vw_cap h5 (Nat.le_trans h3 hcb)) r_1 hr_1) rfl ⟨(srcdVw (lst := b) (SrcD.ro (j := 5) rfl) (Nat.le_trans h3 hcb)), trivial⟩) (fun g_1 => ?_)
        refine TL_re (d := 27) (v := sl (cutB Ab cb ((w64 (8 * s0.1)).toNat) 0 1) ((sub b ((w64 (8 * s0.1)).toNat) ((w64 ((w64 (8 * s0.1)) + 8)).toNat)).length) (cb - ((w64 (8 * s0.1)).toNat))) (v' := sl (cutB Ab cb ((w64 (8 * s0.1)).toNat) 0 1) (((w64 ((w64 (8 * s0.1)) + 8)).toNat) - ((w64 (8 * s0.1)).toNat)) (cb - ((w64 (8 * s0.1)).toNat))) rfl (congrArg (fun n => sl (cutB Ab cb ((w64 (8 * s0.1)).toNat) 0 1) n (cb - ((w64 (8 * s0.1)).toNat))) (sub_length h6)) ?_
        obtain ⟨h7, H⟩ := if_elim H
        refine TL_v rfl rfl rfl (V_idxArr (i := s0.1) rfl rfl Try.underlying85 TryI.inf71 rfl h7.1 h7.2 (k := (s0.1).toNat) (k01 _)) ?_
        refine TL_n rfl rfl (E_store (j := 1) rfl rfl TryI.inf71 rfl rfl rfl (by simpa using (toNat_lt h7.1 h7.2)) (cs' := e64 ((vp s0.2 ((s0.1).toNat) r_1).toList)) set_vec) (fun _ => ?_)
        obtain ⟨m_1, hm_1, H⟩ := ltt_elim H
        refine TL_reE (j := 1) (A := some (b1, 0)) (cs := e64 ((vp s0.2 ((s0.1).toNat) r_1).toList)) (cs' := e64 m_1.toList) rfl (congrArg (fun z : Vector (BitVec 64) 80 => e64 (Vector.toList z)) hm_1) ?_
        refine TL_nil ?_
        refine TX_next ?_
        refine TC_exit ?_
        refine TX_then_exit ?_
        refine TX_block_exit ?_
        refine TX_next ?_
        refine TC_region ?_
        refine TL_v rfl rfl rfl (V_bin rfl rfl (fun w => addI w s0.1 1)) ?_
        refine TL_v rfl rfl rfl (V_move rfl) ?_
        refine TL_nil ?_
        refine TX.sub (m' := [(0, ptr (some (bh, obh)) 0), (1, sl Ab ((b).length) cb), (4, ptr (some (b1, 0)) 0), (15, vi (w64 (s0.1 + 1)))]) ⟨rfl, rfl, rfl, rfl, trivial⟩ ?_
        refine TX.pull (is := [0, 0]) (L' := [⟨some (bh, obh + 1), e64 h_h.toList⟩, ⟨some (b1, 0), e64 m_1.toList⟩]) rfl ?_
        obtain rfl := Option.some.inj H
        exact fun a w hs => hK (w64 (s0.1 + 1), m_1) rfl () a w hs
      · replace H := ite_f (of_decide_eq_false hc) H
        refine TC_skip ?_
        refine TX_next ?_
        refine TC_seq ?_
        obtain ⟨h8, H⟩ := if_elim H
        obtain ⟨h9, H⟩ := if_elim H
        obtain ⟨x1, hx1, H⟩ := ltt_elim H
        obtain ⟨y1, hy1, H⟩ := ltt_elim H
        refine TA_begin [⟨some (bh, obh + 1), e64 h_h.toList⟩, ⟨some (b1, 0), e64 s0.2.toList⟩] 10 (by kernel_rfl) (N := 10) rfl ?_
        refine TA_take (i := 0) (is := [0, 0]) (done' := #[true, false, false, false, false, false, false, false, false, false]) rfl rfl rfl rfl (by kernel_rfl) (QP.then (QP.block (QP.then (QP.then (QP.block (QP.then QP.body)))))) (by kernel_rfl) rfl (V_move rfl) ?_
        refine TA_take (i := 1) (is := [0, 0]) (done' := #[true, true, false, false, false, false, false, false, false, false]) rfl rfl rfl rfl (by kernel_rfl) (QP.then (QP.block (QP.then (QP.then (QP.block (QP.then QP.body)))))) (by kernel_rfl) rfl (V_bin rfl rfl (fun w => subI w s0.1 15)) ?_
        refine TA_take (i := 2) (is := [0, 0]) (done' := #[true, true, true, false, false, false, false, false, false, false]) rfl rfl rfl rfl (by kernel_rfl) (QP.then (QP.block (QP.then (QP.then (QP.block (QP.then QP.body)))))) (by kernel_rfl) rfl (V_idxArr (i := w64 (s0.1 - 15)) rfl rfl Try.underlying85 TryI.inf71 rfl h8.1 h8.2 (k := (w64 (s0.1 - 15)).toNat) (k01 _)) ?_
        refine TA_take (i := 3) (is := [0, 0]) (done' := #[true, true, true, true, false, false, false, false, false, false]) rfl rfl rfl rfl (by kernel_rfl) (QP.then (QP.block (QP.then (QP.then (QP.block (QP.then QP.body)))))) (by kernel_rfl) rfl (V_load rfl (Src.own (j := 1) rfl) (get_vec (f := v64) (V := s0.2) (toNat_lt h8.1 h8.2)) Try.isAgg71) ?_
        refine TA_take (i := 4) (is := [0, 0]) (done' := #[true, true, true, true, true, false, false, false, false, false]) rfl rfl rfl rfl (by kernel_rfl) (QP.then (QP.block (QP.then (QP.then (QP.block (QP.then QP.body)))))) (by kernel_rfl) rfl (V_move rfl) ?_
        refine TA_take (i := 5) (is := [0, 0]) (done' := #[true, true, true, true, true, true, false, false, false, false]) rfl rfl rfl rfl (by kernel_rfl) (QP.then (QP.block (QP.then (QP.then (QP.block (QP.then QP.body)))))) (by kernel_rfl) rfl (V_bin rfl rfl (fun w => subI w s0.1 2)) ?_
        refine TA_take (i := 6) (is := [0, 0]) (done' := #[true, true, true, true, true, true, true, false, false, false]) rfl rfl rfl rfl (by kernel_rfl) (QP.then (QP.block (QP.then (QP.then (QP.block (QP.then QP.body)))))) (by kernel_rfl) rfl (V_idxArr (i := w64 (s0.1 - 2)) rfl rfl Try.underlying85 TryI.inf71 rfl h9.1 h9.2 (k := (w64 (s0.1 - 2)).toNat) (k01 _)) ?_
        refine TA_take (i := 7) (is := [0, 0]) (done' := #[true, true, true, true, true, true, true, true, false, false]) rfl rfl rfl rfl (by kernel_rfl) (QP.then (QP.block (QP.then (QP.then (QP.block (QP.then QP.body)))))) (by kernel_rfl) rfl (V_load rfl (Src.own (j := 1) rfl) (get_vec (f := v64) (V := s0.2) (toNat_lt h9.1 h9.2)) Try.isAgg71) ?_
        refine TA_take (i := 8) (is := [0, 0]) (done' := #[true, true, true, true, true, true, true, true, true, false]) rfl rfl rfl rfl (by kernel_rfl) (QP.then (QP.block (QP.then (QP.then (QP.block (QP.then QP.body)))))) (by kernel_rfl) rfl (V_assign rfl) ?_
        refine TA_re (d := 6) (v := v64 (vg s0.2 ((w64 (s0.1 - 15)).toNat))) (v' := v64 x1) rfl (congrArg v64 hx1) ?_
        refine TA_take (i := 9) (is := [0, 0]) (done' := #[true, true, true, true, true, true, true, true, true, true]) rfl rfl rfl rfl (by kernel_rfl) (QP.then (QP.block (QP.then (QP.then (QP.block (QP.then QP.body)))))) (by kernel_rfl) rfl (V_assign rfl) ?_
        refine TA_re (d := 7) (v := v64 (vg s0.2 ((w64 (s0.1 - 2)).toNat))) (v' := v64 y1) rfl (congrArg v64 hy1) ?_
        refine TA_done (by kernel_rfl) ?_ 0
        refine TX_next ?_
        obtain ⟨h10, H⟩ := if_elim H
        obtain ⟨h11, H⟩ := if_elim H
        obtain ⟨r_2, hr_2, H⟩ := bind_elim H
        obtain ⟨r_3, hr_3, H⟩ := bind_elim H
        obtain ⟨r_4, hr_4, H⟩ := bind_elim H
        obtain ⟨r_5, hr_5, H⟩ := bind_elim H
        obtain ⟨h12, H⟩ := if_elim H
        obtain ⟨m_2, hm_2, H⟩ := ltt_elim H
        refine TA_begin [⟨some (bh, obh + 1), e64 h_h.toList⟩, ⟨some (b1, 0), e64 s0.2.toList⟩] 29 (by kernel_rfl) (N := 30) rfl ?_
        refine TA_take (i := 0) (is := [0, 0]) (done' := #[true, false, false, false, false, false, false, false, false, false, false, false, false, false, false, false, false, false, false, false, false, false, false, false, false, false, false, false, false, false]) rfl rfl rfl rfl (by kernel_rfl) (QP.block (QP.then (QP.then (QP.block (QP.then QP.body))))) (by kernel_rfl) rfl (V_move rfl) ?_
        refine TA_take (i := 1) (is := [0, 0]) (done' := #[true, true, false, false, false, false, false, false, false, false, false, false, false, false, false, false, false, false, false, false, false, false, false, false, false, false, false, false, false, false]) rfl rfl rfl rfl (by kernel_rfl) (QP.block (QP.then (QP.then (QP.block (QP.then QP.body))))) (by kernel_rfl) rfl (V_move rfl) ?_
        refine TA_take (i := 2) (is := [0, 0]) (done' := #[true, true, true, false, false, false, false, false, false, false, false, false, false, false, false, false, false, false, false, false, false, false, false, false, false, false, false, false, false, false]) rfl rfl rfl rfl (by kernel_rfl) (QP.block (QP.then (QP.then (QP.block (QP.then QP.body))))) (by kernel_rfl) rfl (V_bin rfl rfl (fun w => subI w s0.1 16)) ?_
        refine TA_take (i := 3) (is := [0, 0]) (done' := #[true, true, true, true, false, false, false, false, false, false, false, false, false, false, false, false, false, false, false, false, false, false, false, false, false, false, false, false, false, false]) rfl rfl rfl rfl (by kernel_rfl) (QP.block (QP.then (QP.then (QP.block (QP.then QP.body))))) (by kernel_rfl) rfl (V_idxArr (i := w64 (s0.1 - 16)) rfl rfl Try.underlying85 TryI.inf71 rfl h10.1 h10.2 (k := (w64 (s0.1 - 16)).toNat) (k01 _)) ?_
        refine TA_take (i := 4) (is := [0, 0]) (done' := #[true, true, true, true, true, false, false, false, false, false, false, false, false, false, false, false, false, false, false, false, false, false, false, false, false, false, false, false, false, false]) rfl rfl rfl rfl (by kernel_rfl) (QP.block (QP.then (QP.then (QP.block (QP.then QP.body))))) (by kernel_rfl) rfl (V_load rfl (Src.own (j := 1) rfl) (get_vec (f := v64) (V := s0.2) (toNat_lt h10.1 h10.2)) Try.isAgg71) ?_
        refine TA_take (i := 5) (is := [0, 0]) (done' := #[true, true, true, true, true, true, false, false, false, false, false, false, false, false, false, false, false, false, false, false, false, false, false, false, false, false, false, false, false, false]) rfl rfl rfl rfl (by kernel_rfl) (QP.block (QP.then (QP.then (QP.block (QP.then QP.body))))) (by kernel_rfl) rfl (V_move rfl) ?_
        refine TA_take (i := 6) (is := [0, 0]) (done' := #[true, true, true, true, true, true, true, false, false, false, false, false, false, false, false, false, false, false, false, false, false, false, false, false, false, false, false, false, false, false]) rfl rfl rfl rfl (by kernel_rfl) (QP.block (QP.then (QP.then (QP.block (QP.then QP.body))))) (by kernel_rfl) rfl (V_bin rfl rfl (fun w => subI w s0.1 7)) ?_
        refine TA_take (i := 7) (is := [0, 0]) (done' := #[true, true, true, true, true, true, true, true, false, false, false, false, false, false, false, false, false, false, false, false, false, false, false, false, false, false, false, false, false, false]) rfl rfl rfl rfl (by kernel_rfl) (QP.block (QP.then (QP.then (QP.block (QP.then QP.body))))) (by kernel_rfl) rfl (V_idxArr (i := w64 (s0.1 - 7)) rfl rfl Try.underlying85 TryI.inf71 rfl h11.1 h11.2 (k := (w64 (s0.1 - 7)).toNat) (k01 _)) ?_
        refine TA_take (i := 8) (is := [0, 0]) (done' := #[true, true, true, true, true, true, true, true, true, false, false, false, false, false, false, false, false, false, false, false, false, false, false, false, false, false, false, false, false, false]) rfl rfl rfl rfl (by kernel_rfl) (QP.block (QP.then (QP.then (QP.block (QP.then QP.body))))) (by kernel_rfl) rfl (V_load rfl (Src.own (j := 1) rfl) (get_vec (f := v64) (V := s0.2) (toNat_lt h11.1 h11.2)) Try.isAgg71) ?_
        refine TA_take (i := 9) (is := [0, 0]) (done' := #[true, true, true, true, true, true, true, true, true, true, false, false, false, false, false, false, false, false, false, false, false, false, false, false, false, false, false, false, false, false]) rfl rfl rfl rfl (by kernel_rfl) (QP.block (QP.then (QP.then (QP.block (QP.then QP.body))))) (by kernel_rfl) rfl (V_bin rfl rfl (fun w => add64 w (vg s0.2 ((w64 (s0.1 - 16)).toNat)) (vg s0.2 ((w64 (s0.1 - 7)).toNat)))) ?_
        refine TA_take (i := 10) (is := [0, 0]) (done' := #[true, true, true, true, true, true, true, true, true, true, true, false, false, false, false, false, false, false, false, false, false, false, false, false, false, false, false, false, false, false]) rfl rfl rfl rfl (by kernel_rfl) (QP.block (QP.then (QP.then (QP.block (QP.then QP.body))))) (by kernel_rfl) rfl (V_move rfl) ?_
        refine TA_take (i := 12) (is := [0, 0]) (done' := #[true, true, true, true, true, true, true, true, true, true, true, false, true, false, false, false, false, false, false, false, false, false, false, false, false, false, false, false, false, false]) rfl rfl rfl rfl (by kernel_rfl) (QP.block (QP.then (QP.then (QP.block (QP.then QP.body))))) (by kernel_rfl) rfl (V_move rfl) ?_
        refine TA_take (i := 15) (is := [0, 0]) (done' := #[true, true, true, true, true, true, true, true, true, true, true, false, true, false, false, true, false, false, false, false, false, false, false, false, false, false, false, false, false, false]) rfl rfl rfl rfl (by kernel_rfl) (QP.block (QP.then (QP.then (QP.block (QP.then QP.body))))) (by kernel_rfl) rfl (V_move rfl) ?_
        refine TA_take (i := 16) (is := [0, 0]) (done' := #[true, true, true, true, true, true, true, true, true, true, true, false, true, false, false, true, true, false, false, false, false, false, false, false, false, false, false, false, false, false]) rfl rfl rfl rfl (by kernel_rfl) (QP.block (QP.then (QP.then (QP.block (QP.then QP.body))))) (by kernel_rfl) rfl (V_bin rfl rfl (fun w => shr64 w x1 .u64 7 (by decide))) ?_
        refine TA_take (i := 19) (is := [0, 0]) (done' := #[true, true, true, true, true, true, true, true, true, true, true, false, true, false, false, true, true, false, false, true, false, false, false, false, false, false, false, false, false, false]) rfl rfl rfl rfl (by kernel_rfl) (QP.block (QP.then (QP.then (QP.block (QP.then QP.body))))) (by kernel_rfl) rfl (V_move rfl) ?_
        refine TA_take (i := 21) (is := [0, 0]) (done' := #[true, true, true, true, true, true, true, true, true, true, true, false, true, false, false, true, true, false, false, true, false, true, false, false, false, false, false, false, false, false]) rfl rfl rfl rfl (by kernel_rfl) (QP.block (QP.then (QP.then (QP.block (QP.then QP.body))))) (by kernel_rfl) rfl (V_move rfl) ?_
        refine TA_take (i := 24) (is := [0, 0]) (done' := #[true, true, true, true, true, true, true, true, true, true, true, false, true, false, false, true, true, false, false, true, false, true, false, false, true, false, false, false, false, false]) rfl rfl rfl rfl (by kernel_rfl) (QP.block (QP.then (QP.then (QP.block (QP.then QP.body))))) (by kernel_rfl) rfl (V_move rfl) ?_
        refine TA_take (i := 25) (is := [0, 0]) (done' := #[true, true, true, true, true, true, true, true, true, true, true, false, true, false, false, true, true, false, false, true, false, true, false, false, true, true, false, false, false, false]) rfl rfl rfl rfl (by kernel_rfl) (QP.block (QP.then (QP.then (QP.block (QP.then QP.body))))) (by kernel_rfl) rfl (V_bin rfl rfl (fun w => shr64 w y1 .u64 6 (by decide))) ?_
        refine TA_all (rs := [11]) (by kernel_rfl) rfl ?_
        refine ⟨?_, trivial⟩
        refine TO_e (is := [0, 0]) (done' := #[true, true, true, true, true, true, true, true, true, true, true, true, true, false, false, true, true, false, false, true, false, true, false, false, true, true, false, false, false, false]) rfl rfl rfl rfl (by kernel_rfl) (E_call (Γ := Unit) (val := fun g => v64 r_2) (mem := fun g => []) (vs := [v64 x1, vi (-1)]) (Lin := []) (Ro := []) (is := []) rfl Try.call73 (F73_calls x1 (-1) r_2 hr_2) rfl trivial) (fun _ _ => rfl) (fun g_2 => ?_)
        refine TA_all (rs := [13]) (by kernel_rfl) rfl ?_
        refine ⟨?_, trivial⟩
        refine TO_e (is := [0, 0]) (done' := #[true, true, true, true, true, true, true, true, true, true, true, true, true, true, false, true, true, false, false, true, false, true, false, false, true, true, false, false, false, false]) rfl rfl rfl rfl (by kernel_rfl) (E_call (Γ := Unit) (val := fun g => v64 r_3) (mem := fun g => []) (vs := [v64 x1, vi (-8)]) (Lin := []) (Ro := []) (is := []) rfl Try.call73 (F73_calls x1 (-8) r_3 hr_3) rfl trivial) (fun _ _ => rfl) (fun g_3 => ?_)
        refine TA_take (i := 14) (is := [0, 0]) (done' := #[true, true, true, true, true, true, true, true, true, true, true, true, true, true, true, true, true, false, false, true, false, true, false, false, true, true, false, false, false, false]) rfl rfl rfl rfl (by kernel_rfl) (QP.block (QP.then (QP.then (QP.block (QP.then QP.body))))) (by kernel_rfl) rfl (V_bin rfl rfl (fun w => xor64 w r_2 r_3)) ?_
        refine TA_take (i := 17) (is := [0, 0]) (done' := #[true, true, true, true, true, true, true, true, true, true, true, true, true, true, true, true, true, true, false, true, false, true, false, false, true, true, false, false, false, false]) rfl rfl rfl rfl (by kernel_rfl) (QP.block (QP.then (QP.then (QP.block (QP.then QP.body))))) (by kernel_rfl) rfl (V_bin rfl rfl (fun w => xor64 w (r_2 ^^^ r_3) (x1 >>> 7))) ?_
        refine TA_take (i := 18) (is := [0, 0]) (done' := #[true, true, true, true, true, true, true, true, true, true, true, true, true, true, true, true, true, true, true, true, false, true, false, false, true, true, false, false, false, false]) rfl rfl rfl rfl (by kernel_rfl) (QP.block (QP.then (QP.then (QP.block (QP.then QP.body))))) (by kernel_rfl) rfl (V_bin rfl rfl (fun w => add64 w ((vg s0.2 ((w64 (s0.1 - 16)).toNat)) + (vg s0.2 ((w64 (s0.1 - 7)).toNat))) ((r_2 ^^^ r_3) ^^^ (x1 >>> 7)))) ?_
        refine TA_all (rs := [20]) (by kernel_rfl) rfl ?_
        refine ⟨?_, trivial⟩
        refine TO_e (is := [0, 0]) (done' := #[true, true, true, true, true, true, true, true, true, true, true, true, true, true, true, true, true, true, true, true, true, true, false, false, true, true, false, false, false, false]) rfl rfl rfl rfl (by kernel_rfl) (E_call (Γ := Unit) (val := fun g => v64 r_4) (mem := fun g => []) (vs := [v64 y1, vi (-19)]) (Lin := []) (Ro := []) (is := []) rfl Try.call73 (F73_calls y1 (-19) r_4 hr_4) rfl trivial) (fun _ _ => rfl) (fun g_4 => ?_)
        refine TA_all (rs := [22]) (by kernel_rfl) rfl ?_
        refine ⟨?_, trivial⟩
        refine TO_e (is := [0, 0]) (done' := #[true, true, true, true, true, true, true, true, true, true, true, true, true, true, true, true, true, true, true, true, true, true, true, false, true, true, false, false, false, false]) rfl rfl rfl rfl (by kernel_rfl) (E_call (Γ := Unit) (val := fun g => v64 r_5) (mem := fun g => []) (vs := [v64 y1, vi (-61)]) (Lin := []) (Ro := []) (is := []) rfl Try.call73 (F73_calls y1 (-61) r_5 hr_5) rfl trivial) (fun _ _ => rfl) (fun g_5 => ?_)
        refine TA_take (i := 23) (is := [0, 0]) (done' := #[true, true, true, true, true, true, true, true, true, true, true, true, true, true, true, true, true, true, true, true, true, true, true, true, true, true, false, false, false, false]) rfl rfl rfl rfl (by kernel_rfl) (QP.block (QP.then (QP.then (QP.block (QP.then QP.body))))) (by kernel_rfl) rfl (V_bin rfl rfl (fun w => xor64 w r_4 r_5)) ?_
        refine TA_take (i := 26) (is := [0, 0]) (done' := #[true, true, true, true, true, true, true, true, true, true, true, true, true, true, true, true, true, true, true, true, true, true, true, true, true, true, true, false, false, false]) rfl rfl rfl rfl (by kernel_rfl) (QP.block (QP.then (QP.then (QP.block (QP.then QP.body))))) (by kernel_rfl) rfl (V_bin rfl rfl (fun w => xor64 w (r_4 ^^^ r_5) (y1 >>> 6))) ?_
        refine TA_take (i := 27) (is := [0, 0]) (done' := #[true, true, true, true, true, true, true, true, true, true, true, true, true, true, true, true, true, true, true, true, true, true, true, true, true, true, true, true, false, false]) rfl rfl rfl rfl (by kernel_rfl) (QP.block (QP.then (QP.then (QP.block (QP.then QP.body))))) (by kernel_rfl) rfl (V_bin rfl rfl (fun w => add64 w (((vg s0.2 ((w64 (s0.1 - 16)).toNat)) + (vg s0.2 ((w64 (s0.1 - 7)).toNat))) + ((r_2 ^^^ r_3) ^^^ (x1 >>> 7))) ((r_4 ^^^ r_5) ^^^ (y1 >>> 6)))) ?_
        refine TA_take (i := 28) (is := [0, 0]) (done' := #[true, true, true, true, true, true, true, true, true, true, true, true, true, true, true, true, true, true, true, true, true, true, true, true, true, true, true, true, true, false]) rfl rfl rfl rfl (by kernel_rfl) (QP.block (QP.then (QP.then (QP.block (QP.then QP.body))))) (by kernel_rfl) rfl (V_idxArr (i := s0.1) rfl rfl Try.underlying85 TryI.inf71 rfl h12.1 h12.2 (k := (s0.1).toNat) (k01 _)) ?_
        refine TA_all (rs := [29]) (by kernel_rfl) rfl ?_
        refine ⟨?_, trivial⟩
        refine TO_n (is := []) (R := fun _ => []) (done' := #[true, true, true, true, true, true, true, true, true, true, true, true, true, true, true, true, true, true, true, true, true, true, true, true, true, true, true, true, true, true]) rfl rfl rfl (by kernel_rfl) (E_store (j := 1) rfl rfl TryI.inf71 rfl rfl rfl (by simpa using (toNat_lt h12.1 h12.2)) (cs' := e64 ((vp s0.2 ((s0.1).toNat) ((((vg s0.2 ((w64 (s0.1 - 16)).toNat)) + (vg s0.2 ((w64 (s0.1 - 7)).toNat))) + ((r_2 ^^^ r_3) ^^^ (x1 >>> 7))) + ((r_4 ^^^ r_5) ^^^ (y1 >>> 6)))).toList)) set_vec) (fun h => by cases h) (fun _ => ?_)
        refine TA_reE (j := 1) (A := some (b1, 0)) (cs := e64 ((vp s0.2 ((s0.1).toNat) ((((vg s0.2 ((w64 (s0.1 - 16)).toNat)) + (vg s0.2 ((w64 (s0.1 - 7)).toNat))) + ((r_2 ^^^ r_3) ^^^ (x1 >>> 7))) + ((r_4 ^^^ r_5) ^^^ (y1 >>> 6)))).toList)) (cs' := e64 m_2.toList) rfl (congrArg (fun z : Vector (BitVec 64) 80 => e64 (Vector.toList z)) hm_2) ?_
        refine TA_done (by kernel_rfl) ?_ 0
        refine TX_block_normal ?_
        refine TX_next ?_
        refine TC.sub (m' := [(0, ptr (some (bh, obh)) 0), (1, sl Ab ((b).length) cb), (4, ptr (some (b1, 0)) 0), (15, vi s0.1)]) ⟨rfl, rfl, rfl, rfl, trivial⟩ ?_
        refine TC_region ?_
        refine TL_v rfl rfl rfl (V_bin rfl rfl (fun w => addI w s0.1 1)) ?_
        refine TL_v rfl rfl rfl (V_move rfl) ?_
        refine TL_nil ?_
        refine TX.sub (m' := [(0, ptr (some (bh, obh)) 0), (1, sl Ab ((b).length) cb), (4, ptr (some (b1, 0)) 0), (15, vi (w64 (s0.1 + 1)))]) ⟨rfl, rfl, rfl, rfl, trivial⟩ ?_
        refine TX.pull (is := [0, 0]) (L' := [⟨some (bh, obh + 1), e64 h_h.toList⟩, ⟨some (b1, 0), e64 m_2.toList⟩]) rfl ?_
        obtain rfl := Option.some.inj H
        exact fun a w hs => hK (w64 (s0.1 + 1), m_2) rfl () a w hs
    · replace H := ite_f (of_decide_eq_false hc) H
      refine TC_exit ?_
      refine TX_then_exit ?_
      refine TX_then_exit ?_
      refine TX.sub (m' := [(0, ptr (some (bh, obh)) 0), (4, ptr (some (b1, 0)) 0)]) ⟨rfl, rfl, trivial⟩ ?_
      refine TX.pull (is := [0, 0]) (L' := [⟨some (bh, obh + 1), e64 h_h.toList⟩, ⟨some (b1, 0), e64 s0.2.toList⟩]) rfl ?_
      obtain rfl := Option.some.inj H
      exact hE s0.2 rfl ()
  · intro g
    refine TX_block_exit ?_
    refine TX_next ?_
    refine TC_seq ?_
    refine TC_region ?_
    refine TL_v rfl rfl rfl (V_move rfl) ?_
    refine TL_v rfl rfl rfl (V_nilCheck rfl) ?_
    refine TL_v rfl rfl rfl (V_fieldE rfl Try.underlying90 rfl rfl TryI.inf72 rfl (v := ptr (some (bh, obh + 1)) 0) rfl) ?_
    refine TL_v rfl rfl rfl (V_loadAgg (n := 8) rfl (by simp) (Src.own (j := 0) rfl) Try.isAgg72 TryI.inf72 rfl (lenV (f := v64) h_h)) ?_
    refine TL_e rfl rfl rfl (E_allocP [(8, e64 ((Vector.replicate 8 0#64).toList))] TryI.inf72 TryI.zer72 ⟨(lenV (f := v64) (Vector.replicate 8 0#64)), trivial⟩) (fun b2 => ?_)
    refine TL_n rfl rfl (E_storeAgg (n := 8) (j := 0) (vs := e64 h_h.toList) rfl rfl TryI.inf72 rfl (lenV (f := v64) h_h) (OneC.map (fun _ => rfl) _) rfl (Nat.le_of_eq (by simp)) (cs' := e64 h_h.toList) (splice_all (by simp))) (fun _ => ?_)
    refine TL_nil ?_
    refine TX_next ?_
    refine TC_seq ?_
    refine TC_seq ?_
    refine TC_region ?_
    refine TL_v rfl rfl rfl (V_move rfl) ?_
    refine TL_nil ?_
    refine TX_next ?_
    refine TC_block ?_
    obtain ⟨t_2, Hl, H⟩ := bind_elim H
    refine TC.sub (m' := [(0, ptr (some (bh, obh)) 0), (4, ptr (some (b1, 0)) 0), (8, ptr (some (b2, 0)) 0), (72, vi 0)]) ⟨rfl, rfl, rfl, rfl, trivial⟩ ?_
    refine TC.pull (is := [1, 1, 0]) (L' := [⟨some (bh, obh + 1), e64 h_h.toList⟩, ⟨some (b1, 0), e64 t_1.toList⟩, ⟨some (b2, 0), e64 h_h.toList⟩]) rfl ?_
    refine TC_loopL (id := 2) (body := (sha_Hash_turns384.b1 h_k t_1)) (σ := Int × Vector (BitVec 64) 8) (Γ := Unit) (Γx := Unit) (fun s1 g1_ => [(0, ptr (some (bh, obh)) 0), (4, ptr (some (b1, 0)) 0), (8, ptr (some (b2, 0)) 0), (72, vi s1.1)]) (fun s1 g1_ => [⟨some (bh, obh + 1), e64 h_h.toList⟩, ⟨some (b1, 0), e64 t_1.toList⟩, ⟨some (b2, 0), e64 s1.2.toList⟩]) (fun t g => [(0, ptr (some (bh, obh)) 0), (8, ptr (some (b2, 0)) 0)]) (fun t g => [⟨some (bh, obh + 1), e64 h_h.toList⟩, ⟨some (b2, 0), e64 t.toList⟩]) ?_ BIG (0, h_h) () t_2 Hl ?_
    · intro s1 g1_ r1 H K hK hE
      unfold sha_Hash_turns384.b1 at H
      refine TC_seq ?_
      refine TC_region ?_
      refine TL_v rfl rfl rfl (V_bin rfl rfl (fun w => lssI w s1.1 80)) ?_
      refine TL_nil ?_
      refine TX_next ?_
      refine TC_seq ?_
      refine TC_cond (b := (decide (s1.1 < 80))) rfl (fun hc => ?_) (fun hc => ?_)
      · replace H := ite_t (of_decide_eq_true hc) H
        refine TC_skip ?_
        refine TX_next ?_
        refine TC_seq ?_
        refine TC_block ?_
        refine TC_seq ?_
        refine TC_region ?_
        refine TL_v rfl rfl rfl (V_move rfl) ?_
        refine TL_v rfl rfl rfl (V_assign rfl) ?_
        refine TL_nil ?_
        refine TX_next ?_
        refine TC_seq ?_
        refine TA_begin [⟨some (bh, obh + 1), e64 h_h.toList⟩, ⟨some (b1, 0), e64 t_1.toList⟩, ⟨some (b2, 0), e64 s1.2.toList⟩] 6 (by kernel_rfl) (N := 6) rfl ?_
        refine TA_take (i := 0) (is := [0, 0, 0]) (done' := #[true, false, false, false, false, false]) rfl rfl rfl rfl (by kernel_rfl) (QP.then (QP.block (QP.then (QP.then (QP.block (QP.then QP.body)))))) (by kernel_rfl) rfl (V_idxArr (i := 4) rfl rfl Try.underlying72 TryI.inf71 rfl (by decide) (by decide) (k := 4) (k01 _)) ?_
        refine TA_take (i := 1) (is := [0, 0, 0]) (done' := #[true, true, false, false, false, false]) rfl rfl rfl rfl (by kernel_rfl) (QP.then (QP.block (QP.then (QP.then (QP.block (QP.then QP.body)))))) (by kernel_rfl) rfl (V_load rfl (Src.own (j := 2) rfl) (get_vec (f := v64) (V := s1.2) (by decide : 4 < 8)) Try.isAgg71) ?_
        refine TA_take (i := 2) (is := [0, 0, 0]) (done' := #[true, true, true, false, false, false]) rfl rfl rfl rfl (by kernel_rfl) (QP.then (QP.block (QP.then (QP.then (QP.block (QP.then QP.body)))))) (by kernel_rfl) rfl (V_idxArr (i := 0) rfl rfl Try.underlying72 TryI.inf71 rfl (by decide) (by decide) (k := 0) (k01 _)) ?_
        refine TA_take (i := 3) (is := [0, 0, 0]) (done' := #[true, true, true, true, false, false]) rfl rfl rfl rfl (by kernel_rfl) (QP.then (QP.block (QP.then (QP.then (QP.block (QP.then QP.body)))))) (by kernel_rfl) rfl (V_load rfl (Src.own (j := 2) rfl) (get_vec (f := v64) (V := s1.2) (by decide : 0 < 8)) Try.isAgg71) ?_
        refine TA_take (i := 4) (is := [0, 0, 0]) (done' := #[true, true, true, true, true, false]) rfl rfl rfl rfl (by kernel_rfl) (QP.then (QP.block (QP.then (QP.then (QP.block (QP.then QP.body)))))) (by kernel_rfl) rfl (V_assign rfl) ?_
        refine TA_take (i := 5) (is := [0, 0, 0]) (done' := #[true, true, true, true, true, true]) rfl rfl rfl rfl (by kernel_rfl) (QP.then (QP.block (QP.then (QP.then (QP.block (QP.then QP.body)))))) (by kernel_rfl) rfl (V_assign rfl) ?_
        refine TA_done (by kernel_rfl) ?_ 0
        refine TX_next ?_
        refine TC_seq ?_
        obtain ⟨r_6, hr_6, H⟩ := bind_elim H
        obtain ⟨r_7, hr_7, H⟩ := bind_elim H
        obtain ⟨r_8, hr_8, H⟩ := bind_elim H
        obtain ⟨h13, H⟩ := if_elim H
        obtain ⟨h14, H⟩ := if_elim H
        obtain ⟨t_3, ht_3, H⟩ := ltt_elim H
        refine TA_begin [⟨some (bh, obh + 1), e64 h_h.toList⟩, ⟨some (b1, 0), e64 t_1.toList⟩, ⟨some (b2, 0), e64 s1.2.toList⟩] 34 (by kernel_rfl) (N := 34) rfl ?_
        refine TA_take (i := 0) (is := [0, 0, 0]) (done' := #[true, false, false, false, false, false, false, false, false, false, false, false, false, false, false, false, false, false, false, false, false, false, false, false, false, false, false, false, false, false, false, false, false, false]) rfl rfl rfl rfl (by kernel_rfl) (QP.then (QP.block (QP.then (QP.then (QP.block (QP.then QP.body)))))) (by kernel_rfl) rfl (V_idxArr (i := 7) rfl rfl Try.underlying72 TryI.inf71 rfl (by decide) (by decide) (k := 7) (k01 _)) ?_
        refine TA_take (i := 1) (is := [0, 0, 0]) (done' := #[true, true, false, false, false, false, false, false, false, false, false, false, false, false, false, false, false, false, false, false, false, false, false, false, false, false, false, false, false, false, false, false, false, false]) rfl rfl rfl rfl (by kernel_rfl) (QP.then (QP.block (QP.then (QP.then (QP.block (QP.then QP.body)))))) (by kernel_rfl) rfl (V_load rfl (Src.own (j := 2) rfl) (get_vec (f := v64) (V := s1.2) (by decide : 7 < 8)) Try.isAgg71) ?_
        refine TA_take (i := 2) (is := [0, 0, 0]) (done' := #[true, true, true, false, false, false, false, false, false, false, false, false, false, false, false, false, false, false, false, false, false, false, false, false, false, false, false, false, false, false, false, false, false, false]) rfl rfl rfl rfl (by kernel_rfl) (QP.then (QP.block (QP.then (QP.then (QP.block (QP.then QP.body)))))) (by kernel_rfl) rfl (V_move rfl) ?_
        refine TA_take (i := 4) (is := [0, 0, 0]) (done' := #[true, true, true, false, true, false, false, false, false, false, false, false, false, false, false, false, false, false, false, false, false, false, false, false, false, false, false, false, false, false, false, false, false, false]) rfl rfl rfl rfl (by kernel_rfl) (QP.then (QP.block (QP.then (QP.then (QP.block (QP.then QP.body)))))) (by kernel_rfl) rfl (V_move rfl) ?_
        refine TA_take (i := 7) (is := [0, 0, 0]) (done' := #[true, true, true, false, true, false, false, true, false, false, false, false, false, false, false, false, false, false, false, false, false, false, false, false, false, false, false, false, false, false, false, false, false, false]) rfl rfl rfl rfl (by kernel_rfl) (QP.then (QP.block (QP.then (QP.then (QP.block (QP.then QP.body)))))) (by kernel_rfl) rfl (V_move rfl) ?_
        refine TA_take (i := 11) (is := [0, 0, 0]) (done' := #[true, true, true, false, true, false, false, true, false, false, false, true, false, false, false, false, false, false, false, false, false, false, false, false, false, false, false, false, false, false, false, false, false, false]) rfl rfl rfl rfl (by kernel_rfl) (QP.then (QP.block (QP.then (QP.then (QP.block (QP.then QP.body)))))) (by kernel_rfl) rfl (V_move rfl) ?_
        refine TA_take (i := 12) (is := [0, 0, 0]) (done' := #[true, true, true, false, true, false, false, true, false, false, false, true, true, false, false, false, false, false, false, false, false, false, false, false, false, false, false, false, false, false, false, false, false, false]) rfl rfl rfl rfl (by kernel_rfl) (QP.then (QP.block (QP.then (QP.then (QP.block (QP.then QP.body)))))) (by kernel_rfl) rfl (V_idxArr (i := 5) rfl rfl Try.underlying72 TryI.inf71 rfl (by decide) (by decide) (k := 5) (k01 _)) ?_
        refine TA_take (i := 13) (is := [0, 0, 0]) (done' := #[true, true, true, false, true, false, false, true, false, false, false, true, true, true, false, false, false, false, false, false, false, false, false, false, false, false, false, false, false, false, false, false, false, false]) rfl rfl rfl rfl (by kernel_rfl) (QP.then (QP.block (QP.then (QP.then (QP.block (QP.then QP.body)))))) (by kernel_rfl) rfl (V_load rfl (Src.own (j := 2) rfl) (get_vec (f := v64) (V := s1.2) (by decide : 5 < 8)) Try.isAgg71) ?_
        refine TA_take (i := 14) (is := [0, 0, 0]) (done' := #[true, true, true, false, true, false, false, true, false, false, false, true, true, true, true, false, false, false, false, false, false, false, false, false, false, false, false, false, false, false, false, false, false, false]) rfl rfl rfl rfl (by kernel_rfl) (QP.then (QP.block (QP.then (QP.then (QP.block (QP.then QP.body)))))) (by kernel_rfl) rfl (V_bin rfl rfl (fun w => and64 w (vg s1.2 4) (vg s1.2 5))) ?_
        refine TA_take (i := 15) (is := [0, 0, 0]) (done' := #[true, true, true, false, true, false, false, true, false, false, false, true, true, true, true, true, false, false, false, false, false, false, false, false, false, false, false, false, false, false, false, false, false, false]) rfl rfl rfl rfl (by kernel_rfl) (QP.then (QP.block (QP.then (QP.then (QP.block (QP.then QP.body)))))) (by kernel_rfl) rfl (V_move rfl) ?_
        refine TA_take (i := 16) (is := [0, 0, 0]) (done' := #[true, true, true, false, true, false, false, true, false, false, false, true, true, true, true, true, true, false, false, false, false, false, false, false, false, false, false, false, false, false, false, false, false, false]) rfl rfl rfl rfl (by kernel_rfl) (QP.then (QP.block (QP.then (QP.then (QP.block (QP.then QP.body)))))) (by kernel_rfl) rfl (V_un rfl (fun w => not64 w (vg s1.2 4))) ?_
        refine TA_take (i := 17) (is := [0, 0, 0]) (done' := #[true, true, true, false, true, false, false, true, false, false, false, true, true, true, true, true, true, true, false, false, false, false, false, false, false, false, false, false, false, false, false, false, false, false]) rfl rfl rfl rfl (by kernel_rfl) (QP.then (QP.block (QP.then (QP.then (QP.block (QP.then QP.body)))))) (by kernel_rfl) rfl (V_idxArr (i := 6) rfl rfl Try.underlying72 TryI.inf71 rfl (by decide) (by decide) (k := 6) (k01 _)) ?_
        refine TA_take (i := 18) (is := [0, 0, 0]) (done' := #[true, true, true, false, true, false, false, true, false, false, false, true, true, true, true, true, true, true, true, false, false, false, false, false, false, false, false, false, false, false, false, false, false, false]) rfl rfl rfl rfl (by kernel_rfl) (QP.then (QP.block (QP.then (QP.then (QP.block (QP.then QP.body)))))) (by kernel_rfl) rfl (V_load rfl (Src.own (j := 2) rfl) (get_vec (f := v64) (V := s1.2) (by decide : 6 < 8)) Try.isAgg71) ?_
        refine TA_take (i := 19) (is := [0, 0, 0]) (done' := #[true, true, true, false, true, false, false, true, false, false, false, true, true, true, true, true, true, true, true, true, false, false, false, false, false, false, false, false, false, false, false, false, false, false]) rfl rfl rfl rfl (by kernel_rfl) (QP.then (QP.block (QP.then (QP.then (QP.block (QP.then QP.body)))))) (by kernel_rfl) rfl (V_bin rfl rfl (fun w => and64 w (~~~(vg s1.2 4)) (vg s1.2 6))) ?_
        refine TA_take (i := 20) (is := [0, 0, 0]) (done' := #[true, true, true, false, true, false, false, true, false, false, false, true, true, true, true, true, true, true, true, true, true, false, false, false, false, false, false, false, false, false, false, false, false, false]) rfl rfl rfl rfl (by kernel_rfl) (QP.then (QP.block (QP.then (QP.then (QP.block (QP.then QP.body)))))) (by kernel_rfl) rfl (V_bin rfl rfl (fun w => xor64 w ((vg s1.2 4) &&& (vg s1.2 5)) ((~~~(vg s1.2 4)) &&& (vg s1.2 6)))) ?_
        refine TA_take (i := 22) (is := [0, 0, 0]) (done' := #[true, true, true, false, true, false, false, true, false, false, false, true, true, true, true, true, true, true, true, true, true, false, true, false, false, false, false, false, false, false, false, false, false, false]) rfl rfl rfl rfl (by kernel_rfl) (QP.then (QP.block (QP.then (QP.then (QP.block (QP.then QP.body)))))) (by kernel_rfl) rfl (V_move rfl) ?_
        refine TA_take (i := 23) (is := [0, 0, 0]) (done' := #[true, true, true, false, true, false, false, true, false, false, false, true, true, true, true, true, true, true, true, true, true, false, true, true, false, false, false, false, false, false, false, false, false, false]) rfl rfl rfl rfl (by kernel_rfl) (QP.then (QP.block (QP.then (QP.then (QP.block (QP.then QP.body)))))) (by kernel_rfl) rfl (V_move rfl) ?_
        refine TA_take (i := 24) (is := [0, 0, 0]) (done' := #[true, true, true, false, true, false, false, true, false, false, false, true, true, true, true, true, true, true, true, true, true, false, true, true, true, false, false, false, false, false, false, false, false, false]) rfl rfl rfl rfl (by kernel_rfl) (QP.then (QP.block (QP.then (QP.then (QP.block (QP.then QP.body)))))) (by kernel_rfl) rfl (V_nilCheck rfl) ?_
        refine TA_take (i := 25) (is := [0, 0, 0]) (done' := #[true, true, true, false, true, false, false, true, false, false, false, true, true, true, true, true, true, true, true, true, true, false, true, true, true, true, false, false, false, false, false, false, false, false]) rfl rfl rfl rfl (by kernel_rfl) (QP.then (QP.block (QP.then (QP.then (QP.block (QP.then QP.body)))))) (by kernel_rfl) rfl (V_fieldE rfl Try.underlying90 rfl rfl TryI.inf85 rfl (v := ptr (some (bh, obh + 9)) 0) rfl) ?_
        refine TA_take (i := 26) (is := [0, 0, 0]) (done' := #[true, true, true, false, true, false, false, true, false, false, false, true, true, true, true, true, true, true, true, true, true, false, true, true, true, true, true, false, false, false, false, false, false, false]) rfl rfl rfl rfl (by kernel_rfl) (QP.then (QP.block (QP.then (QP.then (QP.block (QP.then QP.body)))))) (by kernel_rfl) rfl (V_idxArr (i := s1.1) rfl rfl Try.underlying85 TryI.inf71 rfl h13.1 h13.2 (k := (s1.1).toNat) (k01 _)) ?_
        refine TA_take (i := 27) (is := [0, 0, 0]) (done' := #[true, true, true, false, true, false, false, true, false, false, false, true, true, true, true, true, true, true, true, true, true, false, true, true, true, true, true, true, false, false, false, false, false, false]) rfl rfl rfl rfl (by kernel_rfl) (QP.then (QP.block (QP.then (QP.then (QP.block (QP.then QP.body)))))) (by kernel_rfl) rfl (V_load rfl (Src.ro (j := 1) rfl) (get_vec (f := v64) (V := h_k) (toNat_lt h13.1 h13.2)) Try.isAgg71) ?_
        refine TA_take (i := 29) (is := [0, 0, 0]) (done' := #[true, true, true, false, true, false, false, true, false, false, false, true, true, true, true, true, true, true, true, true, true, false, true, true, true, true, true, true, false, true, false, false, false, false]) rfl rfl rfl rfl (by kernel_rfl) (QP.then (QP.block (QP.then (QP.then (QP.block (QP.then QP.body)))))) (by kernel_rfl) rfl (V_move rfl) ?_
        refine TA_take (i := 30) (is := [0, 0, 0]) (done' := #[true, true, true, false, true, false, false, true, false, false, false, true, true, true, true, true, true, true, true, true, true, false, true, true, true, true, true, true, false, true, true, false, false, false]) rfl rfl rfl rfl (by kernel_rfl) (QP.then (QP.block (QP.then (QP.then (QP.block (QP.then QP.body)))))) (by kernel_rfl) rfl (V_idxArr (i := s1.1) rfl rfl Try.underlying85 TryI.inf71 rfl h14.1 h14.2 (k := (s1.1).toNat) (k01 _)) ?_
        refine TA_take (i := 31) (is := [0, 0, 0]) (done' := #[true, true, true, false, true, false, false, true, false, false, false, true, true, true, true, true, true, true, true, true, true, false, true, true, true, true, true, true, false, true, true, true, false, false]) rfl rfl rfl rfl (by kernel_rfl) (QP.then (QP.block (QP.then (QP.then (QP.block (QP.then QP.body)))))) (by kernel_rfl) rfl (V_load rfl (Src.own (j := 1) rfl) (get_vec (f := v64) (V := t_1) (toNat_lt h14.1 h14.2)) Try.isAgg71) ?_
        refine TA_all (rs := [3]) (by kernel_rfl) rfl ?_
        refine ⟨?_, trivial⟩
        refine TO_e (is := [0, 0, 0]) (done' := #[true, true, true, true, true, false, false, true, false, false, false, true, true, true, true, true, true, true, true, true, true, false, true, true, true, true, true, true, false, true, true, true, false, false]) rfl rfl rfl rfl (by kernel_rfl) (E_call (Γ := Unit) (val := fun g => v64 r_6) (mem := fun g => []) (vs := [v64 (vg s1.2 4), vi (-14)]) (Lin := []) (Ro := []) (is := []) rfl Try.call73 (F73_calls (vg s1.2 4) (-14) r_6 hr_6) rfl trivial) (fun _ _ => rfl) (fun g_6 => ?_)
        refine TA_all (rs := [5]) (by kernel_rfl) rfl ?_
        refine ⟨?_, trivial⟩
        refine TO_e (is := [0, 0, 0]) (done' := #[true, true, true, true, true, true, false, true, false, false, false, true, true, true, true, true, true, true, true, true, true, false, true, true, true, true, true, true, false, true, true, true, false, false]) rfl rfl rfl rfl (by kernel_rfl) (E_call (Γ := Unit) (val := fun g => v64 r_7) (mem := fun g => []) (vs := [v64 (vg s1.2 4), vi (-18)]) (Lin := []) (Ro := []) (is := []) rfl Try.call73 (F73_calls (vg s1.2 4) (-18) r_7 hr_7) rfl trivial) (fun _ _ => rfl) (fun g_7 => ?_)
        refine TA_take (i := 6) (is := [0, 0, 0]) (done' := #[true, true, true, true, true, true, true, true, false, false, false, true, true, true, true, true, true, true, true, true, true, false, true, true, true, true, true, true, false, true, true, true, false, false]) rfl rfl rfl rfl (by kernel_rfl) (QP.then (QP.block (QP.then (QP.then (QP.block (QP.then QP.body)))))) (by kernel_rfl) rfl (V_bin rfl rfl (fun w => xor64 w r_6 r_7)) ?_
        refine TA_all (rs := [8]) (by kernel_rfl) rfl ?_
        refine ⟨?_, trivial⟩
        refine TO_e (is := [0, 0, 0]) (done' := #[true, true, true, true, true, true, true, true, true, false, false, true, true, true, true, true, true, true, true, true, true, false, true, true, true, true, true, true, false, true, true, true, false, false]) rfl rfl rfl rfl (by kernel_rfl) (E_call (Γ := Unit) (val := fun g => v64 r_8) (mem := fun g => []) (vs := [v64 (vg s1.2 4), vi (-41)]) (Lin := []) (Ro := []) (is := []) rfl Try.call73 (F73_calls (vg s1.2 4) (-41) r_8 hr_8) rfl trivial) (fun _ _ => rfl) (fun g_8 => ?_)
        refine TA_take (i := 9) (is := [0, 0, 0]) (done' := #[true, true, true, true, true, true, true, true, true, true, false, true, true, true, true, true, true, true, true, true, true, false, true, true, true, true, true, true, false, true, true, true, false, false]) rfl rfl rfl rfl (by kernel_rfl) (QP.then (QP.block (QP.then (QP.then (QP.block (QP.then QP.body)))))) (by kernel_rfl) rfl (V_bin rfl rfl (fun w => xor64 w (r_6 ^^^ r_7) r_8)) ?_
        refine TA_take (i := 10) (is := [0, 0, 0]) (done' := #[true, true, true, true, true, true, true, true, true, true, true, true, true, true, true, true, true, true, true, true, true, false, true, true, true, true, true, true, false, true, true, true, false, false]) rfl rfl rfl rfl (by kernel_rfl) (QP.then (QP.block (QP.then (QP.then (QP.block (QP.then QP.body)))))) (by kernel_rfl) rfl (V_bin rfl rfl (fun w => add64 w (vg s1.2 7) ((r_6 ^^^ r_7) ^^^ r_8))) ?_
        refine TA_take (i := 21) (is := [0, 0, 0]) (done' := #[true, true, true, true, true, true, true, true, true, true, true, true, true, true, true, true, true, true, true, true, true, true, true, true, true, true, true, true, false, true, true, true, false, false]) rfl rfl rfl rfl (by kernel_rfl) (QP.then (QP.block (QP.then (QP.then (QP.block (QP.then QP.body)))))) (by kernel_rfl) rfl (V_bin rfl rfl (fun w => add64 w ((vg s1.2 7) + ((r_6 ^^^ r_7) ^^^ r_8)) (((vg s1.2 4) &&& (vg s1.2 5)) ^^^ ((~~~(vg s1.2 4)) &&& (vg s1.2 6))))) ?_
        refine TA_take (i := 28) (is := [0, 0, 0]) (done' := #[true, true, true, true, true, true, true, true, true, true, true, true, true, true, true, true, true, true, true, true, true, true, true, true, true, true, true, true, true, true, true, true, false, false]) rfl rfl rfl rfl (by kernel_rfl) (QP.then (QP.block (QP.then (QP.then (QP.block (QP.then QP.body)))))) (by kernel_rfl) rfl (V_bin rfl rfl (fun w => add64 w (((vg s1.2 7) + ((r_6 ^^^ r_7) ^^^ r_8)) + (((vg s1.2 4) &&& (vg s1.2 5)) ^^^ ((~~~(vg s1.2 4)) &&& (vg s1.2 6)))) (vg h_k ((s1.1).toNat)))) ?_
        refine TA_take (i := 32) (is := [0, 0, 0]) (done' := #[true, true, true, true, true, true, true, true, true, true, true, true, true, true, true, true, true, true, true, true, true, true, true, true, true, true, true, true, true, true, true, true, true, false]) rfl rfl rfl rfl (by kernel_rfl) (QP.then (QP.block (QP.then (QP.then (QP.block (QP.then QP.body)))))) (by kernel_rfl) rfl (V_bin rfl rfl (fun w => add64 w ((((vg s1.2 7) + ((r_6 ^^^ r_7) ^^^ r_8)) + (((vg s1.2 4) &&& (vg s1.2 5)) ^^^ ((~~~(vg s1.2 4)) &&& (vg s1.2 6)))) + (vg h_k ((s1.1).toNat))) (vg t_1 ((s1.1).toNat)))) ?_
        refine TA_take (i := 33) (is := [0, 0, 0]) (done' := #[true, true, true, true, true, true, true, true, true, true, true, true, true, true, true, true, true, true, true, true, true, true, true, true, true, true, true, true, true, true, true, true, true, true]) rfl rfl rfl rfl (by kernel_rfl) (QP.then (QP.block (QP.then (QP.then (QP.block (QP.then QP.body)))))) (by kernel_rfl) rfl (V_assign rfl) ?_
        refine TA_re (d := 12) (v := v64 (((((vg s1.2 7) + ((r_6 ^^^ r_7) ^^^ r_8)) + (((vg s1.2 4) &&& (vg s1.2 5)) ^^^ ((~~~(vg s1.2 4)) &&& (vg s1.2 6)))) + (vg h_k ((s1.1).toNat))) + (vg t_1 ((s1.1).toNat)))) (v' := v64 t_3) rfl (congrArg v64 ht_3) ?_
        refine TA_done (by kernel_rfl) ?_ 0
        refine TX_next ?_
        refine TC.sub (m' := [(0, ptr (some (bh, obh)) 0), (4, ptr (some (b1, 0)) 0), (8, ptr (some (b2, 0)) 0), (11, v64 (vg s1.2 0)), (12, v64 t_3), (72, vi s1.1)]) ⟨rfl, rfl, rfl, rfl, rfl, rfl, trivial⟩ ?_
        refine TC_seq ?_
        obtain ⟨r_9, hr_9, H⟩ := bind_elim H
        obtain ⟨r_10, hr_10, H⟩ := bind_elim H
        obtain ⟨r_11, hr_11, H⟩ := bind_elim H
        obtain ⟨u1, hu1, H⟩ := ltt_elim H
        refine TA_begin [⟨some (bh, obh + 1), e64 h_h.toList⟩, ⟨some (b1, 0), e64 t_1.toList⟩, ⟨some (b2, 0), e64 s1.2.toList⟩] 25 (by kernel_rfl) (N := 25) rfl ?_
        refine TA_take (i := 0) (is := [0, 0, 0]) (done' := #[true, false, false, false, false, false, false, false, false, false, false, false, false, false, false, false, false, false, false, false, false, false, false, false, false]) rfl rfl rfl rfl (by kernel_rfl) (QP.then (QP.block (QP.then (QP.then (QP.block (QP.then QP.body)))))) (by kernel_rfl) rfl (V_move rfl) ?_
        refine TA_take (i := 2) (is := [0, 0, 0]) (done' := #[true, false, true, false, false, false, false, false, false, false, false, false, false, false, false, false, false, false, false, false, false, false, false, false, false]) rfl rfl rfl rfl (by kernel_rfl) (QP.then (QP.block (QP.then (QP.then (QP.block (QP.then QP.body)))))) (by kernel_rfl) rfl (V_move rfl) ?_
        refine TA_take (i := 5) (is := [0, 0, 0]) (done' := #[true, false, true, false, false, true, false, false, false, false, false, false, false, false, false, false, false, false, false, false, false, false, false, false, false]) rfl rfl rfl rfl (by kernel_rfl) (QP.then (QP.block (QP.then (QP.then (QP.block (QP.then QP.body)))))) (by kernel_rfl) rfl (V_move rfl) ?_
        refine TA_take (i := 8) (is := [0, 0, 0]) (done' := #[true, false, true, false, false, true, false, false, true, false, false, false, false, false, false, false, false, false, false, false, false, false, false, false, false]) rfl rfl rfl rfl (by kernel_rfl) (QP.then (QP.block (QP.then (QP.then (QP.block (QP.then QP.body)))))) (by kernel_rfl) rfl (V_move rfl) ?_
        refine TA_take (i := 9) (is := [0, 0, 0]) (done' := #[true, false, true, false, false, true, false, false, true, true, false, false, false, false, false, false, false, false, false, false, false, false, false, false, false]) rfl rfl rfl rfl (by kernel_rfl) (QP.then (QP.block (QP.then (QP.then (QP.block (QP.then QP.body)))))) (by kernel_rfl) rfl (V_idxArr (i := 1) rfl rfl Try.underlying72 TryI.inf71 rfl (by decide) (by decide) (k := 1) (k01 _)) ?_
        refine TA_take (i := 10) (is := [0, 0, 0]) (done' := #[true, false, true, false, false, true, false, false, true, true, true, false, false, false, false, false, false, false, false, false, false, false, false, false, false]) rfl rfl rfl rfl (by kernel_rfl) (QP.then (QP.block (QP.then (QP.then (QP.block (QP.then QP.body)))))) (by kernel_rfl) rfl (V_load rfl (Src.own (j := 2) rfl) (get_vec (f := v64) (V := s1.2) (by decide : 1 < 8)) Try.isAgg71) ?_
        refine TA_take (i := 11) (is := [0, 0, 0]) (done' := #[true, false, true, false, false, true, false, false, true, true, true, true, false, false, false, false, false, false, false, false, false, false, false, false, false]) rfl rfl rfl rfl (by kernel_rfl) (QP.then (QP.block (QP.then (QP.then (QP.block (QP.then QP.body)))))) (by kernel_rfl) rfl (V_bin rfl rfl (fun w => and64 w (vg s1.2 0) (vg s1.2 1))) ?_
        refine TA_take (i := 12) (is := [0, 0, 0]) (done' := #[true, false, true, false, false, true, false, false, true, true, true, true, true, false, false, false, false, false, false, false, false, false, false, false, false]) rfl rfl rfl rfl (by kernel_rfl) (QP.then (QP.block (QP.then (QP.then (QP.block (QP.then QP.body)))))) (by kernel_rfl) rfl (V_move rfl) ?_
        refine TA_take (i := 13) (is := [0, 0, 0]) (done' := #[true, false, true, false, false, true, false, false, true, true, true, true, true, true, false, false, false, false, false, false, false, false, false, false, false]) rfl rfl rfl rfl (by kernel_rfl) (QP.then (QP.block (QP.then (QP.then (QP.block (QP.then QP.body)))))) (by kernel_rfl) rfl (V_idxArr (i := 2) rfl rfl Try.underlying72 TryI.inf71 rfl (by decide) (by decide) (k := 2) (k01 _)) ?_
        refine TA_take (i := 14) (is := [0, 0, 0]) (done' := #[true, false, true, false, false, true, false, false, true, true, true, true, true, true, true, false, false, false, false, false, false, false, false, false, false]) rfl rfl rfl rfl (by kernel_rfl) (QP.then (QP.block (QP.then (QP.then (QP.block (QP.then QP.body)))))) (by kernel_rfl) rfl (V_load rfl (Src.own (j := 2) rfl) (get_vec (f := v64) (V := s1.2) (by decide : 2 < 8)) Try.isAgg71) ?_
        refine TA_take (i := 15) (is := [0, 0, 0]) (done' := #[true, false, true, false, false, true, false, false, true, true, true, true, true, true, true, true, false, false, false, false, false, false, false, false, false]) rfl rfl rfl rfl (by kernel_rfl) (QP.then (QP.block (QP.then (QP.then (QP.block (QP.then QP.body)))))) (by kernel_rfl) rfl (V_bin rfl rfl (fun w => and64 w (vg s1.2 0) (vg s1.2 2))) ?_
        refine TA_take (i := 16) (is := [0, 0, 0]) (done' := #[true, false, true, false, false, true, false, false, true, true, true, true, true, true, true, true, true, false, false, false, false, false, false, false, false]) rfl rfl rfl rfl (by kernel_rfl) (QP.then (QP.block (QP.then (QP.then (QP.block (QP.then QP.body)))))) (by kernel_rfl) rfl (V_bin rfl rfl (fun w => xor64 w ((vg s1.2 0) &&& (vg s1.2 1)) ((vg s1.2 0) &&& (vg s1.2 2)))) ?_
        refine TA_take (i := 17) (is := [0, 0, 0]) (done' := #[true, false, true, false, false, true, false, false, true, true, true, true, true, true, true, true, true, true, false, false, false, false, false, false, false]) rfl rfl rfl rfl (by kernel_rfl) (QP.then (QP.block (QP.then (QP.then (QP.block (QP.then QP.body)))))) (by kernel_rfl) rfl (V_idxArr (i := 1) rfl rfl Try.underlying72 TryI.inf71 rfl (by decide) (by decide) (k := 1) (k01 _)) ?_
        refine TA_take (i := 18) (is := [0, 0, 0]) (done' := #[true, false, true, false, false, true, false, false, true, true, true, true, true, true, true, true, true, true, true, false, false, false, false, false, false]) rfl rfl rfl rfl (by kernel_rfl) (QP.then (QP.block (QP.then (QP.then (QP.block (QP.then QP.body)))))) (by kernel_rfl) rfl (V_load rfl (Src.own (j := 2) rfl) (get_vec (f := v64) (V := s1.2) (by decide : 1 < 8)) Try.isAgg71) ?_
        refine TA_take (i := 19) (is := [0, 0, 0]) (done' := #[true, false, true, false, false, true, false, false, true, true, true, true, true, true, true, true, true, true, true, true, false, false, false, false, false]) rfl rfl rfl rfl (by kernel_rfl) (QP.then (QP.block (QP.then (QP.then (QP.block (QP.then QP.body)))))) (by kernel_rfl) rfl (V_idxArr (i := 2) rfl rfl Try.underlying72 TryI.inf71 rfl (by decide) (by decide) (k := 2) (k01 _)) ?_
        refine TA_take (i := 20) (is := [0, 0, 0]) (done' := #[true, false, true, false, false, true, false, false, true, true, true, true, true, true, true, true, true, true, true, true, true, false, false, false, false]) rfl rfl rfl rfl (by kernel_rfl) (QP.then (QP.block (QP.then (QP.then (QP.block (QP.then QP.body)))))) (by kernel_rfl) rfl (V_load rfl (Src.own (j := 2) rfl) (get_vec (f := v64) (V := s1.2) (by decide : 2 < 8)) Try.isAgg71) ?_
        refine TA_take (i := 21) (is := [0, 0, 0]) (done' := #[true, false, true, false, false, true, false, false, true, true, true, true, true, true, true, true, true, true, true, true, true, true, false, false, false]) rfl rfl rfl rfl (by kernel_rfl) (QP.then (QP.block (QP.then (QP.then (QP.block (QP.then QP.body)))))) (by kernel_rfl) rfl (V_bin rfl rfl (fun w => and64 w (vg s1.2 1) (vg s1.2 2))) ?_
        refine TA_take (i := 22) (is := [0, 0, 0]) (done' := #[true, false, true, false, false, true, false, false, true, true, true, true, true, true, true, true, true, true, true, true, true, true, true, false, false]) rfl rfl rfl rfl (by kernel_rfl) (QP.then (QP.block (QP.then (QP.then (QP.block (QP.then QP.body)))))) (by kernel_rfl) rfl (V_bin rfl rfl (fun w => xor64 w (((vg s1.2 0) &&& (vg s1.2 1)) ^^^ ((vg s1.2 0) &&& (vg s1.2 2))) ((vg s1.2 1) &&& (vg s1.2 2)))) ?_
        refine TA_all (rs := [1]) (by kernel_rfl) rfl ?_
        refine ⟨?_, trivial⟩
        refine TO_e (is := [0, 0, 0]) (done' := #[true, true, true, false, false, true, false, false, true, true, true, true, true, true, true, true, true, true, true, true, true, true, true, false, false]) rfl rfl rfl rfl (by kernel_rfl) (E_call (Γ := Unit) (val := fun g => v64 r_9) (mem := fun g => []) (vs := [v64 (vg s1.2 0), vi (-28)]) (Lin := []) (Ro := []) (is := []) rfl Try.call73 (F73_calls (vg s1.2 0) (-28) r_9 hr_9) rfl trivial) (fun _ _ => rfl) (fun g_9 => ?_)
        refine TA_all (rs := [3]) (by kernel_rfl) rfl ?_
        refine ⟨?_, trivial⟩
        refine TO_e (is := [0, 0, 0]) (done' := #[true, true, true, true, false, true, false, false, true, true, true, true, true, true, true, true, true, true, true, true, true, true, true, false, false]) rfl rfl rfl rfl (by kernel_rfl) (E_call (Γ := Unit) (val := fun g => v64 r_10) (mem := fun g => []) (vs := [v64 (vg s1.2 0), vi (-34)]) (Lin := []) (Ro := []) (is := []) rfl Try.call73 (F73_calls (vg s1.2 0) (-34) r_10 hr_10) rfl trivial) (fun _ _ => rfl) (fun g_10 => ?_)
        refine TA_take (i := 4) (is := [0, 0, 0]) (done' := #[true, true, true, true, true, true, false, false, true, true, true, true, true, true, true, true, true, true, true, true, true, true, true, false, false]) rfl rfl rfl rfl (by kernel_rfl) (QP.then (QP.block (QP.then (QP.then (QP.block (QP.then QP.body)))))) (by kernel_rfl) rfl (V_bin rfl rfl (fun w => xor64 w r_9 r_10)) ?_
        refine TA_all (rs := [6]) (by kernel_rfl) rfl ?_
        refine ⟨?_, trivial⟩
        refine TO_e (is := [0, 0, 0]) (done' := #[true, true, true, true, true, true, true, false, true, true, true, true, true, true, true, true, true, true, true, true, true, true, true, false, false]) rfl rfl rfl rfl (by kernel_rfl) (E_call (Γ := Unit) (val := fun g => v64 r_11) (mem := fun g => []) (vs := [v64 (vg s1.2 0), vi (-39)]) (Lin := []) (Ro := []) (is := []) rfl Try.call73 (F73_calls (vg s1.2 0) (-39) r_11 hr_11) rfl trivial) (fun _ _ => rfl) (fun g_11 => ?_)
        refine TA_take (i := 7) (is := [0, 0, 0]) (done' := #[true, true, true, true, true, true, true, true, true, true, true, true, true, true, true, true, true, true, true, true, true, true, true, false, false]) rfl rfl rfl rfl (by kernel_rfl) (QP.then (QP.block (QP.then (QP.then (QP.block (QP.then QP.body)))))) (by kernel_rfl) rfl (V_bin rfl rfl (fun w => xor64 w (r_9 ^^^ r_10) r_11)) ?_
        refine TA_take (i := 23) (is := [0, 0, 0]) (done' := #[true, true, true, true, true, true, true, true, true, true, true, true, true, true, true, true, true, true, true, true, true, true, true, true, false]) rfl rfl rfl rfl (by kernel_rfl) (QP.then (QP.block (QP.then (QP.then (QP.block (QP.then QP.body)))))) (by kernel_rfl) rfl (V_bin rfl rfl (fun w => add64 w ((r_9 ^^^ r_10) ^^^ r_11) ((((vg s1.2 0) &&& (vg s1.2 1)) ^^^ ((vg s1.2 0) &&& (vg s1.2 2))) ^^^ ((vg s1.2 1) &&& (vg s1.2 2))))) ?_
        refine TA_take (i := 24) (is := [0, 0, 0]) (done' := #[true, true, true, true, true, true, true, true, true, true, true, true, true, true, true, true, true, true, true, true, true, true, true, true, true]) rfl rfl rfl rfl (by kernel_rfl) (QP.then (QP.block (QP.then (QP.then (QP.block (QP.then QP.body)))))) (by kernel_rfl) rfl (V_assign rfl) ?_
        refine TA_re (d := 13) (v := v64 (((r_9 ^^^ r_10) ^^^ r_11) + ((((vg s1.2 0) &&& (vg s1.2 1)) ^^^ ((vg s1.2 0) &&& (vg s1.2 2))) ^^^ ((vg s1.2 1) &&& (vg s1.2 2))))) (v' := v64 u1) rfl (congrArg v64 hu1) ?_
        refine TA_done (by kernel_rfl) ?_ 0
        refine TX_next ?_
        refine TC.sub (m' := [(0, ptr (some (bh, obh)) 0), (4, ptr (some (b1, 0)) 0), (8, ptr (some (b2, 0)) 0), (12, v64 t_3), (13, v64 u1), (72, vi s1.1)]) ⟨rfl, rfl, rfl, rfl, rfl, rfl, trivial⟩ ?_
        refine TC_region ?_
        refine TL_v rfl rfl rfl (V_move rfl) ?_
        refine TL_v rfl rfl rfl (V_move rfl) ?_
        refine TL_v rfl rfl rfl (V_bin rfl rfl (fun w => add64 w t_3 u1)) ?_
        refine TL_v rfl rfl rfl (V_idxArr (i := 0) rfl rfl Try.underlying72 TryI.inf71 rfl (by decide) (by decide) (k := 0) (k01 _)) ?_
        refine TL_v rfl rfl rfl (V_load rfl (Src.own (j := 2) rfl) (get_vec (f := v64) (V := s1.2) (by decide : 0 < 8)) Try.isAgg71) ?_
        refine TL_v rfl rfl rfl (V_idxArr (i := 1) rfl rfl Try.underlying72 TryI.inf71 rfl (by decide) (by decide) (k := 1) (k01 _)) ?_
        refine TL_v rfl rfl rfl (V_load rfl (Src.own (j := 2) rfl) (get_vec (f := v64) (V := s1.2) (by decide : 1 < 8)) Try.isAgg71) ?_
        refine TL_v rfl rfl rfl (V_idxArr (i := 2) rfl rfl Try.underlying72 TryI.inf71 rfl (by decide) (by decide) (k := 2) (k01 _)) ?_
        refine TL_v rfl rfl rfl (V_load rfl (Src.own (j := 2) rfl) (get_vec (f := v64) (V := s1.2) (by decide : 2 < 8)) Try.isAgg71) ?_
        refine TL_v rfl rfl rfl (V_idxArr (i := 3) rfl rfl Try.underlying72 TryI.inf71 rfl (by decide) (by decide) (k := 3) (k01 _)) ?_
        refine TL_v rfl rfl rfl (V_load rfl (Src.own (j := 2) rfl) (get_vec (f := v64) (V := s1.2) (by decide : 3 < 8)) Try.isAgg71) ?_
        refine TL_v rfl rfl rfl (V_move rfl) ?_
        refine TL_v rfl rfl rfl (V_bin rfl rfl (fun w => add64 w (vg s1.2 3) t_3)) ?_
        refine TL_v rfl rfl rfl (V_idxArr (i := 4) rfl rfl Try.underlying72 TryI.inf71 rfl (by decide) (by decide) (k := 4) (k01 _)) ?_
        refine TL_v rfl rfl rfl (V_load rfl (Src.own (j := 2) rfl) (get_vec (f := v64) (V := s1.2) (by decide : 4 < 8)) Try.isAgg71) ?_
        refine TL_v rfl rfl rfl (V_idxArr (i := 5) rfl rfl Try.underlying72 TryI.inf71 rfl (by decide) (by decide) (k := 5) (k01 _)) ?_
        refine TL_v rfl rfl rfl (V_load rfl (Src.own (j := 2) rfl) (get_vec (f := v64) (V := s1.2) (by decide : 5 < 8)) Try.isAgg71) ?_
        refine TL_v rfl rfl rfl (V_idxArr (i := 6) rfl rfl Try.underlying72 TryI.inf71 rfl (by decide) (by decide) (k := 6) (k01 _)) ?_
        refine TL_v rfl rfl rfl (V_load rfl (Src.own (j := 2) rfl) (get_vec (f := v64) (V := s1.2) (by decide : 6 < 8)) Try.isAgg71) ?_
        refine TL_v rfl rfl rfl (V_buildArr (pv := [(0, v64 (t_3 + u1)), (1, v64 (vg s1.2 0)), (2, v64 (vg s1.2 1)), (3, v64 (vg s1.2 2)), (4, v64 ((vg s1.2 3) + t_3)), (5, v64 (vg s1.2 4)), (6, v64 (vg s1.2 5)), (7, v64 (vg s1.2 6))]) rfl rfl Try.underlying72 TryI.inf72 TryI.inf71 rfl TryI.zer72 (cs := e64 ((#v[t_3 + u1, vg s1.2 0, vg s1.2 1, vg s1.2 2, (vg s1.2 3) + t_3, vg s1.2 4, vg s1.2 5, vg s1.2 6] : Vector (BitVec 64) 8).toList)) (by kernel_rfl)) ?_
        refine TL_n rfl rfl (E_storeAgg (n := 8) (j := 2) (vs := e64 ((#v[t_3 + u1, vg s1.2 0, vg s1.2 1, vg s1.2 2, (vg s1.2 3) + t_3, vg s1.2 4, vg s1.2 5, vg s1.2 6] : Vector (BitVec 64) 8).toList)) rfl rfl TryI.inf72 rfl (lenV (f := v64) (#v[t_3 + u1, vg s1.2 0, vg s1.2 1, vg s1.2 2, (vg s1.2 3) + t_3, vg s1.2 4, vg s1.2 5, vg s1.2 6] : Vector (BitVec 64) 8)) (OneC.map (fun _ => rfl) _) rfl (Nat.le_of_eq (by simp)) (cs' := e64 ((#v[t_3 + u1, vg s1.2 0, vg s1.2 1, vg s1.2 2, (vg s1.2 3) + t_3, vg s1.2 4, vg s1.2 5, vg s1.2 6] : Vector (BitVec 64) 8).toList)) (splice_all (by simp))) (fun _ => ?_)
        obtain ⟨m_3, hm_3, H⟩ := ltt_elim H
        refine TL_reE (j := 2) (A := some (b2, 0)) (cs := e64 ((#v[t_3 + u1, vg s1.2 0, vg s1.2 1, vg s1.2 2, (vg s1.2 3) + t_3, vg s1.2 4, vg s1.2 5, vg s1.2 6] : Vector (BitVec 64) 8).toList)) (cs' := e64 m_3.toList) rfl (congrArg (fun z : Vector (BitVec 64) 8 => e64 (Vector.toList z)) hm_3) ?_
        refine TL_nil ?_
        refine TX_block_normal ?_
        refine TX_next ?_
        refine TC_region ?_
        refine TL_v rfl rfl rfl (V_bin rfl rfl (fun w => addI w s1.1 1)) ?_
        refine TL_v rfl rfl rfl (V_move rfl) ?_
        refine TL_nil ?_
        refine TX.sub (m' := [(0, ptr (some (bh, obh)) 0), (4, ptr (some (b1, 0)) 0), (8, ptr (some (b2, 0)) 0), (72, vi (w64 (s1.1 + 1)))]) ⟨rfl, rfl, rfl, rfl, trivial⟩ ?_
        refine TX.pull (is := [0, 0, 0]) (L' := [⟨some (bh, obh + 1), e64 h_h.toList⟩, ⟨some (b1, 0), e64 t_1.toList⟩, ⟨some (b2, 0), e64 m_3.toList⟩]) rfl ?_
        obtain rfl := Option.some.inj H
        exact fun a w hs => hK (w64 (s1.1 + 1), m_3) rfl () a w hs
      · replace H := ite_f (of_decide_eq_false hc) H
        refine TC_exit ?_
        refine TX_then_exit ?_
        refine TX_then_exit ?_
        refine TX.sub (m' := [(0, ptr (some (bh, obh)) 0), (8, ptr (some (b2, 0)) 0)]) ⟨rfl, rfl, trivial⟩ ?_
        refine TX.pull (is := [0, 1]) (L' := [⟨some (bh, obh + 1), e64 h_h.toList⟩, ⟨some (b2, 0), e64 s1.2.toList⟩]) rfl ?_
        obtain rfl := Option.some.inj H
        exact hE s1.2 rfl ()
    · intro g
      refine TX_block_exit ?_
      refine TX_next ?_
      refine TC_seq ?_
      refine TC_region ?_
      refine TL_v rfl rfl rfl (V_move rfl) ?_
      refine TL_nil ?_
      refine TX_next ?_
      refine TC_block ?_
      obtain ⟨t_4, Hl, H⟩ := bind_elim H
      refine TC.sub (m' := [(0, ptr (some (bh, obh)) 0), (8, ptr (some (b2, 0)) 0), (157, vi 0)]) ⟨rfl, rfl, rfl, trivial⟩ ?_
      refine TC.pull (is := [0, 0]) (L' := [⟨some (bh, obh + 1), e64 h_h.toList⟩, ⟨some (b2, 0), e64 t_2.toList⟩]) rfl ?_
      refine TC_loopL (id := 4) (body := (sha_Hash_turns384.b2 t_2)) (σ := Int × Vector (BitVec 64) 8) (Γ := Unit) (Γx := Unit) (fun s2 g2_ => [(0, ptr (some (bh, obh)) 0), (8, ptr (some (b2, 0)) 0), (157, vi s2.1)]) (fun s2 g2_ => [⟨some (bh, obh + 1), e64 s2.2.toList⟩, ⟨some (b2, 0), e64 t_2.toList⟩]) (fun t g => []) (fun t g => [⟨some (bh, obh + 1), e64 t.toList⟩]) ?_ BIG (0, h_h) () t_4 Hl ?_
      · intro s2 g2_ r1 H K hK hE
        unfold sha_Hash_turns384.b2 at H
        refine TC_seq ?_
        refine TC_region ?_
        refine TL_v rfl rfl rfl (V_bin rfl rfl (fun w => lssI w s2.1 8)) ?_
        refine TL_nil ?_
        refine TX_next ?_
        refine TC_seq ?_
        refine TC_cond (b := (decide (s2.1 < 8))) rfl (fun hc => ?_) (fun hc => ?_)
        · replace H := ite_t (of_decide_eq_true hc) H
          refine TC_skip ?_
          refine TX_next ?_
          refine TC_seq ?_
          refine TC_block ?_
          refine TC_seq ?_
          refine TC_region ?_
          refine TL_v rfl rfl rfl (V_move rfl) ?_
          refine TL_v rfl rfl rfl (V_assign rfl) ?_
          refine TL_nil ?_
          refine TX_next ?_
          obtain ⟨h15, H⟩ := if_elim H
          obtain ⟨h16, H⟩ := if_elim H
          obtain ⟨h17, H⟩ := if_elim H
          obtain ⟨m_4, hm_4, H⟩ := ltt_elim H
          refine TA_begin [⟨some (bh, obh + 1), e64 s2.2.toList⟩, ⟨some (b2, 0), e64 t_2.toList⟩] 13 (by kernel_rfl) (N := 14) rfl ?_
          refine TA_take (i := 0) (is := [0, 0]) (done' := #[true, false, false, false, false, false, false, false, false, false, false, false, false, false]) rfl rfl rfl rfl (by kernel_rfl) (QP.block (QP.then (QP.then (QP.block QP.body)))) (by kernel_rfl) rfl (V_move rfl) ?_
          refine TA_take (i := 1) (is := [0, 0]) (done' := #[true, true, false, false, false, false, false, false, false, false, false, false, false, false]) rfl rfl rfl rfl (by kernel_rfl) (QP.block (QP.then (QP.then (QP.block QP.body)))) (by kernel_rfl) rfl (V_move rfl) ?_
          refine TA_take (i := 2) (is := [0, 0]) (done' := #[true, true, true, false, false, false, false, false, false, false, false, false, false, false]) rfl rfl rfl rfl (by kernel_rfl) (QP.block (QP.then (QP.then (QP.block QP.body)))) (by kernel_rfl) rfl (V_nilCheck rfl) ?_
          refine TA_take (i := 3) (is := [0, 0]) (done' := #[true, true, true, true, false, false, false, false, false, false, false, false, false, false]) rfl rfl rfl rfl (by kernel_rfl) (QP.block (QP.then (QP.then (QP.block QP.body)))) (by kernel_rfl) rfl (V_fieldE rfl Try.underlying90 rfl rfl TryI.inf72 rfl (v := ptr (some (bh, obh + 1)) 0) rfl) ?_
          refine TA_take (i := 4) (is := [0, 0]) (done' := #[true, true, true, true, true, false, false, false, false, false, false, false, false, false]) rfl rfl rfl rfl (by kernel_rfl) (QP.block (QP.then (QP.then (QP.block QP.body)))) (by kernel_rfl) rfl (V_idxArr (i := s2.1) rfl rfl Try.underlying72 TryI.inf71 rfl h15.1 h15.2 (k := (s2.1).toNat) (k01 _)) ?_
          refine TA_take (i := 5) (is := [0, 0]) (done' := #[true, true, true, true, true, true, false, false, false, false, false, false, false, false]) rfl rfl rfl rfl (by kernel_rfl) (QP.block (QP.then (QP.then (QP.block QP.body)))) (by kernel_rfl) rfl (V_load rfl (Src.own (j := 0) rfl) (get_vec (f := v64) (V := s2.2) (toNat_lt h15.1 h15.2)) Try.isAgg71) ?_
          refine TA_take (i := 6) (is := [0, 0]) (done' := #[true, true, true, true, true, true, true, false, false, false, false, false, false, false]) rfl rfl rfl rfl (by kernel_rfl) (QP.block (QP.then (QP.then (QP.block QP.body)))) (by kernel_rfl) rfl (V_move rfl) ?_
          refine TA_take (i := 7) (is := [0, 0]) (done' := #[true, true, true, true, true, true, true, true, false, false, false, false, false, false]) rfl rfl rfl rfl (by kernel_rfl) (QP.block (QP.then (QP.then (QP.block QP.body)))) (by kernel_rfl) rfl (V_idxArr (i := s2.1) rfl rfl Try.underlying72 TryI.inf71 rfl h16.1 h16.2 (k := (s2.1).toNat) (k01 _)) ?_
          refine TA_take (i := 8) (is := [0, 0]) (done' := #[true, true, true, true, true, true, true, true, true, false, false, false, false, false]) rfl rfl rfl rfl (by kernel_rfl) (QP.block (QP.then (QP.then (QP.block QP.body)))) (by kernel_rfl) rfl (V_load rfl (Src.own (j := 1) rfl) (get_vec (f := v64) (V := t_2) (toNat_lt h16.1 h16.2)) Try.isAgg71) ?_
          refine TA_take (i := 9) (is := [0, 0]) (done' := #[true, true, true, true, true, true, true, true, true, true, false, false, false, false]) rfl rfl rfl rfl (by kernel_rfl) (QP.block (QP.then (QP.then (QP.block QP.body)))) (by kernel_rfl) rfl (V_bin rfl rfl (fun w => add64 w (vg s2.2 ((s2.1).toNat)) (vg t_2 ((s2.1).toNat)))) ?_
          refine TA_all (rs := [10]) (by kernel_rfl) rfl ?_
          refine ⟨?_, trivial⟩
          refine TO_v (is := [0, 0]) (done' := #[true, true, true, true, true, true, true, true, true, true, true, false, false, false]) rfl rfl rfl rfl (by kernel_rfl) (V_nilCheck rfl) (fun _ => rfl) ?_
          refine TA_all (rs := [11]) (by kernel_rfl) rfl ?_
          refine ⟨?_, trivial⟩
          refine TO_v (is := [0, 0]) (done' := #[true, true, true, true, true, true, true, true, true, true, true, true, false, false]) rfl rfl rfl rfl (by kernel_rfl) (V_fieldE rfl Try.underlying90 rfl rfl TryI.inf72 rfl (v := ptr (some (bh, obh + 1)) 0) rfl) (fun _ => rfl) ?_
          refine TA_take (i := 12) (is := [0, 0]) (done' := #[true, true, true, true, true, true, true, true, true, true, true, true, true, false]) rfl rfl rfl rfl (by kernel_rfl) (QP.block (QP.then (QP.then (QP.block QP.body)))) (by kernel_rfl) rfl (V_idxArr (i := s2.1) rfl rfl Try.underlying72 TryI.inf71 rfl h17.1 h17.2 (k := (s2.1).toNat) (k01 _)) ?_
          refine TA_all (rs := [13]) (by kernel_rfl) rfl ?_
          refine ⟨?_, trivial⟩
          refine TO_n (is := []) (R := fun _ => []) (done' := #[true, true, true, true, true, true, true, true, true, true, true, true, true, true]) rfl rfl rfl (by kernel_rfl) (E_store (j := 0) rfl rfl TryI.inf71 rfl rfl rfl (by simpa using (toNat_lt h17.1 h17.2)) (cs' := e64 ((vp s2.2 ((s2.1).toNat) ((vg s2.2 ((s2.1).toNat)) + (vg t_2 ((s2.1).toNat)))).toList)) set_vec) (fun h => by cases h) (fun _ => ?_)
          refine TA_reE (j := 0) (A := some (bh, obh + 1)) (cs := e64 ((vp s2.2 ((s2.1).toNat) ((vg s2.2 ((s2.1).toNat)) + (vg t_2 ((s2.1).toNat)))).toList)) (cs' := e64 m_4.toList) rfl (congrArg (fun z : Vector (BitVec 64) 8 => e64 (Vector.toList z)) hm_4) ?_
          refine TA_done (by kernel_rfl) ?_ 0
          refine TX_block_normal ?_
          refine TX_next ?_
          refine TC_region ?_
          refine TL_v rfl rfl rfl (V_bin rfl rfl (fun w => addI w s2.1 1)) ?_
          refine TL_v rfl rfl rfl (V_move rfl) ?_
          refine TL_nil ?_
          refine TX.sub (m' := [(0, ptr (some (bh, obh)) 0), (8, ptr (some (b2, 0)) 0), (157, vi (w64 (s2.1 + 1)))]) ⟨rfl, rfl, rfl, trivial⟩ ?_
          refine TX.pull (is := [0, 0]) (L' := [⟨some (bh, obh + 1), e64 m_4.toList⟩, ⟨some (b2, 0), e64 t_2.toList⟩]) rfl ?_
          obtain rfl := Option.some.inj H
          exact fun a w hs => hK (w64 (s2.1 + 1), m_4) rfl () a w hs
        · replace H := ite_f (of_decide_eq_false hc) H
          refine TC_exit ?_
          refine TX_then_exit ?_
          refine TX_then_exit ?_
          refine TX.sub (m' := []) trivial ?_
          refine TX.pull (is := [0]) (L' := [⟨some (bh, obh + 1), e64 s2.2.toList⟩]) rfl ?_
          obtain rfl := Option.some.inj H
          exact hE s2.2 rfl ()
      · intro g
        refine TX_block_exit ?_
        have hrv := Option.some.inj H
        subst hrv
        exact TX_end (rs := []) (vs := []) rfl trivial (fun w' hs' => ⟨(), rfl, Step.left (Step.pulled (is := [0]) (A := [⟨some (bh, obh + 1), e64 t_4.toList⟩]) hs' rfl)⟩)

end Go.Proofs
end

section
namespace Go.Proofs
open Go Go.Kx
set_option linter.unusedVariables false
set_option linter.unusedSimpArgs false
def sha_begin (n : Int) : Option (Vector (BitVec 64) 8) :=
  if n = 256 then (ltt ((#v[1779033703#64, 3144134277#64, 1013904242#64, 2773480762#64, 1359893119#64, 2600822924#64, 528734635#64, 1541459225#64] : Vector (BitVec 64) 8)) fun (m_1 : Vector (BitVec 64) 8) => (some m_1)) else (ltt ((#v[14680500436340154072#64, 7105036623409894663#64, 10473403895298186519#64, 1526699215303891257#64, 7436329637833083697#64, 10282925794625328401#64, 15784041429090275239#64, 5167115440072839076#64] : Vector (BitVec 64) 8)) fun (m_2 : Vector (BitVec 64) 8) => (some m_2))

set_option maxHeartbeats 4000000 in
set_option maxRecDepth 20000 in
theorem F65_calls (n : Int) (r : Vector (BitVec 64) 8) (H : sha_begin n = some r) :
    Does Try.prog 65 [vi n] [] [] (Γ := Unit) (fun g => Value.agg (flat [(8, e64 r.toList)]).toArray) (fun g => []) := by
  intro w hmem hro hd
  refine calls_of (N := 7) (m0 := [(0, vi n)]) Try.func65 rfl Try.ntmps65 (argM_ok [vi n]) rfl hmem hro hd ?_
  unfold sha_begin at H
  refine TC_seq ?_
  refine TC_region ?_
  refine TL_e rfl rfl rfl (E_allocP [(8, e64 ((Vector.replicate 8 0#64).toList))] TryI.inf72 TryI.zer72 ⟨(lenV (f := v64) (Vector.replicate 8 0#64)), trivial⟩) (fun b1 => ?_)
  refine TL_nil ?_
  refine TX_next ?_
  refine TC_seq ?_
  refine TC_seq ?_
  refine TC_region ?_
  refine TL_v rfl rfl rfl (V_move rfl) ?_
  refine TL_v rfl rfl rfl (V_bin rfl rfl (fun w => eqlI w n 256)) ?_
  refine TL_nil ?_
  refine TX_next ?_
  refine TC_cond (b := (decide (n = 256))) rfl (fun hc => ?_) (fun hc => ?_)
  · replace H := ite_t (of_decide_eq_true hc) H
    refine TC_seq ?_
    refine TC_region ?_
    refine TL_v rfl rfl rfl (V_buildArr (pv := [(0, v64 1779033703#64), (1, v64 3144134277#64), (2, v64 1013904242#64), (3, v64 2773480762#64), (4, v64 1359893119#64), (5, v64 2600822924#64), (6, v64 528734635#64), (7, v64 1541459225#64)]) rfl rfl Try.underlying72 TryI.inf72 TryI.inf71 rfl TryI.zer72 (cs := e64 ((#v[1779033703#64, 3144134277#64, 1013904242#64, 2773480762#64, 1359893119#64, 2600822924#64, 528734635#64, 1541459225#64] : Vector (BitVec 64) 8).toList)) (by kernel_rfl)) ?_
    refine TL_n rfl rfl (E_storeAgg (n := 8) (j := 0) (vs := e64 ((#v[1779033703#64, 3144134277#64, 1013904242#64, 2773480762#64, 1359893119#64, 2600822924#64, 528734635#64, 1541459225#64] : Vector (BitVec 64) 8).toList)) rfl rfl TryI.inf72 rfl (lenV (f := v64) (#v[1779033703#64, 3144134277#64, 1013904242#64, 2773480762#64, 1359893119#64, 2600822924#64, 528734635#64, 1541459225#64] : Vector (BitVec 64) 8)) (OneC.map (fun _ => rfl) _) rfl (Nat.le_of_eq (by simp)) (cs' := e64 ((#v[1779033703#64, 3144134277#64, 1013904242#64, 2773480762#64, 1359893119#64, 2600822924#64, 528734635#64, 1541459225#64] : Vector (BitVec 64) 8).toList)) (splice_all (by simp))) (fun _ => ?_)
    obtain ⟨m_1, hm_1, H⟩ := ltt_elim H
    refine TL_reE (j := 0) (A := some (b1, 0)) (cs := e64 ((#v[1779033703#64, 3144134277#64, 1013904242#64, 2773480762#64, 1359893119#64, 2600822924#64, 528734635#64, 1541459225#64] : Vector (BitVec 64) 8).toList)) (cs' := e64 m_1.toList) rfl (congrArg (fun z : Vector (BitVec 64) 8 => e64 (Vector.toList z)) hm_1) ?_
    refine TL_nil ?_
    refine TX_next ?_
    refine TC_ret ?_
    refine TX_then_ret ?_
    have hrv := Option.some.inj H
    subst hrv
    exact TX_ret (rs := [.cell 2 72]) (vs := [Value.agg (flat [(8, e64 m_1.toList)]).toArray]) rfl ⟨(Res_agg (n := 8) rfl (by simp) (Src.own (j := 0) rfl) Try.isAgg72 TryI.inf72 rfl (lenV (f := v64) m_1)), trivial⟩ (fun w' hs' => ⟨(), rfl, Step.left (Step.pulled (is := []) (A := []) hs' rfl)⟩)
  · replace H := ite_f (of_decide_eq_false hc) H
    refine TC_skip ?_
    refine TX_next ?_
    refine TC_seq ?_
    refine TC_region ?_
    refine TL_v rfl rfl rfl (V_buildArr (pv := [(0, v64 14680500436340154072#64), (1, v64 7105036623409894663#64), (2, v64 10473403895298186519#64), (3, v64 1526699215303891257#64), (4, v64 7436329637833083697#64), (5, v64 10282925794625328401#64), (6, v64 15784041429090275239#64), (7, v64 5167115440072839076#64)]) rfl rfl Try.underlying72 TryI.inf72 TryI.inf71 rfl TryI.zer72 (cs := e64 ((#v[14680500436340154072#64, 7105036623409894663#64, 10473403895298186519#64, 1526699215303891257#64, 7436329637833083697#64, 10282925794625328401#64, 15784041429090275239#64, 5167115440072839076#64] : Vector (BitVec 64) 8).toList)) (by kernel_rfl)) ?_
    refine TL_n rfl rfl (E_storeAgg (n := 8) (j := 0) (vs := e64 ((#v[14680500436340154072#64, 7105036623409894663#64, 10473403895298186519#64, 1526699215303891257#64, 7436329637833083697#64, 10282925794625328401#64, 15784041429090275239#64, 5167115440072839076#64] : Vector (BitVec 64) 8).toList)) rfl rfl TryI.inf72 rfl (lenV (f := v64) (#v[14680500436340154072#64, 7105036623409894663#64, 10473403895298186519#64, 1526699215303891257#64, 7436329637833083697#64, 10282925794625328401#64, 15784041429090275239#64, 5167115440072839076#64] : Vector (BitVec 64) 8)) (OneC.map (fun _ => rfl) _) rfl (Nat.le_of_eq (by simp)) (cs' := e64 ((#v[14680500436340154072#64, 7105036623409894663#64, 10473403895298186519#64, 1526699215303891257#64, 7436329637833083697#64, 10282925794625328401#64, 15784041429090275239#64, 5167115440072839076#64] : Vector (BitVec 64) 8).toList)) (splice_all (by simp))) (fun _ => ?_)
    obtain ⟨m_2, hm_2, H⟩ := ltt_elim H
    refine TL_reE (j := 0) (A := some (b1, 0)) (cs := e64 ((#v[14680500436340154072#64, 7105036623409894663#64, 10473403895298186519#64, 1526699215303891257#64, 7436329637833083697#64, 10282925794625328401#64, 15784041429090275239#64, 5167115440072839076#64] : Vector (BitVec 64) 8).toList)) (cs' := e64 m_2.toList) rfl (congrArg (fun z : Vector (BitVec 64) 8 => e64 (Vector.toList z)) hm_2) ?_
    refine TL_nil ?_
    refine TX_next ?_
    refine TC_ret ?_
    have hrv := Option.some.inj H
    subst hrv
    exact TX_ret (rs := [.cell 2 72]) (vs := [Value.agg (flat [(8, e64 m_2.toList)]).toArray]) rfl ⟨(Res_agg (n := 8) rfl (by simp) (Src.own (j := 0) rfl) Try.isAgg72 TryI.inf72 rfl (lenV (f := v64) m_2)), trivial⟩ (fun w' hs' => ⟨(), rfl, Step.left (Step.pulled (is := []) (A := []) hs' rfl)⟩)

end Go.Proofs
end

section
namespace Go.Proofs
open Go Go.Kx
set_option linter.unusedVariables false
set_option linter.unusedSimpArgs false
def sha_constants : Option (Vector (BitVec 64) 80) :=
  ltt ((#v[4794697086780616226#64, 8158064640168781261#64, 13096744586834688815#64, 16840607885511220156#64, 4131703408338449720#64, 6480981068601479193#64, 10538285296894168987#64, 12329834152419229976#64, 15566598209576043074#64, 1334009975649890238#64, 2608012711638119052#64, 6128411473006802146#64, 8268148722764581231#64, 9286055187155687089#64, 11230858885718282805#64, 13951009754708518548#64, 16472876342353939154#64, 17275323862435702243#64, 1135362057144423861#64, 2597628984639134821#64, 3308224258029322869#64, 5365058923640841347#64, 6679025012923562964#64, 8573033837759648693#64, 10970295158949994411#64, 12119686244451234320#64, 12683024718118986047#64, 13788192230050041572#64, 14330467153632333762#64, 15395433587784984357#64, 489312712824947311#64, 1452737877330783856#64, 2861767655752347644#64, 3322285676063803686#64, 5560940570517711597#64, 5996557281743188959#64, 7280758554555802590#64, 8532644243296465576#64, 9350256976987008742#64, 10552545826968843579#64, 11727347734174303076#64, 12113106623233404929#64, 14000437183269869457#64, 14369950271660146224#64, 15101387698204529176#64, 15463397548674623760#64, 17586052441742319658#64, 1182934255886127544#64, 1847814050463011016#64, 2177327727835720531#64, 2830643537854262169#64, 3796741975233480872#64, 4115178125766777443#64, 5681478168544905931#64, 6601373596472566643#64, 7507060721942968483#64, 8399075790359081724#64, 8693463985226723168#64, 9568029438360202098#64, 10144078919501101548#64, 10430055236837252648#64, 11840083180663258601#64, 13761210420658862357#64, 14299343276471374635#64, 14566680578165727644#64, 15097957966210449927#64, 16922976911328602910#64, 17689382322260857208#64, 500013540394364858#64, 748580250866718886#64, 1242879168328830382#64, 1977374033974150939#64, 2944078676154940804#64, 3659926193048069267#64, 4368137639120453308#64, 4836135668995329356#64, 5532061633213252278#64, 6448918945643986474#64, 6902733635092675308#64, 7801388544844847127#64] : Vector (BitVec 64) 80)) fun (m_1 : Vector (BitVec 64) 80) => (some m_1)

set_option maxHeartbeats 4000000 in
set_option maxRecDepth 20000 in
theorem F66_calls (r : Vector (BitVec 64) 80) (H : sha_constants = some r) :
    Does Try.prog 66 [] [] [] (Γ := Unit) (fun g => Value.agg (flat [(80, e64 r.toList)]).toArray) (fun g => []) := by
  intro w hmem hro hd
  refine calls_of (N := 2) (m0 := []) Try.func66 rfl Try.ntmps66 (argM_ok []) rfl hmem hro hd ?_
  unfold sha_constants at H
  refine TC_seq ?_
  refine TC_region ?_
  refine TL_e rfl rfl rfl (E_allocP [(80, e64 ((Vector.replicate 80 0#64).toList))] TryI.inf85 TryI.zer85 ⟨(lenV (f := v64) (Vector.replicate 80 0#64)), trivial⟩) (fun b1 => ?_)
  refine TL_nil ?_
  refine TX_next ?_
  refine TC_seq ?_
  refine TC_region ?_
  refine TL_v rfl rfl rfl (V_buildArr (pv := [(0, v64 4794697086780616226#64), (1, v64 8158064640168781261#64), (2, v64 13096744586834688815#64), (3, v64 16840607885511220156#64), (4, v64 4131703408338449720#64), (5, v64 6480981068601479193#64), (6, v64 10538285296894168987#64), (7, v64 12329834152419229976#64), (8, v64 15566598209576043074#64), (9, v64 1334009975649890238#64), (10, v64 2608012711638119052#64), (11, v64 6128411473006802146#64), (12, v64 8268148722764581231#64), (13, v64 9286055187155687089#64), (14, v64 11230858885718282805#64), (15, v64 13951009754708518548#64), (16, v64 16472876342353939154#64), (17, v64 17275323862435702243#64), (18, v64 1135362057144423861#64), (19, v64 2597628984639134821#64), (20, v64 3308224258029322869#64), (21, v64 5365058923640841347#64), (22, v64 6679025012923562964#64), (23, v64 8573033837759648693#64), (24, v64 10970295158949994411#64), (25, v64 12119686244451234320#64), (26, v64 12683024718118986047#64), (27, v64 13788192230050041572#64), (28, v64 14330467153632333762#64), (29, v64 15395433587784984357#64), (30, v64 489312712824947311#64), (31, v64 1452737877330783856#64), (32, v64 2861767655752347644#64), (33, v64 3322285676063803686#64), (34, v64 5560940570517711597#64), (35, v64 5996557281743188959#64), (36, v64 7280758554555802590#64), (37, v64 8532644243296465576#64), (38, v64 9350256976987008742#64), (39, v64 10552545826968843579#64), (40, v64 11727347734174303076#64), (41, v64 12113106623233404929#64), (42, v64 14000437183269869457#64), (43, v64 14369950271660146224#64), (44, v64 15101387698204529176#64), (45, v64 15463397548674623760#64), (46, v64 17586052441742319658#64), (47, v64 1182934255886127544#64), (48, v64 1847814050463011016#64), (49, v64 2177327727835720531#64), (50, v64 2830643537854262169#64), (51, v64 3796741975233480872#64), (52, v64 4115178125766777443#64), (53, v64 5681478168544905931#64), (54, v64 6601373596472566643#64), (55, v64 7507060721942968483#64), (56, v64 8399075790359081724#64), (57, v64 8693463985226723168#64), (58, v64 9568029438360202098#64), (59, v64 10144078919501101548#64), (60, v64 10430055236837252648#64), (61, v64 11840083180663258601#64), (62, v64 13761210420658862357#64), (63, v64 14299343276471374635#64), (64, v64 14566680578165727644#64), (65, v64 15097957966210449927#64), (66, v64 16922976911328602910#64), (67, v64 17689382322260857208#64), (68, v64 500013540394364858#64), (69, v64 748580250866718886#64), (70, v64 1242879168328830382#64), (71, v64 1977374033974150939#64), (72, v64 2944078676154940804#64), (73, v64 3659926193048069267#64), (74, v64 4368137639120453308#64), (75, v64 4836135668995329356#64), (76, v64 5532061633213252278#64), (77, v64 6448918945643986474#64), (78, v64 6902733635092675308#64), (79, v64 7801388544844847127#64)]) rfl rfl Try.underlying85 TryI.inf85 TryI.inf71 rfl TryI.zer85 (cs := e64 ((#v[4794697086780616226#64, 8158064640168781261#64, 13096744586834688815#64, 16840607885511220156#64, 4131703408338449720#64, 6480981068601479193#64, 10538285296894168987#64, 12329834152419229976#64, 15566598209576043074#64, 1334009975649890238#64, 2608012711638119052#64, 6128411473006802146#64, 8268148722764581231#64, 9286055187155687089#64, 11230858885718282805#64, 13951009754708518548#64, 16472876342353939154#64, 17275323862435702243#64, 1135362057144423861#64, 2597628984639134821#64, 3308224258029322869#64, 5365058923640841347#64, 6679025012923562964#64, 8573033837759648693#64, 10970295158949994411#64, 12119686244451234320#64, 12683024718118986047#64, 13788192230050041572#64, 14330467153632333762#64, 15395433587784984357#64, 489312712824947311#64, 1452737877330783856#64, 2861767655752347644#64, 3322285676063803686#64, 5560940570517711597#64, 5996557281743188959#64, 7280758554555802590#64, 8532644243296465576#64, 9350256976987008742#64, 10552545826968843579#64, 11727347734174303076#64, 12113106623233404929#64, 14000437183269869457#64, 14369950271660146224#64, 15101387698204529176#64, 15463397548674623760#64, 17586052441742319658#64, 1182934255886127544#64, 1847814050463011016#64, 2177327727835720531#64, 2830643537854262169#64, 3796741975233480872#64, 4115178125766777443#64, 5681478168544905931#64, 6601373596472566643#64, 7507060721942968483#64, 8399075790359081724#64, 8693463985226723168#64, 9568029438360202098#64, 10144078919501101548#64, 10430055236837252648#64, 11840083180663258601#64, 13761210420658862357#64, 14299343276471374635#64, 14566680578165727644#64, 15097957966210449927#64, 16922976911328602910#64, 17689382322260857208#64, 500013540394364858#64, 748580250866718886#64, 1242879168328830382#64, 1977374033974150939#64, 2944078676154940804#64, 3659926193048069267#64, 4368137639120453308#64, 4836135668995329356#64, 5532061633213252278#64, 6448918945643986474#64, 6902733635092675308#64, 7801388544844847127#64] : Vector (BitVec 64) 80).toList)) (by kernel_rfl)) ?_
  refine TL_n rfl rfl (E_storeAgg (n := 80) (j := 0) (vs := e64 ((#v[4794697086780616226#64, 8158064640168781261#64, 13096744586834688815#64, 16840607885511220156#64, 4131703408338449720#64, 6480981068601479193#64, 10538285296894168987#64, 12329834152419229976#64, 15566598209576043074#64, 1334009975649890238#64, 2608012711638119052#64, 6128411473006802146#64, 8268148722764581231#64, 9286055187155687089#64, 11230858885718282805#64, 13951009754708518548#64, 16472876342353939154#64, 17275323862435702243#64, 1135362057144423861#64, 2597628984639134821#64, 3308224258029322869#64, 5365058923640841347#64, 6679025012923562964#64, 8573033837759648693#64, 10970295158949994411#64, 12119686244451234320#64, 12683024718118986047#64, 13788192230050041572#64, 14330467153632333762#64, 15395433587784984357#64, 489312712824947311#64, 1452737877330783856#64, 2861767655752347644#64, 3322285676063803686#64, 5560940570517711597#64, 5996557281743188959#64, 7280758554555802590#64, 8532644243296465576#64, 9350256976987008742#64, 10552545826968843579#64, 11727347734174303076#64, 12113106623233404929#64, 14000437183269869457#64, 14369950271660146224#64, 15101387698204529176#64, 15463397548674623760#64, 17586052441742319658#64, 1182934255886127544#64, 1847814050463011016#64, 2177327727835720531#64, 2830643537854262169#64, 3796741975233480872#64, 4115178125766777443#64, 5681478168544905931#64, 6601373596472566643#64, 7507060721942968483#64, 8399075790359081724#64, 8693463985226723168#64, 9568029438360202098#64, 10144078919501101548#64, 10430055236837252648#64, 11840083180663258601#64, 13761210420658862357#64, 14299343276471374635#64, 14566680578165727644#64, 15097957966210449927#64, 16922976911328602910#64, 17689382322260857208#64, 500013540394364858#64, 748580250866718886#64, 1242879168328830382#64, 1977374033974150939#64, 2944078676154940804#64, 3659926193048069267#64, 4368137639120453308#64, 4836135668995329356#64, 5532061633213252278#64, 6448918945643986474#64, 6902733635092675308#64, 7801388544844847127#64] : Vector (BitVec 64) 80).toList)) rfl rfl TryI.inf85 rfl (lenV (f := v64) (#v[4794697086780616226#64, 8158064640168781261#64, 13096744586834688815#64, 16840607885511220156#64, 4131703408338449720#64, 6480981068601479193#64, 10538285296894168987#64, 12329834152419229976#64, 15566598209576043074#64, 1334009975649890238#64, 2608012711638119052#64, 6128411473006802146#64, 8268148722764581231#64, 9286055187155687089#64, 11230858885718282805#64, 13951009754708518548#64, 16472876342353939154#64, 17275323862435702243#64, 1135362057144423861#64, 2597628984639134821#64, 3308224258029322869#64, 5365058923640841347#64, 6679025012923562964#64, 8573033837759648693#64, 10970295158949994411#64, 12119686244451234320#64, 12683024718118986047#64, 13788192230050041572#64, 14330467153632333762#64, 15395433587784984357#64, 489312712824947311#64, 1452737877330783856#64, 2861767655752347644#64, 3322285676063803686#64, 5560940570517711597#64, 5996557281743188959#64, 7280758554555802590#64, 8532644243296465576#64, 9350256976987008742#64, 10552545826968843579#64, 11727347734174303076#64, 12113106623233404929#64, 14000437183269869457#64, 14369950271660146224#64, 15101387698204529176#64, 15463397548674623760#64, 17586052441742319658#64, 1182934255886127544#64, 1847814050463011016#64, 2177327727835720531#64, 2830643537854262169#64, 3796741975233480872#64, 4115178125766777443#64, 5681478168544905931#64, 6601373596472566643#64, 7507060721942968483#64, 8399075790359081724#64, 8693463985226723168#64, 9568029438360202098#64, 10144078919501101548#64, 10430055236837252648#64, 11840083180663258601#64, 13761210420658862357#64, 14299343276471374635#64, 14566680578165727644#64, 15097957966210449927#64, 16922976911328602910#64, 17689382322260857208#64, 500013540394364858#64, 748580250866718886#64, 1242879168328830382#64, 1977374033974150939#64, 2944078676154940804#64, 3659926193048069267#64, 4368137639120453308#64, 4836135668995329356#64, 5532061633213252278#64, 6448918945643986474#64, 6902733635092675308#64, 7801388544844847127#64] : Vector (BitVec 64) 80)) (OneC.map (fun _ => rfl) _) rfl (Nat.le_of_eq (by simp)) (cs' := e64 ((#v[4794697086780616226#64, 8158064640168781261#64, 13096744586834688815#64, 16840607885511220156#64, 4131703408338449720#64, 6480981068601479193#64, 10538285296894168987#64, 12329834152419229976#64, 15566598209576043074#64, 1334009975649890238#64, 2608012711638119052#64, 6128411473006802146#64, 8268148722764581231#64, 9286055187155687089#64, 11230858885718282805#64, 13951009754708518548#64, 16472876342353939154#64, 17275323862435702243#64, 1135362057144423861#64, 2597628984639134821#64, 3308224258029322869#64, 5365058923640841347#64, 6679025012923562964#64, 8573033837759648693#64, 10970295158949994411#64, 12119686244451234320#64, 12683024718118986047#64, 13788192230050041572#64, 14330467153632333762#64, 15395433587784984357#64, 489312712824947311#64, 1452737877330783856#64, 2861767655752347644#64, 3322285676063803686#64, 5560940570517711597#64, 5996557281743188959#64, 7280758554555802590#64, 8532644243296465576#64, 9350256976987008742#64, 10552545826968843579#64, 11727347734174303076#64, 12113106623233404929#64, 14000437183269869457#64, 14369950271660146224#64, 15101387698204529176#64, 15463397548674623760#64, 17586052441742319658#64, 1182934255886127544#64, 1847814050463011016#64, 2177327727835720531#64, 2830643537854262169#64, 3796741975233480872#64, 4115178125766777443#64, 5681478168544905931#64, 6601373596472566643#64, 7507060721942968483#64, 8399075790359081724#64, 8693463985226723168#64, 9568029438360202098#64, 10144078919501101548#64, 10430055236837252648#64, 11840083180663258601#64, 13761210420658862357#64, 14299343276471374635#64, 14566680578165727644#64, 15097957966210449927#64, 16922976911328602910#64, 17689382322260857208#64, 500013540394364858#64, 748580250866718886#64, 1242879168328830382#64, 1977374033974150939#64, 2944078676154940804#64, 3659926193048069267#64, 4368137639120453308#64, 4836135668995329356#64, 5532061633213252278#64, 6448918945643986474#64, 6902733635092675308#64, 7801388544844847127#64] : Vector (BitVec 64) 80).toList)) (splice_all (by simp))) (fun _ => ?_)
  obtain ⟨m_1, hm_1, H⟩ := ltt_elim H
  refine TL_reE (j := 0) (A := some (b1, 0)) (cs := e64 ((#v[4794697086780616226#64, 8158064640168781261#64, 13096744586834688815#64, 16840607885511220156#64, 4131703408338449720#64, 6480981068601479193#64, 10538285296894168987#64, 12329834152419229976#64, 15566598209576043074#64, 1334009975649890238#64, 2608012711638119052#64, 6128411473006802146#64, 8268148722764581231#64, 9286055187155687089#64, 11230858885718282805#64, 13951009754708518548#64, 16472876342353939154#64, 17275323862435702243#64, 1135362057144423861#64, 2597628984639134821#64, 3308224258029322869#64, 5365058923640841347#64, 6679025012923562964#64, 8573033837759648693#64, 10970295158949994411#64, 12119686244451234320#64, 12683024718118986047#64, 13788192230050041572#64, 14330467153632333762#64, 15395433587784984357#64, 489312712824947311#64, 1452737877330783856#64, 2861767655752347644#64, 3322285676063803686#64, 5560940570517711597#64, 5996557281743188959#64, 7280758554555802590#64, 8532644243296465576#64, 9350256976987008742#64, 10552545826968843579#64, 11727347734174303076#64, 12113106623233404929#64, 14000437183269869457#64, 14369950271660146224#64, 15101387698204529176#64, 15463397548674623760#64, 17586052441742319658#64, 1182934255886127544#64, 1847814050463011016#64, 2177327727835720531#64, 2830643537854262169#64, 3796741975233480872#64, 4115178125766777443#64, 5681478168544905931#64, 6601373596472566643#64, 7507060721942968483#64, 8399075790359081724#64, 8693463985226723168#64, 9568029438360202098#64, 10144078919501101548#64, 10430055236837252648#64, 11840083180663258601#64, 13761210420658862357#64, 14299343276471374635#64, 14566680578165727644#64, 15097957966210449927#64, 16922976911328602910#64, 17689382322260857208#64, 500013540394364858#64, 748580250866718886#64, 1242879168328830382#64, 1977374033974150939#64, 2944078676154940804#64, 3659926193048069267#64, 4368137639120453308#64, 4836135668995329356#64, 5532061633213252278#64, 6448918945643986474#64, 6902733635092675308#64, 7801388544844847127#64] : Vector (BitVec 64) 80).toList)) (cs' := e64 m_1.toList) rfl (congrArg (fun z : Vector (BitVec 64) 80 => e64 (Vector.toList z)) hm_1) ?_
  refine TL_nil ?_
  refine TX_next ?_
  refine TC_ret ?_
  have hrv := Option.some.inj H
  subst hrv
  exact TX_ret (rs := [.cell 0 85]) (vs := [Value.agg (flat [(80, e64 m_1.toList)]).toArray]) rfl ⟨(Res_agg (n := 80) rfl (by simp) (Src.own (j := 0) rfl) Try.isAgg85 TryI.inf85 rfl (lenV (f := v64) m_1)), trivial⟩ (fun w' hs' => ⟨(), rfl, Step.left (Step.pulled (is := []) (A := []) hs' rfl)⟩)

end Go.Proofs
end

section
namespace Go.Proofs
open Go Go.Kx
set_option linter.unusedVariables false
set_option linter.unusedSimpArgs false
def sha_Hash_block (h_n : Int) (h_h : Vector (BitVec 64) 8) (h_k : Vector (BitVec 64) 80) (h_rest : List (BitVec 8)) (h_all : BitVec 64) : Option (Int) :=
  if h_n = 256 then (some 64) else (some 128)

set_option maxHeartbeats 4000000 in
set_option maxRecDepth 20000 in
theorem F67_calls (bh : Nat) (obh : Nat) (Ah_rest : Adr) (ch_rest : Nat) (h_n : Int) (h_h : Vector (BitVec 64) 8) (h_k : Vector (BitVec 64) 80) (h_rest : List (BitVec 8)) (h_all : BitVec 64) (hch_rest : (h_rest).length ≤ ch_rest) (r : Int) (H : sha_Hash_block h_n h_h h_k h_rest h_all = some r) :
    Does Try.prog 67 [ptr (some (bh, obh)) 0] [] [⟨some (bh, obh), [vi h_n]⟩, ⟨some (bh, obh + 1), e64 h_h.toList⟩, ⟨some (bh, obh + 9), e64 h_k.toList⟩, ⟨some (bh, obh + 89), [sl Ah_rest ((h_rest).length) ch_rest]⟩, ⟨some (bh, obh + 90), [v64 h_all]⟩, ⟨Ah_rest, e8 h_rest⟩] (Γ := Unit) (fun g => vi r) (fun g => []) := by
  intro w hmem hro hd
  refine calls_of (N := 8) (m0 := [(0, ptr (some (bh, obh)) 0)]) Try.func67 rfl Try.ntmps67 (argM_ok [ptr (some (bh, obh)) 0]) rfl hmem hro hd ?_
  unfold sha_Hash_block at H
  refine TC_seq ?_
  refine TC_region ?_
  refine TL_v rfl rfl rfl (V_assign rfl) ?_
  refine TL_nil ?_
  refine TX_next ?_
  refine TC_seq ?_
  refine TC_seq ?_
  refine TC_region ?_
  refine TL_v rfl rfl rfl (V_move rfl) ?_
  refine TL_v rfl rfl rfl (V_nilCheck rfl) ?_
  refine TL_v rfl rfl rfl (V_fieldE rfl Try.underlying90 rfl rfl TryI.inf3 rfl (v := ptr (some (bh, obh)) 0) rfl) ?_
  refine TL_v rfl rfl rfl (V_load rfl (Src.ro (j := 0) rfl) rfl Try.isAgg3) ?_
  refine TL_v rfl rfl rfl (V_bin rfl rfl (fun w => eqlI w h_n 256)) ?_
  refine TL_nil ?_
  refine TX_next ?_
  refine TC_cond (b := (decide (h_n = 256))) rfl (fun hc => ?_) (fun hc => ?_)
  · replace H := ite_t (of_decide_eq_true hc) H
    refine TC_seq ?_
    refine TC_region ?_
    refine TL_v rfl rfl rfl (V_assign rfl) ?_
    refine TL_nil ?_
    refine TX_next ?_
    refine TC_ret ?_
    refine TX_then_ret ?_
    have hrv := Option.some.inj H
    subst hrv
    exact TX_ret (rs := [.tmp 2]) (vs := [vi 64]) rfl ⟨rfl, trivial⟩ (fun w' hs' => ⟨(), rfl, Step.left (Step.pulled (is := []) (A := []) hs' rfl)⟩)
  · replace H := ite_f (of_decide_eq_false hc) H
    refine TC_skip ?_
    refine TX_next ?_
    refine TC_seq ?_
    refine TC_region ?_
    refine TL_v rfl rfl rfl (V_assign rfl) ?_
    refine TL_nil ?_
    refine TX_next ?_
    refine TC_ret ?_
    have hrv := Option.some.inj H
    subst hrv
    exact TX_ret (rs := [.tmp 2]) (vs := [vi 128]) rfl ⟨rfl, trivial⟩ (fun w' hs' => ⟨(), rfl, Step.left (Step.pulled (is := []) (A := []) hs' rfl)⟩)

end Go.Proofs
end

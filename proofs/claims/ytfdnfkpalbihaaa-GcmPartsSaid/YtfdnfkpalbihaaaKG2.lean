/-
  Part KG2 of the proofs of this seat: F92, F93, F94, F73, F90, F67, F68, F66, F35, F36, F37, F38, F39, F40, F41.
-/
import Derived.Test.YtfdnfkpalbihaaaK2
import Derived.Test.YtfdnfkpalbihaaaKA2
import Derived.Test.YtfdnfkpalbihaaaKG1
section
namespace Go.Proofs
open Go Go.Kx
set_option linter.unusedVariables false
set_option linter.unusedSimpArgs false
def halberdref4_halves.b0 (s_ : Str) (s0 : BitVec 64 × BitVec 64 × Int) : Option ((BitVec 64 × BitVec 64 × Int) ⊕ (BitVec 64 × BitVec 64)) :=
  if s0.2.2 < 8 then (if 0 ≤ s0.2.2 ∧ s0.2.2 < ((s_).length : Int) then (ltt ((s0.1 <<< 8) ||| ((sg s_ s0.2.2).setWidth 64)) fun (a_1 : BitVec 64) => (if 0 ≤ w64 (8 + s0.2.2) ∧ w64 (8 + s0.2.2) < ((s_).length : Int) then (ltt ((s0.2.1 <<< 8) ||| ((sg s_ (w64 (8 + s0.2.2))).setWidth 64)) fun (b1 : BitVec 64) => (ltt (w64 (s0.2.2 + 1)) fun (i1 : Int) => (some (.inl (a_1, b1, i1))))) else none)) else none) else (some (.inr (s0.1, s0.2.1)))

def halberdref4_halves (s_ : Str) : Option (BitVec 64 × BitVec 64) :=
  (loop (halberdref4_halves.b0 s_) BIG (0#64, 0#64, 0)).bind fun (t_1 : BitVec 64 × BitVec 64) => (some (t_1.1, t_1.2))

set_option maxHeartbeats 4000000 in
set_option maxRecDepth 20000 in
theorem F92_calls (s_ : Str) (r : BitVec 64 × BitVec 64) (H : halberdref4_halves s_ = some r) :
    Does Try.prog 92 [vs s_] [] [] (Γ := Unit) (fun g => Value.tuple [v64 r.1, v64 r.2].toArray) (fun g => []) := by
  intro w hmem hro hd
  refine calls_of (N := 28) (m0 := [(0, vs s_)]) Try.func92 rfl Try.ntmps92 (argM_ok [vs s_]) rfl hmem hro hd ?_
  unfold halberdref4_halves at H
  refine TC_seq ?_
  refine TC_region ?_
  refine TL_v rfl rfl rfl (V_assign rfl) ?_
  refine TL_v rfl rfl rfl (V_assign rfl) ?_
  refine TL_nil ?_
  refine TX_next ?_
  refine TC_seq ?_
  refine TC_region ?_
  refine TL_v rfl rfl rfl (V_assign rfl) ?_
  refine TL_v rfl rfl rfl (V_assign rfl) ?_
  refine TL_nil ?_
  refine TX_next ?_
  refine TC_seq ?_
  refine TC_seq ?_
  refine TC_region ?_
  refine TL_v rfl rfl rfl (V_assign rfl) ?_
  refine TL_nil ?_
  refine TX_next ?_
  refine TC_block ?_
  obtain ⟨t_1, Hl, H⟩ := bind_elim H
  refine TC.sub (m' := [(0, vs s_), (4, v64 0#64), (5, v64 0#64), (6, vi 0)]) ⟨rfl, rfl, rfl, rfl, trivial⟩ ?_
  refine TC.pull (is := []) (L' := []) rfl ?_
  refine TC_loopL (id := 0) (body := (halberdref4_halves.b0 s_)) (σ := BitVec 64 × BitVec 64 × Int) (Γ := Unit) (Γx := Unit) (fun s0 g0_ => [(0, vs s_), (4, v64 s0.1), (5, v64 s0.2.1), (6, vi s0.2.2)]) (fun s0 g0_ => []) (fun t g => [(4, v64 t.1), (5, v64 t.2)]) (fun t g => []) ?_ BIG (0#64, 0#64, 0) () t_1 Hl ?_
  · intro s0 g0_ r1 H K hK hE
    unfold halberdref4_halves.b0 at H
    refine TC_seq ?_
    refine TC_seq ?_
    refine TC_region ?_
    refine TL_v rfl rfl rfl (V_move rfl) ?_
    refine TL_v rfl rfl rfl (V_bin rfl rfl (fun w => lssI w s0.2.2 8)) ?_
    refine TL_nil ?_
    refine TX_next ?_
    refine TC_cond (b := (decide (s0.2.2 < 8))) rfl (fun hc => ?_) (fun hc => ?_)
    · replace H := ite_t (of_decide_eq_true hc) H
      refine TC_skip ?_
      refine TX_next ?_
      refine TC_seq ?_
      refine TC_block ?_
      refine TC_seq ?_
      refine TC_region ?_
      refine TL_v rfl rfl rfl (V_move rfl) ?_
      refine TL_v rfl rfl rfl (V_bin rfl rfl (fun w => shl64 w s0.1 .u64 8 (by decide))) ?_
      refine TL_v rfl rfl rfl (V_move rfl) ?_
      refine TL_v rfl rfl rfl (V_move rfl) ?_
      obtain ⟨h1, H⟩ := if_elim H
      refine TL_v rfl rfl rfl (V_idxStr rfl rfl (i := s0.2.2) Try.underlying9 h1.1 h1.2) ?_
      refine TL_v rfl rfl rfl (V_conv rfl (fun w => cv8to64 w _ _ Try.underlying81 (TryI.und5) (sg s_ s0.2.2))) ?_
      refine TL_v rfl rfl rfl (V_bin rfl rfl (fun w => or64 w (s0.1 <<< 8) ((sg s_ s0.2.2).setWidth 64))) ?_
      refine TL_v rfl rfl rfl (V_assign rfl) ?_
      obtain ⟨a_1, ha_1, H⟩ := ltt_elim H
      refine TL_re (d := 4) (v := v64 ((s0.1 <<< 8) ||| ((sg s_ s0.2.2).setWidth 64))) (v' := v64 a_1) rfl (congrArg v64 ha_1) ?_
      refine TL_nil ?_
      refine TX_next ?_
      refine TC_region ?_
      refine TL_v rfl rfl rfl (V_move rfl) ?_
      refine TL_v rfl rfl rfl (V_bin rfl rfl (fun w => shl64 w s0.2.1 .u64 8 (by decide))) ?_
      refine TL_v rfl rfl rfl (V_move rfl) ?_
      refine TL_v rfl rfl rfl (V_move rfl) ?_
      refine TL_v rfl rfl rfl (V_bin rfl rfl (fun w => addI w 8 s0.2.2)) ?_
      obtain ⟨h2, H⟩ := if_elim H
      refine TL_v rfl rfl rfl (V_idxStr rfl rfl (i := w64 (8 + s0.2.2)) Try.underlying9 h2.1 h2.2) ?_
      refine TL_v rfl rfl rfl (V_conv rfl (fun w => cv8to64 w _ _ Try.underlying81 (TryI.und5) (sg s_ (w64 (8 + s0.2.2))))) ?_
      refine TL_v rfl rfl rfl (V_bin rfl rfl (fun w => or64 w (s0.2.1 <<< 8) ((sg s_ (w64 (8 + s0.2.2))).setWidth 64))) ?_
      refine TL_v rfl rfl rfl (V_assign rfl) ?_
      obtain ⟨b1, hb1, H⟩ := ltt_elim H
      refine TL_re (d := 5) (v := v64 ((s0.2.1 <<< 8) ||| ((sg s_ (w64 (8 + s0.2.2))).setWidth 64))) (v' := v64 b1) rfl (congrArg v64 hb1) ?_
      refine TL_nil ?_
      refine TX_block_normal ?_
      refine TX_next ?_
      refine TC_region ?_
      refine TL_v rfl rfl rfl (V_move rfl) ?_
      refine TL_v rfl rfl rfl (V_bin rfl rfl (fun w => addI w s0.2.2 1)) ?_
      refine TL_v rfl rfl rfl (V_assign rfl) ?_
      obtain ⟨i1, hi1, H⟩ := ltt_elim H
      refine TL_re (d := 6) (v := vi (w64 (s0.2.2 + 1))) (v' := vi i1) rfl (congrArg vi hi1) ?_
      refine TL_nil ?_
      refine TX.sub (m' := [(0, vs s_), (4, v64 a_1), (5, v64 b1), (6, vi i1)]) ⟨rfl, rfl, rfl, rfl, trivial⟩ ?_
      refine TX.pull (is := []) (L' := []) rfl ?_
      obtain rfl := Option.some.inj H
      exact fun a w hs => hK (a_1, b1, i1) rfl () a w hs
    · replace H := ite_f (of_decide_eq_false hc) H
      refine TC_exit ?_
      refine TX_then_exit ?_
      refine TX_then_exit ?_
      refine TX.sub (m' := [(4, v64 s0.1), (5, v64 s0.2.1)]) ⟨rfl, rfl, trivial⟩ ?_
      refine TX.pull (is := []) (L' := []) rfl ?_
      obtain rfl := Option.some.inj H
      exact hE (s0.1, s0.2.1) rfl ()
  · intro g
    refine TX_block_exit ?_
    refine TX_next ?_
    refine TC_seq ?_
    refine TC_region ?_
    refine TL_v rfl rfl rfl (V_move rfl) ?_
    refine TL_v rfl rfl rfl (V_move rfl) ?_
    refine TL_v rfl rfl rfl (V_assign rfl) ?_
    refine TL_v rfl rfl rfl (V_assign rfl) ?_
    refine TL_nil ?_
    refine TX_next ?_
    refine TC_ret ?_
    have hrv := Option.some.inj H
    subst hrv
    exact TX_ret (rs := [.tmp 2, .tmp 3]) (vs := [v64 t_1.1, v64 t_1.2]) rfl ⟨rfl, rfl, trivial⟩ (fun w' hs' => ⟨(), rfl, Step.left (Step.pulled (is := []) (A := []) hs' rfl)⟩)

end Go.Proofs
end

section
namespace Go.Proofs
open Go Go.Kx
set_option linter.unusedVariables false
set_option linter.unusedSimpArgs false
def halberdref4_times.b0  (s0 : BitVec 64 × BitVec 64 × BitVec 64 × BitVec 64 × BitVec 64 × BitVec 64 × Int) : Option ((BitVec 64 × BitVec 64 × BitVec 64 × BitVec 64 × BitVec 64 × BitVec 64 × Int) ⊕ (BitVec 64 × BitVec 64)) :=
  if s0.2.2.2.2.2.2 < 128 then ((if 63 < s0.2.2.2.2.2.2 then (ltt (s0.2.1 >>> 63) fun (bit1 : BitVec 64) => (some (s0.1, s0.2.1 <<< 1, bit1))) else (some (s0.1 <<< 1, s0.2.1, s0.1 >>> 63))).bind fun (j1 : BitVec 64 × BitVec 64 × BitVec 64) => ((if j1.2.2 = 1#64 then (ltt (s0.2.2.2.2.1 ^^^ s0.2.2.1) fun (x1 : BitVec 64) => (ltt (s0.2.2.2.2.2.1 ^^^ s0.2.2.2.1) fun (y1 : BitVec 64) => (some (x1, y1)))) else (some (s0.2.2.2.2.1, s0.2.2.2.2.2.1))).bind fun (j2 : BitVec 64 × BitVec 64) => (ltt (s0.2.2.2.1 &&& 1#64) fun (low1 : BitVec 64) => (ltt ((s0.2.2.2.1 >>> 1) ||| (s0.2.2.1 <<< 63)) fun (d1 : BitVec 64) => (ltt (s0.2.2.1 >>> 1) fun (c1 : BitVec 64) => (if low1 = 1#64 then (ltt (c1 ^^^ 16212958658533785600#64) fun (c2 : BitVec 64) => (ltt (w64 (s0.2.2.2.2.2.2 + 1)) fun (i1 : Int) => (some (.inl (j1.1, j1.2.1, c2, d1, j2.1, j2.2, i1))))) else (ltt (w64 (s0.2.2.2.2.2.2 + 1)) fun (i2 : Int) => (some (.inl (j1.1, j1.2.1, c1, d1, j2.1, j2.2, i2)))))))))) else (some (.inr (s0.2.2.2.2.1, s0.2.2.2.2.2.1)))

def halberdref4_times (a_ : BitVec 64) (b : BitVec 64) (c : BitVec 64) (d : BitVec 64) : Option (BitVec 64 × BitVec 64) :=
  (loop (halberdref4_times.b0) BIG (a_, b, c, d, 0#64, 0#64, 0)).bind fun (t_1 : BitVec 64 × BitVec 64) => (some (t_1.1, t_1.2))

set_option maxHeartbeats 4000000 in
set_option maxRecDepth 20000 in
theorem F93_calls (a_ : BitVec 64) (b : BitVec 64) (c : BitVec 64) (d : BitVec 64) (r : BitVec 64 × BitVec 64) (H : halberdref4_times a_ b c d = some r) :
    Does Try.prog 93 [v64 a_, v64 b, v64 c, v64 d] [] [] (Γ := Unit) (fun g => Value.tuple [v64 r.1, v64 r.2].toArray) (fun g => []) := by
  intro w hmem hro hd
  refine calls_of (N := 52) (m0 := [(0, v64 a_), (1, v64 b), (2, v64 c), (3, v64 d)]) Try.func93 rfl Try.ntmps93 (argM_ok [v64 a_, v64 b, v64 c, v64 d]) rfl hmem hro hd ?_
  unfold halberdref4_times at H
  refine TC_seq ?_
  refine TC_region ?_
  refine TL_v rfl rfl rfl (V_assign rfl) ?_
  refine TL_v rfl rfl rfl (V_assign rfl) ?_
  refine TL_nil ?_
  refine TX_next ?_
  refine TC_seq ?_
  refine TC_region ?_
  refine TL_v rfl rfl rfl (V_assign rfl) ?_
  refine TL_v rfl rfl rfl (V_assign rfl) ?_
  refine TL_nil ?_
  refine TX_next ?_
  refine TC_seq ?_
  refine TC_seq ?_
  refine TC_region ?_
  refine TL_v rfl rfl rfl (V_assign rfl) ?_
  refine TL_nil ?_
  refine TX_next ?_
  refine TC_block ?_
  obtain ⟨t_1, Hl, H⟩ := bind_elim H
  refine TC.sub (m' := [(0, v64 a_), (1, v64 b), (2, v64 c), (3, v64 d), (10, v64 0#64), (11, v64 0#64), (12, vi 0)]) ⟨rfl, rfl, rfl, rfl, rfl, rfl, rfl, trivial⟩ ?_
  refine TC.pull (is := []) (L' := []) rfl ?_
  refine TC_loopL (id := 0) (body := (halberdref4_times.b0)) (σ := BitVec 64 × BitVec 64 × BitVec 64 × BitVec 64 × BitVec 64 × BitVec 64 × Int) (Γ := Unit) (Γx := Unit) (fun s0 g0_ => [(0, v64 s0.1), (1, v64 s0.2.1), (2, v64 s0.2.2.1), (3, v64 s0.2.2.2.1), (10, v64 s0.2.2.2.2.1), (11, v64 s0.2.2.2.2.2.1), (12, vi s0.2.2.2.2.2.2)]) (fun s0 g0_ => []) (fun t g => [(10, v64 t.1), (11, v64 t.2)]) (fun t g => []) ?_ BIG (a_, b, c, d, 0#64, 0#64, 0) () t_1 Hl ?_
  · intro s0 g0_ r1 H K hK hE
    unfold halberdref4_times.b0 at H
    refine TC_seq ?_
    refine TC_seq ?_
    refine TC_region ?_
    refine TL_v rfl rfl rfl (V_move rfl) ?_
    refine TL_v rfl rfl rfl (V_bin rfl rfl (fun w => lssI w s0.2.2.2.2.2.2 128)) ?_
    refine TL_nil ?_
    refine TX_next ?_
    refine TC_cond (b := (decide (s0.2.2.2.2.2.2 < 128))) rfl (fun hc => ?_) (fun hc => ?_)
    · replace H := ite_t (of_decide_eq_true hc) H
      refine TC_skip ?_
      refine TX_next ?_
      refine TC_seq ?_
      refine TC_block ?_
      refine TC_seq ?_
      refine TC_region ?_
      refine TL_v rfl rfl rfl (V_move rfl) ?_
      refine TL_v rfl rfl rfl (V_bin rfl rfl (fun w => shr64 w s0.1 .u64 63 (by decide))) ?_
      refine TL_v rfl rfl rfl (V_assign rfl) ?_
      refine TL_nil ?_
      refine TX_next ?_
      refine TC_seq ?_
      refine TC_seq ?_
      refine TC_region ?_
      refine TL_v rfl rfl rfl (V_move rfl) ?_
      refine TL_v rfl rfl rfl (V_bin rfl rfl (fun w => gtrI w s0.2.2.2.2.2.2 63)) ?_
      refine TL_nil ?_
      refine TX_next ?_
      obtain ⟨j1, Hj, H⟩ := bind_elim H
      refine TC_join (Γ := Unit) (fun gj1 => [(0, v64 j1.1), (1, v64 j1.2.1), (2, v64 s0.2.2.1), (3, v64 s0.2.2.2.1), (10, v64 s0.2.2.2.2.1), (11, v64 s0.2.2.2.2.2.1), (12, vi s0.2.2.2.2.2.2), (13, v64 j1.2.2)]) (fun gj1 => []) ?_ ?_
      · intro gj1
        refine TX_next ?_
        refine TC_seq ?_
        refine TC_seq ?_
        refine TC_region ?_
        refine TL_v rfl rfl rfl (V_move rfl) ?_
        refine TL_v rfl rfl rfl (V_bin rfl rfl (fun w => eql64 w j1.2.2 1#64)) ?_
        refine TL_nil ?_
        refine TX_next ?_
        obtain ⟨j2, Hj, H⟩ := bind_elim H
        refine TC_join (Γ := Unit) (fun gj2 => [(0, v64 j1.1), (1, v64 j1.2.1), (2, v64 s0.2.2.1), (3, v64 s0.2.2.2.1), (10, v64 j2.1), (11, v64 j2.2), (12, vi s0.2.2.2.2.2.2)]) (fun gj2 => []) ?_ ?_
        · intro gj2
          refine TX_next ?_
          refine TC_seq ?_
          refine TC_region ?_
          refine TL_v rfl rfl rfl (V_move rfl) ?_
          refine TL_v rfl rfl rfl (V_bin rfl rfl (fun w => and64 w s0.2.2.2.1 1#64)) ?_
          refine TL_v rfl rfl rfl (V_assign rfl) ?_
          obtain ⟨low1, hlow1, H⟩ := ltt_elim H
          refine TL_re (d := 14) (v := v64 (s0.2.2.2.1 &&& 1#64)) (v' := v64 low1) rfl (congrArg v64 hlow1) ?_
          refine TL_nil ?_
          refine TX_next ?_
          refine TC_seq ?_
          refine TC_region ?_
          refine TL_v rfl rfl rfl (V_move rfl) ?_
          refine TL_v rfl rfl rfl (V_bin rfl rfl (fun w => shr64 w s0.2.2.2.1 .u64 1 (by decide))) ?_
          refine TL_v rfl rfl rfl (V_move rfl) ?_
          refine TL_v rfl rfl rfl (V_bin rfl rfl (fun w => shl64 w s0.2.2.1 .u64 63 (by decide))) ?_
          refine TL_v rfl rfl rfl (V_bin rfl rfl (fun w => or64 w (s0.2.2.2.1 >>> 1) (s0.2.2.1 <<< 63))) ?_
          refine TL_v rfl rfl rfl (V_assign rfl) ?_
          obtain ⟨d1, hd1, H⟩ := ltt_elim H
          refine TL_re (d := 3) (v := v64 ((s0.2.2.2.1 >>> 1) ||| (s0.2.2.1 <<< 63))) (v' := v64 d1) rfl (congrArg v64 hd1) ?_
          refine TL_nil ?_
          refine TX_next ?_
          refine TC_seq ?_
          refine TC_region ?_
          refine TL_v rfl rfl rfl (V_move rfl) ?_
          refine TL_v rfl rfl rfl (V_bin rfl rfl (fun w => shr64 w s0.2.2.1 .u64 1 (by decide))) ?_
          refine TL_v rfl rfl rfl (V_assign rfl) ?_
          obtain ⟨c1, hc1, H⟩ := ltt_elim H
          refine TL_re (d := 2) (v := v64 (s0.2.2.1 >>> 1)) (v' := v64 c1) rfl (congrArg v64 hc1) ?_
          refine TL_nil ?_
          refine TX_next ?_
          refine TC_seq ?_
          refine TC_region ?_
          refine TL_v rfl rfl rfl (V_move rfl) ?_
          refine TL_v rfl rfl rfl (V_bin rfl rfl (fun w => eql64 w low1 1#64)) ?_
          refine TL_nil ?_
          refine TX_next ?_
          refine TC_cond (b := (decide (low1 = 1#64))) rfl (fun hc => ?_) (fun hc => ?_)
          · replace H := ite_t (of_decide_eq_true hc) H
            refine TC_region ?_
            refine TL_v rfl rfl rfl (V_move rfl) ?_
            refine TL_v rfl rfl rfl (V_bin rfl rfl (fun w => xor64 w c1 16212958658533785600#64)) ?_
            refine TL_v rfl rfl rfl (V_assign rfl) ?_
            obtain ⟨c2, hc2, H⟩ := ltt_elim H
            refine TL_re (d := 2) (v := v64 (c1 ^^^ 16212958658533785600#64)) (v' := v64 c2) rfl (congrArg v64 hc2) ?_
            refine TL_nil ?_
            refine TX_block_normal ?_
            refine TX_next ?_
            refine TC_region ?_
            refine TL_v rfl rfl rfl (V_move rfl) ?_
            refine TL_v rfl rfl rfl (V_bin rfl rfl (fun w => addI w s0.2.2.2.2.2.2 1)) ?_
            refine TL_v rfl rfl rfl (V_assign rfl) ?_
            obtain ⟨i1, hi1, H⟩ := ltt_elim H
            refine TL_re (d := 12) (v := vi (w64 (s0.2.2.2.2.2.2 + 1))) (v' := vi i1) rfl (congrArg vi hi1) ?_
            refine TL_nil ?_
            refine TX.sub (m' := [(0, v64 j1.1), (1, v64 j1.2.1), (2, v64 c2), (3, v64 d1), (10, v64 j2.1), (11, v64 j2.2), (12, vi i1)]) ⟨rfl, rfl, rfl, rfl, rfl, rfl, rfl, trivial⟩ ?_
            refine TX.pull (is := []) (L' := []) rfl ?_
            obtain rfl := Option.some.inj H
            exact fun a w hs => hK (j1.1, j1.2.1, c2, d1, j2.1, j2.2, i1) rfl () a w hs
          · replace H := ite_f (of_decide_eq_false hc) H
            refine TC_skip ?_
            refine TX_block_normal ?_
            refine TX_next ?_
            refine TC_region ?_
            refine TL_v rfl rfl rfl (V_move rfl) ?_
            refine TL_v rfl rfl rfl (V_bin rfl rfl (fun w => addI w s0.2.2.2.2.2.2 1)) ?_
            refine TL_v rfl rfl rfl (V_assign rfl) ?_
            obtain ⟨i2, hi2, H⟩ := ltt_elim H
            refine TL_re (d := 12) (v := vi (w64 (s0.2.2.2.2.2.2 + 1))) (v' := vi i2) rfl (congrArg vi hi2) ?_
            refine TL_nil ?_
            refine TX.sub (m' := [(0, v64 j1.1), (1, v64 j1.2.1), (2, v64 c1), (3, v64 d1), (10, v64 j2.1), (11, v64 j2.2), (12, vi i2)]) ⟨rfl, rfl, rfl, rfl, rfl, rfl, rfl, trivial⟩ ?_
            refine TX.pull (is := []) (L' := []) rfl ?_
            obtain rfl := Option.some.inj H
            exact fun a w hs => hK (j1.1, j1.2.1, c1, d1, j2.1, j2.2, i2) rfl () a w hs
        · intro hJ
          replace H := Hj
          refine TC_cond (b := (decide (j1.2.2 = 1#64))) rfl (fun hc => ?_) (fun hc => ?_)
          · replace H := ite_t (of_decide_eq_true hc) H
            refine TC_seq ?_
            refine TC_region ?_
            refine TL_v rfl rfl rfl (V_move rfl) ?_
            refine TL_v rfl rfl rfl (V_move rfl) ?_
            refine TL_v rfl rfl rfl (V_bin rfl rfl (fun w => xor64 w s0.2.2.2.2.1 s0.2.2.1)) ?_
            refine TL_v rfl rfl rfl (V_assign rfl) ?_
            obtain ⟨x1, hx1, H⟩ := ltt_elim H
            refine TL_re (d := 10) (v := v64 (s0.2.2.2.2.1 ^^^ s0.2.2.1)) (v' := v64 x1) rfl (congrArg v64 hx1) ?_
            refine TL_nil ?_
            refine TX_next ?_
            refine TC_region ?_
            refine TL_v rfl rfl rfl (V_move rfl) ?_
            refine TL_v rfl rfl rfl (V_move rfl) ?_
            refine TL_v rfl rfl rfl (V_bin rfl rfl (fun w => xor64 w s0.2.2.2.2.2.1 s0.2.2.2.1)) ?_
            refine TL_v rfl rfl rfl (V_assign rfl) ?_
            obtain ⟨y1, hy1, H⟩ := ltt_elim H
            refine TL_re (d := 11) (v := v64 (s0.2.2.2.2.2.1 ^^^ s0.2.2.2.1)) (v' := v64 y1) rfl (congrArg v64 hy1) ?_
            refine TL_nil ?_
            refine TX.sub (m' := [(0, v64 j1.1), (1, v64 j1.2.1), (2, v64 s0.2.2.1), (3, v64 s0.2.2.2.1), (10, v64 x1), (11, v64 y1), (12, vi s0.2.2.2.2.2.2)]) ⟨rfl, rfl, rfl, rfl, rfl, rfl, rfl, trivial⟩ ?_
            refine TX.pull (is := []) (L' := []) rfl ?_
            obtain rfl := Option.some.inj H
            exact hJ ()
          · replace H := ite_f (of_decide_eq_false hc) H
            refine TC_skip ?_
            refine TX.sub (m' := [(0, v64 j1.1), (1, v64 j1.2.1), (2, v64 s0.2.2.1), (3, v64 s0.2.2.2.1), (10, v64 s0.2.2.2.2.1), (11, v64 s0.2.2.2.2.2.1), (12, vi s0.2.2.2.2.2.2)]) ⟨rfl, rfl, rfl, rfl, rfl, rfl, rfl, trivial⟩ ?_
            refine TX.pull (is := []) (L' := []) rfl ?_
            obtain rfl := Option.some.inj H
            exact hJ ()
      · intro hJ
        replace H := Hj
        refine TC_cond (b := (decide (63 < s0.2.2.2.2.2.2))) rfl (fun hc => ?_) (fun hc => ?_)
        · replace H := ite_t (of_decide_eq_true hc) H
          refine TC_seq ?_
          refine TC_region ?_
          refine TL_v rfl rfl rfl (V_move rfl) ?_
          refine TL_v rfl rfl rfl (V_bin rfl rfl (fun w => shr64 w s0.2.1 .u64 63 (by decide))) ?_
          refine TL_v rfl rfl rfl (V_assign rfl) ?_
          obtain ⟨bit1, hbit1, H⟩ := ltt_elim H
          refine TL_re (d := 13) (v := v64 (s0.2.1 >>> 63)) (v' := v64 bit1) rfl (congrArg v64 hbit1) ?_
          refine TL_nil ?_
          refine TX_next ?_
          refine TC_region ?_
          refine TL_v rfl rfl rfl (V_move rfl) ?_
          refine TL_v rfl rfl rfl (V_bin rfl rfl (fun w => shl64 w s0.2.1 .u64 1 (by decide))) ?_
          refine TL_v rfl rfl rfl (V_assign rfl) ?_
          refine TL_nil ?_
          refine TX.sub (m' := [(0, v64 s0.1), (1, v64 (s0.2.1 <<< 1)), (2, v64 s0.2.2.1), (3, v64 s0.2.2.2.1), (10, v64 s0.2.2.2.2.1), (11, v64 s0.2.2.2.2.2.1), (12, vi s0.2.2.2.2.2.2), (13, v64 bit1)]) ⟨rfl, rfl, rfl, rfl, rfl, rfl, rfl, rfl, trivial⟩ ?_
          refine TX.pull (is := []) (L' := []) rfl ?_
          obtain rfl := Option.some.inj H
          exact hJ ()
        · replace H := ite_f (of_decide_eq_false hc) H
          refine TC_region ?_
          refine TL_v rfl rfl rfl (V_move rfl) ?_
          refine TL_v rfl rfl rfl (V_bin rfl rfl (fun w => shl64 w s0.1 .u64 1 (by decide))) ?_
          refine TL_v rfl rfl rfl (V_assign rfl) ?_
          refine TL_nil ?_
          refine TX.sub (m' := [(0, v64 (s0.1 <<< 1)), (1, v64 s0.2.1), (2, v64 s0.2.2.1), (3, v64 s0.2.2.2.1), (10, v64 s0.2.2.2.2.1), (11, v64 s0.2.2.2.2.2.1), (12, vi s0.2.2.2.2.2.2), (13, v64 (s0.1 >>> 63))]) ⟨rfl, rfl, rfl, rfl, rfl, rfl, rfl, rfl, trivial⟩ ?_
          refine TX.pull (is := []) (L' := []) rfl ?_
          obtain rfl := Option.some.inj H
          exact hJ ()
    · replace H := ite_f (of_decide_eq_false hc) H
      refine TC_exit ?_
      refine TX_then_exit ?_
      refine TX_then_exit ?_
      refine TX.sub (m' := [(10, v64 s0.2.2.2.2.1), (11, v64 s0.2.2.2.2.2.1)]) ⟨rfl, rfl, trivial⟩ ?_
      refine TX.pull (is := []) (L' := []) rfl ?_
      obtain rfl := Option.some.inj H
      exact hE (s0.2.2.2.2.1, s0.2.2.2.2.2.1) rfl ()
  · intro g
    refine TX_block_exit ?_
    refine TX_next ?_
    refine TC_seq ?_
    refine TC_region ?_
    refine TL_v rfl rfl rfl (V_move rfl) ?_
    refine TL_v rfl rfl rfl (V_move rfl) ?_
    refine TL_v rfl rfl rfl (V_assign rfl) ?_
    refine TL_v rfl rfl rfl (V_assign rfl) ?_
    refine TL_nil ?_
    refine TX_next ?_
    refine TC_ret ?_
    have hrv := Option.some.inj H
    subst hrv
    exact TX_ret (rs := [.tmp 8, .tmp 9]) (vs := [v64 t_1.1, v64 t_1.2]) rfl ⟨rfl, rfl, trivial⟩ (fun w' hs' => ⟨(), rfl, Step.left (Step.pulled (is := []) (A := []) hs' rfl)⟩)

end Go.Proofs
end

section
namespace Go.Proofs
open Go Go.Kx
set_option linter.unusedVariables false
set_option linter.unusedSimpArgs false
def halberdref4_whole.b0  (s0 : BitVec 64 × BitVec 64 × Int × List (BitVec 8)) : Option ((BitVec 64 × BitVec 64 × Int × List (BitVec 8)) ⊕ (List (BitVec 8))) :=
  if 0 ≤ s0.2.2.1 then (if 0 ≤ s0.2.2.1 ∧ s0.2.2.1 < (16 : Int) then (if (s0.2.2.1).toNat < (s0.2.2.2).length then (ltt (s0.2.2.2.set ((s0.2.2.1).toNat) ((s0.1 &&& 255#64).setWidth 8)) fun (m_1 : List (BitVec 8)) => (if 0 ≤ w64 (8 + s0.2.2.1) ∧ w64 (8 + s0.2.2.1) < (16 : Int) then (if (w64 (8 + s0.2.2.1)).toNat < (m_1).length then (ltt (m_1.set ((w64 (8 + s0.2.2.1)).toNat) ((s0.2.1 &&& 255#64).setWidth 8)) fun (m_2 : List (BitVec 8)) => (ltt (w64 (s0.2.2.1 - 1)) fun (i1 : Int) => (some (.inl (s0.1 >>> 8, s0.2.1 >>> 8, i1, m_2))))) else none) else none)) else none) else none) else (some (.inr s0.2.2.2))

def halberdref4_whole (a_ : BitVec 64) (b : BitVec 64) : Option (Str) :=
  (loop (halberdref4_whole.b0) BIG (a_, b, 7, List.replicate 16 0#8)).bind fun (t_1 : List (BitVec 8)) => (if (t_1).length = 16 then (some t_1) else none)

set_option maxHeartbeats 4000000 in
set_option maxRecDepth 20000 in
theorem F94_calls (a_ : BitVec 64) (b : BitVec 64) (r : Str) (H : halberdref4_whole a_ b = some r) :
    Does Try.prog 94 [v64 a_, v64 b] [] [] (Γ := Unit) (fun g => vs r) (fun g => []) := by
  intro w hmem hro hd
  refine calls_of (N := 31) (m0 := [(0, v64 a_), (1, v64 b)]) Try.func94 rfl Try.ntmps94 (argM_ok [v64 a_, v64 b]) rfl hmem hro hd ?_
  unfold halberdref4_whole at H
  refine TC_seq ?_
  refine TC_region ?_
  refine TL_v rfl rfl rfl (V_assign rfl) ?_
  refine TL_nil ?_
  refine TX_next ?_
  refine TC_seq ?_
  refine TC_region ?_
  refine TL_e rfl rfl rfl (E_mk1 rfl rfl Try.underlying30 TryI.inf5 (z := v8 0#8) rfl rfl rfl (B := 1) rfl (by decide) (Int.le_refl _) (by decide) (by decide) (n' := 16) (c' := 16) rfl rfl (cs := e8 (List.replicate 16 0#8)) (rep_map (f := v8))) (fun b1 => ?_)
  refine TL_v rfl rfl rfl (V_assign rfl) ?_
  refine TL_nil ?_
  refine TX_next ?_
  refine TC_seq ?_
  refine TC_seq ?_
  refine TC_region ?_
  refine TL_v rfl rfl rfl (V_assign rfl) ?_
  refine TL_nil ?_
  refine TX_next ?_
  refine TC_block ?_
  obtain ⟨t_1, Hl, H⟩ := bind_elim H
  refine TC.sub (m' := [(0, v64 a_), (1, v64 b), (5, sl (some (b1, 0)) 16 16), (6, vi 7)]) ⟨rfl, rfl, rfl, rfl, trivial⟩ ?_
  refine TC.pull (is := [0]) (L' := [⟨some (b1, 0), e8 (List.replicate 16 0#8)⟩]) rfl ?_
  refine TC_loopL (id := 0) (body := (halberdref4_whole.b0)) (σ := BitVec 64 × BitVec 64 × Int × List (BitVec 8)) (Γ := Unit) (Γx := Unit) (fun s0 g0_ => [(0, v64 s0.1), (1, v64 s0.2.1), (5, sl (some (b1, 0)) 16 16), (6, vi s0.2.2.1)]) (fun s0 g0_ => [⟨some (b1, 0), e8 s0.2.2.2⟩]) (fun t g => [(5, sl (some (b1, 0)) 16 16)]) (fun t g => [⟨some (b1, 0), e8 t⟩]) ?_ BIG (a_, b, 7, List.replicate 16 0#8) () t_1 Hl ?_
  · intro s0 g0_ r1 H K hK hE
    unfold halberdref4_whole.b0 at H
    refine TC_seq ?_
    refine TC_seq ?_
    refine TC_region ?_
    refine TL_v rfl rfl rfl (V_move rfl) ?_
    refine TL_v rfl rfl rfl (V_bin rfl rfl (fun w => geqI w s0.2.2.1 0)) ?_
    refine TL_nil ?_
    refine TX_next ?_
    refine TC_cond (b := (decide (0 ≤ s0.2.2.1))) rfl (fun hc => ?_) (fun hc => ?_)
    · replace H := ite_t (of_decide_eq_true hc) H
      refine TC_skip ?_
      refine TX_next ?_
      refine TC_seq ?_
      refine TC_block ?_
      refine TC_seq ?_
      refine TC_region ?_
      refine TL_v rfl rfl rfl (V_move rfl) ?_
      refine TL_v rfl rfl rfl (V_move rfl) ?_
      refine TL_v rfl rfl rfl (V_move rfl) ?_
      refine TL_v rfl rfl rfl (V_bin rfl rfl (fun w => and64 w s0.1 255#64)) ?_
      refine TL_v rfl rfl rfl (V_conv rfl (fun w => cv64to8 w _ _ Try.underlying5 (TryI.und81) (s0.1 &&& 255#64))) ?_
      obtain ⟨h1, H⟩ := if_elim H
      obtain ⟨h2, H⟩ := if_elim H
      refine TL_v rfl rfl rfl (V_idxSl (i := s0.2.2.1) rfl rfl Try.underlying30 TryI.inf5 rfl (fun _ h => by cases h) h1.1 h1.2 (k := (s0.2.2.1).toNat) (km1 _)) ?_
      refine TL_n rfl rfl (E_store (j := 0) rfl rfl TryI.inf5 rfl rfl rfl (by simpa using h2) (cs' := e8 (s0.2.2.2.set ((s0.2.2.1).toNat) ((s0.1 &&& 255#64).setWidth 8))) (set_map (f := v8) (l := s0.2.2.2) (k := ((s0.2.2.1).toNat)) (x := ((s0.1 &&& 255#64).setWidth 8)))) (fun _ => ?_)
      obtain ⟨m_1, hm_1, H⟩ := ltt_elim H
      refine TL_reE (j := 0) (A := some (b1, 0)) (cs := e8 (s0.2.2.2.set ((s0.2.2.1).toNat) ((s0.1 &&& 255#64).setWidth 8))) (cs' := e8 m_1) rfl (congrArg (e8) hm_1) ?_
      refine TL_nil ?_
      refine TX_next ?_
      refine TC_seq ?_
      refine TC_region ?_
      refine TL_v rfl rfl rfl (V_move rfl) ?_
      refine TL_v rfl rfl rfl (V_move rfl) ?_
      refine TL_v rfl rfl rfl (V_bin rfl rfl (fun w => addI w 8 s0.2.2.1)) ?_
      refine TL_v rfl rfl rfl (V_move rfl) ?_
      refine TL_v rfl rfl rfl (V_bin rfl rfl (fun w => and64 w s0.2.1 255#64)) ?_
      refine TL_v rfl rfl rfl (V_conv rfl (fun w => cv64to8 w _ _ Try.underlying5 (TryI.und81) (s0.2.1 &&& 255#64))) ?_
      obtain ⟨h3, H⟩ := if_elim H
      obtain ⟨h4, H⟩ := if_elim H
      refine TL_v rfl rfl rfl (V_idxSl (i := w64 (8 + s0.2.2.1)) rfl rfl Try.underlying30 TryI.inf5 rfl (fun _ h => by cases h) h3.1 h3.2 (k := (w64 (8 + s0.2.2.1)).toNat) (km1 _)) ?_
      refine TL_n rfl rfl (E_store (j := 0) rfl rfl TryI.inf5 rfl rfl rfl (by simpa using h4) (cs' := e8 (m_1.set ((w64 (8 + s0.2.2.1)).toNat) ((s0.2.1 &&& 255#64).setWidth 8))) (set_map (f := v8) (l := m_1) (k := ((w64 (8 + s0.2.2.1)).toNat)) (x := ((s0.2.1 &&& 255#64).setWidth 8)))) (fun _ => ?_)
      obtain ⟨m_2, hm_2, H⟩ := ltt_elim H
      refine TL_reE (j := 0) (A := some (b1, 0)) (cs := e8 (m_1.set ((w64 (8 + s0.2.2.1)).toNat) ((s0.2.1 &&& 255#64).setWidth 8))) (cs' := e8 m_2) rfl (congrArg (e8) hm_2) ?_
      refine TL_nil ?_
      refine TX_next ?_
      refine TC_seq ?_
      refine TC_region ?_
      refine TL_v rfl rfl rfl (V_move rfl) ?_
      refine TL_v rfl rfl rfl (V_bin rfl rfl (fun w => shr64 w s0.1 .u64 8 (by decide))) ?_
      refine TL_v rfl rfl rfl (V_assign rfl) ?_
      refine TL_nil ?_
      refine TX_next ?_
      refine TC_region ?_
      refine TL_v rfl rfl rfl (V_move rfl) ?_
      refine TL_v rfl rfl rfl (V_bin rfl rfl (fun w => shr64 w s0.2.1 .u64 8 (by decide))) ?_
      refine TL_v rfl rfl rfl (V_assign rfl) ?_
      refine TL_nil ?_
      refine TX_block_normal ?_
      refine TX_next ?_
      refine TC_region ?_
      refine TL_v rfl rfl rfl (V_move rfl) ?_
      refine TL_v rfl rfl rfl (V_bin rfl rfl (fun w => subI w s0.2.2.1 1)) ?_
      refine TL_v rfl rfl rfl (V_assign rfl) ?_
      obtain ⟨i1, hi1, H⟩ := ltt_elim H
      refine TL_re (d := 6) (v := vi (w64 (s0.2.2.1 - 1))) (v' := vi i1) rfl (congrArg vi hi1) ?_
      refine TL_nil ?_
      refine TX.sub (m' := [(0, v64 (s0.1 >>> 8)), (1, v64 (s0.2.1 >>> 8)), (5, sl (some (b1, 0)) 16 16), (6, vi i1)]) ⟨rfl, rfl, rfl, rfl, trivial⟩ ?_
      refine TX.pull (is := [0]) (L' := [⟨some (b1, 0), e8 m_2⟩]) rfl ?_
      obtain rfl := Option.some.inj H
      exact fun a w hs => hK (s0.1 >>> 8, s0.2.1 >>> 8, i1, m_2) rfl () a w hs
    · replace H := ite_f (of_decide_eq_false hc) H
      refine TC_exit ?_
      refine TX_then_exit ?_
      refine TX_then_exit ?_
      refine TX.sub (m' := [(5, sl (some (b1, 0)) 16 16)]) ⟨rfl, trivial⟩ ?_
      refine TX.pull (is := [0]) (L' := [⟨some (b1, 0), e8 s0.2.2.2⟩]) rfl ?_
      obtain rfl := Option.some.inj H
      exact hE s0.2.2.2 rfl ()
  · intro g
    refine TX_block_exit ?_
    refine TX_next ?_
    refine TC_seq ?_
    refine TC_region ?_
    refine TL_v rfl rfl rfl (V_move rfl) ?_
    obtain ⟨h5, H⟩ := if_elim H
    refine TL_v rfl rfl rfl (V_b2s rfl Try.underlying30 Try.underlying5 Try.underlying9 (Src.own (j := 0) rfl) h5) ?_
    refine TL_v rfl rfl rfl (V_assign rfl) ?_
    refine TL_nil ?_
    refine TX_next ?_
    refine TC_ret ?_
    have hrv := Option.some.inj H
    subst hrv
    exact TX_ret (rs := [.tmp 4]) (vs := [vs t_1]) rfl ⟨rfl, trivial⟩ (fun w' hs' => ⟨(), rfl, Step.left (Step.pulled (is := []) (A := []) hs' rfl)⟩)

end Go.Proofs
end

section
namespace Go.Proofs
open Go Go.Kx
set_option linter.unusedVariables false
set_option linter.unusedSimpArgs false
def halberdref4_ghash.b0 (s_ : Str) (r_1 : BitVec 64 × BitVec 64) (s0 : BitVec 64 × BitVec 64 × Int) : Option ((BitVec 64 × BitVec 64 × Int) ⊕ (BitVec 64 × BitVec 64)) :=
  if (w64 (s0.2.2 + 16)) ≤ ((s_).length : Int) then (if 0 ≤ w64 (s0.2.2 + 16) then (if 0 ≤ s0.2.2 then (if (w64 (s0.2.2 + 16)).toNat ≤ (s_).length then (if (s0.2.2).toNat ≤ (w64 (s0.2.2 + 16)).toNat then ((halberdref4_halves (sub s_ ((s0.2.2).toNat) ((w64 (s0.2.2 + 16)).toNat))).bind fun (r_2 : BitVec 64 × BitVec 64) => ((halberdref4_times (s0.1 ^^^ r_2.1) (s0.2.1 ^^^ r_2.2) r_1.1 r_1.2).bind fun (r_3 : BitVec 64 × BitVec 64) => (ltt (w64 (s0.2.2 + 16)) fun (i1 : Int) => (some (.inl (r_3.1, r_3.2, i1)))))) else none) else none) else none) else none) else (some (.inr (s0.1, s0.2.1)))

def halberdref4_ghash (h : Str) (s_ : Str) : Option (Str) :=
  (halberdref4_halves h).bind fun (r_1 : BitVec 64 × BitVec 64) => ((loop (halberdref4_ghash.b0 s_ r_1) BIG (0#64, 0#64, 0)).bind fun (t_1 : BitVec 64 × BitVec 64) => ((halberdref4_whole t_1.1 t_1.2).bind fun (r_4 : Str) => (some r_4)))

set_option maxHeartbeats 4000000 in
set_option maxRecDepth 20000 in
theorem F73_calls (h : Str) (s_ : Str) (r : Str) (H : halberdref4_ghash h s_ = some r) :
    Does Try.prog 73 [vs h, vs s_] [] [] (Γ := Unit) (fun g => vs r) (fun g => []) := by
  intro w hmem hro hd
  refine calls_of (N := 48) (m0 := [(0, vs h), (1, vs s_)]) Try.func73 rfl Try.ntmps73 (argM_ok [vs h, vs s_]) rfl hmem hro hd ?_
  unfold halberdref4_ghash at H
  refine TC_seq ?_
  refine TC_region ?_
  refine TL_v rfl rfl rfl (V_assign rfl) ?_
  refine TL_nil ?_
  refine TX_next ?_
  refine TC_seq ?_
  refine TC_region ?_
  refine TL_v rfl rfl rfl (V_move rfl) ?_
  obtain ⟨r_1, hr_1, H⟩ := bind_elim H
  refine TL_e rfl rfl rfl (E_call (Γ := Unit) (val := fun g => Value.tuple [v64 r_1.1, v64 r_1.2].toArray) (mem := fun g => []) (vs := [vs h]) (Lin := []) (Ro := []) (is := []) rfl Try.call92 (F92_calls h r_1 hr_1) rfl trivial) (fun g_1 => ?_)
  refine TL_v rfl rfl rfl (V_move rfl) ?_
  refine TL_v rfl rfl rfl (V_extract (vs := [v64 r_1.1, v64 r_1.2]) rfl rfl) ?_
  refine TL_v rfl rfl rfl (V_extract (vs := [v64 r_1.1, v64 r_1.2]) rfl rfl) ?_
  refine TL_v rfl rfl rfl (V_assign rfl) ?_
  refine TL_v rfl rfl rfl (V_assign rfl) ?_
  refine TL_nil ?_
  refine TX_next ?_
  refine TC_seq ?_
  refine TC_region ?_
  refine TL_v rfl rfl rfl (V_assign rfl) ?_
  refine TL_v rfl rfl rfl (V_assign rfl) ?_
  refine TL_nil ?_
  refine TX_next ?_
  refine TC_seq ?_
  refine TC_seq ?_
  refine TC_region ?_
  refine TL_v rfl rfl rfl (V_assign rfl) ?_
  refine TL_nil ?_
  refine TX_next ?_
  refine TC_block ?_
  obtain ⟨t_1, Hl, H⟩ := bind_elim H
  refine TC.sub (m' := [(1, vs s_), (5, v64 r_1.1), (6, v64 r_1.2), (7, v64 0#64), (8, v64 0#64), (9, vi 0)]) ⟨rfl, rfl, rfl, rfl, rfl, rfl, trivial⟩ ?_
  refine TC.pull (is := []) (L' := []) rfl ?_
  refine TC_loopL (id := 0) (body := (halberdref4_ghash.b0 s_ r_1)) (σ := BitVec 64 × BitVec 64 × Int) (Γ := Unit) (Γx := Unit) (fun s0 g0_ => [(1, vs s_), (5, v64 r_1.1), (6, v64 r_1.2), (7, v64 s0.1), (8, v64 s0.2.1), (9, vi s0.2.2)]) (fun s0 g0_ => []) (fun t g => [(7, v64 t.1), (8, v64 t.2)]) (fun t g => []) ?_ BIG (0#64, 0#64, 0) () t_1 Hl ?_
  · intro s0 g0_ r1 H K hK hE
    unfold halberdref4_ghash.b0 at H
    refine TC_seq ?_
    refine TC_seq ?_
    refine TC_region ?_
    refine TL_v rfl rfl rfl (V_move rfl) ?_
    refine TL_v rfl rfl rfl (V_bin rfl rfl (fun w => addI w s0.2.2 16)) ?_
    refine TL_v rfl rfl rfl (V_move rfl) ?_
    refine TL_v rfl rfl rfl (V_len_str rfl Try.underlying9) ?_
    refine TL_v rfl rfl rfl (V_bin rfl rfl (fun w => leqI w (w64 (s0.2.2 + 16)) ((s_).length : Int))) ?_
    refine TL_nil ?_
    refine TX_next ?_
    refine TC_cond (b := (decide ((w64 (s0.2.2 + 16)) ≤ ((s_).length : Int)))) rfl (fun hc => ?_) (fun hc => ?_)
    · replace H := ite_t (of_decide_eq_true hc) H
      refine TC_skip ?_
      refine TX_next ?_
      refine TC_seq ?_
      refine TC_block ?_
      refine TC_seq ?_
      refine TC_region ?_
      refine TL_v rfl rfl rfl (V_move rfl) ?_
      refine TL_v rfl rfl rfl (V_move rfl) ?_
      refine TL_v rfl rfl rfl (V_move rfl) ?_
      refine TL_v rfl rfl rfl (V_bin rfl rfl (fun w => addI w s0.2.2 16)) ?_
      obtain ⟨h1, H⟩ := if_elim H
      obtain ⟨h2, H⟩ := if_elim H
      obtain ⟨h3, H⟩ := if_elim H
      obtain ⟨h4, H⟩ := if_elim H
      refine TL_v rfl rfl rfl (V_sliceStr (l := (s0.2.2).toNat) (h := (w64 (s0.2.2 + 16)).toNat) rfl Try.underlying9 (Bnd.some' (i := s0.2.2) rfl h2) (Bnd.some' (i := w64 (s0.2.2 + 16)) rfl h1) h4 h3) ?_
      obtain ⟨r_2, hr_2, H⟩ := bind_elim H
      refine TL_e rfl rfl rfl (E_call (Γ := Unit) (val := fun g => Value.tuple [v64 r_2.1, v64 r_2.2].toArray) (mem := fun g => []) (vs := [vs (sub s_ ((s0.2.2).toNat) ((w64 (s0.2.2 + 16)).toNat))]) (Lin := []) (Ro := []) (is := []) rfl Try.call92 (F92_calls (sub s_ ((s0.2.2).toNat) ((w64 (s0.2.2 + 16)).toNat)) r_2 hr_2) rfl trivial) (fun g_2 => ?_)
      refine TL_v rfl rfl rfl (V_move rfl) ?_
      refine TL_v rfl rfl rfl (V_extract (vs := [v64 r_2.1, v64 r_2.2]) rfl rfl) ?_
      refine TL_v rfl rfl rfl (V_extract (vs := [v64 r_2.1, v64 r_2.2]) rfl rfl) ?_
      refine TL_v rfl rfl rfl (V_assign rfl) ?_
      refine TL_v rfl rfl rfl (V_assign rfl) ?_
      refine TL_nil ?_
      refine TX_next ?_
      refine TC_region ?_
      refine TL_v rfl rfl rfl (V_move rfl) ?_
      refine TL_v rfl rfl rfl (V_move rfl) ?_
      refine TL_v rfl rfl rfl (V_bin rfl rfl (fun w => xor64 w s0.1 r_2.1)) ?_
      refine TL_v rfl rfl rfl (V_move rfl) ?_
      refine TL_v rfl rfl rfl (V_move rfl) ?_
      refine TL_v rfl rfl rfl (V_bin rfl rfl (fun w => xor64 w s0.2.1 r_2.2)) ?_
      refine TL_v rfl rfl rfl (V_move rfl) ?_
      refine TL_v rfl rfl rfl (V_move rfl) ?_
      obtain ⟨r_3, hr_3, H⟩ := bind_elim H
      refine TL_e rfl rfl rfl (E_call (Γ := Unit) (val := fun g => Value.tuple [v64 r_3.1, v64 r_3.2].toArray) (mem := fun g => []) (vs := [v64 (s0.1 ^^^ r_2.1), v64 (s0.2.1 ^^^ r_2.2), v64 r_1.1, v64 r_1.2]) (Lin := []) (Ro := []) (is := []) rfl Try.call93 (F93_calls (s0.1 ^^^ r_2.1) (s0.2.1 ^^^ r_2.2) r_1.1 r_1.2 r_3 hr_3) rfl trivial) (fun g_3 => ?_)
      refine TL_v rfl rfl rfl (V_move rfl) ?_
      refine TL_v rfl rfl rfl (V_extract (vs := [v64 r_3.1, v64 r_3.2]) rfl rfl) ?_
      refine TL_v rfl rfl rfl (V_extract (vs := [v64 r_3.1, v64 r_3.2]) rfl rfl) ?_
      refine TL_v rfl rfl rfl (V_assign rfl) ?_
      refine TL_v rfl rfl rfl (V_assign rfl) ?_
      refine TL_nil ?_
      refine TX_block_normal ?_
      refine TX_next ?_
      refine TC.sub (m' := [(1, vs s_), (5, v64 r_1.1), (6, v64 r_1.2), (7, v64 r_3.1), (8, v64 r_3.2), (9, vi s0.2.2)]) ⟨rfl, rfl, rfl, rfl, rfl, rfl, trivial⟩ ?_
      refine TC_region ?_
      refine TL_v rfl rfl rfl (V_move rfl) ?_
      refine TL_v rfl rfl rfl (V_bin rfl rfl (fun w => addI w s0.2.2 16)) ?_
      refine TL_v rfl rfl rfl (V_assign rfl) ?_
      obtain ⟨i1, hi1, H⟩ := ltt_elim H
      refine TL_re (d := 9) (v := vi (w64 (s0.2.2 + 16))) (v' := vi i1) rfl (congrArg vi hi1) ?_
      refine TL_nil ?_
      refine TX.sub (m' := [(1, vs s_), (5, v64 r_1.1), (6, v64 r_1.2), (7, v64 r_3.1), (8, v64 r_3.2), (9, vi i1)]) ⟨rfl, rfl, rfl, rfl, rfl, rfl, trivial⟩ ?_
      refine TX.pull (is := []) (L' := []) rfl ?_
      obtain rfl := Option.some.inj H
      exact fun a w hs => hK (r_3.1, r_3.2, i1) rfl () a w hs
    · replace H := ite_f (of_decide_eq_false hc) H
      refine TC_exit ?_
      refine TX_then_exit ?_
      refine TX_then_exit ?_
      refine TX.sub (m' := [(7, v64 s0.1), (8, v64 s0.2.1)]) ⟨rfl, rfl, trivial⟩ ?_
      refine TX.pull (is := []) (L' := []) rfl ?_
      obtain rfl := Option.some.inj H
      exact hE (s0.1, s0.2.1) rfl ()
  · intro g
    refine TX_block_exit ?_
    refine TX_next ?_
    refine TC_seq ?_
    refine TC_region ?_
    refine TL_v rfl rfl rfl (V_move rfl) ?_
    refine TL_v rfl rfl rfl (V_move rfl) ?_
    obtain ⟨r_4, hr_4, H⟩ := bind_elim H
    refine TL_e rfl rfl rfl (E_call (Γ := Unit) (val := fun g => vs r_4) (mem := fun g => []) (vs := [v64 t_1.1, v64 t_1.2]) (Lin := []) (Ro := []) (is := []) rfl Try.call94 (F94_calls t_1.1 t_1.2 r_4 hr_4) rfl trivial) (fun g_4 => ?_)
    refine TL_v rfl rfl rfl (V_assign rfl) ?_
    refine TL_nil ?_
    refine TX_next ?_
    refine TC_ret ?_
    have hrv := Option.some.inj H
    subst hrv
    exact TX_ret (rs := [.tmp 4]) (vs := [vs r_4]) rfl ⟨rfl, trivial⟩ (fun w' hs' => ⟨(), rfl, Step.left (Step.pulled (is := []) (A := []) hs' rfl)⟩)

end Go.Proofs
end

section
namespace Go.Proofs
open Go Go.Kx
set_option linter.unusedVariables false
set_option linter.unusedSimpArgs false
def halberdref4_filled (s_ : Str) : Option (Str) :=
  if 0 ≤ (w64 (16 - (((s_).length : Int).tmod 16))).tmod 16 ∧ (w64 (16 - (((s_).length : Int).tmod 16))).tmod 16 ≤ 17592186044416 then (if (List.replicate (((w64 (16 - (((s_).length : Int).tmod 16))).tmod 16).toNat) 0#8).length = ((w64 (16 - (((s_).length : Int).tmod 16))).tmod 16).toNat then (if (s_).length + (List.replicate (((w64 (16 - (((s_).length : Int).tmod 16))).tmod 16).toNat) 0#8).length ≤ 4611686018427387904 then (ltt (s_ ++ (List.replicate (((w64 (16 - (((s_).length : Int).tmod 16))).tmod 16).toNat) 0#8)) fun (x1 : Str) => (some x1)) else none) else none) else none

set_option maxHeartbeats 4000000 in
set_option maxRecDepth 20000 in
theorem F90_calls (s_ : Str) (r : Str) (H : halberdref4_filled s_ = some r) :
    Does Try.prog 90 [vs s_] [] [] (Γ := Unit) (fun g => vs r) (fun g => []) := by
  intro w hmem hro hd
  refine calls_of (N := 12) (m0 := [(0, vs s_)]) Try.func90 rfl Try.ntmps90 (argM_ok [vs s_]) rfl hmem hro hd ?_
  unfold halberdref4_filled at H
  refine TC_seq ?_
  refine TC_region ?_
  refine TL_v rfl rfl rfl (V_assign rfl) ?_
  refine TL_nil ?_
  refine TX_next ?_
  refine TC_seq ?_
  refine TC_region ?_
  refine TL_v rfl rfl rfl (V_move rfl) ?_
  refine TL_v rfl rfl rfl (V_move rfl) ?_
  refine TL_v rfl rfl rfl (V_len_str rfl Try.underlying9) ?_
  refine TL_v rfl rfl rfl (V_bin rfl rfl (fun w => remI w ((s_).length : Int) 16 (by decide))) ?_
  refine TL_v rfl rfl rfl (V_bin rfl rfl (fun w => subI w 16 (((s_).length : Int).tmod 16))) ?_
  refine TL_v rfl rfl rfl (V_bin rfl rfl (fun w => remI w (w64 (16 - (((s_).length : Int).tmod 16))) 16 (by decide))) ?_
  obtain ⟨h1, H⟩ := if_elim H
  refine TL_e rfl rfl rfl (E_mk1 rfl rfl Try.underlying30 TryI.inf5 (z := v8 0#8) rfl rfl rfl (B := 1) rfl h1.1 (Int.le_refl _) (by have := h1; omega) (by have := h1; omega) (n' := ((w64 (16 - (((s_).length : Int).tmod 16))).tmod 16).toNat) (c' := ((w64 (16 - (((s_).length : Int).tmod 16))).tmod 16).toNat) rfl rfl (cs := e8 (List.replicate (((w64 (16 - (((s_).length : Int).tmod 16))).tmod 16).toNat) 0#8)) (rep_map (f := v8))) (fun b1 => ?_)
  obtain ⟨h2, H⟩ := if_elim H
  refine TL_v rfl rfl rfl (V_b2s rfl Try.underlying30 Try.underlying5 Try.underlying9 (Src.own (j := 0) rfl) h2) ?_
  obtain ⟨h3, H⟩ := if_elim H
  refine TL_v rfl rfl rfl (V_bin rfl rfl (fun w => addS w s_ (List.replicate (((w64 (16 - (((s_).length : Int).tmod 16))).tmod 16).toNat) 0#8) h3)) ?_
  refine TL_v rfl rfl rfl (V_assign rfl) ?_
  obtain ⟨x1, hx1, H⟩ := ltt_elim H
  refine TL_re (d := 2) (v := vs (s_ ++ (List.replicate (((w64 (16 - (((s_).length : Int).tmod 16))).tmod 16).toNat) 0#8))) (v' := vs x1) rfl (congrArg vs hx1) ?_
  refine TL_nil ?_
  refine TX_next ?_
  refine TC_ret ?_
  have hrv := Option.some.inj H
  subst hrv
  exact TX_ret (rs := [.tmp 2]) (vs := [vs x1]) rfl ⟨rfl, trivial⟩ (fun w' hs' => ⟨(), rfl, Step.left (Step.pulled (is := []) (A := []) hs' rfl)⟩)

end Go.Proofs
end

section
namespace Go.Proofs
open Go Go.Kx
set_option linter.unusedVariables false
set_option linter.unusedSimpArgs false
def halberdref4_counter.b1 (s_ : Str) (s0 : Int × List (BitVec 8)) (r_2 : Str) (s1 : Int × List (BitVec 8)) : Option ((Int × List (BitVec 8)) ⊕ (List (BitVec 8))) :=
  if s1.1 < 16 then (if (w64 (s0.1 + s1.1)) < ((s_).length : Int) then (if 0 ≤ w64 (s0.1 + s1.1) ∧ w64 (s0.1 + s1.1) < ((s_).length : Int) then (if 0 ≤ s1.1 ∧ s1.1 < ((r_2).length : Int) then (if 0 ≤ w64 (s0.1 + s1.1) ∧ w64 (s0.1 + s1.1) < ((((s_).length : Int)).toNat : Int) then (if (w64 (s0.1 + s1.1)).toNat < (s1.2).length then (ltt (s1.2.set ((w64 (s0.1 + s1.1)).toNat) ((sg s_ (w64 (s0.1 + s1.1))) ^^^ (sg r_2 s1.1))) fun (m_1 : List (BitVec 8)) => (ltt (w64 (s1.1 + 1)) fun (j1 : Int) => (some (.inl (j1, m_1))))) else none) else none) else none) else none) else (some (.inr s1.2))) else (some (.inr s1.2))

def halberdref4_counter.b0 (w_ : List (Vector (BitVec 8) 4)) (nonce : Str) (from_ : Int) (s_ : Str) (s0 : Int × List (BitVec 8)) : Option ((Int × List (BitVec 8)) ⊕ (List (BitVec 8))) :=
  if s0.1 < ((s_).length : Int) then ((halberdref1_Be (w64 (from_ + (w64 (s0.1.tdiv 16)))) 4).bind fun (r_1 : Str) => (if (nonce).length + (r_1).length ≤ 4611686018427387904 then ((halberdref4_cipher w_ (nonce ++ r_1)).bind fun (r_2 : Str) => ((loop (halberdref4_counter.b1 s_ s0 r_2) BIG (0, s0.2)).bind fun (t_2 : List (BitVec 8)) => (ltt (w64 (s0.1 + 16)) fun (i1 : Int) => (some (.inl (i1, t_2)))))) else none)) else (some (.inr s0.2))

def halberdref4_counter (w_ : List (Vector (BitVec 8) 4)) (nonce : Str) (from_ : Int) (s_ : Str) : Option (Str) :=
  if 0 ≤ ((s_).length : Int) ∧ ((s_).length : Int) ≤ 17592186044416 then ((loop (halberdref4_counter.b0 w_ nonce from_ s_) BIG (0, List.replicate ((((s_).length : Int)).toNat) 0#8)).bind fun (t_1 : List (BitVec 8)) => (if (t_1).length = (((s_).length : Int)).toNat then (some t_1) else none)) else none

set_option maxHeartbeats 4000000 in
set_option maxRecDepth 20000 in
theorem F67_calls (Aw_ : Adr) (cw_ : Nat) (w_ : List (Vector (BitVec 8) 4)) (nonce : Str) (from_ : Int) (s_ : Str) (hcw_ : (w_).length ≤ cw_) (r : Str) (H : halberdref4_counter w_ nonce from_ s_ = some r) :
    Does Try.prog 67 [sl Aw_ ((w_).length) cw_, vs nonce, vi from_, vs s_] [] [⟨Aw_, eF (fun V : Vector (BitVec 8) 4 => e8 V.toList) w_⟩] (Γ := Unit) (fun g => vs r) (fun g => []) := by
  intro w hmem hro hd
  refine calls_of (N := 59) (m0 := [(0, sl Aw_ ((w_).length) cw_), (1, vs nonce), (2, vi from_), (3, vs s_)]) Try.func67 rfl Try.ntmps67 (argM_ok [sl Aw_ ((w_).length) cw_, vs nonce, vi from_, vs s_]) rfl hmem hro hd ?_
  unfold halberdref4_counter at H
  refine TC_seq ?_
  refine TC_region ?_
  refine TL_v rfl rfl rfl (V_assign rfl) ?_
  refine TL_nil ?_
  refine TX_next ?_
  refine TC_seq ?_
  refine TC_region ?_
  refine TL_v rfl rfl rfl (V_move rfl) ?_
  refine TL_v rfl rfl rfl (V_len_str rfl Try.underlying9) ?_
  obtain ⟨h1, H⟩ := if_elim H
  refine TL_e rfl rfl rfl (E_mk1 rfl rfl Try.underlying30 TryI.inf5 (z := v8 0#8) rfl rfl rfl (B := 1) rfl h1.1 (Int.le_refl _) (by have := h1; omega) (by have := h1; omega) (n' := (((s_).length : Int)).toNat) (c' := (((s_).length : Int)).toNat) rfl rfl (cs := e8 (List.replicate ((((s_).length : Int)).toNat) 0#8)) (rep_map (f := v8))) (fun b1 => ?_)
  refine TL_v rfl rfl rfl (V_assign rfl) ?_
  refine TL_nil ?_
  refine TX_next ?_
  refine TC_seq ?_
  refine TC_seq ?_
  refine TC_region ?_
  refine TL_v rfl rfl rfl (V_assign rfl) ?_
  refine TL_nil ?_
  refine TX_next ?_
  refine TC_block ?_
  obtain ⟨t_1, Hl, H⟩ := bind_elim H
  refine TC.sub (m' := [(0, sl Aw_ ((w_).length) cw_), (1, vs nonce), (2, vi from_), (3, vs s_), (9, sl (some (b1, 0)) ((((s_).length : Int)).toNat) ((((s_).length : Int)).toNat)), (10, vi 0)]) ⟨rfl, rfl, rfl, rfl, rfl, rfl, trivial⟩ ?_
  refine TC.pull (is := [0]) (L' := [⟨some (b1, 0), e8 (List.replicate ((((s_).length : Int)).toNat) 0#8)⟩]) rfl ?_
  refine TC_loopL (id := 0) (body := (halberdref4_counter.b0 w_ nonce from_ s_)) (σ := Int × List (BitVec 8)) (Γ := Unit) (Γx := Unit) (fun s0 g0_ => [(0, sl Aw_ ((w_).length) cw_), (1, vs nonce), (2, vi from_), (3, vs s_), (9, sl (some (b1, 0)) ((((s_).length : Int)).toNat) ((((s_).length : Int)).toNat)), (10, vi s0.1)]) (fun s0 g0_ => [⟨some (b1, 0), e8 s0.2⟩]) (fun t g => [(9, sl (some (b1, 0)) ((((s_).length : Int)).toNat) ((((s_).length : Int)).toNat))]) (fun t g => [⟨some (b1, 0), e8 t⟩]) ?_ BIG (0, List.replicate ((((s_).length : Int)).toNat) 0#8) () t_1 Hl ?_
  · intro s0 g0_ r1 H K hK hE
    unfold halberdref4_counter.b0 at H
    refine TC_seq ?_
    refine TC_seq ?_
    refine TC_region ?_
    refine TL_v rfl rfl rfl (V_move rfl) ?_
    refine TL_v rfl rfl rfl (V_move rfl) ?_
    refine TL_v rfl rfl rfl (V_len_str rfl Try.underlying9) ?_
    refine TL_v rfl rfl rfl (V_bin rfl rfl (fun w => lssI w s0.1 ((s_).length : Int))) ?_
    refine TL_nil ?_
    refine TX_next ?_
    refine TC_cond (b := (decide (s0.1 < ((s_).length : Int)))) rfl (fun hc => ?_) (fun hc => ?_)
    · replace H := ite_t (of_decide_eq_true hc) H
      refine TC_skip ?_
      refine TX_next ?_
      refine TC_seq ?_
      refine TC_block ?_
      refine TC_seq ?_
      refine TC_region ?_
      refine TL_v rfl rfl rfl (V_move rfl) ?_
      refine TL_v rfl rfl rfl (V_move rfl) ?_
      refine TL_v rfl rfl rfl (V_move rfl) ?_
      refine TL_v rfl rfl rfl (V_move rfl) ?_
      refine TL_v rfl rfl rfl (V_bin rfl rfl (fun w => quoI w s0.1 16 (by decide))) ?_
      refine TL_v rfl rfl rfl (V_bin rfl rfl (fun w => addI w from_ (w64 (s0.1.tdiv 16)))) ?_
      obtain ⟨r_1, hr_1, H⟩ := bind_elim H
      refine TL_e rfl rfl rfl (E_call (Γ := Unit) (val := fun g => vs r_1) (mem := fun g => []) (vs := [vi (w64 (from_ + (w64 (s0.1.tdiv 16)))), vi 4]) (Lin := []) (Ro := []) (is := []) rfl Try.call56 (F56_calls (w64 (from_ + (w64 (s0.1.tdiv 16)))) 4 r_1 hr_1) rfl trivial) (fun g_1 => ?_)
      obtain ⟨h2, H⟩ := if_elim H
      refine TL_v rfl rfl rfl (V_bin rfl rfl (fun w => addS w nonce r_1 h2)) ?_
      obtain ⟨r_2, hr_2, H⟩ := bind_elim H
      refine TL_e rfl rfl rfl (E_call (Γ := Unit) (val := fun g => vs r_2) (mem := fun g => []) (vs := [sl Aw_ ((w_).length) cw_, vs (nonce ++ r_1)]) (Lin := []) (Ro := [⟨Aw_, eF (fun V : Vector (BitVec 8) 4 => e8 V.toList) w_⟩]) (is := []) rfl Try.call52 (F52_calls Aw_ cw_ w_ (nonce ++ r_1) hcw_ r_2 hr_2) rfl ⟨SrcD.ro (j := 0) rfl, trivial⟩) (fun g_2 => ?_)
      refine TL_v rfl rfl rfl (V_assign rfl) ?_
      refine TL_nil ?_
      refine TX_next ?_
      refine TC_seq ?_
      refine TC_region ?_
      refine TL_v rfl rfl rfl (V_assign rfl) ?_
      refine TL_nil ?_
      refine TX_next ?_
      refine TC_block ?_
      obtain ⟨t_2, Hl, H⟩ := bind_elim H
      refine TC.sub (m' := [(0, sl Aw_ ((w_).length) cw_), (1, vs nonce), (2, vi from_), (3, vs s_), (9, sl (some (b1, 0)) ((((s_).length : Int)).toNat) ((((s_).length : Int)).toNat)), (10, vi s0.1), (11, vs r_2), (12, vi 0)]) ⟨rfl, rfl, rfl, rfl, rfl, rfl, rfl, rfl, trivial⟩ ?_
      refine TC.pull (is := [0]) (L' := [⟨some (b1, 0), e8 s0.2⟩]) rfl ?_
      refine TC_loopL (id := 2) (body := (halberdref4_counter.b1 s_ s0 r_2)) (σ := Int × List (BitVec 8)) (Γ := Unit) (Γx := Unit) (fun s1 g1_ => [(0, sl Aw_ ((w_).length) cw_), (1, vs nonce), (2, vi from_), (3, vs s_), (9, sl (some (b1, 0)) ((((s_).length : Int)).toNat) ((((s_).length : Int)).toNat)), (10, vi s0.1), (11, vs r_2), (12, vi s1.1)]) (fun s1 g1_ => [⟨some (b1, 0), e8 s1.2⟩]) (fun t g => [(0, sl Aw_ ((w_).length) cw_), (1, vs nonce), (2, vi from_), (3, vs s_), (9, sl (some (b1, 0)) ((((s_).length : Int)).toNat) ((((s_).length : Int)).toNat)), (10, vi s0.1)]) (fun t g => [⟨some (b1, 0), e8 t⟩]) ?_ BIG (0, s0.2) () t_2 Hl ?_
      · intro s1 g1_ r1 H K hK hE
        unfold halberdref4_counter.b1 at H
        refine TC_seq ?_
        refine TC_seq ?_
        refine TC_region ?_
        refine TL_v rfl rfl rfl (V_move rfl) ?_
        refine TL_v rfl rfl rfl (V_bin rfl rfl (fun w => lssI w s1.1 16)) ?_
        refine TL_v rfl rfl rfl (V_move rfl) ?_
        refine TL_fork (d := 33) (b := (decide (s1.1 < 16))) rfl (fun hc => ?_) (fun hc => ?_)
        · replace H := ite_t (of_decide_eq_true hc) H
          refine TL_want rfl rfl rfl rfl rfl rfl (V_move rfl) ?_
          refine TL_want rfl rfl rfl rfl rfl rfl (V_move rfl) ?_
          refine TL_want rfl rfl rfl rfl rfl rfl (V_bin rfl rfl (fun w => addI w s0.1 s1.1)) ?_
          refine TL_want rfl rfl rfl rfl rfl rfl (V_move rfl) ?_
          refine TL_want rfl rfl rfl rfl rfl rfl (V_len_str rfl Try.underlying9) ?_
          refine TL_want rfl rfl rfl rfl rfl rfl (V_bin rfl rfl (fun w => lssI w (w64 (s0.1 + s1.1)) ((s_).length : Int))) ?_
          refine TL_v rfl rfl rfl (V_pick (b := true) rfl rfl) ?_
          refine TL_nil ?_
          refine TX_next ?_
          refine TC_cond (b := (decide ((w64 (s0.1 + s1.1)) < ((s_).length : Int)))) rfl (fun hc => ?_) (fun hc => ?_)
          · replace H := ite_t (of_decide_eq_true hc) H
            refine TC_skip ?_
            refine TX_next ?_
            refine TC_seq ?_
            refine TC_block ?_
            obtain ⟨h3, H⟩ := if_elim H
            obtain ⟨h4, H⟩ := if_elim H
            obtain ⟨h5, H⟩ := if_elim H
            obtain ⟨h6, H⟩ := if_elim H
            obtain ⟨m_1, hm_1, H⟩ := ltt_elim H
            refine TA_begin [⟨some (b1, 0), e8 s1.2⟩] 14 (by kernel_rfl) (N := 15) rfl ?_
            refine TA_take (i := 0) (is := [0]) (done' := #[true, false, false, false, false, false, false, false, false, false, false, false, false, false, false]) rfl rfl rfl rfl (by kernel_rfl) (QP.block (QP.then (QP.then (QP.block (QP.block (QP.then (QP.then (QP.block (QP.then QP.body))))))))) (by kernel_rfl) rfl (V_move rfl) ?_
            refine TA_take (i := 1) (is := [0]) (done' := #[true, true, false, false, false, false, false, false, false, false, false, false, false, false, false]) rfl rfl rfl rfl (by kernel_rfl) (QP.block (QP.then (QP.then (QP.block (QP.block (QP.then (QP.then (QP.block (QP.then QP.body))))))))) (by kernel_rfl) rfl (V_move rfl) ?_
            refine TA_take (i := 2) (is := [0]) (done' := #[true, true, true, false, false, false, false, false, false, false, false, false, false, false, false]) rfl rfl rfl rfl (by kernel_rfl) (QP.block (QP.then (QP.then (QP.block (QP.block (QP.then (QP.then (QP.block (QP.then QP.body))))))))) (by kernel_rfl) rfl (V_move rfl) ?_
            refine TA_take (i := 3) (is := [0]) (done' := #[true, true, true, true, false, false, false, false, false, false, false, false, false, false, false]) rfl rfl rfl rfl (by kernel_rfl) (QP.block (QP.then (QP.then (QP.block (QP.block (QP.then (QP.then (QP.block (QP.then QP.body))))))))) (by kernel_rfl) rfl (V_bin rfl rfl (fun w => addI w s0.1 s1.1)) ?_
            refine TA_take (i := 4) (is := [0]) (done' := #[true, true, true, true, true, false, false, false, false, false, false, false, false, false, false]) rfl rfl rfl rfl (by kernel_rfl) (QP.block (QP.then (QP.then (QP.block (QP.block (QP.then (QP.then (QP.block (QP.then QP.body))))))))) (by kernel_rfl) rfl (V_move rfl) ?_
            refine TA_take (i := 5) (is := [0]) (done' := #[true, true, true, true, true, true, false, false, false, false, false, false, false, false, false]) rfl rfl rfl rfl (by kernel_rfl) (QP.block (QP.then (QP.then (QP.block (QP.block (QP.then (QP.then (QP.block (QP.then QP.body))))))))) (by kernel_rfl) rfl (V_move rfl) ?_
            refine TA_take (i := 6) (is := [0]) (done' := #[true, true, true, true, true, true, true, false, false, false, false, false, false, false, false]) rfl rfl rfl rfl (by kernel_rfl) (QP.block (QP.then (QP.then (QP.block (QP.block (QP.then (QP.then (QP.block (QP.then QP.body))))))))) (by kernel_rfl) rfl (V_move rfl) ?_
            refine TA_take (i := 7) (is := [0]) (done' := #[true, true, true, true, true, true, true, true, false, false, false, false, false, false, false]) rfl rfl rfl rfl (by kernel_rfl) (QP.block (QP.then (QP.then (QP.block (QP.block (QP.then (QP.then (QP.block (QP.then QP.body))))))))) (by kernel_rfl) rfl (V_bin rfl rfl (fun w => addI w s0.1 s1.1)) ?_
            refine TA_take (i := 8) (is := [0]) (done' := #[true, true, true, true, true, true, true, true, true, false, false, false, false, false, false]) rfl rfl rfl rfl (by kernel_rfl) (QP.block (QP.then (QP.then (QP.block (QP.block (QP.then (QP.then (QP.block (QP.then QP.body))))))))) (by kernel_rfl) rfl (V_idxStr rfl rfl (i := w64 (s0.1 + s1.1)) Try.underlying9 h3.1 h3.2) ?_
            refine TA_take (i := 9) (is := [0]) (done' := #[true, true, true, true, true, true, true, true, true, true, false, false, false, false, false]) rfl rfl rfl rfl (by kernel_rfl) (QP.block (QP.then (QP.then (QP.block (QP.block (QP.then (QP.then (QP.block (QP.then QP.body))))))))) (by kernel_rfl) rfl (V_move rfl) ?_
            refine TA_take (i := 10) (is := [0]) (done' := #[true, true, true, true, true, true, true, true, true, true, true, false, false, false, false]) rfl rfl rfl rfl (by kernel_rfl) (QP.block (QP.then (QP.then (QP.block (QP.block (QP.then (QP.then (QP.block (QP.then QP.body))))))))) (by kernel_rfl) rfl (V_move rfl) ?_
            refine TA_take (i := 11) (is := [0]) (done' := #[true, true, true, true, true, true, true, true, true, true, true, true, false, false, false]) rfl rfl rfl rfl (by kernel_rfl) (QP.block (QP.then (QP.then (QP.block (QP.block (QP.then (QP.then (QP.block (QP.then QP.body))))))))) (by kernel_rfl) rfl (V_idxStr rfl rfl (i := s1.1) Try.underlying9 h4.1 h4.2) ?_
            refine TA_take (i := 12) (is := [0]) (done' := #[true, true, true, true, true, true, true, true, true, true, true, true, true, false, false]) rfl rfl rfl rfl (by kernel_rfl) (QP.block (QP.then (QP.then (QP.block (QP.block (QP.then (QP.then (QP.block (QP.then QP.body))))))))) (by kernel_rfl) rfl (V_bin rfl rfl (fun w => xor8 w (sg s_ (w64 (s0.1 + s1.1))) (sg r_2 s1.1))) ?_
            refine TA_take (i := 13) (is := [0]) (done' := #[true, true, true, true, true, true, true, true, true, true, true, true, true, true, false]) rfl rfl rfl rfl (by kernel_rfl) (QP.block (QP.then (QP.then (QP.block (QP.block (QP.then (QP.then (QP.block (QP.then QP.body))))))))) (by kernel_rfl) rfl (V_idxSl (i := w64 (s0.1 + s1.1)) rfl rfl Try.underlying30 TryI.inf5 rfl (fun _ h => by cases h) h5.1 h5.2 (k := (w64 (s0.1 + s1.1)).toNat) (km1 _)) ?_
            refine TA_all (rs := [14]) (by kernel_rfl) rfl ?_
            refine ⟨?_, trivial⟩
            refine TO_n (is := []) (R := fun _ => []) (done' := #[true, true, true, true, true, true, true, true, true, true, true, true, true, true, true]) rfl rfl rfl (by kernel_rfl) (E_store (j := 0) rfl rfl TryI.inf5 rfl rfl rfl (by simpa using h6) (cs' := e8 (s1.2.set ((w64 (s0.1 + s1.1)).toNat) ((sg s_ (w64 (s0.1 + s1.1))) ^^^ (sg r_2 s1.1)))) (set_map (f := v8) (l := s1.2) (k := ((w64 (s0.1 + s1.1)).toNat)) (x := ((sg s_ (w64 (s0.1 + s1.1))) ^^^ (sg r_2 s1.1))))) (fun h => by cases h) (fun _ => ?_)
            refine TA_reE (j := 0) (A := some (b1, 0)) (cs := e8 (s1.2.set ((w64 (s0.1 + s1.1)).toNat) ((sg s_ (w64 (s0.1 + s1.1))) ^^^ (sg r_2 s1.1)))) (cs' := e8 m_1) rfl (congrArg (e8) hm_1) ?_
            refine TA_done (by kernel_rfl) ?_ 0
            refine TX_block_normal ?_
            refine TX_next ?_
            refine TC.sub (m' := [(0, sl Aw_ ((w_).length) cw_), (1, vs nonce), (2, vi from_), (3, vs s_), (9, sl (some (b1, 0)) ((((s_).length : Int)).toNat) ((((s_).length : Int)).toNat)), (10, vi s0.1), (11, vs r_2), (12, vi s1.1)]) ⟨rfl, rfl, rfl, rfl, rfl, rfl, rfl, rfl, trivial⟩ ?_
            refine TC_region ?_
            refine TL_v rfl rfl rfl (V_move rfl) ?_
            refine TL_v rfl rfl rfl (V_bin rfl rfl (fun w => addI w s1.1 1)) ?_
            refine TL_v rfl rfl rfl (V_assign rfl) ?_
            obtain ⟨j1, hj1, H⟩ := ltt_elim H
            refine TL_re (d := 12) (v := vi (w64 (s1.1 + 1))) (v' := vi j1) rfl (congrArg vi hj1) ?_
            refine TL_nil ?_
            refine TX.sub (m' := [(0, sl Aw_ ((w_).length) cw_), (1, vs nonce), (2, vi from_), (3, vs s_), (9, sl (some (b1, 0)) ((((s_).length : Int)).toNat) ((((s_).length : Int)).toNat)), (10, vi s0.1), (11, vs r_2), (12, vi j1)]) ⟨rfl, rfl, rfl, rfl, rfl, rfl, rfl, rfl, trivial⟩ ?_
            refine TX.pull (is := [0]) (L' := [⟨some (b1, 0), e8 m_1⟩]) rfl ?_
            obtain rfl := Option.some.inj H
            exact fun a w hs => hK (j1, m_1) rfl () a w hs
          · replace H := ite_f (of_decide_eq_false hc) H
            refine TC_exit ?_
            refine TX_then_exit ?_
            refine TX_then_exit ?_
            refine TX.sub (m' := [(0, sl Aw_ ((w_).length) cw_), (1, vs nonce), (2, vi from_), (3, vs s_), (9, sl (some (b1, 0)) ((((s_).length : Int)).toNat) ((((s_).length : Int)).toNat)), (10, vi s0.1)]) ⟨rfl, rfl, rfl, rfl, rfl, rfl, trivial⟩ ?_
            refine TX.pull (is := [0]) (L' := [⟨some (b1, 0), e8 s1.2⟩]) rfl ?_
            obtain rfl := Option.some.inj H
            exact hE s1.2 rfl ()
        · replace H := ite_f (of_decide_eq_false hc) H
          refine TL_skip rfl rfl rfl rfl rfl rfl rfl ?_
          refine TL_skip rfl rfl rfl rfl rfl rfl rfl ?_
          refine TL_skip rfl rfl rfl rfl rfl rfl rfl ?_
          refine TL_skip rfl rfl rfl rfl rfl rfl rfl ?_
          refine TL_skip rfl rfl rfl rfl rfl rfl rfl ?_
          refine TL_skip rfl rfl rfl rfl rfl rfl rfl ?_
          refine TL_v rfl rfl rfl (V_pick (b := false) rfl rfl) ?_
          refine TL_nil ?_
          refine TX_next ?_
          refine TC_cond_f rfl ?_
          refine TC_exit ?_
          refine TX_then_exit ?_
          refine TX_then_exit ?_
          refine TX.sub (m' := [(0, sl Aw_ ((w_).length) cw_), (1, vs nonce), (2, vi from_), (3, vs s_), (9, sl (some (b1, 0)) ((((s_).length : Int)).toNat) ((((s_).length : Int)).toNat)), (10, vi s0.1)]) ⟨rfl, rfl, rfl, rfl, rfl, rfl, trivial⟩ ?_
          refine TX.pull (is := [0]) (L' := [⟨some (b1, 0), e8 s1.2⟩]) rfl ?_
          obtain rfl := Option.some.inj H
          exact hE s1.2 rfl ()
      · intro g
        refine TX_block_exit ?_
        refine TX_block_normal ?_
        refine TX_next ?_
        refine TC_region ?_
        refine TL_v rfl rfl rfl (V_move rfl) ?_
        refine TL_v rfl rfl rfl (V_bin rfl rfl (fun w => addI w s0.1 16)) ?_
        refine TL_v rfl rfl rfl (V_assign rfl) ?_
        obtain ⟨i1, hi1, H⟩ := ltt_elim H
        refine TL_re (d := 10) (v := vi (w64 (s0.1 + 16))) (v' := vi i1) rfl (congrArg vi hi1) ?_
        refine TL_nil ?_
        refine TX.sub (m' := [(0, sl Aw_ ((w_).length) cw_), (1, vs nonce), (2, vi from_), (3, vs s_), (9, sl (some (b1, 0)) ((((s_).length : Int)).toNat) ((((s_).length : Int)).toNat)), (10, vi i1)]) ⟨rfl, rfl, rfl, rfl, rfl, rfl, trivial⟩ ?_
        refine TX.pull (is := [0]) (L' := [⟨some (b1, 0), e8 t_2⟩]) rfl ?_
        obtain rfl := Option.some.inj H
        exact fun a w hs => hK (i1, t_2) rfl () a w hs
    · replace H := ite_f (of_decide_eq_false hc) H
      refine TC_exit ?_
      refine TX_then_exit ?_
      refine TX_then_exit ?_
      refine TX.sub (m' := [(9, sl (some (b1, 0)) ((((s_).length : Int)).toNat) ((((s_).length : Int)).toNat))]) ⟨rfl, trivial⟩ ?_
      refine TX.pull (is := [0]) (L' := [⟨some (b1, 0), e8 s0.2⟩]) rfl ?_
      obtain rfl := Option.some.inj H
      exact hE s0.2 rfl ()
  · intro g
    refine TX_block_exit ?_
    refine TX_next ?_
    refine TC_seq ?_
    refine TC_region ?_
    refine TL_v rfl rfl rfl (V_move rfl) ?_
    obtain ⟨h7, H⟩ := if_elim H
    refine TL_v rfl rfl rfl (V_b2s rfl Try.underlying30 Try.underlying5 Try.underlying9 (Src.own (j := 0) rfl) h7) ?_
    refine TL_v rfl rfl rfl (V_assign rfl) ?_
    refine TL_nil ?_
    refine TX_next ?_
    refine TC_ret ?_
    have hrv := Option.some.inj H
    subst hrv
    exact TX_ret (rs := [.tmp 8]) (vs := [vs t_1]) rfl ⟨rfl, trivial⟩ (fun w' hs' => ⟨(), rfl, Step.left (Step.pulled (is := []) (A := []) hs' rfl)⟩)

end Go.Proofs
end

section
namespace Go.Proofs
open Go Go.Kx
set_option linter.unusedVariables false
set_option linter.unusedSimpArgs false
def halberdref4_tag (w_ : List (Vector (BitVec 8) 4)) (nonce : Str) (aad : Str) (c : Str) : Option (Str) :=
  if (List.replicate 16 0#8).length = 16 then ((halberdref4_cipher w_ (List.replicate 16 0#8)).bind fun (r_1 : Str) => ((halberdref1_Be (w64 (8 * ((aad).length : Int))) 8).bind fun (r_2 : Str) => ((halberdref1_Be (w64 (8 * ((c).length : Int))) 8).bind fun (r_3 : Str) => (if (r_2).length + (r_3).length ≤ 4611686018427387904 then ((halberdref4_filled aad).bind fun (r_4 : Str) => ((halberdref4_filled c).bind fun (r_5 : Str) => (if (r_4).length + (r_5).length ≤ 4611686018427387904 then (if (r_4 ++ r_5).length + (r_2 ++ r_3).length ≤ 4611686018427387904 then ((halberdref4_ghash r_1 ((r_4 ++ r_5) ++ (r_2 ++ r_3))).bind fun (r_6 : Str) => ((halberdref4_counter w_ nonce 1 r_6).bind fun (r_7 : Str) => (some r_7))) else none) else none))) else none)))) else none

set_option maxHeartbeats 4000000 in
set_option maxRecDepth 20000 in
theorem F68_calls (Aw_ : Adr) (cw_ : Nat) (w_ : List (Vector (BitVec 8) 4)) (nonce : Str) (aad : Str) (c : Str) (hcw_ : (w_).length ≤ cw_) (r : Str) (H : halberdref4_tag w_ nonce aad c = some r) :
    Does Try.prog 68 [sl Aw_ ((w_).length) cw_, vs nonce, vs aad, vs c] [] [⟨Aw_, eF (fun V : Vector (BitVec 8) 4 => e8 V.toList) w_⟩] (Γ := Unit) (fun g => vs r) (fun g => []) := by
  intro w hmem hro hd
  refine calls_of (N := 36) (m0 := [(0, sl Aw_ ((w_).length) cw_), (1, vs nonce), (2, vs aad), (3, vs c)]) Try.func68 rfl Try.ntmps68 (argM_ok [sl Aw_ ((w_).length) cw_, vs nonce, vs aad, vs c]) rfl hmem hro hd ?_
  unfold halberdref4_tag at H
  refine TC_seq ?_
  refine TC_region ?_
  refine TL_v rfl rfl rfl (V_assign rfl) ?_
  refine TL_nil ?_
  refine TX_next ?_
  refine TC_seq ?_
  refine TC_region ?_
  refine TL_v rfl rfl rfl (V_move rfl) ?_
  refine TL_e rfl rfl rfl (E_mk1 rfl rfl Try.underlying30 TryI.inf5 (z := v8 0#8) rfl rfl rfl (B := 1) rfl (by decide) (Int.le_refl _) (by decide) (by decide) (n' := 16) (c' := 16) rfl rfl (cs := e8 (List.replicate 16 0#8)) (rep_map (f := v8))) (fun b1 => ?_)
  obtain ⟨h1, H⟩ := if_elim H
  refine TL_v rfl rfl rfl (V_b2s rfl Try.underlying30 Try.underlying5 Try.underlying9 (Src.own (j := 0) rfl) h1) ?_
  obtain ⟨r_1, hr_1, H⟩ := bind_elim H
  refine TL_e rfl rfl rfl (E_call (Γ := Unit) (val := fun g => vs r_1) (mem := fun g => []) (vs := [sl Aw_ ((w_).length) cw_, vs (List.replicate 16 0#8)]) (Lin := []) (Ro := [⟨Aw_, eF (fun V : Vector (BitVec 8) 4 => e8 V.toList) w_⟩]) (is := []) rfl Try.call52 (F52_calls Aw_ cw_ w_ (List.replicate 16 0#8) hcw_ r_1 hr_1) rfl ⟨SrcD.ro (j := 0) rfl, trivial⟩) (fun g_1 => ?_)
  refine TL_v rfl rfl rfl (V_assign rfl) ?_
  refine TL_nil ?_
  refine TX_next ?_
  refine TC_seq ?_
  refine TC_region ?_
  refine TL_v rfl rfl rfl (V_move rfl) ?_
  refine TL_v rfl rfl rfl (V_len_str rfl Try.underlying9) ?_
  refine TL_v rfl rfl rfl (V_bin rfl rfl (fun w => mulI w 8 ((aad).length : Int))) ?_
  obtain ⟨r_2, hr_2, H⟩ := bind_elim H
  refine TL_e rfl rfl rfl (E_call (Γ := Unit) (val := fun g => vs r_2) (mem := fun g => []) (vs := [vi (w64 (8 * ((aad).length : Int))), vi 8]) (Lin := []) (Ro := []) (is := []) rfl Try.call56 (F56_calls (w64 (8 * ((aad).length : Int))) 8 r_2 hr_2) rfl trivial) (fun g_2 => ?_)
  refine TL_v rfl rfl rfl (V_move rfl) ?_
  refine TL_v rfl rfl rfl (V_len_str rfl Try.underlying9) ?_
  refine TL_v rfl rfl rfl (V_bin rfl rfl (fun w => mulI w 8 ((c).length : Int))) ?_
  obtain ⟨r_3, hr_3, H⟩ := bind_elim H
  refine TL_e rfl rfl rfl (E_call (Γ := Unit) (val := fun g => vs r_3) (mem := fun g => []) (vs := [vi (w64 (8 * ((c).length : Int))), vi 8]) (Lin := []) (Ro := []) (is := []) rfl Try.call56 (F56_calls (w64 (8 * ((c).length : Int))) 8 r_3 hr_3) rfl trivial) (fun g_3 => ?_)
  obtain ⟨h2, H⟩ := if_elim H
  refine TL_v rfl rfl rfl (V_bin rfl rfl (fun w => addS w r_2 r_3 h2)) ?_
  refine TL_v rfl rfl rfl (V_assign rfl) ?_
  refine TL_nil ?_
  refine TX_next ?_
  refine TC_seq ?_
  refine TC_region ?_
  refine TL_v rfl rfl rfl (V_move rfl) ?_
  refine TL_v rfl rfl rfl (V_move rfl) ?_
  refine TL_v rfl rfl rfl (V_move rfl) ?_
  refine TL_v rfl rfl rfl (V_move rfl) ?_
  obtain ⟨r_4, hr_4, H⟩ := bind_elim H
  refine TL_e rfl rfl rfl (E_call (Γ := Unit) (val := fun g => vs r_4) (mem := fun g => []) (vs := [vs aad]) (Lin := []) (Ro := []) (is := []) rfl Try.call90 (F90_calls aad r_4 hr_4) rfl trivial) (fun g_4 => ?_)
  refine TL_v rfl rfl rfl (V_move rfl) ?_
  obtain ⟨r_5, hr_5, H⟩ := bind_elim H
  refine TL_e rfl rfl rfl (E_call (Γ := Unit) (val := fun g => vs r_5) (mem := fun g => []) (vs := [vs c]) (Lin := []) (Ro := []) (is := []) rfl Try.call90 (F90_calls c r_5 hr_5) rfl trivial) (fun g_5 => ?_)
  obtain ⟨h3, H⟩ := if_elim H
  refine TL_v rfl rfl rfl (V_bin rfl rfl (fun w => addS w r_4 r_5 h3)) ?_
  refine TL_v rfl rfl rfl (V_move rfl) ?_
  obtain ⟨h4, H⟩ := if_elim H
  refine TL_v rfl rfl rfl (V_bin rfl rfl (fun w => addS w (r_4 ++ r_5) (r_2 ++ r_3) h4)) ?_
  obtain ⟨r_6, hr_6, H⟩ := bind_elim H
  refine TL_e rfl rfl rfl (E_call (Γ := Unit) (val := fun g => vs r_6) (mem := fun g => []) (vs := [vs r_1, vs ((r_4 ++ r_5) ++ (r_2 ++ r_3))]) (Lin := []) (Ro := []) (is := []) rfl Try.call73 (F73_calls r_1 ((r_4 ++ r_5) ++ (r_2 ++ r_3)) r_6 hr_6) rfl trivial) (fun g_6 => ?_)
  obtain ⟨r_7, hr_7, H⟩ := bind_elim H
  refine TL_e rfl rfl rfl (E_call (Γ := Unit) (val := fun g => vs r_7) (mem := fun g => []) (vs := [sl Aw_ ((w_).length) cw_, vs nonce, vi 1, vs r_6]) (Lin := []) (Ro := [⟨Aw_, eF (fun V : Vector (BitVec 8) 4 => e8 V.toList) w_⟩]) (is := []) rfl Try.call67 (F67_calls Aw_ cw_ w_ nonce 1 r_6 hcw_ r_7 hr_7) rfl ⟨SrcD.ro (j := 0) rfl, trivial⟩) (fun g_7 => ?_)
  refine TL_v rfl rfl rfl (V_assign rfl) ?_
  refine TL_nil ?_
  refine TX_next ?_
  refine TC.sub (m' := [(8, vs r_7)]) ⟨rfl, trivial⟩ ?_
  refine TC_ret ?_
  have hrv := Option.some.inj H
  subst hrv
  exact TX_ret (rs := [.tmp 8]) (vs := [vs r_7]) rfl ⟨rfl, trivial⟩ (fun w' hs' => ⟨(), rfl, Step.left (Step.pulled (is := []) (A := []) hs' rfl)⟩)

end Go.Proofs
end

section
namespace Go.Proofs
open Go Go.Kx
set_option linter.unusedVariables false
set_option linter.unusedSimpArgs false
def halberdref4_gcmMay (key : Str) (nonce : Str) (aad : Str) (s_ : Str) (more : Int) : Option (Bool) :=
  if ((key).length : Int) = 16 then (if ((nonce).length : Int) = 12 then (if ((aad).length : Int) ≤ 65536 then (ltt (decide (((s_).length : Int) ≤ (w64 (65536 + more)))) fun (x1 : Bool) => (some x1)) else (some false)) else (some false)) else (if ((key).length : Int) = 32 then (if ((nonce).length : Int) = 12 then (if ((aad).length : Int) ≤ 65536 then (ltt (decide (((s_).length : Int) ≤ (w64 (65536 + more)))) fun (x2 : Bool) => (some x2)) else (some false)) else (some false)) else (some false))

set_option maxHeartbeats 4000000 in
set_option maxRecDepth 20000 in
theorem F66_calls (key : Str) (nonce : Str) (aad : Str) (s_ : Str) (more : Int) (r : Bool) (H : halberdref4_gcmMay key nonce aad s_ more = some r) :
    Does Try.prog 66 [vs key, vs nonce, vs aad, vs s_, vi more] [] [] (Γ := Unit) (fun g => vb r) (fun g => []) := by
  intro w hmem hro hd
  refine calls_of (N := 36) (m0 := [(0, vs key), (1, vs nonce), (2, vs aad), (3, vs s_), (4, vi more)]) Try.func66 rfl Try.ntmps66 (argM_ok [vs key, vs nonce, vs aad, vs s_, vi more]) rfl hmem hro hd ?_
  unfold halberdref4_gcmMay at H
  refine TC_seq ?_
  refine TC_region ?_
  refine TL_v rfl rfl rfl (V_assign rfl) ?_
  refine TL_nil ?_
  refine TX_next ?_
  refine TC_seq ?_
  refine TC_region ?_
  refine TL_v rfl rfl rfl (V_move rfl) ?_
  refine TL_v rfl rfl rfl (V_len_str rfl Try.underlying9) ?_
  refine TL_v rfl rfl rfl (V_bin rfl rfl (fun w => eqlI w ((key).length : Int) 16)) ?_
  refine TL_v rfl rfl rfl (V_move rfl) ?_
  refine TL_fork (d := 14) (b := (decide (((key).length : Int) = 16))) rfl (fun hc => ?_) (fun hc => ?_)
  · replace H := ite_t (of_decide_eq_true hc) H
    refine TL_skip rfl rfl rfl rfl rfl rfl rfl ?_
    refine TL_skip rfl rfl rfl rfl rfl rfl rfl ?_
    refine TL_skip rfl rfl rfl rfl rfl rfl rfl ?_
    refine TL_v rfl rfl rfl (V_pick (b := true) rfl rfl) ?_
    refine TL_v rfl rfl rfl (V_move rfl) ?_
    refine TL_want rfl rfl rfl rfl rfl rfl (V_move rfl) ?_
    refine TL_want rfl rfl rfl rfl rfl rfl (V_len_str rfl Try.underlying9) ?_
    refine TL_want rfl rfl rfl rfl rfl rfl (V_bin rfl rfl (fun w => eqlI w ((nonce).length : Int) 12)) ?_
    refine TL_v rfl rfl rfl (V_pick (b := true) rfl rfl) ?_
    refine TL_v rfl rfl rfl (V_move rfl) ?_
    refine TL_fork (d := 24) (b := (decide (((nonce).length : Int) = 12))) rfl (fun hc => ?_) (fun hc => ?_)
    · replace H := ite_t (of_decide_eq_true hc) H
      refine TL_want rfl rfl rfl rfl rfl rfl (V_move rfl) ?_
      refine TL_want rfl rfl rfl rfl rfl rfl (V_len_str rfl Try.underlying9) ?_
      refine TL_want rfl rfl rfl rfl rfl rfl (V_bin rfl rfl (fun w => leqI w ((aad).length : Int) 65536)) ?_
      refine TL_v rfl rfl rfl (V_pick (b := true) rfl rfl) ?_
      refine TL_v rfl rfl rfl (V_move rfl) ?_
      refine TL_fork (d := 29) (b := (decide (((aad).length : Int) ≤ 65536))) rfl (fun hc => ?_) (fun hc => ?_)
      · replace H := ite_t (of_decide_eq_true hc) H
        refine TL_want rfl rfl rfl rfl rfl rfl (V_move rfl) ?_
        refine TL_want rfl rfl rfl rfl rfl rfl (V_len_str rfl Try.underlying9) ?_
        refine TL_want rfl rfl rfl rfl rfl rfl (V_move rfl) ?_
        refine TL_want rfl rfl rfl rfl rfl rfl (V_bin rfl rfl (fun w => addI w 65536 more)) ?_
        refine TL_want rfl rfl rfl rfl rfl rfl (V_bin rfl rfl (fun w => leqI w ((s_).length : Int) (w64 (65536 + more)))) ?_
        refine TL_v rfl rfl rfl (V_pick (b := true) rfl rfl) ?_
        refine TL_v rfl rfl rfl (V_assign rfl) ?_
        obtain ⟨x1, hx1, H⟩ := ltt_elim H
        refine TL_re (d := 10) (v := vb (decide (((s_).length : Int) ≤ (w64 (65536 + more))))) (v' := vb x1) rfl (congrArg vb hx1) ?_
        refine TL_nil ?_
        refine TX_next ?_
        refine TC.sub (m' := [(10, vb x1)]) ⟨rfl, trivial⟩ ?_
        refine TC_ret ?_
        have hrv := Option.some.inj H
        subst hrv
        exact TX_ret (rs := [.tmp 10]) (vs := [vb x1]) rfl ⟨rfl, trivial⟩ (fun w' hs' => ⟨(), rfl, Step.left (Step.pulled (is := []) (A := []) hs' rfl)⟩)
      · replace H := ite_f (of_decide_eq_false hc) H
        refine TL_skip rfl rfl rfl rfl rfl rfl rfl ?_
        refine TL_skip rfl rfl rfl rfl rfl rfl rfl ?_
        refine TL_skip rfl rfl rfl rfl rfl rfl rfl ?_
        refine TL_skip rfl rfl rfl rfl rfl rfl rfl ?_
        refine TL_skip rfl rfl rfl rfl rfl rfl rfl ?_
        refine TL_v rfl rfl rfl (V_pick (b := false) rfl rfl) ?_
        refine TL_v rfl rfl rfl (V_assign rfl) ?_
        refine TL_nil ?_
        refine TX_next ?_
        refine TC.sub (m' := [(10, vb false)]) ⟨rfl, trivial⟩ ?_
        refine TC_ret ?_
        have hrv := Option.some.inj H
        subst hrv
        exact TX_ret (rs := [.tmp 10]) (vs := [vb false]) rfl ⟨rfl, trivial⟩ (fun w' hs' => ⟨(), rfl, Step.left (Step.pulled (is := []) (A := []) hs' rfl)⟩)
    · replace H := ite_f (of_decide_eq_false hc) H
      refine TL_skip rfl rfl rfl rfl rfl rfl rfl ?_
      refine TL_skip rfl rfl rfl rfl rfl rfl rfl ?_
      refine TL_skip rfl rfl rfl rfl rfl rfl rfl ?_
      refine TL_v rfl rfl rfl (V_pick (b := false) rfl rfl) ?_
      refine TL_v rfl rfl rfl (V_move rfl) ?_
      refine TL_skip rfl rfl rfl rfl rfl rfl rfl ?_
      refine TL_skip rfl rfl rfl rfl rfl rfl rfl ?_
      refine TL_skip rfl rfl rfl rfl rfl rfl rfl ?_
      refine TL_skip rfl rfl rfl rfl rfl rfl rfl ?_
      refine TL_skip rfl rfl rfl rfl rfl rfl rfl ?_
      refine TL_v rfl rfl rfl (V_pick (b := false) rfl rfl) ?_
      refine TL_v rfl rfl rfl (V_assign rfl) ?_
      refine TL_nil ?_
      refine TX_next ?_
      refine TC.sub (m' := [(10, vb false)]) ⟨rfl, trivial⟩ ?_
      refine TC_ret ?_
      have hrv := Option.some.inj H
      subst hrv
      exact TX_ret (rs := [.tmp 10]) (vs := [vb false]) rfl ⟨rfl, trivial⟩ (fun w' hs' => ⟨(), rfl, Step.left (Step.pulled (is := []) (A := []) hs' rfl)⟩)
  · replace H := ite_f (of_decide_eq_false hc) H
    refine TL_want rfl rfl rfl rfl rfl rfl (V_move rfl) ?_
    refine TL_want rfl rfl rfl rfl rfl rfl (V_len_str rfl Try.underlying9) ?_
    refine TL_want rfl rfl rfl rfl rfl rfl (V_bin rfl rfl (fun w => eqlI w ((key).length : Int) 32)) ?_
    refine TL_v rfl rfl rfl (V_pick (b := false) rfl rfl) ?_
    refine TL_v rfl rfl rfl (V_move rfl) ?_
    refine TL_fork (d := 19) (b := (decide (((key).length : Int) = 32))) rfl (fun hc => ?_) (fun hc => ?_)
    · replace H := ite_t (of_decide_eq_true hc) H
      refine TL_want rfl rfl rfl rfl rfl rfl (V_move rfl) ?_
      refine TL_want rfl rfl rfl rfl rfl rfl (V_len_str rfl Try.underlying9) ?_
      refine TL_want rfl rfl rfl rfl rfl rfl (V_bin rfl rfl (fun w => eqlI w ((nonce).length : Int) 12)) ?_
      refine TL_v rfl rfl rfl (V_pick (b := true) rfl rfl) ?_
      refine TL_v rfl rfl rfl (V_move rfl) ?_
      refine TL_fork (d := 24) (b := (decide (((nonce).length : Int) = 12))) rfl (fun hc => ?_) (fun hc => ?_)
      · replace H := ite_t (of_decide_eq_true hc) H
        refine TL_want rfl rfl rfl rfl rfl rfl (V_move rfl) ?_
        refine TL_want rfl rfl rfl rfl rfl rfl (V_len_str rfl Try.underlying9) ?_
        refine TL_want rfl rfl rfl rfl rfl rfl (V_bin rfl rfl (fun w => leqI w ((aad).length : Int) 65536)) ?_
        refine TL_v rfl rfl rfl (V_pick (b := true) rfl rfl) ?_
        refine TL_v rfl rfl rfl (V_move rfl) ?_
        refine TL_fork (d := 29) (b := (decide (((aad).length : Int) ≤ 65536))) rfl (fun hc => ?_) (fun hc => ?_)
        · replace H := ite_t (of_decide_eq_true hc) H
          refine TL_want rfl rfl rfl rfl rfl rfl (V_move rfl) ?_
          refine TL_want rfl rfl rfl rfl rfl rfl (V_len_str rfl Try.underlying9) ?_
          refine TL_want rfl rfl rfl rfl rfl rfl (V_move rfl) ?_
          refine TL_want rfl rfl rfl rfl rfl rfl (V_bin rfl rfl (fun w => addI w 65536 more)) ?_
          refine TL_want rfl rfl rfl rfl rfl rfl (V_bin rfl rfl (fun w => leqI w ((s_).length : Int) (w64 (65536 + more)))) ?_
          refine TL_v rfl rfl rfl (V_pick (b := true) rfl rfl) ?_
          refine TL_v rfl rfl rfl (V_assign rfl) ?_
          obtain ⟨x2, hx2, H⟩ := ltt_elim H
          refine TL_re (d := 10) (v := vb (decide (((s_).length : Int) ≤ (w64 (65536 + more))))) (v' := vb x2) rfl (congrArg vb hx2) ?_
          refine TL_nil ?_
          refine TX_next ?_
          refine TC.sub (m' := [(10, vb x2)]) ⟨rfl, trivial⟩ ?_
          refine TC_ret ?_
          have hrv := Option.some.inj H
          subst hrv
          exact TX_ret (rs := [.tmp 10]) (vs := [vb x2]) rfl ⟨rfl, trivial⟩ (fun w' hs' => ⟨(), rfl, Step.left (Step.pulled (is := []) (A := []) hs' rfl)⟩)
        · replace H := ite_f (of_decide_eq_false hc) H
          refine TL_skip rfl rfl rfl rfl rfl rfl rfl ?_
          refine TL_skip rfl rfl rfl rfl rfl rfl rfl ?_
          refine TL_skip rfl rfl rfl rfl rfl rfl rfl ?_
          refine TL_skip rfl rfl rfl rfl rfl rfl rfl ?_
          refine TL_skip rfl rfl rfl rfl rfl rfl rfl ?_
          refine TL_v rfl rfl rfl (V_pick (b := false) rfl rfl) ?_
          refine TL_v rfl rfl rfl (V_assign rfl) ?_
          refine TL_nil ?_
          refine TX_next ?_
          refine TC.sub (m' := [(10, vb false)]) ⟨rfl, trivial⟩ ?_
          refine TC_ret ?_
          have hrv := Option.some.inj H
          subst hrv
          exact TX_ret (rs := [.tmp 10]) (vs := [vb false]) rfl ⟨rfl, trivial⟩ (fun w' hs' => ⟨(), rfl, Step.left (Step.pulled (is := []) (A := []) hs' rfl)⟩)
      · replace H := ite_f (of_decide_eq_false hc) H
        refine TL_skip rfl rfl rfl rfl rfl rfl rfl ?_
        refine TL_skip rfl rfl rfl rfl rfl rfl rfl ?_
        refine TL_skip rfl rfl rfl rfl rfl rfl rfl ?_
        refine TL_v rfl rfl rfl (V_pick (b := false) rfl rfl) ?_
        refine TL_v rfl rfl rfl (V_move rfl) ?_
        refine TL_skip rfl rfl rfl rfl rfl rfl rfl ?_
        refine TL_skip rfl rfl rfl rfl rfl rfl rfl ?_
        refine TL_skip rfl rfl rfl rfl rfl rfl rfl ?_
        refine TL_skip rfl rfl rfl rfl rfl rfl rfl ?_
        refine TL_skip rfl rfl rfl rfl rfl rfl rfl ?_
        refine TL_v rfl rfl rfl (V_pick (b := false) rfl rfl) ?_
        refine TL_v rfl rfl rfl (V_assign rfl) ?_
        refine TL_nil ?_
        refine TX_next ?_
        refine TC.sub (m' := [(10, vb false)]) ⟨rfl, trivial⟩ ?_
        refine TC_ret ?_
        have hrv := Option.some.inj H
        subst hrv
        exact TX_ret (rs := [.tmp 10]) (vs := [vb false]) rfl ⟨rfl, trivial⟩ (fun w' hs' => ⟨(), rfl, Step.left (Step.pulled (is := []) (A := []) hs' rfl)⟩)
    · replace H := ite_f (of_decide_eq_false hc) H
      refine TL_skip rfl rfl rfl rfl rfl rfl rfl ?_
      refine TL_skip rfl rfl rfl rfl rfl rfl rfl ?_
      refine TL_skip rfl rfl rfl rfl rfl rfl rfl ?_
      refine TL_v rfl rfl rfl (V_pick (b := false) rfl rfl) ?_
      refine TL_v rfl rfl rfl (V_move rfl) ?_
      refine TL_skip rfl rfl rfl rfl rfl rfl rfl ?_
      refine TL_skip rfl rfl rfl rfl rfl rfl rfl ?_
      refine TL_skip rfl rfl rfl rfl rfl rfl rfl ?_
      refine TL_v rfl rfl rfl (V_pick (b := false) rfl rfl) ?_
      refine TL_v rfl rfl rfl (V_move rfl) ?_
      refine TL_skip rfl rfl rfl rfl rfl rfl rfl ?_
      refine TL_skip rfl rfl rfl rfl rfl rfl rfl ?_
      refine TL_skip rfl rfl rfl rfl rfl rfl rfl ?_
      refine TL_skip rfl rfl rfl rfl rfl rfl rfl ?_
      refine TL_skip rfl rfl rfl rfl rfl rfl rfl ?_
      refine TL_v rfl rfl rfl (V_pick (b := false) rfl rfl) ?_
      refine TL_v rfl rfl rfl (V_assign rfl) ?_
      refine TL_nil ?_
      refine TX_next ?_
      refine TC.sub (m' := [(10, vb false)]) ⟨rfl, trivial⟩ ?_
      refine TC_ret ?_
      have hrv := Option.some.inj H
      subst hrv
      exact TX_ret (rs := [.tmp 10]) (vs := [vb false]) rfl ⟨rfl, trivial⟩ (fun w' hs' => ⟨(), rfl, Step.left (Step.pulled (is := []) (A := []) hs' rfl)⟩)

end Go.Proofs
end

section
namespace Go.Proofs
open Go Go.Kx
set_option linter.unusedVariables false
set_option linter.unusedSimpArgs false
def gcm_Seal (key : Str) (nonce : Str) (aad : Str) (s_ : Str) : Option (Str × Int) :=
  (gcm_New key).bind fun (r_1 : (Unit) ⊕ (Vector (BitVec 8) 256 × Nat × List (Vector (BitVec 8) 16) × BitVec 64 × BitVec 64)) => (match r_1 with | .inl r_1 => (some (([] : Str), 500)) | .inr r_1 => ((gcm_may nonce aad 65536 ((s_).length : Int)).bind fun (r_2 : Bool) => (if (!r_2) = true then (some (([] : Str), 500)) else (if r_1.2.1 = (r_1.2.2.1).length then ((gcm_Cipher_Xor r_1.1 r_1.2.2.1 r_1.2.2.2.1 r_1.2.2.2.2 nonce s_).bind fun (r_3 : List (BitVec 8)) => (if (r_3).length = (s_).length then ((gcm_Cipher_Tag r_1.1 r_1.2.2.1 r_1.2.2.2.1 r_1.2.2.2.2 nonce aad r_3).bind fun (r_4 : Str) => (if (r_3).length + (r_4).length ≤ 4611686018427387904 then (some (r_3 ++ r_4, 0)) else none)) else none)) else none))))

set_option maxHeartbeats 4000000 in
set_option maxRecDepth 20000 in
theorem F35_calls (key : Str) (nonce : Str) (aad : Str) (s_ : Str) (r : Str × Int) (H : gcm_Seal key nonce aad s_ = some r) :
    Does Try.prog 35 [vs key, vs nonce, vs aad, vs s_] [] [] (Γ := Unit) (fun g => Value.tuple [vs r.1, vi r.2].toArray) (fun g => []) := by
  intro w hmem hro hd
  refine calls_of (N := 42) (m0 := [(0, vs key), (1, vs nonce), (2, vs aad), (3, vs s_)]) Try.func35 rfl Try.ntmps35 (argM_ok [vs key, vs nonce, vs aad, vs s_]) rfl hmem hro hd ?_
  unfold gcm_Seal at H
  refine TC_seq ?_
  refine TC_region ?_
  refine TL_v rfl rfl rfl (V_assign rfl) ?_
  refine TL_v rfl rfl rfl (V_assign rfl) ?_
  refine TL_nil ?_
  refine TX_next ?_
  refine TC_seq ?_
  refine TC_region ?_
  refine TL_v rfl rfl rfl (V_move rfl) ?_
  obtain ⟨r_1, hr_1, H⟩ := bind_elim H
  rcases r_1 with r_1 | r_1
  · dsimp only at H
    refine TL_e rfl rfl rfl (E_call (Γ := Unit × (Nat × Nat × Nat)) (val := fun g => Value.tuple [Value.pointer none, vb false].toArray) (mem := fun g => []) (vs := [vs key]) (Lin := []) (Ro := []) (is := []) rfl Try.call62 (F62_calls key (.inl r_1) hr_1) rfl trivial) (fun g_1 => ?_)
    refine TL_v rfl rfl rfl (V_move rfl) ?_
    refine TL_v rfl rfl rfl (V_extract (vs := [Value.pointer none, vb false]) rfl rfl) ?_
    refine TL_v rfl rfl rfl (V_extract (vs := [Value.pointer none, vb false]) rfl rfl) ?_
    refine TL_v rfl rfl rfl (V_assign rfl) ?_
    refine TL_v rfl rfl rfl (V_assign rfl) ?_
    refine TL_nil ?_
    refine TX_next ?_
    refine TC_seq ?_
    refine TC_seq ?_
    refine TC_region ?_
    refine TL_v rfl rfl rfl (V_move rfl) ?_
    refine TL_v rfl rfl rfl (V_un rfl (fun w => notB w false)) ?_
    refine TL_v rfl rfl rfl (V_move rfl) ?_
    refine TL_skip rfl rfl rfl rfl rfl rfl rfl ?_
    refine TL_skip rfl rfl rfl rfl rfl rfl rfl ?_
    refine TL_skip rfl rfl rfl rfl rfl rfl rfl ?_
    refine TL_skip rfl rfl rfl rfl rfl rfl rfl ?_
    refine TL_skip rfl rfl rfl rfl rfl rfl rfl ?_
    refine TL_skip rfl rfl rfl rfl rfl rfl rfl ?_
    refine TL_v rfl rfl rfl (V_pick (b := true) rfl rfl) ?_
    refine TL_nil ?_
    refine TX_next ?_
    refine TC_cond_t rfl ?_
    refine TC_seq ?_
    refine TC_region ?_
    refine TL_v rfl rfl rfl (V_assign rfl) ?_
    refine TL_v rfl rfl rfl (V_assign rfl) ?_
    refine TL_nil ?_
    refine TX_next ?_
    refine TC_ret ?_
    refine TX_then_ret ?_
    have hrv := Option.some.inj H
    subst hrv
    exact TX_ret (rs := [.tmp 8, .tmp 9]) (vs := [vs ([] : Str), vi 500]) rfl ⟨rfl, rfl, trivial⟩ (fun w' hs' => ⟨(), rfl, Step.left (Step.pulled (is := []) (A := []) hs' rfl)⟩)
  · dsimp only at H
    refine TL_e rfl rfl rfl (E_call (Γ := Unit × (Nat × Nat × Nat)) (val := fun g => Value.tuple [ptr (some (g.2.1, 0)) 0, vb true].toArray) (mem := fun g => [⟨some (g.2.1, 0), [ptr (some (g.2.2.1, 0)) 0]⟩, ⟨some (g.2.2.1, 0), e8 r_1.1.toList⟩, ⟨some (g.2.2.1, 256), [sl (some (g.2.2.2, 0)) r_1.2.1 r_1.2.1]⟩, ⟨some (g.2.2.2, 0), eF (fun V : Vector (BitVec 8) 16 => e8 V.toList) r_1.2.2.1⟩, ⟨some (g.2.1, 1), [v64 r_1.2.2.2.1]⟩, ⟨some (g.2.1, 2), [v64 r_1.2.2.2.2]⟩]) (vs := [vs key]) (Lin := []) (Ro := []) (is := []) rfl Try.call62 (F62_calls key (.inr r_1) hr_1) rfl trivial) (fun g_2 => ?_)
    refine TL_v rfl rfl rfl (V_move rfl) ?_
    refine TL_v rfl rfl rfl (V_extract (vs := [ptr (some (g_2.2.1, 0)) 0, vb true]) rfl rfl) ?_
    refine TL_v rfl rfl rfl (V_extract (vs := [ptr (some (g_2.2.1, 0)) 0, vb true]) rfl rfl) ?_
    refine TL_v rfl rfl rfl (V_assign rfl) ?_
    refine TL_v rfl rfl rfl (V_assign rfl) ?_
    refine TL_nil ?_
    refine TX_next ?_
    refine TC_seq ?_
    refine TC_seq ?_
    refine TC_region ?_
    refine TL_v rfl rfl rfl (V_move rfl) ?_
    refine TL_v rfl rfl rfl (V_un rfl (fun w => notB w true)) ?_
    refine TL_v rfl rfl rfl (V_move rfl) ?_
    refine TL_want rfl rfl rfl rfl rfl rfl (V_move rfl) ?_
    refine TL_want rfl rfl rfl rfl rfl rfl (V_move rfl) ?_
    refine TL_want rfl rfl rfl rfl rfl rfl (V_move rfl) ?_
    refine TL_want rfl rfl rfl rfl rfl rfl (V_len_str rfl Try.underlying9) ?_
    obtain ⟨r_2, hr_2, H⟩ := bind_elim H
    refine TL_wantE rfl rfl rfl rfl rfl rfl (E_call (Γ := Unit) (val := fun g => vb r_2) (mem := fun g => []) (vs := [vs nonce, vs aad, vi 65536, vi ((s_).length : Int)]) (Lin := []) (Ro := []) (is := []) rfl Try.call63 (F63_calls nonce aad 65536 ((s_).length : Int) r_2 hr_2) rfl trivial) (fun g_3 => ?_)
    refine TL_want rfl rfl rfl rfl rfl rfl (V_un rfl (fun w => notB w r_2)) ?_
    refine TL_v rfl rfl rfl (V_pick (b := false) rfl rfl) ?_
    refine TL_nil ?_
    refine TX_next ?_
    refine TC_cond (b := (!r_2)) rfl (fun hc => ?_) (fun hc => ?_)
    · replace H := ite_t hc H
      refine TC_seq ?_
      refine TC_region ?_
      refine TL_v rfl rfl rfl (V_assign rfl) ?_
      refine TL_v rfl rfl rfl (V_assign rfl) ?_
      refine TL_nil ?_
      refine TX_next ?_
      refine TC_ret ?_
      refine TX_then_ret ?_
      have hrv := Option.some.inj H
      subst hrv
      exact TX_ret (rs := [.tmp 8, .tmp 9]) (vs := [vs ([] : Str), vi 500]) rfl ⟨rfl, rfl, trivial⟩ (fun w' hs' => ⟨(), rfl, Step.left (Step.pulled (is := []) (A := []) hs' rfl)⟩)
    · replace H := ite_f (Bool.eq_false_iff.1 hc) H
      refine TC_skip ?_
      refine TX_next ?_
      refine TC_seq ?_
      refine TC_region ?_
      refine TL_v rfl rfl rfl (V_move rfl) ?_
      refine TL_e rfl rfl rfl (E_s2bR rfl Try.underlying9 Try.underlying30 Try.underlying5) (fun g_4 => ?_)
      refine TL_v rfl rfl rfl (V_assign rfl) ?_
      refine TL_nil ?_
      refine TX_next ?_
      refine TC_seq ?_
      refine TC_region ?_
      refine TL_v rfl rfl rfl (V_move rfl) ?_
      refine TL_v rfl rfl rfl (V_move rfl) ?_
      refine TL_v rfl rfl rfl (V_move rfl) ?_
      obtain ⟨h1, H⟩ := if_elim H
      refine TL_reE (j := 3) (A := some (g_2.2.2.1, 256)) (cs := [sl (some (g_2.2.2.2, 0)) r_1.2.1 r_1.2.1]) (cs' := [sl (some (g_2.2.2.2, 0)) ((r_1.2.2.1).length) ((r_1.2.2.1).length)]) rfl (congrArg (fun n => [sl (some (g_2.2.2.2, 0)) n n]) h1) ?_
      obtain ⟨r_3, hr_3, H⟩ := bind_elim H
      refine TL_e rfl rfl rfl (E_call (Γ := Unit) (val := fun g => Value.tuple [].toArray) (mem := fun g => [⟨some (g_4.1, 0), e8 (r_3 ++ g_4.2)⟩]) (vs := [ptr (some (g_2.2.1, 0)) 0, vs nonce, sl (some (g_4.1, 0)) ((s_).length) ((s_ ++ g_4.2).length)]) (Lin := [⟨some (g_4.1, 0), e8 (s_ ++ g_4.2)⟩]) (Ro := [⟨some (g_2.2.1, 0), [ptr (some (g_2.2.2.1, 0)) 0]⟩, ⟨some (g_2.2.1, 1), [v64 r_1.2.2.2.1]⟩, ⟨some (g_2.2.1, 2), [v64 r_1.2.2.2.2]⟩, ⟨some (g_2.2.2.1, 0), e8 r_1.1.toList⟩, ⟨some (g_2.2.2.1, 256), [sl (some (g_2.2.2.2, 0)) ((r_1.2.2.1).length) ((r_1.2.2.1).length)]⟩, ⟨some (g_2.2.2.2, 0), eF (fun V : Vector (BitVec 8) 16 => e8 V.toList) r_1.2.2.1⟩]) (is := [0]) rfl Try.call64 (F64_calls g_2.2.1 0 g_2.2.2.1 0 (some (g_2.2.2.2, 0)) ((r_1.2.2.1).length) (some (g_4.1, 0)) g_4.2 r_1.1 r_1.2.2.1 r_1.2.2.2.1 r_1.2.2.2.2 nonce s_ (Nat.le_refl _) r_3 hr_3) rfl ⟨SrcD.own (j := 0) rfl, SrcD.own (j := 4) rfl, SrcD.own (j := 5) rfl, SrcD.own (j := 1) rfl, SrcD.own (j := 2) rfl, SrcD.own (j := 3) rfl, trivial⟩) (fun g_5 => ?_)
      obtain ⟨h2, H⟩ := if_elim H
      refine TL_re (d := 29) (v := sl (some (g_4.1, 0)) ((s_).length) ((s_ ++ g_4.2).length)) (v' := sl (some (g_4.1, 0)) ((r_3).length) ((r_3 ++ g_4.2).length)) rfl (row_len h2) ?_
      refine TL_re (d := 12) (v := sl (some (g_4.1, 0)) ((s_).length) ((s_ ++ g_4.2).length)) (v' := sl (some (g_4.1, 0)) ((r_3).length) ((r_3 ++ g_4.2).length)) rfl (row_len h2) ?_
      refine TL_re (d := 32) (v := sl (some (g_4.1, 0)) ((s_).length) ((s_ ++ g_4.2).length)) (v' := sl (some (g_4.1, 0)) ((r_3).length) ((r_3 ++ g_4.2).length)) rfl (row_len h2) ?_
      refine TL_nil ?_
      refine TX_next ?_
      refine TC.sub (m' := [(1, vs nonce), (2, vs aad), (10, ptr (some (g_2.2.1, 0)) 0), (12, sl (some (g_4.1, 0)) ((r_3).length) ((r_3 ++ g_4.2).length))]) ⟨rfl, rfl, rfl, rfl, trivial⟩ ?_
      refine TC_seq ?_
      obtain ⟨r_4, hr_4, H⟩ := bind_elim H
      obtain ⟨h3, H⟩ := if_elim H
      refine TA_begin [⟨some (g_4.1, 0), e8 (r_3 ++ g_4.2)⟩, ⟨some (g_2.2.1, 0), [ptr (some (g_2.2.2.1, 0)) 0]⟩, ⟨some (g_2.2.2.1, 0), e8 r_1.1.toList⟩, ⟨some (g_2.2.2.1, 256), [sl (some (g_2.2.2.2, 0)) ((r_1.2.2.1).length) ((r_1.2.2.1).length)]⟩, ⟨some (g_2.2.2.2, 0), eF (fun V : Vector (BitVec 8) 16 => e8 V.toList) r_1.2.2.1⟩, ⟨some (g_2.2.1, 1), [v64 r_1.2.2.2.1]⟩, ⟨some (g_2.2.1, 2), [v64 r_1.2.2.2.2]⟩] 10 (by kernel_rfl) (N := 10) rfl ?_
      refine TA_take (i := 0) (is := [0, 0, 0, 0, 0, 0, 0]) (done' := #[true, false, false, false, false, false, false, false, false, false]) rfl rfl rfl rfl (by kernel_rfl) (QP.then QP.body) (by kernel_rfl) rfl (V_move rfl) ?_
      refine TA_take (i := 1) (is := [0, 0, 0, 0, 0, 0, 0]) (done' := #[true, true, false, false, false, false, false, false, false, false]) rfl rfl rfl rfl (by kernel_rfl) (QP.then QP.body) (by kernel_rfl) rfl (V_b2s rfl Try.underlying30 Try.underlying5 Try.underlying9 (srcRow (Src.own (j := 0) rfl)) rfl) ?_
      refine TA_take (i := 2) (is := [0, 0, 0, 0, 0, 0, 0]) (done' := #[true, true, true, false, false, false, false, false, false, false]) rfl rfl rfl rfl (by kernel_rfl) (QP.then QP.body) (by kernel_rfl) rfl (V_move rfl) ?_
      refine TA_take (i := 3) (is := [0, 0, 0, 0, 0, 0, 0]) (done' := #[true, true, true, true, false, false, false, false, false, false]) rfl rfl rfl rfl (by kernel_rfl) (QP.then QP.body) (by kernel_rfl) rfl (V_move rfl) ?_
      refine TA_take (i := 4) (is := [0, 0, 0, 0, 0, 0, 0]) (done' := #[true, true, true, true, true, false, false, false, false, false]) rfl rfl rfl rfl (by kernel_rfl) (QP.then QP.body) (by kernel_rfl) rfl (V_move rfl) ?_
      refine TA_take (i := 5) (is := [0, 0, 0, 0, 0, 0, 0]) (done' := #[true, true, true, true, true, true, false, false, false, false]) rfl rfl rfl rfl (by kernel_rfl) (QP.then QP.body) (by kernel_rfl) rfl (V_move rfl) ?_
      refine TA_all (rs := [6]) (by kernel_rfl) rfl ?_
      refine ⟨?_, trivial⟩
      refine TO_e (is := [0, 0, 0, 0, 0, 0, 0]) (done' := #[true, true, true, true, true, true, true, false, false, false]) rfl rfl rfl rfl (by kernel_rfl) (E_call (Γ := Unit) (val := fun g => vs r_4) (mem := fun g => []) (vs := [ptr (some (g_2.2.1, 0)) 0, vs nonce, vs aad, sl (some (g_4.1, 0)) ((r_3).length) ((r_3 ++ g_4.2).length)]) (Lin := []) (Ro := [⟨some (g_2.2.1, 0), [ptr (some (g_2.2.2.1, 0)) 0]⟩, ⟨some (g_2.2.1, 1), [v64 r_1.2.2.2.1]⟩, ⟨some (g_2.2.1, 2), [v64 r_1.2.2.2.2]⟩, ⟨some (g_2.2.2.1, 0), e8 r_1.1.toList⟩, ⟨some (g_2.2.2.1, 256), [sl (some (g_2.2.2.2, 0)) ((r_1.2.2.1).length) ((r_1.2.2.1).length)]⟩, ⟨some (g_2.2.2.2, 0), eF (fun V : Vector (BitVec 8) 16 => e8 V.toList) r_1.2.2.1⟩, ⟨some (g_4.1, 0), e8 r_3⟩]) (is := []) rfl Try.call65 (F65_calls g_2.2.1 0 g_2.2.2.1 0 (some (g_2.2.2.2, 0)) ((r_1.2.2.1).length) (some (g_4.1, 0)) ((r_3 ++ g_4.2).length) r_1.1 r_1.2.2.1 r_1.2.2.2.1 r_1.2.2.2.2 nonce aad r_3 (Nat.le_refl _) (row_le _ _) r_4 hr_4) rfl ⟨SrcD.own (j := 1) rfl, SrcD.own (j := 5) rfl, SrcD.own (j := 6) rfl, SrcD.own (j := 2) rfl, SrcD.own (j := 3) rfl, SrcD.own (j := 4) rfl, (srcdRow (SrcD.own (j := 0) rfl)), trivial⟩) (fun _ _ => rfl) (fun g_6 => ?_)
      refine TA_take (i := 7) (is := [0, 0, 0, 0, 0, 0, 0]) (done' := #[true, true, true, true, true, true, true, true, false, false]) rfl rfl rfl rfl (by kernel_rfl) (QP.then QP.body) (by kernel_rfl) rfl (V_bin rfl rfl (fun w => addS w r_3 r_4 h3)) ?_
      refine TA_take (i := 8) (is := [0, 0, 0, 0, 0, 0, 0]) (done' := #[true, true, true, true, true, true, true, true, true, false]) rfl rfl rfl rfl (by kernel_rfl) (QP.then QP.body) (by kernel_rfl) rfl (V_assign rfl) ?_
      refine TA_take (i := 9) (is := [0, 0, 0, 0, 0, 0, 0]) (done' := #[true, true, true, true, true, true, true, true, true, true]) rfl rfl rfl rfl (by kernel_rfl) (QP.then QP.body) (by kernel_rfl) rfl (V_assign rfl) ?_
      refine TA_done (by kernel_rfl) ?_ 0
      refine TX_next ?_
      refine TC_ret ?_
      have hrv := Option.some.inj H
      subst hrv
      exact TX_ret (rs := [.tmp 8, .tmp 9]) (vs := [vs (r_3 ++ r_4), vi 0]) rfl ⟨rfl, rfl, trivial⟩ (fun w' hs' => ⟨(), rfl, Step.left (Step.pulled (is := []) (A := []) hs' rfl)⟩)

end Go.Proofs
end

section
namespace Go.Proofs
open Go Go.Kx
set_option linter.unusedVariables false
set_option linter.unusedSimpArgs false
def halberdref4_GcmSeal (key : Str) (nonce : Str) (aad : Str) (s_ : Str) : Option (Str × Int) :=
  (halberdref4_gcmMay key nonce aad s_ 0).bind fun (r_1 : Bool) => (if (!r_1) = true then (some (([] : Str), 500)) else ((halberdref4_schedule key).bind fun (r_2 : List (Vector (BitVec 8) 4)) => ((halberdref4_counter r_2 nonce 2 s_).bind fun (r_3 : Str) => ((halberdref4_tag r_2 nonce aad r_3).bind fun (r_4 : Str) => (if (r_3).length + (r_4).length ≤ 4611686018427387904 then (some (r_3 ++ r_4, 0)) else none)))))

set_option maxHeartbeats 4000000 in
set_option maxRecDepth 20000 in
theorem F36_calls (key : Str) (nonce : Str) (aad : Str) (s_ : Str) (r : Str × Int) (H : halberdref4_GcmSeal key nonce aad s_ = some r) :
    Does Try.prog 36 [vs key, vs nonce, vs aad, vs s_] [] [] (Γ := Unit) (fun g => Value.tuple [vs r.1, vi r.2].toArray) (fun g => []) := by
  intro w hmem hro hd
  refine calls_of (N := 31) (m0 := [(0, vs key), (1, vs nonce), (2, vs aad), (3, vs s_)]) Try.func36 rfl Try.ntmps36 (argM_ok [vs key, vs nonce, vs aad, vs s_]) rfl hmem hro hd ?_
  unfold halberdref4_GcmSeal at H
  refine TC_seq ?_
  refine TC_region ?_
  refine TL_v rfl rfl rfl (V_assign rfl) ?_
  refine TL_v rfl rfl rfl (V_assign rfl) ?_
  refine TL_nil ?_
  refine TX_next ?_
  refine TC_seq ?_
  refine TC_seq ?_
  refine TC_region ?_
  refine TL_v rfl rfl rfl (V_move rfl) ?_
  refine TL_v rfl rfl rfl (V_move rfl) ?_
  refine TL_v rfl rfl rfl (V_move rfl) ?_
  refine TL_v rfl rfl rfl (V_move rfl) ?_
  obtain ⟨r_1, hr_1, H⟩ := bind_elim H
  refine TL_e rfl rfl rfl (E_call (Γ := Unit) (val := fun g => vb r_1) (mem := fun g => []) (vs := [vs key, vs nonce, vs aad, vs s_, vi 0]) (Lin := []) (Ro := []) (is := []) rfl Try.call66 (F66_calls key nonce aad s_ 0 r_1 hr_1) rfl trivial) (fun g_1 => ?_)
  refine TL_v rfl rfl rfl (V_un rfl (fun w => notB w r_1)) ?_
  refine TL_nil ?_
  refine TX_next ?_
  refine TC_cond (b := (!r_1)) rfl (fun hc => ?_) (fun hc => ?_)
  · replace H := ite_t hc H
    refine TC_seq ?_
    refine TC_region ?_
    refine TL_v rfl rfl rfl (V_assign rfl) ?_
    refine TL_v rfl rfl rfl (V_assign rfl) ?_
    refine TL_nil ?_
    refine TX_next ?_
    refine TC_ret ?_
    refine TX_then_ret ?_
    have hrv := Option.some.inj H
    subst hrv
    exact TX_ret (rs := [.tmp 8, .tmp 9]) (vs := [vs ([] : Str), vi 500]) rfl ⟨rfl, rfl, trivial⟩ (fun w' hs' => ⟨(), rfl, Step.left (Step.pulled (is := []) (A := []) hs' rfl)⟩)
  · replace H := ite_f (Bool.eq_false_iff.1 hc) H
    refine TC_skip ?_
    refine TX_next ?_
    refine TC_seq ?_
    refine TC_region ?_
    refine TL_v rfl rfl rfl (V_move rfl) ?_
    obtain ⟨r_2, hr_2, H⟩ := bind_elim H
    refine TL_e rfl rfl rfl (E_call (Γ := Adr × List (Vector (BitVec 8) 4)) (val := fun g => sl g.1 ((r_2).length) ((r_2 ++ g.2).length)) (mem := fun g => [⟨g.1, eF (fun V : Vector (BitVec 8) 4 => e8 V.toList) (r_2 ++ g.2)⟩]) (vs := [vs key]) (Lin := []) (Ro := []) (is := []) rfl Try.call53 (F53_calls key r_2 hr_2) rfl trivial) (fun g_2 => ?_)
    refine TL_v rfl rfl rfl (V_assign rfl) ?_
    refine TL_nil ?_
    refine TX_next ?_
    refine TC_seq ?_
    refine TC_region ?_
    refine TL_v rfl rfl rfl (V_move rfl) ?_
    refine TL_v rfl rfl rfl (V_move rfl) ?_
    refine TL_v rfl rfl rfl (V_move rfl) ?_
    obtain ⟨r_3, hr_3, H⟩ := bind_elim H
    refine TL_e rfl rfl rfl (E_call (Γ := Unit) (val := fun g => vs r_3) (mem := fun g => []) (vs := [sl g_2.1 ((r_2).length) ((r_2 ++ g_2.2).length), vs nonce, vi 2, vs s_]) (Lin := []) (Ro := [⟨g_2.1, eF (fun V : Vector (BitVec 8) 4 => e8 V.toList) r_2⟩]) (is := []) rfl Try.call67 (F67_calls g_2.1 ((r_2 ++ g_2.2).length) r_2 nonce 2 s_ (row_le _ _) r_3 hr_3) rfl ⟨(srcdRowF (s := 4) (fun _ => by simp) (SrcD.own (j := 0) rfl)), trivial⟩) (fun g_3 => ?_)
    refine TL_v rfl rfl rfl (V_assign rfl) ?_
    refine TL_nil ?_
    refine TX_next ?_
    refine TC_seq ?_
    refine TC_region ?_
    refine TL_v rfl rfl rfl (V_move rfl) ?_
    refine TL_v rfl rfl rfl (V_move rfl) ?_
    refine TL_v rfl rfl rfl (V_move rfl) ?_
    refine TL_v rfl rfl rfl (V_move rfl) ?_
    refine TL_v rfl rfl rfl (V_move rfl) ?_
    obtain ⟨r_4, hr_4, H⟩ := bind_elim H
    refine TL_e rfl rfl rfl (E_call (Γ := Unit) (val := fun g => vs r_4) (mem := fun g => []) (vs := [sl g_2.1 ((r_2).length) ((r_2 ++ g_2.2).length), vs nonce, vs aad, vs r_3]) (Lin := []) (Ro := [⟨g_2.1, eF (fun V : Vector (BitVec 8) 4 => e8 V.toList) r_2⟩]) (is := []) rfl Try.call68 (F68_calls g_2.1 ((r_2 ++ g_2.2).length) r_2 nonce aad r_3 (row_le _ _) r_4 hr_4) rfl ⟨(srcdRowF (s := 4) (fun _ => by simp) (SrcD.own (j := 0) rfl)), trivial⟩) (fun g_4 => ?_)
    obtain ⟨h1, H⟩ := if_elim H
    refine TL_v rfl rfl rfl (V_bin rfl rfl (fun w => addS w r_3 r_4 h1)) ?_
    refine TL_v rfl rfl rfl (V_assign rfl) ?_
    refine TL_v rfl rfl rfl (V_assign rfl) ?_
    refine TL_nil ?_
    refine TX_next ?_
    refine TC_ret ?_
    have hrv := Option.some.inj H
    subst hrv
    exact TX_ret (rs := [.tmp 8, .tmp 9]) (vs := [vs (r_3 ++ r_4), vi 0]) rfl ⟨rfl, rfl, trivial⟩ (fun w' hs' => ⟨(), rfl, Step.left (Step.pulled (is := []) (A := []) hs' rfl)⟩)

end Go.Proofs
end

section
namespace Go.Proofs
open Go Go.Kx
set_option linter.unusedVariables false
set_option linter.unusedSimpArgs false
def gcm_Open (key : Str) (nonce : Str) (aad : Str) (s_ : Str) : Option (Str × Int) :=
  (gcm_New key).bind fun (r_1 : (Unit) ⊕ (Vector (BitVec 8) 256 × Nat × List (Vector (BitVec 8) 16) × BitVec 64 × BitVec 64)) => (match r_1 with | .inl r_1 => (some (([] : Str), 500)) | .inr r_1 => ((gcm_may nonce aad 65552 ((s_).length : Int)).bind fun (r_2 : Bool) => (if (!r_2) = true then (some (([] : Str), 500)) else (ltt (w64 (((s_).length : Int) - 16)) fun (n1 : Int) => (if n1 < 0 then (some (([] : Str), 501)) else (if 0 ≤ n1 then (if (n1).toNat ≤ (s_).length then (if r_1.2.1 = (r_1.2.2.1).length then ((gcm_Cipher_Tag r_1.1 r_1.2.2.1 r_1.2.2.2.1 r_1.2.2.2.2 nonce aad (sub s_ 0 ((n1).toNat))).bind fun (r_3 : Str) => (if 0 ≤ n1 then (if (n1).toNat ≤ (s_).length then (if r_3 ≠ sub s_ ((n1).toNat) ((s_).length) then (some (([] : Str), 501)) else ((gcm_Cipher_Xor r_1.1 r_1.2.2.1 r_1.2.2.2.1 r_1.2.2.2.2 nonce (sub s_ 0 ((n1).toNat))).bind fun (r_4 : List (BitVec 8)) => (if (r_4).length = (sub s_ 0 ((n1).toNat)).length then (some (r_4, 0)) else none))) else none) else none)) else none) else none) else none))))))

set_option maxHeartbeats 4000000 in
set_option maxRecDepth 20000 in
theorem F37_calls (key : Str) (nonce : Str) (aad : Str) (s_ : Str) (r : Str × Int) (H : gcm_Open key nonce aad s_ = some r) :
    Does Try.prog 37 [vs key, vs nonce, vs aad, vs s_] [] [] (Γ := Unit) (fun g => Value.tuple [vs r.1, vi r.2].toArray) (fun g => []) := by
  intro w hmem hro hd
  refine calls_of (N := 53) (m0 := [(0, vs key), (1, vs nonce), (2, vs aad), (3, vs s_)]) Try.func37 rfl Try.ntmps37 (argM_ok [vs key, vs nonce, vs aad, vs s_]) rfl hmem hro hd ?_
  unfold gcm_Open at H
  refine TC_seq ?_
  refine TC_region ?_
  refine TL_v rfl rfl rfl (V_assign rfl) ?_
  refine TL_v rfl rfl rfl (V_assign rfl) ?_
  refine TL_nil ?_
  refine TX_next ?_
  refine TC_seq ?_
  refine TC_region ?_
  refine TL_v rfl rfl rfl (V_move rfl) ?_
  obtain ⟨r_1, hr_1, H⟩ := bind_elim H
  rcases r_1 with r_1 | r_1
  · dsimp only at H
    refine TL_e rfl rfl rfl (E_call (Γ := Unit × (Nat × Nat × Nat)) (val := fun g => Value.tuple [Value.pointer none, vb false].toArray) (mem := fun g => []) (vs := [vs key]) (Lin := []) (Ro := []) (is := []) rfl Try.call62 (F62_calls key (.inl r_1) hr_1) rfl trivial) (fun g_1 => ?_)
    refine TL_v rfl rfl rfl (V_move rfl) ?_
    refine TL_v rfl rfl rfl (V_extract (vs := [Value.pointer none, vb false]) rfl rfl) ?_
    refine TL_v rfl rfl rfl (V_extract (vs := [Value.pointer none, vb false]) rfl rfl) ?_
    refine TL_v rfl rfl rfl (V_assign rfl) ?_
    refine TL_v rfl rfl rfl (V_assign rfl) ?_
    refine TL_nil ?_
    refine TX_next ?_
    refine TC_seq ?_
    refine TC_seq ?_
    refine TC_region ?_
    refine TL_v rfl rfl rfl (V_move rfl) ?_
    refine TL_v rfl rfl rfl (V_un rfl (fun w => notB w false)) ?_
    refine TL_v rfl rfl rfl (V_move rfl) ?_
    refine TL_skip rfl rfl rfl rfl rfl rfl rfl ?_
    refine TL_skip rfl rfl rfl rfl rfl rfl rfl ?_
    refine TL_skip rfl rfl rfl rfl rfl rfl rfl ?_
    refine TL_skip rfl rfl rfl rfl rfl rfl rfl ?_
    refine TL_skip rfl rfl rfl rfl rfl rfl rfl ?_
    refine TL_skip rfl rfl rfl rfl rfl rfl rfl ?_
    refine TL_v rfl rfl rfl (V_pick (b := true) rfl rfl) ?_
    refine TL_nil ?_
    refine TX_next ?_
    refine TC_cond_t rfl ?_
    refine TC_seq ?_
    refine TC_region ?_
    refine TL_v rfl rfl rfl (V_assign rfl) ?_
    refine TL_v rfl rfl rfl (V_assign rfl) ?_
    refine TL_nil ?_
    refine TX_next ?_
    refine TC_ret ?_
    refine TX_then_ret ?_
    have hrv := Option.some.inj H
    subst hrv
    exact TX_ret (rs := [.tmp 8, .tmp 9]) (vs := [vs ([] : Str), vi 500]) rfl ⟨rfl, rfl, trivial⟩ (fun w' hs' => ⟨(), rfl, Step.left (Step.pulled (is := []) (A := []) hs' rfl)⟩)
  · dsimp only at H
    refine TL_e rfl rfl rfl (E_call (Γ := Unit × (Nat × Nat × Nat)) (val := fun g => Value.tuple [ptr (some (g.2.1, 0)) 0, vb true].toArray) (mem := fun g => [⟨some (g.2.1, 0), [ptr (some (g.2.2.1, 0)) 0]⟩, ⟨some (g.2.2.1, 0), e8 r_1.1.toList⟩, ⟨some (g.2.2.1, 256), [sl (some (g.2.2.2, 0)) r_1.2.1 r_1.2.1]⟩, ⟨some (g.2.2.2, 0), eF (fun V : Vector (BitVec 8) 16 => e8 V.toList) r_1.2.2.1⟩, ⟨some (g.2.1, 1), [v64 r_1.2.2.2.1]⟩, ⟨some (g.2.1, 2), [v64 r_1.2.2.2.2]⟩]) (vs := [vs key]) (Lin := []) (Ro := []) (is := []) rfl Try.call62 (F62_calls key (.inr r_1) hr_1) rfl trivial) (fun g_2 => ?_)
    refine TL_v rfl rfl rfl (V_move rfl) ?_
    refine TL_v rfl rfl rfl (V_extract (vs := [ptr (some (g_2.2.1, 0)) 0, vb true]) rfl rfl) ?_
    refine TL_v rfl rfl rfl (V_extract (vs := [ptr (some (g_2.2.1, 0)) 0, vb true]) rfl rfl) ?_
    refine TL_v rfl rfl rfl (V_assign rfl) ?_
    refine TL_v rfl rfl rfl (V_assign rfl) ?_
    refine TL_nil ?_
    refine TX_next ?_
    refine TC_seq ?_
    refine TC_seq ?_
    refine TC_region ?_
    refine TL_v rfl rfl rfl (V_move rfl) ?_
    refine TL_v rfl rfl rfl (V_un rfl (fun w => notB w true)) ?_
    refine TL_v rfl rfl rfl (V_move rfl) ?_
    refine TL_want rfl rfl rfl rfl rfl rfl (V_move rfl) ?_
    refine TL_want rfl rfl rfl rfl rfl rfl (V_move rfl) ?_
    refine TL_want rfl rfl rfl rfl rfl rfl (V_move rfl) ?_
    refine TL_want rfl rfl rfl rfl rfl rfl (V_len_str rfl Try.underlying9) ?_
    obtain ⟨r_2, hr_2, H⟩ := bind_elim H
    refine TL_wantE rfl rfl rfl rfl rfl rfl (E_call (Γ := Unit) (val := fun g => vb r_2) (mem := fun g => []) (vs := [vs nonce, vs aad, vi 65552, vi ((s_).length : Int)]) (Lin := []) (Ro := []) (is := []) rfl Try.call63 (F63_calls nonce aad 65552 ((s_).length : Int) r_2 hr_2) rfl trivial) (fun g_3 => ?_)
    refine TL_want rfl rfl rfl rfl rfl rfl (V_un rfl (fun w => notB w r_2)) ?_
    refine TL_v rfl rfl rfl (V_pick (b := false) rfl rfl) ?_
    refine TL_nil ?_
    refine TX_next ?_
    refine TC_cond (b := (!r_2)) rfl (fun hc => ?_) (fun hc => ?_)
    · replace H := ite_t hc H
      refine TC_seq ?_
      refine TC_region ?_
      refine TL_v rfl rfl rfl (V_assign rfl) ?_
      refine TL_v rfl rfl rfl (V_assign rfl) ?_
      refine TL_nil ?_
      refine TX_next ?_
      refine TC_ret ?_
      refine TX_then_ret ?_
      have hrv := Option.some.inj H
      subst hrv
      exact TX_ret (rs := [.tmp 8, .tmp 9]) (vs := [vs ([] : Str), vi 500]) rfl ⟨rfl, rfl, trivial⟩ (fun w' hs' => ⟨(), rfl, Step.left (Step.pulled (is := []) (A := []) hs' rfl)⟩)
    · replace H := ite_f (Bool.eq_false_iff.1 hc) H
      refine TC_skip ?_
      refine TX_next ?_
      refine TC_seq ?_
      refine TC_region ?_
      refine TL_v rfl rfl rfl (V_move rfl) ?_
      refine TL_v rfl rfl rfl (V_len_str rfl Try.underlying9) ?_
      refine TL_v rfl rfl rfl (V_bin rfl rfl (fun w => subI w ((s_).length : Int) 16)) ?_
      refine TL_v rfl rfl rfl (V_assign rfl) ?_
      obtain ⟨n1, hn1, H⟩ := ltt_elim H
      refine TL_re (d := 12) (v := vi (w64 (((s_).length : Int) - 16))) (v' := vi n1) rfl (congrArg vi hn1) ?_
      refine TL_nil ?_
      refine TX_next ?_
      refine TC_seq ?_
      refine TC_seq ?_
      refine TC_region ?_
      refine TL_v rfl rfl rfl (V_move rfl) ?_
      refine TL_v rfl rfl rfl (V_bin rfl rfl (fun w => lssI w n1 0)) ?_
      refine TL_nil ?_
      refine TX_next ?_
      refine TC_cond (b := (decide (n1 < 0))) rfl (fun hc => ?_) (fun hc => ?_)
      · replace H := ite_t (of_decide_eq_true hc) H
        refine TC_seq ?_
        refine TC_region ?_
        refine TL_v rfl rfl rfl (V_assign rfl) ?_
        refine TL_v rfl rfl rfl (V_assign rfl) ?_
        refine TL_nil ?_
        refine TX_next ?_
        refine TC.sub (m' := [(8, vs ([] : Str)), (9, vi 501)]) ⟨rfl, rfl, trivial⟩ ?_
        refine TC_ret ?_
        refine TX_then_ret ?_
        have hrv := Option.some.inj H
        subst hrv
        exact TX_ret (rs := [.tmp 8, .tmp 9]) (vs := [vs ([] : Str), vi 501]) rfl ⟨rfl, rfl, trivial⟩ (fun w' hs' => ⟨(), rfl, Step.left (Step.pulled (is := []) (A := []) hs' rfl)⟩)
      · replace H := ite_f (of_decide_eq_false hc) H
        refine TC_skip ?_
        refine TX_next ?_
        refine TC_seq ?_
        refine TC_region ?_
        refine TL_v rfl rfl rfl (V_move rfl) ?_
        refine TL_v rfl rfl rfl (V_move rfl) ?_
        obtain ⟨h1, H⟩ := if_elim H
        obtain ⟨h2, H⟩ := if_elim H
        refine TL_v rfl rfl rfl (V_sliceStr (l := 0) (h := (n1).toNat) rfl Try.underlying9 Bnd.none' (Bnd.some' (i := n1) rfl h1) (Nat.zero_le _) h2) ?_
        refine TL_e rfl rfl rfl (E_s2bR rfl Try.underlying9 Try.underlying30 Try.underlying5) (fun g_4 => ?_)
        refine TL_v rfl rfl rfl (V_assign rfl) ?_
        refine TL_nil ?_
        refine TX_next ?_
        refine TC.sub (m' := [(1, vs nonce), (2, vs aad), (3, vs s_), (10, ptr (some (g_2.2.1, 0)) 0), (12, vi n1), (13, sl (some (g_4.1, 0)) ((sub s_ 0 ((n1).toNat)).length) (((sub s_ 0 ((n1).toNat)) ++ g_4.2).length))]) ⟨rfl, rfl, rfl, rfl, rfl, rfl, trivial⟩ ?_
        refine TC_seq ?_
        refine TC_seq ?_
        obtain ⟨h3, H⟩ := if_elim H
        obtain ⟨r_3, hr_3, H⟩ := bind_elim H
        obtain ⟨h4, H⟩ := if_elim H
        obtain ⟨h5, H⟩ := if_elim H
        refine TA_begin [⟨some (g_4.1, 0), e8 ((sub s_ 0 ((n1).toNat)) ++ g_4.2)⟩, ⟨some (g_2.2.1, 0), [ptr (some (g_2.2.2.1, 0)) 0]⟩, ⟨some (g_2.2.2.1, 0), e8 r_1.1.toList⟩, ⟨some (g_2.2.2.2, 0), eF (fun V : Vector (BitVec 8) 16 => e8 V.toList) r_1.2.2.1⟩, ⟨some (g_2.2.1, 1), [v64 r_1.2.2.2.1]⟩, ⟨some (g_2.2.1, 2), [v64 r_1.2.2.2.2]⟩] 9 (by kernel_rfl) (N := 9) rfl ?_
        refine TA_take (i := 0) (is := [0, 0, 0, 1, 1, 1]) (done' := #[true, false, false, false, false, false, false, false, false]) rfl rfl rfl rfl (by kernel_rfl) (QP.then (QP.then QP.body)) (by kernel_rfl) rfl (V_move rfl) ?_
        refine TA_take (i := 1) (is := [0, 0, 0, 1, 1, 1]) (done' := #[true, true, false, false, false, false, false, false, false]) rfl rfl rfl rfl (by kernel_rfl) (QP.then (QP.then QP.body)) (by kernel_rfl) rfl (V_move rfl) ?_
        refine TA_take (i := 2) (is := [0, 0, 0, 1, 1, 1]) (done' := #[true, true, true, false, false, false, false, false, false]) rfl rfl rfl rfl (by kernel_rfl) (QP.then (QP.then QP.body)) (by kernel_rfl) rfl (V_move rfl) ?_
        refine TA_take (i := 3) (is := [0, 0, 0, 1, 1, 1]) (done' := #[true, true, true, true, false, false, false, false, false]) rfl rfl rfl rfl (by kernel_rfl) (QP.then (QP.then QP.body)) (by kernel_rfl) rfl (V_move rfl) ?_
        refine TA_take (i := 5) (is := [0, 0, 0, 1, 1, 1]) (done' := #[true, true, true, true, false, true, false, false, false]) rfl rfl rfl rfl (by kernel_rfl) (QP.then (QP.then QP.body)) (by kernel_rfl) rfl (V_move rfl) ?_
        refine TA_take (i := 6) (is := [0, 0, 0, 1, 1, 1]) (done' := #[true, true, true, true, false, true, true, false, false]) rfl rfl rfl rfl (by kernel_rfl) (QP.then (QP.then QP.body)) (by kernel_rfl) rfl (V_move rfl) ?_
        refine TA_take (i := 7) (is := [0, 0, 0, 1, 1, 1]) (done' := #[true, true, true, true, false, true, true, true, false]) rfl rfl rfl rfl (by kernel_rfl) (QP.then (QP.then QP.body)) (by kernel_rfl) rfl (V_sliceStr (l := (n1).toNat) (h := (s_).length) rfl Try.underlying9 (Bnd.some' (i := n1) rfl h4) Bnd.none' h5 (Nat.le_refl _)) ?_
        refine TA_all (rs := [4]) (by kernel_rfl) rfl ?_
        refine ⟨?_, trivial⟩
        refine TO_reE (j := 3) (A := some (g_2.2.2.1, 256)) (cs := [sl (some (g_2.2.2.2, 0)) r_1.2.1 r_1.2.1]) (cs' := [sl (some (g_2.2.2.2, 0)) ((r_1.2.2.1).length) ((r_1.2.2.1).length)]) rfl (congrArg (fun n => [sl (some (g_2.2.2.2, 0)) n n]) h3) ?_
        refine TO_e (is := [0, 0, 0, 1, 1, 1]) (done' := #[true, true, true, true, true, true, true, true, false]) rfl rfl rfl rfl (by kernel_rfl) (E_call (Γ := Unit) (val := fun g => vs r_3) (mem := fun g => []) (vs := [ptr (some (g_2.2.1, 0)) 0, vs nonce, vs aad, sl (some (g_4.1, 0)) ((sub s_ 0 ((n1).toNat)).length) (((sub s_ 0 ((n1).toNat)) ++ g_4.2).length)]) (Lin := []) (Ro := [⟨some (g_2.2.1, 0), [ptr (some (g_2.2.2.1, 0)) 0]⟩, ⟨some (g_2.2.1, 1), [v64 r_1.2.2.2.1]⟩, ⟨some (g_2.2.1, 2), [v64 r_1.2.2.2.2]⟩, ⟨some (g_2.2.2.1, 0), e8 r_1.1.toList⟩, ⟨some (g_2.2.2.1, 256), [sl (some (g_2.2.2.2, 0)) ((r_1.2.2.1).length) ((r_1.2.2.1).length)]⟩, ⟨some (g_2.2.2.2, 0), eF (fun V : Vector (BitVec 8) 16 => e8 V.toList) r_1.2.2.1⟩, ⟨some (g_4.1, 0), e8 (sub s_ 0 ((n1).toNat))⟩]) (is := []) rfl Try.call65 (F65_calls g_2.2.1 0 g_2.2.2.1 0 (some (g_2.2.2.2, 0)) ((r_1.2.2.1).length) (some (g_4.1, 0)) (((sub s_ 0 ((n1).toNat)) ++ g_4.2).length) r_1.1 r_1.2.2.1 r_1.2.2.2.1 r_1.2.2.2.2 nonce aad (sub s_ 0 ((n1).toNat)) (Nat.le_refl _) (row_le _ _) r_3 hr_3) rfl ⟨SrcD.own (j := 1) rfl, SrcD.own (j := 5) rfl, SrcD.own (j := 6) rfl, SrcD.own (j := 2) rfl, SrcD.own (j := 3) rfl, SrcD.own (j := 4) rfl, (srcdRow (SrcD.own (j := 0) rfl)), trivial⟩) (fun _ _ => rfl) (fun g_5 => ?_)
        refine TA_take (i := 8) (is := [0, 0, 0, 1, 1, 1]) (done' := #[true, true, true, true, true, true, true, true, true]) rfl rfl rfl rfl (by kernel_rfl) (QP.then (QP.then QP.body)) (by kernel_rfl) rfl (V_bin rfl rfl (fun w => neqS w r_3 (sub s_ ((n1).toNat) ((s_).length)))) ?_
        refine TA_done (by kernel_rfl) ?_ 0
        refine TX_next ?_
        refine TC_cond (b := (decide (r_3 ≠ sub s_ ((n1).toNat) ((s_).length)))) rfl (fun hc => ?_) (fun hc => ?_)
        · replace H := ite_t (of_decide_eq_true hc) H
          refine TC_seq ?_
          refine TC_region ?_
          refine TL_v rfl rfl rfl (V_assign rfl) ?_
          refine TL_v rfl rfl rfl (V_assign rfl) ?_
          refine TL_nil ?_
          refine TX_next ?_
          refine TC_ret ?_
          refine TX_then_ret ?_
          have hrv := Option.some.inj H
          subst hrv
          exact TX_ret (rs := [.tmp 8, .tmp 9]) (vs := [vs ([] : Str), vi 501]) rfl ⟨rfl, rfl, trivial⟩ (fun w' hs' => ⟨(), rfl, Step.left (Step.pulled (is := []) (A := []) hs' rfl)⟩)
        · replace H := ite_f (of_decide_eq_false hc) H
          refine TC_skip ?_
          refine TX_next ?_
          refine TC_seq ?_
          refine TC_region ?_
          refine TL_v rfl rfl rfl (V_move rfl) ?_
          refine TL_v rfl rfl rfl (V_move rfl) ?_
          refine TL_v rfl rfl rfl (V_move rfl) ?_
          obtain ⟨r_4, hr_4, H⟩ := bind_elim H
          refine TL_e rfl rfl rfl (E_call (Γ := Unit) (val := fun g => Value.tuple [].toArray) (mem := fun g => [⟨some (g_4.1, 0), e8 (r_4 ++ g_4.2)⟩]) (vs := [ptr (some (g_2.2.1, 0)) 0, vs nonce, sl (some (g_4.1, 0)) ((sub s_ 0 ((n1).toNat)).length) (((sub s_ 0 ((n1).toNat)) ++ g_4.2).length)]) (Lin := [⟨some (g_4.1, 0), e8 ((sub s_ 0 ((n1).toNat)) ++ g_4.2)⟩]) (Ro := [⟨some (g_2.2.1, 0), [ptr (some (g_2.2.2.1, 0)) 0]⟩, ⟨some (g_2.2.1, 1), [v64 r_1.2.2.2.1]⟩, ⟨some (g_2.2.1, 2), [v64 r_1.2.2.2.2]⟩, ⟨some (g_2.2.2.1, 0), e8 r_1.1.toList⟩, ⟨some (g_2.2.2.1, 256), [sl (some (g_2.2.2.2, 0)) ((r_1.2.2.1).length) ((r_1.2.2.1).length)]⟩, ⟨some (g_2.2.2.2, 0), eF (fun V : Vector (BitVec 8) 16 => e8 V.toList) r_1.2.2.1⟩]) (is := [0]) rfl Try.call64 (F64_calls g_2.2.1 0 g_2.2.2.1 0 (some (g_2.2.2.2, 0)) ((r_1.2.2.1).length) (some (g_4.1, 0)) g_4.2 r_1.1 r_1.2.2.1 r_1.2.2.2.1 r_1.2.2.2.2 nonce (sub s_ 0 ((n1).toNat)) (Nat.le_refl _) r_4 hr_4) rfl ⟨SrcD.own (j := 0) rfl, SrcD.own (j := 4) rfl, SrcD.own (j := 5) rfl, SrcD.own (j := 1) rfl, SrcD.own (j := 2) rfl, SrcD.own (j := 3) rfl, trivial⟩) (fun g_6 => ?_)
          obtain ⟨h6, H⟩ := if_elim H
          refine TL_re (d := 13) (v := sl (some (g_4.1, 0)) ((sub s_ 0 ((n1).toNat)).length) (((sub s_ 0 ((n1).toNat)) ++ g_4.2).length)) (v' := sl (some (g_4.1, 0)) ((r_4).length) ((r_4 ++ g_4.2).length)) rfl (row_len h6) ?_
          refine TL_re (d := 41) (v := sl (some (g_4.1, 0)) ((sub s_ 0 ((n1).toNat)).length) (((sub s_ 0 ((n1).toNat)) ++ g_4.2).length)) (v' := sl (some (g_4.1, 0)) ((r_4).length) ((r_4 ++ g_4.2).length)) rfl (row_len h6) ?_
          refine TL_re (d := 49) (v := sl (some (g_4.1, 0)) ((sub s_ 0 ((n1).toNat)).length) (((sub s_ 0 ((n1).toNat)) ++ g_4.2).length)) (v' := sl (some (g_4.1, 0)) ((r_4).length) ((r_4 ++ g_4.2).length)) rfl (row_len h6) ?_
          refine TL_nil ?_
          refine TX_next ?_
          refine TC_seq ?_
          refine TC_region ?_
          refine TL_v rfl rfl rfl (V_move rfl) ?_
          refine TL_v rfl rfl rfl (V_b2s rfl Try.underlying30 Try.underlying5 Try.underlying9 (srcRow (Src.own (j := 0) rfl)) rfl) ?_
          refine TL_v rfl rfl rfl (V_assign rfl) ?_
          refine TL_v rfl rfl rfl (V_assign rfl) ?_
          refine TL_nil ?_
          refine TX_next ?_
          refine TC_ret ?_
          have hrv := Option.some.inj H
          subst hrv
          exact TX_ret (rs := [.tmp 8, .tmp 9]) (vs := [vs r_4, vi 0]) rfl ⟨rfl, rfl, trivial⟩ (fun w' hs' => ⟨(), rfl, Step.left (Step.pulled (is := []) (A := []) hs' rfl)⟩)

end Go.Proofs
end

section
namespace Go.Proofs
open Go Go.Kx
set_option linter.unusedVariables false
set_option linter.unusedSimpArgs false
def halberdref4_GcmOpen (key : Str) (nonce : Str) (aad : Str) (s_ : Str) : Option (Str × Int) :=
  (halberdref4_gcmMay key nonce aad s_ 16).bind fun (r_1 : Bool) => (if (!r_1) = true then (some (([] : Str), 500)) else (ltt (w64 (((s_).length : Int) - 16)) fun (k_1 : Int) => (if k_1 < 0 then (some (([] : Str), 501)) else ((halberdref4_schedule key).bind fun (r_2 : List (Vector (BitVec 8) 4)) => (if 0 ≤ k_1 then (if (k_1).toNat ≤ (s_).length then ((halberdref4_tag r_2 nonce aad (sub s_ 0 ((k_1).toNat))).bind fun (r_3 : Str) => (if 0 ≤ k_1 then (if (k_1).toNat ≤ (s_).length then (if r_3 ≠ sub s_ ((k_1).toNat) ((s_).length) then (some (([] : Str), 501)) else (if 0 ≤ k_1 then (if (k_1).toNat ≤ (s_).length then ((halberdref4_counter r_2 nonce 2 (sub s_ 0 ((k_1).toNat))).bind fun (r_4 : Str) => (some (r_4, 0))) else none) else none)) else none) else none)) else none) else none)))))

set_option maxHeartbeats 4000000 in
set_option maxRecDepth 20000 in
theorem F38_calls (key : Str) (nonce : Str) (aad : Str) (s_ : Str) (r : Str × Int) (H : halberdref4_GcmOpen key nonce aad s_ = some r) :
    Does Try.prog 38 [vs key, vs nonce, vs aad, vs s_] [] [] (Γ := Unit) (fun g => Value.tuple [vs r.1, vi r.2].toArray) (fun g => []) := by
  intro w hmem hro hd
  refine calls_of (N := 42) (m0 := [(0, vs key), (1, vs nonce), (2, vs aad), (3, vs s_)]) Try.func38 rfl Try.ntmps38 (argM_ok [vs key, vs nonce, vs aad, vs s_]) rfl hmem hro hd ?_
  unfold halberdref4_GcmOpen at H
  refine TC_seq ?_
  refine TC_region ?_
  refine TL_v rfl rfl rfl (V_assign rfl) ?_
  refine TL_v rfl rfl rfl (V_assign rfl) ?_
  refine TL_nil ?_
  refine TX_next ?_
  refine TC_seq ?_
  refine TC_seq ?_
  refine TC_region ?_
  refine TL_v rfl rfl rfl (V_move rfl) ?_
  refine TL_v rfl rfl rfl (V_move rfl) ?_
  refine TL_v rfl rfl rfl (V_move rfl) ?_
  refine TL_v rfl rfl rfl (V_move rfl) ?_
  obtain ⟨r_1, hr_1, H⟩ := bind_elim H
  refine TL_e rfl rfl rfl (E_call (Γ := Unit) (val := fun g => vb r_1) (mem := fun g => []) (vs := [vs key, vs nonce, vs aad, vs s_, vi 16]) (Lin := []) (Ro := []) (is := []) rfl Try.call66 (F66_calls key nonce aad s_ 16 r_1 hr_1) rfl trivial) (fun g_1 => ?_)
  refine TL_v rfl rfl rfl (V_un rfl (fun w => notB w r_1)) ?_
  refine TL_nil ?_
  refine TX_next ?_
  refine TC_cond (b := (!r_1)) rfl (fun hc => ?_) (fun hc => ?_)
  · replace H := ite_t hc H
    refine TC_seq ?_
    refine TC_region ?_
    refine TL_v rfl rfl rfl (V_assign rfl) ?_
    refine TL_v rfl rfl rfl (V_assign rfl) ?_
    refine TL_nil ?_
    refine TX_next ?_
    refine TC_ret ?_
    refine TX_then_ret ?_
    have hrv := Option.some.inj H
    subst hrv
    exact TX_ret (rs := [.tmp 8, .tmp 9]) (vs := [vs ([] : Str), vi 500]) rfl ⟨rfl, rfl, trivial⟩ (fun w' hs' => ⟨(), rfl, Step.left (Step.pulled (is := []) (A := []) hs' rfl)⟩)
  · replace H := ite_f (Bool.eq_false_iff.1 hc) H
    refine TC_skip ?_
    refine TX_next ?_
    refine TC_seq ?_
    refine TC_region ?_
    refine TL_v rfl rfl rfl (V_move rfl) ?_
    refine TL_v rfl rfl rfl (V_len_str rfl Try.underlying9) ?_
    refine TL_v rfl rfl rfl (V_bin rfl rfl (fun w => subI w ((s_).length : Int) 16)) ?_
    refine TL_v rfl rfl rfl (V_assign rfl) ?_
    obtain ⟨k_1, hk_1, H⟩ := ltt_elim H
    refine TL_re (d := 10) (v := vi (w64 (((s_).length : Int) - 16))) (v' := vi k_1) rfl (congrArg vi hk_1) ?_
    refine TL_nil ?_
    refine TX_next ?_
    refine TC_seq ?_
    refine TC_seq ?_
    refine TC_region ?_
    refine TL_v rfl rfl rfl (V_move rfl) ?_
    refine TL_v rfl rfl rfl (V_bin rfl rfl (fun w => lssI w k_1 0)) ?_
    refine TL_nil ?_
    refine TX_next ?_
    refine TC_cond (b := (decide (k_1 < 0))) rfl (fun hc => ?_) (fun hc => ?_)
    · replace H := ite_t (of_decide_eq_true hc) H
      refine TC_seq ?_
      refine TC_region ?_
      refine TL_v rfl rfl rfl (V_assign rfl) ?_
      refine TL_v rfl rfl rfl (V_assign rfl) ?_
      refine TL_nil ?_
      refine TX_next ?_
      refine TC_ret ?_
      refine TX_then_ret ?_
      have hrv := Option.some.inj H
      subst hrv
      exact TX_ret (rs := [.tmp 8, .tmp 9]) (vs := [vs ([] : Str), vi 501]) rfl ⟨rfl, rfl, trivial⟩ (fun w' hs' => ⟨(), rfl, Step.left (Step.pulled (is := []) (A := []) hs' rfl)⟩)
    · replace H := ite_f (of_decide_eq_false hc) H
      refine TC_skip ?_
      refine TX_next ?_
      refine TC_seq ?_
      refine TC_region ?_
      refine TL_v rfl rfl rfl (V_move rfl) ?_
      obtain ⟨r_2, hr_2, H⟩ := bind_elim H
      refine TL_e rfl rfl rfl (E_call (Γ := Adr × List (Vector (BitVec 8) 4)) (val := fun g => sl g.1 ((r_2).length) ((r_2 ++ g.2).length)) (mem := fun g => [⟨g.1, eF (fun V : Vector (BitVec 8) 4 => e8 V.toList) (r_2 ++ g.2)⟩]) (vs := [vs key]) (Lin := []) (Ro := []) (is := []) rfl Try.call53 (F53_calls key r_2 hr_2) rfl trivial) (fun g_2 => ?_)
      refine TL_v rfl rfl rfl (V_assign rfl) ?_
      refine TL_nil ?_
      refine TX_next ?_
      refine TC_seq ?_
      refine TC_seq ?_
      obtain ⟨h1, H⟩ := if_elim H
      obtain ⟨h2, H⟩ := if_elim H
      obtain ⟨r_3, hr_3, H⟩ := bind_elim H
      obtain ⟨h3, H⟩ := if_elim H
      obtain ⟨h4, H⟩ := if_elim H
      refine TA_begin [⟨g_2.1, eF (fun V : Vector (BitVec 8) 4 => e8 V.toList) (r_2 ++ g_2.2)⟩] 11 (by kernel_rfl) (N := 11) rfl ?_
      refine TA_take (i := 0) (is := [0]) (done' := #[true, false, false, false, false, false, false, false, false, false, false]) rfl rfl rfl rfl (by kernel_rfl) (QP.then (QP.then QP.body)) (by kernel_rfl) rfl (V_move rfl) ?_
      refine TA_take (i := 1) (is := [0]) (done' := #[true, true, false, false, false, false, false, false, false, false, false]) rfl rfl rfl rfl (by kernel_rfl) (QP.then (QP.then QP.body)) (by kernel_rfl) rfl (V_move rfl) ?_
      refine TA_take (i := 2) (is := [0]) (done' := #[true, true, true, false, false, false, false, false, false, false, false]) rfl rfl rfl rfl (by kernel_rfl) (QP.then (QP.then QP.body)) (by kernel_rfl) rfl (V_move rfl) ?_
      refine TA_take (i := 3) (is := [0]) (done' := #[true, true, true, true, false, false, false, false, false, false, false]) rfl rfl rfl rfl (by kernel_rfl) (QP.then (QP.then QP.body)) (by kernel_rfl) rfl (V_move rfl) ?_
      refine TA_take (i := 4) (is := [0]) (done' := #[true, true, true, true, true, false, false, false, false, false, false]) rfl rfl rfl rfl (by kernel_rfl) (QP.then (QP.then QP.body)) (by kernel_rfl) rfl (V_move rfl) ?_
      refine TA_take (i := 5) (is := [0]) (done' := #[true, true, true, true, true, true, false, false, false, false, false]) rfl rfl rfl rfl (by kernel_rfl) (QP.then (QP.then QP.body)) (by kernel_rfl) rfl (V_sliceStr (l := 0) (h := (k_1).toNat) rfl Try.underlying9 Bnd.none' (Bnd.some' (i := k_1) rfl h1) (Nat.zero_le _) h2) ?_
      refine TA_take (i := 7) (is := [0]) (done' := #[true, true, true, true, true, true, false, true, false, false, false]) rfl rfl rfl rfl (by kernel_rfl) (QP.then (QP.then QP.body)) (by kernel_rfl) rfl (V_move rfl) ?_
      refine TA_take (i := 8) (is := [0]) (done' := #[true, true, true, true, true, true, false, true, true, false, false]) rfl rfl rfl rfl (by kernel_rfl) (QP.then (QP.then QP.body)) (by kernel_rfl) rfl (V_move rfl) ?_
      refine TA_take (i := 9) (is := [0]) (done' := #[true, true, true, true, true, true, false, true, true, true, false]) rfl rfl rfl rfl (by kernel_rfl) (QP.then (QP.then QP.body)) (by kernel_rfl) rfl (V_sliceStr (l := (k_1).toNat) (h := (s_).length) rfl Try.underlying9 (Bnd.some' (i := k_1) rfl h3) Bnd.none' h4 (Nat.le_refl _)) ?_
      refine TA_all (rs := [6]) (by kernel_rfl) rfl ?_
      refine ⟨?_, trivial⟩
      refine TO_e (is := [0]) (done' := #[true, true, true, true, true, true, true, true, true, true, false]) rfl rfl rfl rfl (by kernel_rfl) (E_call (Γ := Unit) (val := fun g => vs r_3) (mem := fun g => []) (vs := [sl g_2.1 ((r_2).length) ((r_2 ++ g_2.2).length), vs nonce, vs aad, vs (sub s_ 0 ((k_1).toNat))]) (Lin := []) (Ro := [⟨g_2.1, eF (fun V : Vector (BitVec 8) 4 => e8 V.toList) r_2⟩]) (is := []) rfl Try.call68 (F68_calls g_2.1 ((r_2 ++ g_2.2).length) r_2 nonce aad (sub s_ 0 ((k_1).toNat)) (row_le _ _) r_3 hr_3) rfl ⟨(srcdRowF (s := 4) (fun _ => by simp) (SrcD.own (j := 0) rfl)), trivial⟩) (fun _ _ => rfl) (fun g_3 => ?_)
      refine TA_take (i := 10) (is := [0]) (done' := #[true, true, true, true, true, true, true, true, true, true, true]) rfl rfl rfl rfl (by kernel_rfl) (QP.then (QP.then QP.body)) (by kernel_rfl) rfl (V_bin rfl rfl (fun w => neqS w r_3 (sub s_ ((k_1).toNat) ((s_).length)))) ?_
      refine TA_done (by kernel_rfl) ?_ 0
      refine TX_next ?_
      refine TC.sub (m' := [(1, vs nonce), (3, vs s_), (10, vi k_1), (11, sl g_2.1 ((r_2).length) ((r_2 ++ g_2.2).length)), (35, vb (decide (r_3 ≠ sub s_ ((k_1).toNat) ((s_).length))))]) ⟨rfl, rfl, rfl, rfl, rfl, trivial⟩ ?_
      refine TC_cond (b := (decide (r_3 ≠ sub s_ ((k_1).toNat) ((s_).length)))) rfl (fun hc => ?_) (fun hc => ?_)
      · replace H := ite_t (of_decide_eq_true hc) H
        refine TC_seq ?_
        refine TC_region ?_
        refine TL_v rfl rfl rfl (V_assign rfl) ?_
        refine TL_v rfl rfl rfl (V_assign rfl) ?_
        refine TL_nil ?_
        refine TX_next ?_
        refine TC_ret ?_
        refine TX_then_ret ?_
        have hrv := Option.some.inj H
        subst hrv
        exact TX_ret (rs := [.tmp 8, .tmp 9]) (vs := [vs ([] : Str), vi 501]) rfl ⟨rfl, rfl, trivial⟩ (fun w' hs' => ⟨(), rfl, Step.left (Step.pulled (is := []) (A := []) hs' rfl)⟩)
      · replace H := ite_f (of_decide_eq_false hc) H
        refine TC_skip ?_
        refine TX_next ?_
        refine TC_seq ?_
        refine TC_region ?_
        refine TL_v rfl rfl rfl (V_move rfl) ?_
        refine TL_v rfl rfl rfl (V_move rfl) ?_
        refine TL_v rfl rfl rfl (V_move rfl) ?_
        refine TL_v rfl rfl rfl (V_move rfl) ?_
        obtain ⟨h5, H⟩ := if_elim H
        obtain ⟨h6, H⟩ := if_elim H
        refine TL_v rfl rfl rfl (V_sliceStr (l := 0) (h := (k_1).toNat) rfl Try.underlying9 Bnd.none' (Bnd.some' (i := k_1) rfl h5) (Nat.zero_le _) h6) ?_
        obtain ⟨r_4, hr_4, H⟩ := bind_elim H
        refine TL_e rfl rfl rfl (E_call (Γ := Unit) (val := fun g => vs r_4) (mem := fun g => []) (vs := [sl g_2.1 ((r_2).length) ((r_2 ++ g_2.2).length), vs nonce, vi 2, vs (sub s_ 0 ((k_1).toNat))]) (Lin := []) (Ro := [⟨g_2.1, eF (fun V : Vector (BitVec 8) 4 => e8 V.toList) r_2⟩]) (is := []) rfl Try.call67 (F67_calls g_2.1 ((r_2 ++ g_2.2).length) r_2 nonce 2 (sub s_ 0 ((k_1).toNat)) (row_le _ _) r_4 hr_4) rfl ⟨(srcdRowF (s := 4) (fun _ => by simp) (SrcD.own (j := 0) rfl)), trivial⟩) (fun g_4 => ?_)
        refine TL_v rfl rfl rfl (V_assign rfl) ?_
        refine TL_v rfl rfl rfl (V_assign rfl) ?_
        refine TL_nil ?_
        refine TX_next ?_
        refine TC_ret ?_
        have hrv := Option.some.inj H
        subst hrv
        exact TX_ret (rs := [.tmp 8, .tmp 9]) (vs := [vs r_4, vi 0]) rfl ⟨rfl, rfl, trivial⟩ (fun w' hs' => ⟨(), rfl, Step.left (Step.pulled (is := []) (A := []) hs' rfl)⟩)

end Go.Proofs
end

section
namespace Go.Proofs
open Go Go.Kx
set_option linter.unusedVariables false
set_option linter.unusedSimpArgs false
def gcm_Hash (h : Str) (s_ : Str) : Option (Str × Int) :=
  if ((h).length : Int) ≠ 16 then (some (([] : Str), 500)) else (if (((s_).length : Int).tmod 16) ≠ 0 then (some (([] : Str), 500)) else ((gcm_load h).bind fun (r_1 : BitVec 64 × BitVec 64) => ((gcm_newSum r_1.1 r_1.2).bind fun (r_2 : (Vector (BitVec 64 × BitVec 64) 16) × Vector (BitVec 64) 16) => ((gcm_sum_all r_2.1 r_2.2 0#64 0#64 s_).bind fun (r_3 : BitVec 64 × BitVec 64) => ((gcm_element_bytes r_3.1 r_3.2).bind fun (r_4 : Vector (BitVec 8) 16) => (some (r_4.toList, 0)))))))

set_option maxHeartbeats 4000000 in
set_option maxRecDepth 20000 in
theorem F39_calls (h : Str) (s_ : Str) (r : Str × Int) (H : gcm_Hash h s_ = some r) :
    Does Try.prog 39 [vs h, vs s_] [] [] (Γ := Unit) (fun g => Value.tuple [vs r.1, vi r.2].toArray) (fun g => []) := by
  intro w hmem hro hd
  refine calls_of (N := 32) (m0 := [(0, vs h), (1, vs s_)]) Try.func39 rfl Try.ntmps39 (argM_ok [vs h, vs s_]) rfl hmem hro hd ?_
  unfold gcm_Hash at H
  refine TC_seq ?_
  refine TC_region ?_
  refine TL_v rfl rfl rfl (V_assign rfl) ?_
  refine TL_v rfl rfl rfl (V_assign rfl) ?_
  refine TL_nil ?_
  refine TX_next ?_
  refine TC_seq ?_
  refine TC_seq ?_
  refine TC_region ?_
  refine TL_v rfl rfl rfl (V_move rfl) ?_
  refine TL_v rfl rfl rfl (V_len_str rfl Try.underlying9) ?_
  refine TL_v rfl rfl rfl (V_bin rfl rfl (fun w => neqI w ((h).length : Int) 16)) ?_
  refine TL_v rfl rfl rfl (V_move rfl) ?_
  refine TL_fork (d := 11) (b := (decide (((h).length : Int) ≠ 16))) rfl (fun hc => ?_) (fun hc => ?_)
  · replace H := ite_t (of_decide_eq_true hc) H
    refine TL_skip rfl rfl rfl rfl rfl rfl rfl ?_
    refine TL_skip rfl rfl rfl rfl rfl rfl rfl ?_
    refine TL_skip rfl rfl rfl rfl rfl rfl rfl ?_
    refine TL_skip rfl rfl rfl rfl rfl rfl rfl ?_
    refine TL_v rfl rfl rfl (V_pick (b := true) rfl rfl) ?_
    refine TL_nil ?_
    refine TX_next ?_
    refine TC_cond_t rfl ?_
    refine TC_seq ?_
    refine TC_region ?_
    refine TL_v rfl rfl rfl (V_assign rfl) ?_
    refine TL_v rfl rfl rfl (V_assign rfl) ?_
    refine TL_nil ?_
    refine TX_next ?_
    refine TC_ret ?_
    refine TX_then_ret ?_
    have hrv := Option.some.inj H
    subst hrv
    exact TX_ret (rs := [.tmp 4, .tmp 5]) (vs := [vs ([] : Str), vi 500]) rfl ⟨rfl, rfl, trivial⟩ (fun w' hs' => ⟨(), rfl, Step.left (Step.pulled (is := []) (A := []) hs' rfl)⟩)
  · replace H := ite_f (of_decide_eq_false hc) H
    refine TL_want rfl rfl rfl rfl rfl rfl (V_move rfl) ?_
    refine TL_want rfl rfl rfl rfl rfl rfl (V_len_str rfl Try.underlying9) ?_
    refine TL_want rfl rfl rfl rfl rfl rfl (V_bin rfl rfl (fun w => remI w ((s_).length : Int) 16 (by decide))) ?_
    refine TL_want rfl rfl rfl rfl rfl rfl (V_bin rfl rfl (fun w => neqI w (((s_).length : Int).tmod 16) 0)) ?_
    refine TL_v rfl rfl rfl (V_pick (b := false) rfl rfl) ?_
    refine TL_nil ?_
    refine TX_next ?_
    refine TC_cond (b := (decide ((((s_).length : Int).tmod 16) ≠ 0))) rfl (fun hc => ?_) (fun hc => ?_)
    · replace H := ite_t (of_decide_eq_true hc) H
      refine TC_seq ?_
      refine TC_region ?_
      refine TL_v rfl rfl rfl (V_assign rfl) ?_
      refine TL_v rfl rfl rfl (V_assign rfl) ?_
      refine TL_nil ?_
      refine TX_next ?_
      refine TC_ret ?_
      refine TX_then_ret ?_
      have hrv := Option.some.inj H
      subst hrv
      exact TX_ret (rs := [.tmp 4, .tmp 5]) (vs := [vs ([] : Str), vi 500]) rfl ⟨rfl, rfl, trivial⟩ (fun w' hs' => ⟨(), rfl, Step.left (Step.pulled (is := []) (A := []) hs' rfl)⟩)
    · replace H := ite_f (of_decide_eq_false hc) H
      refine TC_skip ?_
      refine TX_next ?_
      refine TC_seq ?_
      refine TC_region ?_
      refine TL_v rfl rfl rfl (V_move rfl) ?_
      refine TL_e rfl rfl rfl (E_s2bR rfl Try.underlying9 Try.underlying30 Try.underlying5) (fun g_1 => ?_)
      obtain ⟨r_1, hr_1, H⟩ := bind_elim H
      refine TL_e rfl rfl rfl (E_call (Γ := Unit) (val := fun g => Value.agg (flat [(1, [v64 r_1.1]), (1, [v64 r_1.2])]).toArray) (mem := fun g => []) (vs := [sl (some (g_1.1, 0)) ((h).length) ((h ++ g_1.2).length)]) (Lin := []) (Ro := [⟨some (g_1.1, 0), e8 h⟩]) (is := []) rfl Try.call70 (F70_calls (some (g_1.1, 0)) ((h ++ g_1.2).length) h (row_le _ _) r_1 hr_1) rfl ⟨(srcdRow (SrcD.own (j := 0) rfl)), trivial⟩) (fun g_2 => ?_)
      obtain ⟨r_2, hr_2, H⟩ := bind_elim H
      refine TL_e rfl rfl rfl (E_call (Γ := Nat) (val := fun g => ptr (some (g, 0)) 0) (mem := fun g => [⟨some (g, 0), eF (fun p : BitVec 64 × BitVec 64 => [v64 p.1, v64 p.2]) r_2.1.toList⟩, ⟨some (g, 32), e64 r_2.2.toList⟩, ⟨some (g, 48), [v64 0#64]⟩, ⟨some (g, 49), [v64 0#64]⟩]) (vs := [Value.agg (flat [(1, [v64 r_1.1]), (1, [v64 r_1.2])]).toArray]) (Lin := []) (Ro := []) (is := []) rfl Try.call69 (F69_calls r_1.1 r_1.2 r_2 hr_2) rfl trivial) (fun g_3 => ?_)
      refine TL_v rfl rfl rfl (V_assign rfl) ?_
      refine TL_nil ?_
      refine TX_next ?_
      refine TC_seq ?_
      refine TC_region ?_
      refine TL_v rfl rfl rfl (V_move rfl) ?_
      refine TL_v rfl rfl rfl (V_move rfl) ?_
      refine TL_e rfl rfl rfl (E_s2bR rfl Try.underlying9 Try.underlying30 Try.underlying5) (fun g_4 => ?_)
      obtain ⟨r_3, hr_3, H⟩ := bind_elim H
      refine TL_e rfl rfl rfl (E_call (Γ := Unit) (val := fun g => Value.tuple [].toArray) (mem := fun g => [⟨some (g_3, 48), [v64 r_3.1]⟩, ⟨some (g_3, 49), [v64 r_3.2]⟩]) (vs := [ptr (some (g_3, 0)) 0, sl (some (g_4.1, 0)) ((s_).length) ((s_ ++ g_4.2).length)]) (Lin := [⟨some (g_3, 48), [v64 0#64]⟩, ⟨some (g_3, 49), [v64 0#64]⟩]) (Ro := [⟨some (g_3, 0), eF (fun p : BitVec 64 × BitVec 64 => [v64 p.1, v64 p.2]) r_2.1.toList⟩, ⟨some (g_3, 32), e64 r_2.2.toList⟩, ⟨some (g_4.1, 0), e8 s_⟩]) (is := [3, 3]) rfl Try.call71 (F71_calls g_3 0 (some (g_4.1, 0)) ((s_ ++ g_4.2).length) r_2.1 r_2.2 0#64 0#64 s_ (row_le _ _) r_3 hr_3) rfl ⟨SrcD.own (j := 1) rfl, SrcD.own (j := 2) rfl, (srcdRow (SrcD.own (j := 0) rfl)), trivial⟩) (fun g_5 => ?_)
      refine TL_nil ?_
      refine TX_next ?_
      refine TC_seq ?_
      refine TC_region ?_
      refine TL_v rfl rfl rfl (V_move rfl) ?_
      refine TL_v rfl rfl rfl (V_nilCheck rfl) ?_
      refine TL_v rfl rfl rfl (V_fieldE rfl Try.underlying108 rfl rfl TryI.inf103 rfl (v := ptr (some (g_3, 48)) 0) rfl) ?_
      refine TL_v rfl rfl rfl (V_loadAgg (n := 2) (cs := flat [(1, [v64 r_3.1]), (1, [v64 r_3.2])]) rfl (by simp) (SrcEnts (b := g_3) [(1, [v64 r_3.1]), (1, [v64 r_3.2])] 48 ⟨rfl, rfl, trivial⟩ (AllSrc.all (M := ents g_3 48 [(1, [v64 r_3.1]), (1, [v64 r_3.2])]) ⟨Src.own (j := 0) rfl, Src.own (j := 1) rfl, trivial⟩)) Try.isAgg103 TryI.inf103 rfl (flat_len ⟨rfl, rfl, trivial⟩ rfl)) ?_
      obtain ⟨r_4, hr_4, H⟩ := bind_elim H
      refine TL_e rfl rfl rfl (E_call (Γ := Unit) (val := fun g => Value.agg (flat [(16, e8 r_4.toList)]).toArray) (mem := fun g => []) (vs := [Value.agg (flat [(1, [v64 r_3.1]), (1, [v64 r_3.2])]).toArray]) (Lin := []) (Ro := []) (is := []) rfl Try.call72 (F72_calls r_3.1 r_3.2 r_4 hr_4) rfl trivial) (fun g_6 => ?_)
      refine TL_e rfl rfl rfl (E_allocP [(16, e8 ((Vector.replicate 16 0#8).toList))] TryI.inf71 TryI.zer71 ⟨(lenV (f := v8) (Vector.replicate 16 0#8)), trivial⟩) (fun b1 => ?_)
      refine TL_n rfl rfl (E_storeAgg (n := 16) (j := 0) (vs := e8 r_4.toList) rfl rfl TryI.inf71 rfl (lenV (f := v8) r_4) (OneC.map (fun _ => rfl) _) rfl (Nat.le_of_eq (by simp)) (cs' := e8 r_4.toList) (splice_all (by simp))) (fun _ => ?_)
      refine TL_nil ?_
      refine TX_next ?_
      refine TC_seq ?_
      refine TC_region ?_
      refine TL_v rfl rfl rfl (V_sliceArr0 rfl (by simp) Try.underlying71 TryI.inf5 rfl) ?_
      refine TL_v rfl rfl rfl (V_b2s rfl Try.underlying30 Try.underlying5 Try.underlying9 (Src.own (j := 0) rfl) (by simp)) ?_
      refine TL_v rfl rfl rfl (V_assign rfl) ?_
      refine TL_v rfl rfl rfl (V_assign rfl) ?_
      refine TL_nil ?_
      refine TX_next ?_
      refine TC.sub (m' := [(4, vs r_4.toList), (5, vi 0)]) ⟨rfl, rfl, trivial⟩ ?_
      refine TC_ret ?_
      have hrv := Option.some.inj H
      subst hrv
      exact TX_ret (rs := [.tmp 4, .tmp 5]) (vs := [vs r_4.toList, vi 0]) rfl ⟨rfl, rfl, trivial⟩ (fun w' hs' => ⟨(), rfl, Step.left (Step.pulled (is := []) (A := []) hs' rfl)⟩)

end Go.Proofs
end

section
namespace Go.Proofs
open Go Go.Kx
set_option linter.unusedVariables false
set_option linter.unusedSimpArgs false
def halberdref4_Ghash (h : Str) (s_ : Str) : Option (Str × Int) :=
  if ((h).length : Int) ≠ 16 then (some (([] : Str), 500)) else (if (((s_).length : Int).tmod 16) ≠ 0 then (some (([] : Str), 500)) else ((halberdref4_ghash h s_).bind fun (r_1 : Str) => (some (r_1, 0))))

set_option maxHeartbeats 4000000 in
set_option maxRecDepth 20000 in
theorem F40_calls (h : Str) (s_ : Str) (r : Str × Int) (H : halberdref4_Ghash h s_ = some r) :
    Does Try.prog 40 [vs h, vs s_] [] [] (Γ := Unit) (fun g => Value.tuple [vs r.1, vi r.2].toArray) (fun g => []) := by
  intro w hmem hro hd
  refine calls_of (N := 18) (m0 := [(0, vs h), (1, vs s_)]) Try.func40 rfl Try.ntmps40 (argM_ok [vs h, vs s_]) rfl hmem hro hd ?_
  unfold halberdref4_Ghash at H
  refine TC_seq ?_
  refine TC_region ?_
  refine TL_v rfl rfl rfl (V_assign rfl) ?_
  refine TL_v rfl rfl rfl (V_assign rfl) ?_
  refine TL_nil ?_
  refine TX_next ?_
  refine TC_seq ?_
  refine TC_seq ?_
  refine TC_region ?_
  refine TL_v rfl rfl rfl (V_move rfl) ?_
  refine TL_v rfl rfl rfl (V_len_str rfl Try.underlying9) ?_
  refine TL_v rfl rfl rfl (V_bin rfl rfl (fun w => neqI w ((h).length : Int) 16)) ?_
  refine TL_v rfl rfl rfl (V_move rfl) ?_
  refine TL_fork (d := 9) (b := (decide (((h).length : Int) ≠ 16))) rfl (fun hc => ?_) (fun hc => ?_)
  · replace H := ite_t (of_decide_eq_true hc) H
    refine TL_skip rfl rfl rfl rfl rfl rfl rfl ?_
    refine TL_skip rfl rfl rfl rfl rfl rfl rfl ?_
    refine TL_skip rfl rfl rfl rfl rfl rfl rfl ?_
    refine TL_skip rfl rfl rfl rfl rfl rfl rfl ?_
    refine TL_v rfl rfl rfl (V_pick (b := true) rfl rfl) ?_
    refine TL_nil ?_
    refine TX_next ?_
    refine TC_cond_t rfl ?_
    refine TC_seq ?_
    refine TC_region ?_
    refine TL_v rfl rfl rfl (V_assign rfl) ?_
    refine TL_v rfl rfl rfl (V_assign rfl) ?_
    refine TL_nil ?_
    refine TX_next ?_
    refine TC_ret ?_
    refine TX_then_ret ?_
    have hrv := Option.some.inj H
    subst hrv
    exact TX_ret (rs := [.tmp 4, .tmp 5]) (vs := [vs ([] : Str), vi 500]) rfl ⟨rfl, rfl, trivial⟩ (fun w' hs' => ⟨(), rfl, Step.left (Step.pulled (is := []) (A := []) hs' rfl)⟩)
  · replace H := ite_f (of_decide_eq_false hc) H
    refine TL_want rfl rfl rfl rfl rfl rfl (V_move rfl) ?_
    refine TL_want rfl rfl rfl rfl rfl rfl (V_len_str rfl Try.underlying9) ?_
    refine TL_want rfl rfl rfl rfl rfl rfl (V_bin rfl rfl (fun w => remI w ((s_).length : Int) 16 (by decide))) ?_
    refine TL_want rfl rfl rfl rfl rfl rfl (V_bin rfl rfl (fun w => neqI w (((s_).length : Int).tmod 16) 0)) ?_
    refine TL_v rfl rfl rfl (V_pick (b := false) rfl rfl) ?_
    refine TL_nil ?_
    refine TX_next ?_
    refine TC_cond (b := (decide ((((s_).length : Int).tmod 16) ≠ 0))) rfl (fun hc => ?_) (fun hc => ?_)
    · replace H := ite_t (of_decide_eq_true hc) H
      refine TC_seq ?_
      refine TC_region ?_
      refine TL_v rfl rfl rfl (V_assign rfl) ?_
      refine TL_v rfl rfl rfl (V_assign rfl) ?_
      refine TL_nil ?_
      refine TX_next ?_
      refine TC_ret ?_
      refine TX_then_ret ?_
      have hrv := Option.some.inj H
      subst hrv
      exact TX_ret (rs := [.tmp 4, .tmp 5]) (vs := [vs ([] : Str), vi 500]) rfl ⟨rfl, rfl, trivial⟩ (fun w' hs' => ⟨(), rfl, Step.left (Step.pulled (is := []) (A := []) hs' rfl)⟩)
    · replace H := ite_f (of_decide_eq_false hc) H
      refine TC_skip ?_
      refine TX_next ?_
      refine TC_seq ?_
      refine TC_region ?_
      refine TL_v rfl rfl rfl (V_move rfl) ?_
      refine TL_v rfl rfl rfl (V_move rfl) ?_
      obtain ⟨r_1, hr_1, H⟩ := bind_elim H
      refine TL_e rfl rfl rfl (E_call (Γ := Unit) (val := fun g => vs r_1) (mem := fun g => []) (vs := [vs h, vs s_]) (Lin := []) (Ro := []) (is := []) rfl Try.call73 (F73_calls h s_ r_1 hr_1) rfl trivial) (fun g_1 => ?_)
      refine TL_v rfl rfl rfl (V_assign rfl) ?_
      refine TL_v rfl rfl rfl (V_assign rfl) ?_
      refine TL_nil ?_
      refine TX_next ?_
      refine TC_ret ?_
      have hrv := Option.some.inj H
      subst hrv
      exact TX_ret (rs := [.tmp 4, .tmp 5]) (vs := [vs r_1, vi 0]) rfl ⟨rfl, rfl, trivial⟩ (fun w' hs' => ⟨(), rfl, Step.left (Step.pulled (is := []) (A := []) hs' rfl)⟩)

end Go.Proofs
end

section
namespace Go.Proofs
open Go Go.Kx
set_option linter.unusedVariables false
set_option linter.unusedSimpArgs false
def halberdlaw5_awake : Option (Bool) :=
  if (List.replicate 16 0#8).length = 16 then (ltt (List.replicate 16 0#8) fun (z1 : Str) => (if 12 ≤ (z1).length then ((gcm_Seal z1 (sub z1 0 12) ([] : Str) ([] : Str)).bind fun (r_1 : Str × Int) => (if 12 ≤ (z1).length then ((gcm_Open z1 (sub z1 0 12) ([] : Str) r_1.1).bind fun (r_2 : Str × Int) => (if 12 ≤ (z1).length then ((gcm_Open z1 (sub z1 0 12) ([120#8] : Str) r_1.1).bind fun (r_3 : Str × Int) => ((gcm_Seal ([] : Str) ([] : Str) ([] : Str) ([] : Str)).bind fun (r_4 : Str × Int) => ((gcm_Hash z1 z1).bind fun (r_5 : Str × Int) => (if ((r_1.1).length : Int) = 16 then (if 0 ≤ (0 : Int) ∧ (0 : Int) < ((r_1.1).length : Int) then (if (sg r_1.1 0) = 88#8 then (if 0 ≤ (1 : Int) ∧ (1 : Int) < ((r_1.1).length : Int) then (if (sg r_1.1 1) = 226#8 then ((halberdlaw0_Num r_1.2).bind fun (r_6 : Int) => (if r_6 = 0 then (if r_2.1 = ([] : Str) then ((halberdlaw0_Num r_2.2).bind fun (r_7 : Int) => (if r_7 = 0 then ((halberdlaw0_Num r_3.2).bind fun (r_8 : Int) => (if r_8 = 501 then ((halberdlaw0_Num r_4.2).bind fun (r_9 : Int) => (if r_9 = 500 then (if r_5.1 = z1 then ((halberdlaw0_Num r_5.2).bind fun (r_10 : Int) => (ltt (decide (r_10 = 0)) fun (x1 : Bool) => (some x1))) else (some false)) else (some false))) else (some false))) else (some false))) else (some false)) else (some false))) else (some false)) else none) else (some false)) else none) else (some false))))) else none)) else none)) else none)) else none

set_option maxHeartbeats 4000000 in
set_option maxRecDepth 20000 in
theorem F41_calls (r : Bool) (H : halberdlaw5_awake = some r) :
    Does Try.prog 41 [] [] [] (Γ := Unit) (fun g => vb r) (fun g => []) := by
  intro w hmem hro hd
  refine calls_of (N := 94) (m0 := []) Try.func41 rfl Try.ntmps41 (argM_ok []) rfl hmem hro hd ?_
  unfold halberdlaw5_awake at H
  refine TC_seq ?_
  refine TC_region ?_
  refine TL_v rfl rfl rfl (V_assign rfl) ?_
  refine TL_nil ?_
  refine TX_next ?_
  refine TC_seq ?_
  refine TC_region ?_
  refine TL_e rfl rfl rfl (E_mk1 rfl rfl Try.underlying30 TryI.inf5 (z := v8 0#8) rfl rfl rfl (B := 1) rfl (by decide) (Int.le_refl _) (by decide) (by decide) (n' := 16) (c' := 16) rfl rfl (cs := e8 (List.replicate 16 0#8)) (rep_map (f := v8))) (fun b1 => ?_)
  obtain ⟨h1, H⟩ := if_elim H
  refine TL_v rfl rfl rfl (V_b2s rfl Try.underlying30 Try.underlying5 Try.underlying9 (Src.own (j := 0) rfl) h1) ?_
  refine TL_v rfl rfl rfl (V_assign rfl) ?_
  obtain ⟨z1, hz1, H⟩ := ltt_elim H
  refine TL_re (d := 1) (v := vs (List.replicate 16 0#8)) (v' := vs z1) rfl (congrArg vs hz1) ?_
  refine TL_nil ?_
  refine TX_next ?_
  refine TC_seq ?_
  refine TC_region ?_
  refine TL_v rfl rfl rfl (V_move rfl) ?_
  refine TL_v rfl rfl rfl (V_move rfl) ?_
  obtain ⟨h2, H⟩ := if_elim H
  refine TL_v rfl rfl rfl (V_sliceStr (l := 0) (h := 12) rfl Try.underlying9 Bnd.none' (Bnd.some' (i := 12) rfl (by decide)) (Nat.zero_le _) h2) ?_
  obtain ⟨r_1, hr_1, H⟩ := bind_elim H
  refine TL_e rfl rfl rfl (E_call (Γ := Unit) (val := fun g => Value.tuple [vs r_1.1, vi r_1.2].toArray) (mem := fun g => []) (vs := [vs z1, vs (sub z1 0 12), vs ([] : Str), vs ([] : Str)]) (Lin := []) (Ro := []) (is := []) rfl Try.call35 (F35_calls z1 (sub z1 0 12) ([] : Str) ([] : Str) r_1 hr_1) rfl trivial) (fun g_1 => ?_)
  refine TL_v rfl rfl rfl (V_move rfl) ?_
  refine TL_v rfl rfl rfl (V_extract (vs := [vs r_1.1, vi r_1.2]) rfl rfl) ?_
  refine TL_v rfl rfl rfl (V_extract (vs := [vs r_1.1, vi r_1.2]) rfl rfl) ?_
  refine TL_v rfl rfl rfl (V_assign rfl) ?_
  refine TL_v rfl rfl rfl (V_assign rfl) ?_
  refine TL_nil ?_
  refine TX_next ?_
  refine TC_seq ?_
  refine TC_region ?_
  refine TL_v rfl rfl rfl (V_move rfl) ?_
  refine TL_v rfl rfl rfl (V_move rfl) ?_
  obtain ⟨h3, H⟩ := if_elim H
  refine TL_v rfl rfl rfl (V_sliceStr (l := 0) (h := 12) rfl Try.underlying9 Bnd.none' (Bnd.some' (i := 12) rfl (by decide)) (Nat.zero_le _) h3) ?_
  refine TL_v rfl rfl rfl (V_move rfl) ?_
  obtain ⟨r_2, hr_2, H⟩ := bind_elim H
  refine TL_e rfl rfl rfl (E_call (Γ := Unit) (val := fun g => Value.tuple [vs r_2.1, vi r_2.2].toArray) (mem := fun g => []) (vs := [vs z1, vs (sub z1 0 12), vs ([] : Str), vs r_1.1]) (Lin := []) (Ro := []) (is := []) rfl Try.call37 (F37_calls z1 (sub z1 0 12) ([] : Str) r_1.1 r_2 hr_2) rfl trivial) (fun g_2 => ?_)
  refine TL_v rfl rfl rfl (V_move rfl) ?_
  refine TL_v rfl rfl rfl (V_extract (vs := [vs r_2.1, vi r_2.2]) rfl rfl) ?_
  refine TL_v rfl rfl rfl (V_extract (vs := [vs r_2.1, vi r_2.2]) rfl rfl) ?_
  refine TL_v rfl rfl rfl (V_assign rfl) ?_
  refine TL_v rfl rfl rfl (V_assign rfl) ?_
  refine TL_nil ?_
  refine TX_next ?_
  refine TC_seq ?_
  refine TC_region ?_
  refine TL_v rfl rfl rfl (V_move rfl) ?_
  refine TL_v rfl rfl rfl (V_move rfl) ?_
  obtain ⟨h4, H⟩ := if_elim H
  refine TL_v rfl rfl rfl (V_sliceStr (l := 0) (h := 12) rfl Try.underlying9 Bnd.none' (Bnd.some' (i := 12) rfl (by decide)) (Nat.zero_le _) h4) ?_
  refine TL_v rfl rfl rfl (V_move rfl) ?_
  obtain ⟨r_3, hr_3, H⟩ := bind_elim H
  refine TL_e rfl rfl rfl (E_call (Γ := Unit) (val := fun g => Value.tuple [vs r_3.1, vi r_3.2].toArray) (mem := fun g => []) (vs := [vs z1, vs (sub z1 0 12), vs ([120#8] : Str), vs r_1.1]) (Lin := []) (Ro := []) (is := []) rfl Try.call37 (F37_calls z1 (sub z1 0 12) ([120#8] : Str) r_1.1 r_3 hr_3) rfl trivial) (fun g_3 => ?_)
  refine TL_v rfl rfl rfl (V_move rfl) ?_
  refine TL_v rfl rfl rfl (V_extract (vs := [vs r_3.1, vi r_3.2]) rfl rfl) ?_
  refine TL_v rfl rfl rfl (V_extract (vs := [vs r_3.1, vi r_3.2]) rfl rfl) ?_
  refine TL_v rfl rfl rfl (V_assign rfl) ?_
  refine TL_v rfl rfl rfl (V_assign rfl) ?_
  refine TL_nil ?_
  refine TX_next ?_
  refine TC.sub (m' := [(1, vs z1), (2, vs r_1.1), (3, vi r_1.2), (4, vs r_2.1), (5, vi r_2.2), (7, vi r_3.2)]) ⟨rfl, rfl, rfl, rfl, rfl, rfl, trivial⟩ ?_
  refine TC_seq ?_
  refine TC_region ?_
  obtain ⟨r_4, hr_4, H⟩ := bind_elim H
  refine TL_e rfl rfl rfl (E_call (Γ := Unit) (val := fun g => Value.tuple [vs r_4.1, vi r_4.2].toArray) (mem := fun g => []) (vs := [vs ([] : Str), vs ([] : Str), vs ([] : Str), vs ([] : Str)]) (Lin := []) (Ro := []) (is := []) rfl Try.call35 (F35_calls ([] : Str) ([] : Str) ([] : Str) ([] : Str) r_4 hr_4) rfl trivial) (fun g_4 => ?_)
  refine TL_v rfl rfl rfl (V_move rfl) ?_
  refine TL_v rfl rfl rfl (V_extract (vs := [vs r_4.1, vi r_4.2]) rfl rfl) ?_
  refine TL_v rfl rfl rfl (V_extract (vs := [vs r_4.1, vi r_4.2]) rfl rfl) ?_
  refine TL_v rfl rfl rfl (V_assign rfl) ?_
  refine TL_v rfl rfl rfl (V_assign rfl) ?_
  refine TL_nil ?_
  refine TX_next ?_
  refine TC_seq ?_
  refine TC_region ?_
  refine TL_v rfl rfl rfl (V_move rfl) ?_
  refine TL_v rfl rfl rfl (V_move rfl) ?_
  obtain ⟨r_5, hr_5, H⟩ := bind_elim H
  refine TL_e rfl rfl rfl (E_call (Γ := Unit) (val := fun g => Value.tuple [vs r_5.1, vi r_5.2].toArray) (mem := fun g => []) (vs := [vs z1, vs z1]) (Lin := []) (Ro := []) (is := []) rfl Try.call39 (F39_calls z1 z1 r_5 hr_5) rfl trivial) (fun g_5 => ?_)
  refine TL_v rfl rfl rfl (V_move rfl) ?_
  refine TL_v rfl rfl rfl (V_extract (vs := [vs r_5.1, vi r_5.2]) rfl rfl) ?_
  refine TL_v rfl rfl rfl (V_extract (vs := [vs r_5.1, vi r_5.2]) rfl rfl) ?_
  refine TL_v rfl rfl rfl (V_assign rfl) ?_
  refine TL_v rfl rfl rfl (V_assign rfl) ?_
  refine TL_nil ?_
  refine TX_next ?_
  refine TC_seq ?_
  refine TC_region ?_
  refine TL_v rfl rfl rfl (V_move rfl) ?_
  refine TL_v rfl rfl rfl (V_len_str rfl Try.underlying9) ?_
  refine TL_v rfl rfl rfl (V_bin rfl rfl (fun w => eqlI w ((r_1.1).length : Int) 16)) ?_
  refine TL_v rfl rfl rfl (V_move rfl) ?_
  refine TL_fork (d := 50) (b := (decide (((r_1.1).length : Int) = 16))) rfl (fun hc => ?_) (fun hc => ?_)
  · replace H := ite_t (of_decide_eq_true hc) H
    refine TL_want rfl rfl rfl rfl rfl rfl (V_move rfl) ?_
    obtain ⟨h5, H⟩ := if_elim H
    refine TL_want rfl rfl rfl rfl rfl rfl (V_idxStr rfl rfl (i := 0) Try.underlying9 h5.1 h5.2) ?_
    refine TL_want rfl rfl rfl rfl rfl rfl (V_bin rfl rfl (fun w => eql8 w (sg r_1.1 0) 88#8)) ?_
    refine TL_v rfl rfl rfl (V_pick (b := true) rfl rfl) ?_
    refine TL_v rfl rfl rfl (V_move rfl) ?_
    refine TL_fork (d := 55) (b := (decide ((sg r_1.1 0) = 88#8))) rfl (fun hc => ?_) (fun hc => ?_)
    · replace H := ite_t (of_decide_eq_true hc) H
      refine TL_want rfl rfl rfl rfl rfl rfl (V_move rfl) ?_
      obtain ⟨h6, H⟩ := if_elim H
      refine TL_want rfl rfl rfl rfl rfl rfl (V_idxStr rfl rfl (i := 1) Try.underlying9 h6.1 h6.2) ?_
      refine TL_want rfl rfl rfl rfl rfl rfl (V_bin rfl rfl (fun w => eql8 w (sg r_1.1 1) 226#8)) ?_
      refine TL_v rfl rfl rfl (V_pick (b := true) rfl rfl) ?_
      refine TL_v rfl rfl rfl (V_move rfl) ?_
      refine TL_fork (d := 60) (b := (decide ((sg r_1.1 1) = 226#8))) rfl (fun hc => ?_) (fun hc => ?_)
      · replace H := ite_t (of_decide_eq_true hc) H
        refine TL_want rfl rfl rfl rfl rfl rfl (V_move rfl) ?_
        obtain ⟨r_6, hr_6, H⟩ := bind_elim H
        refine TL_wantE rfl rfl rfl rfl rfl rfl (E_call (Γ := Unit) (val := fun g => vi r_6) (mem := fun g => []) (vs := [vi r_1.2]) (Lin := []) (Ro := []) (is := []) rfl Try.call25 (F25_calls r_1.2 r_6 hr_6) rfl trivial) (fun g_6 => ?_)
        refine TL_want rfl rfl rfl rfl rfl rfl (V_bin rfl rfl (fun w => eqlI w r_6 0)) ?_
        refine TL_v rfl rfl rfl (V_pick (b := true) rfl rfl) ?_
        refine TL_v rfl rfl rfl (V_move rfl) ?_
        refine TL_fork (d := 65) (b := (decide (r_6 = 0))) rfl (fun hc => ?_) (fun hc => ?_)
        · replace H := ite_t (of_decide_eq_true hc) H
          refine TL_want rfl rfl rfl rfl rfl rfl (V_move rfl) ?_
          refine TL_want rfl rfl rfl rfl rfl rfl (V_bin rfl rfl (fun w => eqlS w r_2.1 ([] : Str))) ?_
          refine TL_v rfl rfl rfl (V_pick (b := true) rfl rfl) ?_
          refine TL_v rfl rfl rfl (V_move rfl) ?_
          refine TL_fork (d := 69) (b := (decide (r_2.1 = ([] : Str)))) rfl (fun hc => ?_) (fun hc => ?_)
          · replace H := ite_t (of_decide_eq_true hc) H
            refine TL_want rfl rfl rfl rfl rfl rfl (V_move rfl) ?_
            obtain ⟨r_7, hr_7, H⟩ := bind_elim H
            refine TL_wantE rfl rfl rfl rfl rfl rfl (E_call (Γ := Unit) (val := fun g => vi r_7) (mem := fun g => []) (vs := [vi r_2.2]) (Lin := []) (Ro := []) (is := []) rfl Try.call25 (F25_calls r_2.2 r_7 hr_7) rfl trivial) (fun g_7 => ?_)
            refine TL_want rfl rfl rfl rfl rfl rfl (V_bin rfl rfl (fun w => eqlI w r_7 0)) ?_
            refine TL_v rfl rfl rfl (V_pick (b := true) rfl rfl) ?_
            refine TL_v rfl rfl rfl (V_move rfl) ?_
            refine TL_fork (d := 74) (b := (decide (r_7 = 0))) rfl (fun hc => ?_) (fun hc => ?_)
            · replace H := ite_t (of_decide_eq_true hc) H
              refine TL_want rfl rfl rfl rfl rfl rfl (V_move rfl) ?_
              obtain ⟨r_8, hr_8, H⟩ := bind_elim H
              refine TL_wantE rfl rfl rfl rfl rfl rfl (E_call (Γ := Unit) (val := fun g => vi r_8) (mem := fun g => []) (vs := [vi r_3.2]) (Lin := []) (Ro := []) (is := []) rfl Try.call25 (F25_calls r_3.2 r_8 hr_8) rfl trivial) (fun g_8 => ?_)
              refine TL_want rfl rfl rfl rfl rfl rfl (V_bin rfl rfl (fun w => eqlI w r_8 501)) ?_
              refine TL_v rfl rfl rfl (V_pick (b := true) rfl rfl) ?_
              refine TL_v rfl rfl rfl (V_move rfl) ?_
              refine TL_fork (d := 79) (b := (decide (r_8 = 501))) rfl (fun hc => ?_) (fun hc => ?_)
              · replace H := ite_t (of_decide_eq_true hc) H
                refine TL_want rfl rfl rfl rfl rfl rfl (V_move rfl) ?_
                obtain ⟨r_9, hr_9, H⟩ := bind_elim H
                refine TL_wantE rfl rfl rfl rfl rfl rfl (E_call (Γ := Unit) (val := fun g => vi r_9) (mem := fun g => []) (vs := [vi r_4.2]) (Lin := []) (Ro := []) (is := []) rfl Try.call25 (F25_calls r_4.2 r_9 hr_9) rfl trivial) (fun g_9 => ?_)
                refine TL_want rfl rfl rfl rfl rfl rfl (V_bin rfl rfl (fun w => eqlI w r_9 500)) ?_
                refine TL_v rfl rfl rfl (V_pick (b := true) rfl rfl) ?_
                refine TL_v rfl rfl rfl (V_move rfl) ?_
                refine TL_fork (d := 84) (b := (decide (r_9 = 500))) rfl (fun hc => ?_) (fun hc => ?_)
                · replace H := ite_t (of_decide_eq_true hc) H
                  refine TL_want rfl rfl rfl rfl rfl rfl (V_move rfl) ?_
                  refine TL_want rfl rfl rfl rfl rfl rfl (V_move rfl) ?_
                  refine TL_want rfl rfl rfl rfl rfl rfl (V_bin rfl rfl (fun w => eqlS w r_5.1 z1)) ?_
                  refine TL_v rfl rfl rfl (V_pick (b := true) rfl rfl) ?_
                  refine TL_v rfl rfl rfl (V_move rfl) ?_
                  refine TL_fork (d := 89) (b := (decide (r_5.1 = z1))) rfl (fun hc => ?_) (fun hc => ?_)
                  · replace H := ite_t (of_decide_eq_true hc) H
                    refine TL_want rfl rfl rfl rfl rfl rfl (V_move rfl) ?_
                    obtain ⟨r_10, hr_10, H⟩ := bind_elim H
                    refine TL_wantE rfl rfl rfl rfl rfl rfl (E_call (Γ := Unit) (val := fun g => vi r_10) (mem := fun g => []) (vs := [vi r_5.2]) (Lin := []) (Ro := []) (is := []) rfl Try.call25 (F25_calls r_5.2 r_10 hr_10) rfl trivial) (fun g_10 => ?_)
                    refine TL_want rfl rfl rfl rfl rfl rfl (V_bin rfl rfl (fun w => eqlI w r_10 0)) ?_
                    refine TL_v rfl rfl rfl (V_pick (b := true) rfl rfl) ?_
                    refine TL_v rfl rfl rfl (V_assign rfl) ?_
                    obtain ⟨x1, hx1, H⟩ := ltt_elim H
                    refine TL_re (d := 0) (v := vb (decide (r_10 = 0))) (v' := vb x1) rfl (congrArg vb hx1) ?_
                    refine TL_nil ?_
                    refine TX_next ?_
                    refine TC.sub (m' := [(0, vb x1)]) ⟨rfl, trivial⟩ ?_
                    refine TC_ret ?_
                    have hrv := Option.some.inj H
                    subst hrv
                    exact TX_ret (rs := [.tmp 0]) (vs := [vb x1]) rfl ⟨rfl, trivial⟩ (fun w' hs' => ⟨(), rfl, Step.left (Step.pulled (is := []) (A := []) hs' rfl)⟩)
                  · replace H := ite_f (of_decide_eq_false hc) H
                    refine TL_skip rfl rfl rfl rfl rfl rfl rfl ?_
                    refine TL_skip rfl rfl rfl rfl rfl rfl rfl ?_
                    refine TL_skip rfl rfl rfl rfl rfl rfl rfl ?_
                    refine TL_v rfl rfl rfl (V_pick (b := false) rfl rfl) ?_
                    refine TL_v rfl rfl rfl (V_assign rfl) ?_
                    refine TL_nil ?_
                    refine TX_next ?_
                    refine TC.sub (m' := [(0, vb false)]) ⟨rfl, trivial⟩ ?_
                    refine TC_ret ?_
                    have hrv := Option.some.inj H
                    subst hrv
                    exact TX_ret (rs := [.tmp 0]) (vs := [vb false]) rfl ⟨rfl, trivial⟩ (fun w' hs' => ⟨(), rfl, Step.left (Step.pulled (is := []) (A := []) hs' rfl)⟩)
                · replace H := ite_f (of_decide_eq_false hc) H
                  refine TL_skip rfl rfl rfl rfl rfl rfl rfl ?_
                  refine TL_skip rfl rfl rfl rfl rfl rfl rfl ?_
                  refine TL_skip rfl rfl rfl rfl rfl rfl rfl ?_
                  refine TL_v rfl rfl rfl (V_pick (b := false) rfl rfl) ?_
                  refine TL_v rfl rfl rfl (V_move rfl) ?_
                  refine TL_skip rfl rfl rfl rfl rfl rfl rfl ?_
                  refine TL_skip rfl rfl rfl rfl rfl rfl rfl ?_
                  refine TL_skip rfl rfl rfl rfl rfl rfl rfl ?_
                  refine TL_v rfl rfl rfl (V_pick (b := false) rfl rfl) ?_
                  refine TL_v rfl rfl rfl (V_assign rfl) ?_
                  refine TL_nil ?_
                  refine TX_next ?_
                  refine TC.sub (m' := [(0, vb false)]) ⟨rfl, trivial⟩ ?_
                  refine TC_ret ?_
                  have hrv := Option.some.inj H
                  subst hrv
                  exact TX_ret (rs := [.tmp 0]) (vs := [vb false]) rfl ⟨rfl, trivial⟩ (fun w' hs' => ⟨(), rfl, Step.left (Step.pulled (is := []) (A := []) hs' rfl)⟩)
              · replace H := ite_f (of_decide_eq_false hc) H
                refine TL_skip rfl rfl rfl rfl rfl rfl rfl ?_
                refine TL_skip rfl rfl rfl rfl rfl rfl rfl ?_
                refine TL_skip rfl rfl rfl rfl rfl rfl rfl ?_
                refine TL_v rfl rfl rfl (V_pick (b := false) rfl rfl) ?_
                refine TL_v rfl rfl rfl (V_move rfl) ?_
                refine TL_skip rfl rfl rfl rfl rfl rfl rfl ?_
                refine TL_skip rfl rfl rfl rfl rfl rfl rfl ?_
                refine TL_skip rfl rfl rfl rfl rfl rfl rfl ?_
                refine TL_v rfl rfl rfl (V_pick (b := false) rfl rfl) ?_
                refine TL_v rfl rfl rfl (V_move rfl) ?_
                refine TL_skip rfl rfl rfl rfl rfl rfl rfl ?_
                refine TL_skip rfl rfl rfl rfl rfl rfl rfl ?_
                refine TL_skip rfl rfl rfl rfl rfl rfl rfl ?_
                refine TL_v rfl rfl rfl (V_pick (b := false) rfl rfl) ?_
                refine TL_v rfl rfl rfl (V_assign rfl) ?_
                refine TL_nil ?_
                refine TX_next ?_
                refine TC.sub (m' := [(0, vb false)]) ⟨rfl, trivial⟩ ?_
                refine TC_ret ?_
                have hrv := Option.some.inj H
                subst hrv
                exact TX_ret (rs := [.tmp 0]) (vs := [vb false]) rfl ⟨rfl, trivial⟩ (fun w' hs' => ⟨(), rfl, Step.left (Step.pulled (is := []) (A := []) hs' rfl)⟩)
            · replace H := ite_f (of_decide_eq_false hc) H
              refine TL_skip rfl rfl rfl rfl rfl rfl rfl ?_
              refine TL_skip rfl rfl rfl rfl rfl rfl rfl ?_
              refine TL_skip rfl rfl rfl rfl rfl rfl rfl ?_
              refine TL_v rfl rfl rfl (V_pick (b := false) rfl rfl) ?_
              refine TL_v rfl rfl rfl (V_move rfl) ?_
              refine TL_skip rfl rfl rfl rfl rfl rfl rfl ?_
              refine TL_skip rfl rfl rfl rfl rfl rfl rfl ?_
              refine TL_skip rfl rfl rfl rfl rfl rfl rfl ?_
              refine TL_v rfl rfl rfl (V_pick (b := false) rfl rfl) ?_
              refine TL_v rfl rfl rfl (V_move rfl) ?_
              refine TL_skip rfl rfl rfl rfl rfl rfl rfl ?_
              refine TL_skip rfl rfl rfl rfl rfl rfl rfl ?_
              refine TL_skip rfl rfl rfl rfl rfl rfl rfl ?_
              refine TL_v rfl rfl rfl (V_pick (b := false) rfl rfl) ?_
              refine TL_v rfl rfl rfl (V_move rfl) ?_
              refine TL_skip rfl rfl rfl rfl rfl rfl rfl ?_
              refine TL_skip rfl rfl rfl rfl rfl rfl rfl ?_
              refine TL_skip rfl rfl rfl rfl rfl rfl rfl ?_
              refine TL_v rfl rfl rfl (V_pick (b := false) rfl rfl) ?_
              refine TL_v rfl rfl rfl (V_assign rfl) ?_
              refine TL_nil ?_
              refine TX_next ?_
              refine TC.sub (m' := [(0, vb false)]) ⟨rfl, trivial⟩ ?_
              refine TC_ret ?_
              have hrv := Option.some.inj H
              subst hrv
              exact TX_ret (rs := [.tmp 0]) (vs := [vb false]) rfl ⟨rfl, trivial⟩ (fun w' hs' => ⟨(), rfl, Step.left (Step.pulled (is := []) (A := []) hs' rfl)⟩)
          · replace H := ite_f (of_decide_eq_false hc) H
            refine TL_skip rfl rfl rfl rfl rfl rfl rfl ?_
            refine TL_skip rfl rfl rfl rfl rfl rfl rfl ?_
            refine TL_skip rfl rfl rfl rfl rfl rfl rfl ?_
            refine TL_v rfl rfl rfl (V_pick (b := false) rfl rfl) ?_
            refine TL_v rfl rfl rfl (V_move rfl) ?_
            refine TL_skip rfl rfl rfl rfl rfl rfl rfl ?_
            refine TL_skip rfl rfl rfl rfl rfl rfl rfl ?_
            refine TL_skip rfl rfl rfl rfl rfl rfl rfl ?_
            refine TL_v rfl rfl rfl (V_pick (b := false) rfl rfl) ?_
            refine TL_v rfl rfl rfl (V_move rfl) ?_
            refine TL_skip rfl rfl rfl rfl rfl rfl rfl ?_
            refine TL_skip rfl rfl rfl rfl rfl rfl rfl ?_
            refine TL_skip rfl rfl rfl rfl rfl rfl rfl ?_
            refine TL_v rfl rfl rfl (V_pick (b := false) rfl rfl) ?_
            refine TL_v rfl rfl rfl (V_move rfl) ?_
            refine TL_skip rfl rfl rfl rfl rfl rfl rfl ?_
            refine TL_skip rfl rfl rfl rfl rfl rfl rfl ?_
            refine TL_skip rfl rfl rfl rfl rfl rfl rfl ?_
            refine TL_v rfl rfl rfl (V_pick (b := false) rfl rfl) ?_
            refine TL_v rfl rfl rfl (V_move rfl) ?_
            refine TL_skip rfl rfl rfl rfl rfl rfl rfl ?_
            refine TL_skip rfl rfl rfl rfl rfl rfl rfl ?_
            refine TL_skip rfl rfl rfl rfl rfl rfl rfl ?_
            refine TL_v rfl rfl rfl (V_pick (b := false) rfl rfl) ?_
            refine TL_v rfl rfl rfl (V_assign rfl) ?_
            refine TL_nil ?_
            refine TX_next ?_
            refine TC.sub (m' := [(0, vb false)]) ⟨rfl, trivial⟩ ?_
            refine TC_ret ?_
            have hrv := Option.some.inj H
            subst hrv
            exact TX_ret (rs := [.tmp 0]) (vs := [vb false]) rfl ⟨rfl, trivial⟩ (fun w' hs' => ⟨(), rfl, Step.left (Step.pulled (is := []) (A := []) hs' rfl)⟩)
        · replace H := ite_f (of_decide_eq_false hc) H
          refine TL_skip rfl rfl rfl rfl rfl rfl rfl ?_
          refine TL_skip rfl rfl rfl rfl rfl rfl rfl ?_
          refine TL_v rfl rfl rfl (V_pick (b := false) rfl rfl) ?_
          refine TL_v rfl rfl rfl (V_move rfl) ?_
          refine TL_skip rfl rfl rfl rfl rfl rfl rfl ?_
          refine TL_skip rfl rfl rfl rfl rfl rfl rfl ?_
          refine TL_skip rfl rfl rfl rfl rfl rfl rfl ?_
          refine TL_v rfl rfl rfl (V_pick (b := false) rfl rfl) ?_
          refine TL_v rfl rfl rfl (V_move rfl) ?_
          refine TL_skip rfl rfl rfl rfl rfl rfl rfl ?_
          refine TL_skip rfl rfl rfl rfl rfl rfl rfl ?_
          refine TL_skip rfl rfl rfl rfl rfl rfl rfl ?_
          refine TL_v rfl rfl rfl (V_pick (b := false) rfl rfl) ?_
          refine TL_v rfl rfl rfl (V_move rfl) ?_
          refine TL_skip rfl rfl rfl rfl rfl rfl rfl ?_
          refine TL_skip rfl rfl rfl rfl rfl rfl rfl ?_
          refine TL_skip rfl rfl rfl rfl rfl rfl rfl ?_
          refine TL_v rfl rfl rfl (V_pick (b := false) rfl rfl) ?_
          refine TL_v rfl rfl rfl (V_move rfl) ?_
          refine TL_skip rfl rfl rfl rfl rfl rfl rfl ?_
          refine TL_skip rfl rfl rfl rfl rfl rfl rfl ?_
          refine TL_skip rfl rfl rfl rfl rfl rfl rfl ?_
          refine TL_v rfl rfl rfl (V_pick (b := false) rfl rfl) ?_
          refine TL_v rfl rfl rfl (V_move rfl) ?_
          refine TL_skip rfl rfl rfl rfl rfl rfl rfl ?_
          refine TL_skip rfl rfl rfl rfl rfl rfl rfl ?_
          refine TL_skip rfl rfl rfl rfl rfl rfl rfl ?_
          refine TL_v rfl rfl rfl (V_pick (b := false) rfl rfl) ?_
          refine TL_v rfl rfl rfl (V_assign rfl) ?_
          refine TL_nil ?_
          refine TX_next ?_
          refine TC.sub (m' := [(0, vb false)]) ⟨rfl, trivial⟩ ?_
          refine TC_ret ?_
          have hrv := Option.some.inj H
          subst hrv
          exact TX_ret (rs := [.tmp 0]) (vs := [vb false]) rfl ⟨rfl, trivial⟩ (fun w' hs' => ⟨(), rfl, Step.left (Step.pulled (is := []) (A := []) hs' rfl)⟩)
      · replace H := ite_f (of_decide_eq_false hc) H
        refine TL_skip rfl rfl rfl rfl rfl rfl rfl ?_
        refine TL_skip rfl rfl rfl rfl rfl rfl rfl ?_
        refine TL_skip rfl rfl rfl rfl rfl rfl rfl ?_
        refine TL_v rfl rfl rfl (V_pick (b := false) rfl rfl) ?_
        refine TL_v rfl rfl rfl (V_move rfl) ?_
        refine TL_skip rfl rfl rfl rfl rfl rfl rfl ?_
        refine TL_skip rfl rfl rfl rfl rfl rfl rfl ?_
        refine TL_v rfl rfl rfl (V_pick (b := false) rfl rfl) ?_
        refine TL_v rfl rfl rfl (V_move rfl) ?_
        refine TL_skip rfl rfl rfl rfl rfl rfl rfl ?_
        refine TL_skip rfl rfl rfl rfl rfl rfl rfl ?_
        refine TL_skip rfl rfl rfl rfl rfl rfl rfl ?_
        refine TL_v rfl rfl rfl (V_pick (b := false) rfl rfl) ?_
        refine TL_v rfl rfl rfl (V_move rfl) ?_
        refine TL_skip rfl rfl rfl rfl rfl rfl rfl ?_
        refine TL_skip rfl rfl rfl rfl rfl rfl rfl ?_
        refine TL_skip rfl rfl rfl rfl rfl rfl rfl ?_
        refine TL_v rfl rfl rfl (V_pick (b := false) rfl rfl) ?_
        refine TL_v rfl rfl rfl (V_move rfl) ?_
        refine TL_skip rfl rfl rfl rfl rfl rfl rfl ?_
        refine TL_skip rfl rfl rfl rfl rfl rfl rfl ?_
        refine TL_skip rfl rfl rfl rfl rfl rfl rfl ?_
        refine TL_v rfl rfl rfl (V_pick (b := false) rfl rfl) ?_
        refine TL_v rfl rfl rfl (V_move rfl) ?_
        refine TL_skip rfl rfl rfl rfl rfl rfl rfl ?_
        refine TL_skip rfl rfl rfl rfl rfl rfl rfl ?_
        refine TL_skip rfl rfl rfl rfl rfl rfl rfl ?_
        refine TL_v rfl rfl rfl (V_pick (b := false) rfl rfl) ?_
        refine TL_v rfl rfl rfl (V_move rfl) ?_
        refine TL_skip rfl rfl rfl rfl rfl rfl rfl ?_
        refine TL_skip rfl rfl rfl rfl rfl rfl rfl ?_
        refine TL_skip rfl rfl rfl rfl rfl rfl rfl ?_
        refine TL_v rfl rfl rfl (V_pick (b := false) rfl rfl) ?_
        refine TL_v rfl rfl rfl (V_assign rfl) ?_
        refine TL_nil ?_
        refine TX_next ?_
        refine TC.sub (m' := [(0, vb false)]) ⟨rfl, trivial⟩ ?_
        refine TC_ret ?_
        have hrv := Option.some.inj H
        subst hrv
        exact TX_ret (rs := [.tmp 0]) (vs := [vb false]) rfl ⟨rfl, trivial⟩ (fun w' hs' => ⟨(), rfl, Step.left (Step.pulled (is := []) (A := []) hs' rfl)⟩)
    · replace H := ite_f (of_decide_eq_false hc) H
      refine TL_skip rfl rfl rfl rfl rfl rfl rfl ?_
      refine TL_skip rfl rfl rfl rfl rfl rfl rfl ?_
      refine TL_skip rfl rfl rfl rfl rfl rfl rfl ?_
      refine TL_v rfl rfl rfl (V_pick (b := false) rfl rfl) ?_
      refine TL_v rfl rfl rfl (V_move rfl) ?_
      refine TL_skip rfl rfl rfl rfl rfl rfl rfl ?_
      refine TL_skip rfl rfl rfl rfl rfl rfl rfl ?_
      refine TL_skip rfl rfl rfl rfl rfl rfl rfl ?_
      refine TL_v rfl rfl rfl (V_pick (b := false) rfl rfl) ?_
      refine TL_v rfl rfl rfl (V_move rfl) ?_
      refine TL_skip rfl rfl rfl rfl rfl rfl rfl ?_
      refine TL_skip rfl rfl rfl rfl rfl rfl rfl ?_
      refine TL_v rfl rfl rfl (V_pick (b := false) rfl rfl) ?_
      refine TL_v rfl rfl rfl (V_move rfl) ?_
      refine TL_skip rfl rfl rfl rfl rfl rfl rfl ?_
      refine TL_skip rfl rfl rfl rfl rfl rfl rfl ?_
      refine TL_skip rfl rfl rfl rfl rfl rfl rfl ?_
      refine TL_v rfl rfl rfl (V_pick (b := false) rfl rfl) ?_
      refine TL_v rfl rfl rfl (V_move rfl) ?_
      refine TL_skip rfl rfl rfl rfl rfl rfl rfl ?_
      refine TL_skip rfl rfl rfl rfl rfl rfl rfl ?_
      refine TL_skip rfl rfl rfl rfl rfl rfl rfl ?_
      refine TL_v rfl rfl rfl (V_pick (b := false) rfl rfl) ?_
      refine TL_v rfl rfl rfl (V_move rfl) ?_
      refine TL_skip rfl rfl rfl rfl rfl rfl rfl ?_
      refine TL_skip rfl rfl rfl rfl rfl rfl rfl ?_
      refine TL_skip rfl rfl rfl rfl rfl rfl rfl ?_
      refine TL_v rfl rfl rfl (V_pick (b := false) rfl rfl) ?_
      refine TL_v rfl rfl rfl (V_move rfl) ?_
      refine TL_skip rfl rfl rfl rfl rfl rfl rfl ?_
      refine TL_skip rfl rfl rfl rfl rfl rfl rfl ?_
      refine TL_skip rfl rfl rfl rfl rfl rfl rfl ?_
      refine TL_v rfl rfl rfl (V_pick (b := false) rfl rfl) ?_
      refine TL_v rfl rfl rfl (V_move rfl) ?_
      refine TL_skip rfl rfl rfl rfl rfl rfl rfl ?_
      refine TL_skip rfl rfl rfl rfl rfl rfl rfl ?_
      refine TL_skip rfl rfl rfl rfl rfl rfl rfl ?_
      refine TL_v rfl rfl rfl (V_pick (b := false) rfl rfl) ?_
      refine TL_v rfl rfl rfl (V_assign rfl) ?_
      refine TL_nil ?_
      refine TX_next ?_
      refine TC.sub (m' := [(0, vb false)]) ⟨rfl, trivial⟩ ?_
      refine TC_ret ?_
      have hrv := Option.some.inj H
      subst hrv
      exact TX_ret (rs := [.tmp 0]) (vs := [vb false]) rfl ⟨rfl, trivial⟩ (fun w' hs' => ⟨(), rfl, Step.left (Step.pulled (is := []) (A := []) hs' rfl)⟩)
  · replace H := ite_f (of_decide_eq_false hc) H
    refine TL_skip rfl rfl rfl rfl rfl rfl rfl ?_
    refine TL_skip rfl rfl rfl rfl rfl rfl rfl ?_
    refine TL_skip rfl rfl rfl rfl rfl rfl rfl ?_
    refine TL_v rfl rfl rfl (V_pick (b := false) rfl rfl) ?_
    refine TL_v rfl rfl rfl (V_move rfl) ?_
    refine TL_skip rfl rfl rfl rfl rfl rfl rfl ?_
    refine TL_skip rfl rfl rfl rfl rfl rfl rfl ?_
    refine TL_skip rfl rfl rfl rfl rfl rfl rfl ?_
    refine TL_v rfl rfl rfl (V_pick (b := false) rfl rfl) ?_
    refine TL_v rfl rfl rfl (V_move rfl) ?_
    refine TL_skip rfl rfl rfl rfl rfl rfl rfl ?_
    refine TL_skip rfl rfl rfl rfl rfl rfl rfl ?_
    refine TL_skip rfl rfl rfl rfl rfl rfl rfl ?_
    refine TL_v rfl rfl rfl (V_pick (b := false) rfl rfl) ?_
    refine TL_v rfl rfl rfl (V_move rfl) ?_
    refine TL_skip rfl rfl rfl rfl rfl rfl rfl ?_
    refine TL_skip rfl rfl rfl rfl rfl rfl rfl ?_
    refine TL_v rfl rfl rfl (V_pick (b := false) rfl rfl) ?_
    refine TL_v rfl rfl rfl (V_move rfl) ?_
    refine TL_skip rfl rfl rfl rfl rfl rfl rfl ?_
    refine TL_skip rfl rfl rfl rfl rfl rfl rfl ?_
    refine TL_skip rfl rfl rfl rfl rfl rfl rfl ?_
    refine TL_v rfl rfl rfl (V_pick (b := false) rfl rfl) ?_
    refine TL_v rfl rfl rfl (V_move rfl) ?_
    refine TL_skip rfl rfl rfl rfl rfl rfl rfl ?_
    refine TL_skip rfl rfl rfl rfl rfl rfl rfl ?_
    refine TL_skip rfl rfl rfl rfl rfl rfl rfl ?_
    refine TL_v rfl rfl rfl (V_pick (b := false) rfl rfl) ?_
    refine TL_v rfl rfl rfl (V_move rfl) ?_
    refine TL_skip rfl rfl rfl rfl rfl rfl rfl ?_
    refine TL_skip rfl rfl rfl rfl rfl rfl rfl ?_
    refine TL_skip rfl rfl rfl rfl rfl rfl rfl ?_
    refine TL_v rfl rfl rfl (V_pick (b := false) rfl rfl) ?_
    refine TL_v rfl rfl rfl (V_move rfl) ?_
    refine TL_skip rfl rfl rfl rfl rfl rfl rfl ?_
    refine TL_skip rfl rfl rfl rfl rfl rfl rfl ?_
    refine TL_skip rfl rfl rfl rfl rfl rfl rfl ?_
    refine TL_v rfl rfl rfl (V_pick (b := false) rfl rfl) ?_
    refine TL_v rfl rfl rfl (V_move rfl) ?_
    refine TL_skip rfl rfl rfl rfl rfl rfl rfl ?_
    refine TL_skip rfl rfl rfl rfl rfl rfl rfl ?_
    refine TL_skip rfl rfl rfl rfl rfl rfl rfl ?_
    refine TL_v rfl rfl rfl (V_pick (b := false) rfl rfl) ?_
    refine TL_v rfl rfl rfl (V_assign rfl) ?_
    refine TL_nil ?_
    refine TX_next ?_
    refine TC.sub (m' := [(0, vb false)]) ⟨rfl, trivial⟩ ?_
    refine TC_ret ?_
    have hrv := Option.some.inj H
    subst hrv
    exact TX_ret (rs := [.tmp 0]) (vs := [vb false]) rfl ⟨rfl, trivial⟩ (fun w' hs' => ⟨(), rfl, Step.left (Step.pulled (is := []) (A := []) hs' rfl)⟩)

end Go.Proofs
end

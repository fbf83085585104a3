/-
  Part KN1 of the proofs of this seat: F86, F88, F85, F84, F58, F59, F77, F56, F57, F75, F60, F54, F43, F100, F53, F55, F62, F73.
-/
import Derived.Test.YtiofnmmggblcgaaK2
set_option linter.unusedVariables false
set_option linter.unusedSimpArgs false
section
namespace Go.Proofs
open Go Go.Kx
def math_bits_Mul64 (x : BitVec 64) (y : BitVec 64) : Option (BitVec 64 × BitVec 64) :=
 ltt (x &&& 4294967295#64) fun (x01 : BitVec 64) => (ltt (y &&& 4294967295#64) fun (y01 : BitVec 64) => (ltt (((x >>> 32) * y01) + ((x01 * y01) >>> 32)) fun (t_1 : BitVec 64) => (ltt (t_1 &&& 4294967295#64) fun (w11 : BitVec 64) => (ltt (w11 + (x01 * (y >>> 32))) fun (w12 : BitVec 64) => (ltt ((((x >>> 32) * (y >>> 32)) + (t_1 >>> 32)) + (w12 >>> 32)) fun (hi1 : BitVec 64) => (some (hi1, x * y)))))))
set_option maxHeartbeats 4000000 in
set_option maxRecDepth 20000 in
theorem F86_calls (x : BitVec 64) (y : BitVec 64) (r : BitVec 64 × BitVec 64) (H : math_bits_Mul64 x y = some r) :
  Does Try.prog 86 [v64 x, v64 y] [] [] (Γ := Unit) (fun g => Value.tuple [v64 r.1, v64 r.2].toArray) (fun g => []) := by
 intro w hmem hro hd
 refine calls_of (N := 51) (m0 := [(0, v64 x), (1, v64 y)]) Try.func86 rfl Try.ntmps86 (argM_ok [v64 x, v64 y]) rfl hmem hro hd ?_
 unfold math_bits_Mul64 at H
 refine TC_seq ?_
 refine TC_region ?_
 refine TLv (V_assign rfl) ?_
 refine TLv (V_assign rfl) ?_
 refine TL_nil ?_
 refine TX_next ?_
 refine TC_seq ?_
 refine TC_region ?_
 refine TLv (V_move rfl) ?_
 refine TLv (V_bin rfl rfl (fun w => and64 w x 4294967295#64)) ?_
 refine TLv (V_assign rfl) ?_
 obtain ⟨x01, hx01, H⟩ := ltt_elim H
 refine TL_re (d := 6) (v := v64 (x &&& 4294967295#64)) (v' := v64 x01) rfl (congrArg v64 hx01) ?_
 refine TL_nil ?_
 refine TX_next ?_
 refine TC_seq ?_
 refine TC_region ?_
 refine TLv (V_move rfl) ?_
 refine TLv (V_bin rfl rfl (fun w => shr64 w x .u64 32 (by decide))) ?_
 refine TLv (V_assign rfl) ?_
 refine TL_nil ?_
 refine TX_next ?_
 refine TC_seq ?_
 refine TC_region ?_
 refine TLv (V_move rfl) ?_
 refine TLv (V_bin rfl rfl (fun w => and64 w y 4294967295#64)) ?_
 refine TLv (V_assign rfl) ?_
 obtain ⟨y01, hy01, H⟩ := ltt_elim H
 refine TL_re (d := 8) (v := v64 (y &&& 4294967295#64)) (v' := v64 y01) rfl (congrArg v64 hy01) ?_
 refine TL_nil ?_
 refine TX_next ?_
 refine TC_seq ?_
 refine TC_region ?_
 refine TLv (V_move rfl) ?_
 refine TLv (V_bin rfl rfl (fun w => shr64 w y .u64 32 (by decide))) ?_
 refine TLv (V_assign rfl) ?_
 refine TL_nil ?_
 refine TX_next ?_
 refine TC_seq ?_
 refine TC_region ?_
 refine TLv (V_move rfl) ?_
 refine TLv (V_move rfl) ?_
 refine TLv (V_bin rfl rfl (fun w => mul64 w x01 y01)) ?_
 refine TLv (V_assign rfl) ?_
 refine TL_nil ?_
 refine TX_next ?_
 refine TC_seq ?_
 refine TC_region ?_
 refine TLv (V_move rfl) ?_
 refine TLv (V_move rfl) ?_
 refine TLv (V_bin rfl rfl (fun w => mul64 w (x >>> 32) y01)) ?_
 refine TLv (V_move rfl) ?_
 refine TLv (V_bin rfl rfl (fun w => shr64 w (x01 * y01) .u64 32 (by decide))) ?_
 refine TLv (V_bin rfl rfl (fun w => add64 w ((x >>> 32) * y01) ((x01 * y01) >>> 32))) ?_
 refine TLv (V_assign rfl) ?_
 obtain ⟨t_1, ht_1, H⟩ := ltt_elim H
 refine TL_re (d := 11) (v := v64 (((x >>> 32) * y01) + ((x01 * y01) >>> 32))) (v' := v64 t_1) rfl (congrArg v64 ht_1) ?_
 refine TL_nil ?_
 refine TX_next ?_
 refine TC_seq ?_
 refine TC_region ?_
 refine TLv (V_move rfl) ?_
 refine TLv (V_bin rfl rfl (fun w => and64 w t_1 4294967295#64)) ?_
 refine TLv (V_assign rfl) ?_
 obtain ⟨w11, hw11, H⟩ := ltt_elim H
 refine TL_re (d := 12) (v := v64 (t_1 &&& 4294967295#64)) (v' := v64 w11) rfl (congrArg v64 hw11) ?_
 refine TL_nil ?_
 refine TX_next ?_
 refine TC.sub (m' := [(0, v64 x), (1, v64 y), (6, v64 x01), (7, v64 (x >>> 32)), (9, v64 (y >>> 32)), (11, v64 t_1), (12, v64 w11)]) ⟨rfl, rfl, rfl, rfl, rfl, rfl, rfl, trivial⟩ ?_
 refine TC_seq ?_
 refine TC_region ?_
 refine TLv (V_move rfl) ?_
 refine TLv (V_bin rfl rfl (fun w => shr64 w t_1 .u64 32 (by decide))) ?_
 refine TLv (V_assign rfl) ?_
 refine TL_nil ?_
 refine TX_next ?_
 refine TC_seq ?_
 refine TC_region ?_
 refine TLv (V_move rfl) ?_
 refine TLv (V_move rfl) ?_
 refine TLv (V_move rfl) ?_
 refine TLv (V_bin rfl rfl (fun w => mul64 w x01 (y >>> 32))) ?_
 refine TLv (V_bin rfl rfl (fun w => add64 w w11 (x01 * (y >>> 32)))) ?_
 refine TLv (V_assign rfl) ?_
 obtain ⟨w12, hw12, H⟩ := ltt_elim H
 refine TL_re (d := 12) (v := v64 (w11 + (x01 * (y >>> 32)))) (v' := v64 w12) rfl (congrArg v64 hw12) ?_
 refine TL_nil ?_
 refine TX_next ?_
 refine TC_seq ?_
 refine TC_region ?_
 refine TLv (V_move rfl) ?_
 refine TLv (V_move rfl) ?_
 refine TLv (V_bin rfl rfl (fun w => mul64 w (x >>> 32) (y >>> 32))) ?_
 refine TLv (V_move rfl) ?_
 refine TLv (V_bin rfl rfl (fun w => add64 w ((x >>> 32) * (y >>> 32)) (t_1 >>> 32))) ?_
 refine TLv (V_move rfl) ?_
 refine TLv (V_bin rfl rfl (fun w => shr64 w w12 .u64 32 (by decide))) ?_
 refine TLv (V_bin rfl rfl (fun w => add64 w (((x >>> 32) * (y >>> 32)) + (t_1 >>> 32)) (w12 >>> 32))) ?_
 refine TLv (V_assign rfl) ?_
 obtain ⟨hi1, hhi1, H⟩ := ltt_elim H
 refine TL_re (d := 4) (v := v64 ((((x >>> 32) * (y >>> 32)) + (t_1 >>> 32)) + (w12 >>> 32))) (v' := v64 hi1) rfl (congrArg v64 hhi1) ?_
 refine TL_nil ?_
 refine TX_next ?_
 refine TC_seq ?_
 refine TC_region ?_
 refine TLv (V_move rfl) ?_
 refine TLv (V_move rfl) ?_
 refine TLv (V_bin rfl rfl (fun w => mul64 w x y)) ?_
 refine TLv (V_assign rfl) ?_
 refine TL_nil ?_
 refine TX_next ?_
 refine TC.sub (m' := [(4, v64 hi1), (5, v64 (x * y))]) ⟨rfl, rfl, trivial⟩ ?_
 refine TC_ret ?_
 have hrv := Option.some.inj H
 subst hrv
 exact TX_ret (rs := [.tmp 4, .tmp 5]) (vs := [v64 hi1, v64 (x * y)]) rfl ⟨rfl, rfl, trivial⟩ (fun w' hs' => ⟨(), rfl, Step.left (Step.pulled (is := []) (A := []) hs' rfl)⟩)
end Go.Proofs
end

section
namespace Go.Proofs
open Go Go.Kx
open Vector (replicate)
def num_add.b0 (x : Vx 64 4) (y : Vx 64 4) (s0 : BitVec 64 × Int × Vx 64 4) : Option ((BitVec 64 × Int × Vx 64 4) ⊕ (BitVec 64 × Vx 64 4)) :=
 if s0.2.1 < 4 then (if 0 ≤ s0.2.1 ∧ s0.2.1 < (4 : Int) then (if 0 ≤ s0.2.1 ∧ s0.2.1 < (4 : Int) then ((math_bits_Add64 (vg x ((s0.2.1).toNat)) (vg y ((s0.2.1).toNat)) s0.1).bind fun (r_1 : BitVec 64 × BitVec 64) => (if 0 ≤ s0.2.1 ∧ s0.2.1 < (4 : Int) then (ltt (vp s0.2.2 ((s0.2.1).toNat) r_1.1) fun (m_1 : Vx 64 4) => (some (.inl (r_1.2, w64 (s0.2.1 + 1), m_1)))) else none)) else none) else none) else (some (.inr (s0.1, s0.2.2)))
def num_add (x : Vx 64 4) (y : Vx 64 4) : Option (Vx 64 4 × BitVec 64) :=
 (loop (num_add.b0 x y) BIG (0#64, 0, replicate 4 0#64)).bind fun (t_1 : BitVec 64 × Vx 64 4) => (some (t_1.2, t_1.1))
set_option maxHeartbeats 4000000 in
set_option maxRecDepth 20000 in
theorem F88_calls (x : Vx 64 4) (y : Vx 64 4) (r : Vx 64 4 × BitVec 64) (H : num_add x y = some r) :
  Does Try.prog 88 [aG [(4, e64 x.toList)], aG [(4, e64 y.toList)]] [] [] (Γ := Unit) (fun g => Value.tuple [aG [(4, e64 r.1.toList)], v64 r.2].toArray) (fun g => []) := by
 intro w hmem hro hd
 refine calls_of (N := 28) (m0 := [(0, aG [(4, e64 x.toList)]), (1, aG [(4, e64 y.toList)])]) Try.func88 rfl Try.ntmps88 (argM_ok [aG [(4, e64 x.toList)], aG [(4, e64 y.toList)]]) rfl hmem hro hd ?_
 unfold num_add at H
 refine TC_seq ?_
 refine TC_region ?_
 refine TLe (E_boxP [(4, e64 x.toList)] rfl rfl ⟨(lenV (f := v64) x), trivial⟩) (fun b1 => ?_)
 refine TLe (E_boxP [(4, e64 y.toList)] rfl rfl ⟨(lenV (f := v64) y), trivial⟩) (fun b2 => ?_)
 refine TLe (E_al64 4 TryI.inf57 TryI.zer57) (fun b3 => ?_)
 refine TLv (V_assign rfl) ?_
 refine TL_nil ?_
 refine TX_next ?_
 refine TC_seq ?_
 refine TC_region ?_
 refine TLe (E_al64 4 TryI.inf57 TryI.zer57) (fun b4 => ?_)
 refine TL_nil ?_
 refine TX_next ?_
 refine TC_seq ?_
 refine TC_region ?_
 refine TLv (V_assign rfl) ?_
 refine TL_nil ?_
 refine TX_next ?_
 refine TC_seq ?_
 refine TC_seq ?_
 refine TC_region ?_
 refine TLv (V_move rfl) ?_
 refine TL_nil ?_
 refine TX_next ?_
 refine TC_block ?_
 obtain ⟨t_1, Hl, H⟩ := bind_elim H
 refine TC.sub (m' := [(2, ptr (some (b1, 0)) 0), (3, ptr (some (b2, 0)) 0), (4, ptr (some (b3, 0)) 0), (6, ptr (some (b4, 0)) 0), (7, v64 0#64), (9, vi 0)]) ⟨rfl, rfl, rfl, rfl, rfl, rfl, trivial⟩ ?_
 refine TC.pull (is := [3, 2, 1, 0]) (L' := [⟨some (b1, 0), e64 x.toList⟩, ⟨some (b2, 0), e64 y.toList⟩, ⟨some (b3, 0), e64 ((replicate 4 0#64).toList)⟩, ⟨some (b4, 0), e64 ((replicate 4 0#64).toList)⟩]) rfl ?_
 refine TC_loopL (id := 0) (body := (num_add.b0 x y)) (σ := BitVec 64 × Int × Vx 64 4) (Γ := Unit) (Γx := Unit) (fun s0 g0_ => [(2, ptr (some (b1, 0)) 0), (3, ptr (some (b2, 0)) 0), (4, ptr (some (b3, 0)) 0), (6, ptr (some (b4, 0)) 0), (7, v64 s0.1), (9, vi s0.2.1)]) (fun s0 g0_ => [⟨some (b1, 0), e64 x.toList⟩, ⟨some (b2, 0), e64 y.toList⟩, ⟨some (b3, 0), e64 ((replicate 4 0#64).toList)⟩, ⟨some (b4, 0), e64 s0.2.2.toList⟩]) (fun t g => [(4, ptr (some (b3, 0)) 0), (6, ptr (some (b4, 0)) 0), (7, v64 t.1)]) (fun t g => [⟨some (b3, 0), e64 ((replicate 4 0#64).toList)⟩, ⟨some (b4, 0), e64 t.2.toList⟩]) ?_ BIG (0#64, 0, replicate 4 0#64) () t_1 Hl ?_
 ·intro s0 g0_ r1 H K hK hE
  unfold num_add.b0 at H
  refine TC_seq ?_
  refine TC_region ?_
  refine TLv (V_bin rfl rfl (fun w => lssI w s0.2.1 4)) ?_
  refine TL_nil ?_
  refine TX_next ?_
  refine TC_seq ?_
  refine TC_cond (b := (decide (s0.2.1 < 4))) rfl (fun hc => ?_) (fun hc => ?_)
  ·replace H := ite_t (of_decide_eq_true hc) H
   refine TC_skip ?_
   refine TX_next ?_
   refine TC_seq ?_
   refine TC_block ?_
   refine TC_seq ?_
   refine TC_region ?_
   refine TLv (V_move rfl) ?_
   refine TLv (V_assign rfl) ?_
   refine TL_nil ?_
   refine TX_next ?_
   obtain ⟨h1, H⟩ := if_elim H
   obtain ⟨h2, H⟩ := if_elim H
   obtain ⟨r_1, hr_1, H⟩ := bind_elim H
   obtain ⟨h3, H⟩ := if_elim H
   obtain ⟨m_1, hm_1, H⟩ := ltt_elim H
   refine TA_begin [⟨some (b1, 0), e64 x.toList⟩, ⟨some (b2, 0), e64 y.toList⟩, ⟨some (b3, 0), e64 ((replicate 4 0#64).toList)⟩] 14 (by kernel_rfl) (N := 15) rfl ?_
   refine TA_tk 0 [0, 0, 0] (dn 15 1) rfl rfl (V_move rfl) ?_
   refine TA_tk 1 [0, 0, 0] (dn 15 3) rfl rfl (V_move rfl) ?_
   refine TA_tk 2 [0, 0, 0] (dn 15 7) rfl rfl (V_idxArr (i := s0.2.1) rfl rfl Try.underlying57 TryI.inf55 rfl h1.1 h1.2 (k := (s0.2.1).toNat) (k01 _)) ?_
   refine TA_tk 3 [0, 0, 0] (dn 15 15) rfl rfl (V_load rfl (.o 0) (get_vec (f := v64) (V := x) (toNat_lt h1.1 h1.2)) Try.isAgg55) ?_
   refine TA_tk 4 [0, 0, 0] (dn 15 31) rfl rfl (V_move rfl) ?_
   refine TA_tk 5 [0, 0, 0] (dn 15 63) rfl rfl (V_idxArr (i := s0.2.1) rfl rfl Try.underlying57 TryI.inf55 rfl h2.1 h2.2 (k := (s0.2.1).toNat) (k01 _)) ?_
   refine TA_tk 6 [0, 0, 0] (dn 15 127) rfl rfl (V_load rfl (.o 1) (get_vec (f := v64) (V := y) (toNat_lt h2.1 h2.2)) Try.isAgg55) ?_
   refine TA_tk 7 [0, 0, 0] (dn 15 255) rfl rfl (V_move rfl) ?_
   refine TA_tk 8 [0, 0, 0] (dn 15 511) rfl rfl (V_ext rfl (ext_add Try.func87 rfl rfl rfl rfl hr_1)) ?_
   refine TA_tk 9 [0, 0, 0] (dn 15 1023) rfl rfl (V_move rfl) ?_
   refine TA_tk 10 [0, 0, 0] (dn 15 2047) rfl rfl V_ex ?_
   refine TA_tk 11 [0, 0, 0] (dn 15 4095) rfl rfl V_ex ?_
   refine TA_tk 12 [0, 0, 0] (dn 15 8191) rfl rfl (V_idxArr (i := s0.2.1) rfl rfl Try.underlying57 TryI.inf55 rfl h3.1 h3.2 (k := (s0.2.1).toNat) (k01 _)) ?_
   refine TA_all (rs := [13]) (by kernel_rfl) rfl ?_
   refine ⟨?_, trivial⟩
   refine TO_n (is := [0, 0, 0]) (done' := dn 15 16383) rfl rfl rfl (by kernel_rfl) (E_store (j := 3) rfl rfl TryI.inf55 rfl rfl rfl (by simpa using (toNat_lt h3.1 h3.2)) (cs' := e64 ((vp s0.2.2 ((s0.2.1).toNat) r_1.1).toList)) set_vec) (fun _ _ => rfl) (fun _ => ?_)
   refine TA_reE (j := 3) (A := some (b4, 0)) (cs := e64 ((vp s0.2.2 ((s0.2.1).toNat) r_1.1).toList)) (cs' := e64 m_1.toList) rfl (congrArg (fun z : Vx 64 4 => e64 (Vector.toList z)) hm_1) ?_
   refine TA_all (rs := [14]) (by kernel_rfl) rfl ?_
   refine ⟨?_, trivial⟩
   refine TO_v (is := []) (R := []) (done' := dn 15 32767) rfl rfl rfl rfl (by kernel_rfl) (V_assign rfl) (fun h => by cases h) ?_
   refine TA_done (by kernel_rfl) ?_ 0
   refine TX_block_normal ?_
   refine TX_next ?_
   refine TC_region ?_
   refine TLv (V_bin rfl rfl (fun w => addI w s0.2.1 1)) ?_
   refine TLv (V_move rfl) ?_
   refine TL_nil ?_
   refine TX.sub (m' := [(2, ptr (some (b1, 0)) 0), (3, ptr (some (b2, 0)) 0), (4, ptr (some (b3, 0)) 0), (6, ptr (some (b4, 0)) 0), (7, v64 r_1.2), (9, vi (w64 (s0.2.1 + 1)))]) ⟨rfl, rfl, rfl, rfl, rfl, rfl, trivial⟩ ?_
   refine TX.pull (is := [0, 0, 0, 0]) (L' := [⟨some (b1, 0), e64 x.toList⟩, ⟨some (b2, 0), e64 y.toList⟩, ⟨some (b3, 0), e64 ((replicate 4 0#64).toList)⟩, ⟨some (b4, 0), e64 m_1.toList⟩]) rfl ?_
   obtain rfl := Option.some.inj H
   exact fun a w hs => hK (r_1.2, w64 (s0.2.1 + 1), m_1) rfl () a w hs
  ·replace H := ite_f (of_decide_eq_false hc) H
   refine TC_exit ?_
   refine TX_then_exit ?_
   refine TX_then_exit ?_
   refine TX.sub (m' := [(4, ptr (some (b3, 0)) 0), (6, ptr (some (b4, 0)) 0), (7, v64 s0.1)]) ⟨rfl, rfl, rfl, trivial⟩ ?_
   refine TX.pull (is := [2, 2]) (L' := [⟨some (b3, 0), e64 ((replicate 4 0#64).toList)⟩, ⟨some (b4, 0), e64 s0.2.2.toList⟩]) rfl ?_
   obtain rfl := Option.some.inj H
   exact hE (s0.1, s0.2.2) rfl ()
 ·intro g
  refine TX_block_exit ?_
  refine TX_next ?_
  refine TC_seq ?_
  refine TC_region ?_
  refine TLv (V_lag (.o 1) Try.isAgg57 TryI.inf57) ?_
  refine TLv (V_move rfl) ?_
  refine TLn (E_sv (vs := e64 t_1.2.toList) 0 TryI.inf57) (fun _ => ?_)
  refine TLv (V_assign rfl) ?_
  refine TL_nil ?_
  refine TX_next ?_
  refine TC_ret ?_
  have hrv := Option.some.inj H
  subst hrv
  exact TX_ret (rs := [.cell 4 57, .tmp 5]) (vs := [aG [(4, e64 t_1.2.toList)], v64 t_1.1]) rfl ⟨(Res_agg (n := 4) rfl (by simp) (.o 0) Try.isAgg57 TryI.inf57 rfl (lenV (f := v64) t_1.2)), rfl, trivial⟩ (fun w' hs' => ⟨(), rfl, Step.left (Step.pulled (is := []) (A := []) hs' rfl)⟩)
end Go.Proofs
end

section
namespace Go.Proofs
open Go Go.Kx
open Vector (replicate)
def num_sub.b0 (x : Vx 64 4) (y : Vx 64 4) (s0 : BitVec 64 × Int × Vx 64 4) : Option ((BitVec 64 × Int × Vx 64 4) ⊕ (BitVec 64 × Vx 64 4)) :=
 if s0.2.1 < 4 then (if 0 ≤ s0.2.1 ∧ s0.2.1 < (4 : Int) then (if 0 ≤ s0.2.1 ∧ s0.2.1 < (4 : Int) then ((math_bits_Sub64 (vg x ((s0.2.1).toNat)) (vg y ((s0.2.1).toNat)) s0.1).bind fun (r_1 : BitVec 64 × BitVec 64) => (if 0 ≤ s0.2.1 ∧ s0.2.1 < (4 : Int) then (ltt (vp s0.2.2 ((s0.2.1).toNat) r_1.1) fun (m_1 : Vx 64 4) => (some (.inl (r_1.2, w64 (s0.2.1 + 1), m_1)))) else none)) else none) else none) else (some (.inr (s0.1, s0.2.2)))
def num_sub (x : Vx 64 4) (y : Vx 64 4) : Option (Vx 64 4 × BitVec 64) :=
 (loop (num_sub.b0 x y) BIG (0#64, 0, replicate 4 0#64)).bind fun (t_1 : BitVec 64 × Vx 64 4) => (some (t_1.2, t_1.1))
set_option maxHeartbeats 4000000 in
set_option maxRecDepth 20000 in
theorem F85_calls (x : Vx 64 4) (y : Vx 64 4) (r : Vx 64 4 × BitVec 64) (H : num_sub x y = some r) :
  Does Try.prog 85 [aG [(4, e64 x.toList)], aG [(4, e64 y.toList)]] [] [] (Γ := Unit) (fun g => Value.tuple [aG [(4, e64 r.1.toList)], v64 r.2].toArray) (fun g => []) := by
 intro w hmem hro hd
 refine calls_of (N := 28) (m0 := [(0, aG [(4, e64 x.toList)]), (1, aG [(4, e64 y.toList)])]) Try.func85 rfl Try.ntmps85 (argM_ok [aG [(4, e64 x.toList)], aG [(4, e64 y.toList)]]) rfl hmem hro hd ?_
 unfold num_sub at H
 refine TC_seq ?_
 refine TC_region ?_
 refine TLe (E_boxP [(4, e64 x.toList)] rfl rfl ⟨(lenV (f := v64) x), trivial⟩) (fun b1 => ?_)
 refine TLe (E_boxP [(4, e64 y.toList)] rfl rfl ⟨(lenV (f := v64) y), trivial⟩) (fun b2 => ?_)
 refine TLe (E_al64 4 TryI.inf57 TryI.zer57) (fun b3 => ?_)
 refine TLv (V_assign rfl) ?_
 refine TL_nil ?_
 refine TX_next ?_
 refine TC_seq ?_
 refine TC_region ?_
 refine TLe (E_al64 4 TryI.inf57 TryI.zer57) (fun b4 => ?_)
 refine TL_nil ?_
 refine TX_next ?_
 refine TC_seq ?_
 refine TC_region ?_
 refine TLv (V_assign rfl) ?_
 refine TL_nil ?_
 refine TX_next ?_
 refine TC_seq ?_
 refine TC_seq ?_
 refine TC_region ?_
 refine TLv (V_move rfl) ?_
 refine TL_nil ?_
 refine TX_next ?_
 refine TC_block ?_
 obtain ⟨t_1, Hl, H⟩ := bind_elim H
 refine TC.sub (m' := [(2, ptr (some (b1, 0)) 0), (3, ptr (some (b2, 0)) 0), (4, ptr (some (b3, 0)) 0), (6, ptr (some (b4, 0)) 0), (7, v64 0#64), (9, vi 0)]) ⟨rfl, rfl, rfl, rfl, rfl, rfl, trivial⟩ ?_
 refine TC.pull (is := [3, 2, 1, 0]) (L' := [⟨some (b1, 0), e64 x.toList⟩, ⟨some (b2, 0), e64 y.toList⟩, ⟨some (b3, 0), e64 ((replicate 4 0#64).toList)⟩, ⟨some (b4, 0), e64 ((replicate 4 0#64).toList)⟩]) rfl ?_
 refine TC_loopL (id := 0) (body := (num_sub.b0 x y)) (σ := BitVec 64 × Int × Vx 64 4) (Γ := Unit) (Γx := Unit) (fun s0 g0_ => [(2, ptr (some (b1, 0)) 0), (3, ptr (some (b2, 0)) 0), (4, ptr (some (b3, 0)) 0), (6, ptr (some (b4, 0)) 0), (7, v64 s0.1), (9, vi s0.2.1)]) (fun s0 g0_ => [⟨some (b1, 0), e64 x.toList⟩, ⟨some (b2, 0), e64 y.toList⟩, ⟨some (b3, 0), e64 ((replicate 4 0#64).toList)⟩, ⟨some (b4, 0), e64 s0.2.2.toList⟩]) (fun t g => [(4, ptr (some (b3, 0)) 0), (6, ptr (some (b4, 0)) 0), (7, v64 t.1)]) (fun t g => [⟨some (b3, 0), e64 ((replicate 4 0#64).toList)⟩, ⟨some (b4, 0), e64 t.2.toList⟩]) ?_ BIG (0#64, 0, replicate 4 0#64) () t_1 Hl ?_
 ·intro s0 g0_ r1 H K hK hE
  unfold num_sub.b0 at H
  refine TC_seq ?_
  refine TC_region ?_
  refine TLv (V_bin rfl rfl (fun w => lssI w s0.2.1 4)) ?_
  refine TL_nil ?_
  refine TX_next ?_
  refine TC_seq ?_
  refine TC_cond (b := (decide (s0.2.1 < 4))) rfl (fun hc => ?_) (fun hc => ?_)
  ·replace H := ite_t (of_decide_eq_true hc) H
   refine TC_skip ?_
   refine TX_next ?_
   refine TC_seq ?_
   refine TC_block ?_
   refine TC_seq ?_
   refine TC_region ?_
   refine TLv (V_move rfl) ?_
   refine TLv (V_assign rfl) ?_
   refine TL_nil ?_
   refine TX_next ?_
   obtain ⟨h1, H⟩ := if_elim H
   obtain ⟨h2, H⟩ := if_elim H
   obtain ⟨r_1, hr_1, H⟩ := bind_elim H
   obtain ⟨h3, H⟩ := if_elim H
   obtain ⟨m_1, hm_1, H⟩ := ltt_elim H
   refine TA_begin [⟨some (b1, 0), e64 x.toList⟩, ⟨some (b2, 0), e64 y.toList⟩, ⟨some (b3, 0), e64 ((replicate 4 0#64).toList)⟩] 14 (by kernel_rfl) (N := 15) rfl ?_
   refine TA_tk 0 [0, 0, 0] (dn 15 1) rfl rfl (V_move rfl) ?_
   refine TA_tk 1 [0, 0, 0] (dn 15 3) rfl rfl (V_move rfl) ?_
   refine TA_tk 2 [0, 0, 0] (dn 15 7) rfl rfl (V_idxArr (i := s0.2.1) rfl rfl Try.underlying57 TryI.inf55 rfl h1.1 h1.2 (k := (s0.2.1).toNat) (k01 _)) ?_
   refine TA_tk 3 [0, 0, 0] (dn 15 15) rfl rfl (V_load rfl (.o 0) (get_vec (f := v64) (V := x) (toNat_lt h1.1 h1.2)) Try.isAgg55) ?_
   refine TA_tk 4 [0, 0, 0] (dn 15 31) rfl rfl (V_move rfl) ?_
   refine TA_tk 5 [0, 0, 0] (dn 15 63) rfl rfl (V_idxArr (i := s0.2.1) rfl rfl Try.underlying57 TryI.inf55 rfl h2.1 h2.2 (k := (s0.2.1).toNat) (k01 _)) ?_
   refine TA_tk 6 [0, 0, 0] (dn 15 127) rfl rfl (V_load rfl (.o 1) (get_vec (f := v64) (V := y) (toNat_lt h2.1 h2.2)) Try.isAgg55) ?_
   refine TA_tk 7 [0, 0, 0] (dn 15 255) rfl rfl (V_move rfl) ?_
   refine TA_tk 8 [0, 0, 0] (dn 15 511) rfl rfl (V_ext rfl (ext_sub Try.func101 rfl rfl rfl rfl hr_1)) ?_
   refine TA_tk 9 [0, 0, 0] (dn 15 1023) rfl rfl (V_move rfl) ?_
   refine TA_tk 10 [0, 0, 0] (dn 15 2047) rfl rfl V_ex ?_
   refine TA_tk 11 [0, 0, 0] (dn 15 4095) rfl rfl V_ex ?_
   refine TA_tk 12 [0, 0, 0] (dn 15 8191) rfl rfl (V_idxArr (i := s0.2.1) rfl rfl Try.underlying57 TryI.inf55 rfl h3.1 h3.2 (k := (s0.2.1).toNat) (k01 _)) ?_
   refine TA_all (rs := [13]) (by kernel_rfl) rfl ?_
   refine ⟨?_, trivial⟩
   refine TO_n (is := [0, 0, 0]) (done' := dn 15 16383) rfl rfl rfl (by kernel_rfl) (E_store (j := 3) rfl rfl TryI.inf55 rfl rfl rfl (by simpa using (toNat_lt h3.1 h3.2)) (cs' := e64 ((vp s0.2.2 ((s0.2.1).toNat) r_1.1).toList)) set_vec) (fun _ _ => rfl) (fun _ => ?_)
   refine TA_reE (j := 3) (A := some (b4, 0)) (cs := e64 ((vp s0.2.2 ((s0.2.1).toNat) r_1.1).toList)) (cs' := e64 m_1.toList) rfl (congrArg (fun z : Vx 64 4 => e64 (Vector.toList z)) hm_1) ?_
   refine TA_all (rs := [14]) (by kernel_rfl) rfl ?_
   refine ⟨?_, trivial⟩
   refine TO_v (is := []) (R := []) (done' := dn 15 32767) rfl rfl rfl rfl (by kernel_rfl) (V_assign rfl) (fun h => by cases h) ?_
   refine TA_done (by kernel_rfl) ?_ 0
   refine TX_block_normal ?_
   refine TX_next ?_
   refine TC_region ?_
   refine TLv (V_bin rfl rfl (fun w => addI w s0.2.1 1)) ?_
   refine TLv (V_move rfl) ?_
   refine TL_nil ?_
   refine TX.sub (m' := [(2, ptr (some (b1, 0)) 0), (3, ptr (some (b2, 0)) 0), (4, ptr (some (b3, 0)) 0), (6, ptr (some (b4, 0)) 0), (7, v64 r_1.2), (9, vi (w64 (s0.2.1 + 1)))]) ⟨rfl, rfl, rfl, rfl, rfl, rfl, trivial⟩ ?_
   refine TX.pull (is := [0, 0, 0, 0]) (L' := [⟨some (b1, 0), e64 x.toList⟩, ⟨some (b2, 0), e64 y.toList⟩, ⟨some (b3, 0), e64 ((replicate 4 0#64).toList)⟩, ⟨some (b4, 0), e64 m_1.toList⟩]) rfl ?_
   obtain rfl := Option.some.inj H
   exact fun a w hs => hK (r_1.2, w64 (s0.2.1 + 1), m_1) rfl () a w hs
  ·replace H := ite_f (of_decide_eq_false hc) H
   refine TC_exit ?_
   refine TX_then_exit ?_
   refine TX_then_exit ?_
   refine TX.sub (m' := [(4, ptr (some (b3, 0)) 0), (6, ptr (some (b4, 0)) 0), (7, v64 s0.1)]) ⟨rfl, rfl, rfl, trivial⟩ ?_
   refine TX.pull (is := [2, 2]) (L' := [⟨some (b3, 0), e64 ((replicate 4 0#64).toList)⟩, ⟨some (b4, 0), e64 s0.2.2.toList⟩]) rfl ?_
   obtain rfl := Option.some.inj H
   exact hE (s0.1, s0.2.2) rfl ()
 ·intro g
  refine TX_block_exit ?_
  refine TX_next ?_
  refine TC_seq ?_
  refine TC_region ?_
  refine TLv (V_lag (.o 1) Try.isAgg57 TryI.inf57) ?_
  refine TLv (V_move rfl) ?_
  refine TLn (E_sv (vs := e64 t_1.2.toList) 0 TryI.inf57) (fun _ => ?_)
  refine TLv (V_assign rfl) ?_
  refine TL_nil ?_
  refine TX_next ?_
  refine TC_ret ?_
  have hrv := Option.some.inj H
  subst hrv
  exact TX_ret (rs := [.cell 4 57, .tmp 5]) (vs := [aG [(4, e64 t_1.2.toList)], v64 t_1.1]) rfl ⟨(Res_agg (n := 4) rfl (by simp) (.o 0) Try.isAgg57 TryI.inf57 rfl (lenV (f := v64) t_1.2)), rfl, trivial⟩ (fun w' hs' => ⟨(), rfl, Step.left (Step.pulled (is := []) (A := []) hs' rfl)⟩)
end Go.Proofs
end

section
namespace Go.Proofs
open Go Go.Kx
open Vector (replicate)
def num_modulus (which : Int) : Option (Vx 64 4 × Bool) :=
 ltt (decide (which = 0)) fun (x1 : Bool) => (if x1 = true then (ltt ((#v[18446744073709551615#64, 4294967295#64, 0#64, 18446744069414584321#64] : Vx 64 4)) fun (m_1 : Vx 64 4) => (some (m_1, true))) else (ltt (decide (which = 1)) fun (x2 : Bool) => (if x2 = true then (ltt ((#v[17562291160714782033#64, 13611842547513532036#64, 18446744073709551615#64, 18446744069414584320#64] : Vx 64 4)) fun (m_2 : Vx 64 4) => (some (m_2, true))) else (ltt (decide (which = 2)) fun (x3 : Bool) => (if x3 = true then (ltt ((#v[18446744073709551597#64, 18446744073709551615#64, 18446744073709551615#64, 9223372036854775807#64] : Vx 64 4)) fun (m_3 : Vx 64 4) => (some (m_3, true))) else (ltt ((replicate 4 0#64 : Vx 64 4)) fun (m_4 : Vx 64 4) => (some (m_4, false))))))))
set_option maxHeartbeats 4000000 in
set_option maxRecDepth 20000 in
theorem F84_calls (which : Int) (r : Vx 64 4 × Bool) (H : num_modulus which = some r) :
  Does Try.prog 84 [vi which] [] [] (Γ := Unit) (fun g => Value.tuple [aG [(4, e64 r.1.toList)], vb r.2].toArray) (fun g => []) := by
 intro w hmem hro hd
 refine calls_of (N := 15) (m0 := [(0, vi which)]) Try.func84 rfl Try.ntmps84 (argM_ok [vi which]) rfl hmem hro hd ?_
 unfold num_modulus at H
 refine TC_seq ?_
 refine TC_region ?_
 refine TLe (E_al64 4 TryI.inf57 TryI.zer57) (fun b1 => ?_)
 refine TLv (V_assign rfl) ?_
 refine TL_nil ?_
 refine TX_next ?_
 refine TC_seq ?_
 refine TC_seq ?_
 refine TC_region ?_
 refine TLv (V_move rfl) ?_
 refine TL_nil ?_
 refine TX_next ?_
 refine TC_block ?_
 refine TC_seq ?_
 refine TC_region ?_
 refine TLv (V_bin rfl rfl (fun w => eqlI w which 0)) ?_
 refine TLv (V_assign rfl) ?_
 obtain ⟨x1, hx1, H⟩ := ltt_elim H
 refine TL_re (d := 5) (v := vb (decide (which = 0))) (v' := vb x1) rfl (congrArg vb hx1) ?_
 refine TL_nil ?_
 refine TX_next ?_
 refine TC_cond (b := x1) rfl (fun hc => ?_) (fun hc => ?_)
 ·replace H := ite_t hc H
  refine TC_seq ?_
  refine TC_region ?_
  refine TLv (V_buildArr (pv := [(0, v64 18446744073709551615#64), (1, v64 4294967295#64), (2, v64 0#64), (3, v64 18446744069414584321#64)]) rfl rfl Try.underlying57 TryI.inf57 TryI.inf55 rfl TryI.zer57 (cs := e64 ((#v[18446744073709551615#64, 4294967295#64, 0#64, 18446744069414584321#64] : Vx 64 4).toList)) (by kernel_rfl)) ?_
  refine TLn (E_sv 0 TryI.inf57) (fun _ => ?_)
  obtain ⟨m_1, hm_1, H⟩ := ltt_elim H
  refine TL_reE (j := 0) (A := some (b1, 0)) (cs := e64 ((#v[18446744073709551615#64, 4294967295#64, 0#64, 18446744069414584321#64] : Vx 64 4).toList)) (cs' := e64 m_1.toList) rfl (congrArg (fun z : Vx 64 4 => e64 (Vector.toList z)) hm_1) ?_
  refine TLv (V_assign rfl) ?_
  refine TL_nil ?_
  refine TX_next ?_
  refine TC_ret ?_
  refine TX_block_ret ?_
  refine TX_then_ret ?_
  have hrv := Option.some.inj H
  subst hrv
  exact TX_ret (rs := [.cell 2 57, .tmp 3]) (vs := [aG [(4, e64 m_1.toList)], vb true]) rfl ⟨(Res_agg (n := 4) rfl (by simp) (.o 0) Try.isAgg57 TryI.inf57 rfl (lenV (f := v64) m_1)), rfl, trivial⟩ (fun w' hs' => ⟨(), rfl, Step.left (Step.pulled (is := []) (A := []) hs' rfl)⟩)
 ·replace H := ite_f (Bool.eq_false_iff.1 hc) H
  refine TC_seq ?_
  refine TC_region ?_
  refine TLv (V_bin rfl rfl (fun w => eqlI w which 1)) ?_
  refine TLv (V_assign rfl) ?_
  obtain ⟨x2, hx2, H⟩ := ltt_elim H
  refine TL_re (d := 8) (v := vb (decide (which = 1))) (v' := vb x2) rfl (congrArg vb hx2) ?_
  refine TL_nil ?_
  refine TX_next ?_
  refine TC_cond (b := x2) rfl (fun hc => ?_) (fun hc => ?_)
  ·replace H := ite_t hc H
   refine TC_seq ?_
   refine TC_region ?_
   refine TLv (V_buildArr (pv := [(0, v64 17562291160714782033#64), (1, v64 13611842547513532036#64), (2, v64 18446744073709551615#64), (3, v64 18446744069414584320#64)]) rfl rfl Try.underlying57 TryI.inf57 TryI.inf55 rfl TryI.zer57 (cs := e64 ((#v[17562291160714782033#64, 13611842547513532036#64, 18446744073709551615#64, 18446744069414584320#64] : Vx 64 4).toList)) (by kernel_rfl)) ?_
   refine TLn (E_sv 0 TryI.inf57) (fun _ => ?_)
   obtain ⟨m_2, hm_2, H⟩ := ltt_elim H
   refine TL_reE (j := 0) (A := some (b1, 0)) (cs := e64 ((#v[17562291160714782033#64, 13611842547513532036#64, 18446744073709551615#64, 18446744069414584320#64] : Vx 64 4).toList)) (cs' := e64 m_2.toList) rfl (congrArg (fun z : Vx 64 4 => e64 (Vector.toList z)) hm_2) ?_
   refine TLv (V_assign rfl) ?_
   refine TL_nil ?_
   refine TX_next ?_
   refine TC_ret ?_
   refine TX_block_ret ?_
   refine TX_then_ret ?_
   have hrv := Option.some.inj H
   subst hrv
   exact TX_ret (rs := [.cell 2 57, .tmp 3]) (vs := [aG [(4, e64 m_2.toList)], vb true]) rfl ⟨(Res_agg (n := 4) rfl (by simp) (.o 0) Try.isAgg57 TryI.inf57 rfl (lenV (f := v64) m_2)), rfl, trivial⟩ (fun w' hs' => ⟨(), rfl, Step.left (Step.pulled (is := []) (A := []) hs' rfl)⟩)
  ·replace H := ite_f (Bool.eq_false_iff.1 hc) H
   refine TC_seq ?_
   refine TC_region ?_
   refine TLv (V_bin rfl rfl (fun w => eqlI w which 2)) ?_
   refine TLv (V_assign rfl) ?_
   obtain ⟨x3, hx3, H⟩ := ltt_elim H
   refine TL_re (d := 11) (v := vb (decide (which = 2))) (v' := vb x3) rfl (congrArg vb hx3) ?_
   refine TL_nil ?_
   refine TX_next ?_
   refine TC_cond (b := x3) rfl (fun hc => ?_) (fun hc => ?_)
   ·replace H := ite_t hc H
    refine TC_seq ?_
    refine TC_region ?_
    refine TLv (V_buildArr (pv := [(0, v64 18446744073709551597#64), (1, v64 18446744073709551615#64), (2, v64 18446744073709551615#64), (3, v64 9223372036854775807#64)]) rfl rfl Try.underlying57 TryI.inf57 TryI.inf55 rfl TryI.zer57 (cs := e64 ((#v[18446744073709551597#64, 18446744073709551615#64, 18446744073709551615#64, 9223372036854775807#64] : Vx 64 4).toList)) (by kernel_rfl)) ?_
    refine TLn (E_sv 0 TryI.inf57) (fun _ => ?_)
    obtain ⟨m_3, hm_3, H⟩ := ltt_elim H
    refine TL_reE (j := 0) (A := some (b1, 0)) (cs := e64 ((#v[18446744073709551597#64, 18446744073709551615#64, 18446744073709551615#64, 9223372036854775807#64] : Vx 64 4).toList)) (cs' := e64 m_3.toList) rfl (congrArg (fun z : Vx 64 4 => e64 (Vector.toList z)) hm_3) ?_
    refine TLv (V_assign rfl) ?_
    refine TL_nil ?_
    refine TX_next ?_
    refine TC_ret ?_
    refine TX_block_ret ?_
    refine TX_then_ret ?_
    have hrv := Option.some.inj H
    subst hrv
    exact TX_ret (rs := [.cell 2 57, .tmp 3]) (vs := [aG [(4, e64 m_3.toList)], vb true]) rfl ⟨(Res_agg (n := 4) rfl (by simp) (.o 0) Try.isAgg57 TryI.inf57 rfl (lenV (f := v64) m_3)), rfl, trivial⟩ (fun w' hs' => ⟨(), rfl, Step.left (Step.pulled (is := []) (A := []) hs' rfl)⟩)
   ·replace H := ite_f (Bool.eq_false_iff.1 hc) H
    refine TC_skip ?_
    refine TX_block_normal ?_
    refine TX_next ?_
    refine TC_seq ?_
    refine TC_region ?_
    refine TLv (V_buildArr (pv := []) rfl rfl Try.underlying57 TryI.inf57 TryI.inf55 rfl TryI.zer57 (cs := e64 ((replicate 4 0#64 : Vx 64 4).toList)) (by kernel_rfl)) ?_
    refine TLn (E_sv 0 TryI.inf57) (fun _ => ?_)
    obtain ⟨m_4, hm_4, H⟩ := ltt_elim H
    refine TL_reE (j := 0) (A := some (b1, 0)) (cs := e64 ((replicate 4 0#64 : Vx 64 4).toList)) (cs' := e64 m_4.toList) rfl (congrArg (fun z : Vx 64 4 => e64 (Vector.toList z)) hm_4) ?_
    refine TLv (V_assign rfl) ?_
    refine TL_nil ?_
    refine TX_next ?_
    refine TC_ret ?_
    have hrv := Option.some.inj H
    subst hrv
    exact TX_ret (rs := [.cell 2 57, .tmp 3]) (vs := [aG [(4, e64 m_4.toList)], vb false]) rfl ⟨(Res_agg (n := 4) rfl (by simp) (.o 0) Try.isAgg57 TryI.inf57 rfl (lenV (f := v64) m_4)), rfl, trivial⟩ (fun w' hs' => ⟨(), rfl, Step.left (Step.pulled (is := []) (A := []) hs' rfl)⟩)
end Go.Proofs
end

section
namespace Go.Proofs
open Go Go.Kx
open Vector (replicate)
def num_Field_Mul.b1 (x : Vx 64 4) (y : Vx 64 4) (s0 : Int × Vx 64 6) (s1 : BitVec 64 × Int × Vx 64 6) : Option ((BitVec 64 × Int × Vx 64 6) ⊕ (BitVec 64 × Vx 64 6)) :=
 if s1.2.1 < 4 then (if 0 ≤ s1.2.1 ∧ s1.2.1 < (4 : Int) then (if 0 ≤ s0.1 ∧ s0.1 < (4 : Int) then ((math_bits_Mul64 (vg x ((s1.2.1).toNat)) (vg y ((s0.1).toNat))).bind fun (r_1 : BitVec 64 × BitVec 64) => (if 0 ≤ s1.2.1 ∧ s1.2.1 < (6 : Int) then ((math_bits_Add64 r_1.2 (vg s1.2.2 ((s1.2.1).toNat)) 0#64).bind fun (r_2 : BitVec 64 × BitVec 64) => (ltt (r_1.1 + r_2.2) fun (high1 : BitVec 64) => ((math_bits_Add64 r_2.1 s1.1 0#64).bind fun (r_3 : BitVec 64 × BitVec 64) => (if 0 ≤ s1.2.1 ∧ s1.2.1 < (6 : Int) then (ltt (vp s1.2.2 ((s1.2.1).toNat) r_3.1) fun (m_1 : Vx 64 6) => (ltt (high1 + r_3.2) fun (c1 : BitVec 64) => (some (.inl (c1, w64 (s1.2.1 + 1), m_1))))) else none)))) else none)) else none) else none) else (some (.inr (s1.1, s1.2.2)))
def num_Field_Mul.b2 (f_M : Vx 64 4) (m_3 : BitVec 64) (s2 : BitVec 64 × Int × Vx 64 6) : Option ((BitVec 64 × Int × Vx 64 6) ⊕ (BitVec 64 × Vx 64 6)) :=
 if s2.2.1 < 4 then (if 0 ≤ s2.2.1 ∧ s2.2.1 < (4 : Int) then ((math_bits_Mul64 m_3 (vg f_M ((s2.2.1).toNat))).bind fun (r_7 : BitVec 64 × BitVec 64) => (if 0 ≤ s2.2.1 ∧ s2.2.1 < (6 : Int) then ((math_bits_Add64 r_7.2 (vg s2.2.2 ((s2.2.1).toNat)) 0#64).bind fun (r_8 : BitVec 64 × BitVec 64) => (ltt (r_7.1 + r_8.2) fun (high2 : BitVec 64) => ((math_bits_Add64 r_8.1 s2.1 0#64).bind fun (r_9 : BitVec 64 × BitVec 64) => (if 0 ≤ w64 (s2.2.1 - 1) ∧ w64 (s2.2.1 - 1) < (6 : Int) then (ltt (vp s2.2.2 ((w64 (s2.2.1 - 1)).toNat) r_9.1) fun (m_4 : Vx 64 6) => (ltt (high2 + r_9.2) fun (c3 : BitVec 64) => (ltt (w64 (s2.2.1 + 1)) fun (k_1 : Int) => (some (.inl (c3, k_1, m_4)))))) else none)))) else none)) else none) else (some (.inr (s2.1, s2.2.2)))
def num_Field_Mul.b0 (f_M : Vx 64 4) (f_inv : BitVec 64) (x : Vx 64 4) (y : Vx 64 4) (s0 : Int × Vx 64 6) : Option ((Int × Vx 64 6) ⊕ (Vx 64 6)) :=
 if s0.1 < 4 then ((loop (num_Field_Mul.b1 x y s0) BIG (0#64, 0, s0.2)).bind fun (t_2 : BitVec 64 × Vx 64 6) => ((math_bits_Add64 (vg t_2.2 4) t_2.1 0#64).bind fun (r_4 : BitVec 64 × BitVec 64) => (ltt (vp (vp t_2.2 4 r_4.1) 5 r_4.2) fun (m_2 : Vx 64 6) => (ltt ((vg m_2 0) * f_inv) fun (m_3 : BitVec 64) => ((math_bits_Mul64 m_3 (vg f_M 0)).bind fun (r_5 : BitVec 64 × BitVec 64) => ((math_bits_Add64 r_5.2 (vg m_2 0) 0#64).bind fun (r_6 : BitVec 64 × BitVec 64) => (ltt (r_5.1 + r_6.2) fun (c2 : BitVec 64) => ((loop (num_Field_Mul.b2 f_M m_3) BIG (c2, 1, m_2)).bind fun (t_3 : BitVec 64 × Vx 64 6) => ((math_bits_Add64 (vg t_3.2 4) t_3.1 0#64).bind fun (r_10 : BitVec 64 × BitVec 64) => (ltt (vp (vp t_3.2 3 r_10.1) 4 ((vg (vp t_3.2 3 r_10.1) 5) + r_10.2)) fun (m_5 : Vx 64 6) => (some (.inl (w64 (s0.1 + 1), m_5))))))))))))) else (some (.inr s0.2))
def num_Field_Mul (f_M : Vx 64 4) (f_inv : BitVec 64) (f_one : Vx 64 4) (f_two : Vx 64 4) (x : Vx 64 4) (y : Vx 64 4) : Option (Vx 64 4) :=
 (loop (num_Field_Mul.b0 f_M f_inv x y) BIG (0, replicate 6 0#64)).bind fun (t_1 : Vx 64 6) => (ltt ((#v[vg t_1 0, vg t_1 1, vg t_1 2, vg t_1 3] : Vx 64 4)) fun (m_6 : Vx 64 4) => ((num_sub m_6 f_M).bind fun (r_11 : Vx 64 4 × BitVec 64) => ((if (vg t_1 4) = 1#64 then (some true) else (some (decide (r_11.2 = 0#64)))).bind fun (j1 : Bool) => (if j1 = true then (some r_11.1) else (some m_6)))))
set_option maxHeartbeats 4000000 in
set_option maxRecDepth 20000 in
theorem F58_calls (bf : Nat) (obf : Nat) (f_M : Vx 64 4) (f_inv : BitVec 64) (f_one : Vx 64 4) (f_two : Vx 64 4) (x : Vx 64 4) (y : Vx 64 4) (r : Vx 64 4) (H : num_Field_Mul f_M f_inv f_one f_two x y = some r) :
  Does Try.prog 58 [ptr (some (bf, obf)) 0, aG [(4, e64 x.toList)], aG [(4, e64 y.toList)]] [] [⟨some (bf, obf), e64 f_M.toList⟩, ⟨some (bf, obf + 4), [v64 f_inv]⟩, ⟨some (bf, obf + 5), e64 f_one.toList⟩, ⟨some (bf, obf + 9), e64 f_two.toList⟩] (Γ := Unit) (fun g => aG [(4, e64 r.toList)]) (fun g => []) := by
 intro w hmem hro hd
 refine calls_of (N := 179) (m0 := [(0, ptr (some (bf, obf)) 0), (1, aG [(4, e64 x.toList)]), (2, aG [(4, e64 y.toList)])]) Try.func58 rfl Try.ntmps58 (argM_ok [ptr (some (bf, obf)) 0, aG [(4, e64 x.toList)], aG [(4, e64 y.toList)]]) rfl hmem hro hd ?_
 unfold num_Field_Mul at H
 refine TC_seq ?_
 refine TC_region ?_
 refine TLe (E_boxP [(4, e64 x.toList)] rfl rfl ⟨(lenV (f := v64) x), trivial⟩) (fun b1 => ?_)
 refine TLe (E_boxP [(4, e64 y.toList)] rfl rfl ⟨(lenV (f := v64) y), trivial⟩) (fun b2 => ?_)
 refine TLe (E_al64 4 TryI.inf57 TryI.zer57) (fun b3 => ?_)
 refine TL_nil ?_
 refine TX_next ?_
 refine TC_seq ?_
 refine TC_region ?_
 refine TLe (E_al64 6 TryI.inf116 TryI.zer116) (fun b4 => ?_)
 refine TL_nil ?_
 refine TX_next ?_
 refine TC_seq ?_
 refine TC_seq ?_
 refine TC_region ?_
 refine TLv (V_move rfl) ?_
 refine TL_nil ?_
 refine TX_next ?_
 refine TC_block ?_
 obtain ⟨t_1, Hl, H⟩ := bind_elim H
 refine TC.sub (m' := [(0, ptr (some (bf, obf)) 0), (4, ptr (some (b1, 0)) 0), (5, ptr (some (b2, 0)) 0), (6, ptr (some (b3, 0)) 0), (7, ptr (some (b4, 0)) 0), (22, vi 0)]) ⟨rfl, rfl, rfl, rfl, rfl, rfl, trivial⟩ ?_
 refine TC.pull (is := [3, 2, 1, 0]) (L' := [⟨some (b1, 0), e64 x.toList⟩, ⟨some (b2, 0), e64 y.toList⟩, ⟨some (b3, 0), e64 ((replicate 4 0#64).toList)⟩, ⟨some (b4, 0), e64 ((replicate 6 0#64).toList)⟩]) rfl ?_
 refine TC_loopL (id := 0) (body := (num_Field_Mul.b0 f_M f_inv x y)) (σ := Int × Vx 64 6) (Γ := Unit) (Γx := Unit) (fun s0 g0_ => [(0, ptr (some (bf, obf)) 0), (4, ptr (some (b1, 0)) 0), (5, ptr (some (b2, 0)) 0), (6, ptr (some (b3, 0)) 0), (7, ptr (some (b4, 0)) 0), (22, vi s0.1)]) (fun s0 g0_ => [⟨some (b1, 0), e64 x.toList⟩, ⟨some (b2, 0), e64 y.toList⟩, ⟨some (b3, 0), e64 ((replicate 4 0#64).toList)⟩, ⟨some (b4, 0), e64 s0.2.toList⟩]) (fun t g => [(0, ptr (some (bf, obf)) 0), (6, ptr (some (b3, 0)) 0), (7, ptr (some (b4, 0)) 0)]) (fun t g => [⟨some (b3, 0), e64 ((replicate 4 0#64).toList)⟩, ⟨some (b4, 0), e64 t.toList⟩]) ?_ BIG (0, replicate 6 0#64) () t_1 Hl ?_
 ·intro s0 g0_ r1 H K hK hE
  unfold num_Field_Mul.b0 at H
  refine TC_seq ?_
  refine TC_region ?_
  refine TLv (V_bin rfl rfl (fun w => lssI w s0.1 4)) ?_
  refine TL_nil ?_
  refine TX_next ?_
  refine TC_seq ?_
  refine TC_cond (b := (decide (s0.1 < 4))) rfl (fun hc => ?_) (fun hc => ?_)
  ·replace H := ite_t (of_decide_eq_true hc) H
   refine TC_skip ?_
   refine TX_next ?_
   refine TC_seq ?_
   refine TC_block ?_
   refine TC_seq ?_
   refine TC_region ?_
   refine TLv (V_move rfl) ?_
   refine TLv (V_assign rfl) ?_
   refine TL_nil ?_
   refine TX_next ?_
   refine TC_seq ?_
   refine TC_region ?_
   refine TLv (V_assign rfl) ?_
   refine TL_nil ?_
   refine TX_next ?_
   refine TC_seq ?_
   refine TC_seq ?_
   refine TC_region ?_
   refine TLv (V_move rfl) ?_
   refine TL_nil ?_
   refine TX_next ?_
   refine TC_block ?_
   obtain ⟨t_2, Hl, H⟩ := bind_elim H
   refine TC.sub (m' := [(0, ptr (some (bf, obf)) 0), (4, ptr (some (b1, 0)) 0), (5, ptr (some (b2, 0)) 0), (6, ptr (some (b3, 0)) 0), (7, ptr (some (b4, 0)) 0), (8, vi s0.1), (9, v64 0#64), (22, vi s0.1), (25, vi 0)]) ⟨rfl, rfl, rfl, rfl, rfl, rfl, rfl, rfl, rfl, trivial⟩ ?_
   refine TC.pull (is := [0, 0, 0, 0]) (L' := [⟨some (b1, 0), e64 x.toList⟩, ⟨some (b2, 0), e64 y.toList⟩, ⟨some (b3, 0), e64 ((replicate 4 0#64).toList)⟩, ⟨some (b4, 0), e64 s0.2.toList⟩]) rfl ?_
   refine TC_loopL (id := 2) (body := (num_Field_Mul.b1 x y s0)) (σ := BitVec 64 × Int × Vx 64 6) (Γ := Unit) (Γx := Unit) (fun s1 g1_ => [(0, ptr (some (bf, obf)) 0), (4, ptr (some (b1, 0)) 0), (5, ptr (some (b2, 0)) 0), (6, ptr (some (b3, 0)) 0), (7, ptr (some (b4, 0)) 0), (8, vi s0.1), (9, v64 s1.1), (22, vi s0.1), (25, vi s1.2.1)]) (fun s1 g1_ => [⟨some (b1, 0), e64 x.toList⟩, ⟨some (b2, 0), e64 y.toList⟩, ⟨some (b3, 0), e64 ((replicate 4 0#64).toList)⟩, ⟨some (b4, 0), e64 s1.2.2.toList⟩]) (fun t g => [(0, ptr (some (bf, obf)) 0), (4, ptr (some (b1, 0)) 0), (5, ptr (some (b2, 0)) 0), (6, ptr (some (b3, 0)) 0), (7, ptr (some (b4, 0)) 0), (9, v64 t.1), (22, vi s0.1)]) (fun t g => [⟨some (b1, 0), e64 x.toList⟩, ⟨some (b2, 0), e64 y.toList⟩, ⟨some (b3, 0), e64 ((replicate 4 0#64).toList)⟩, ⟨some (b4, 0), e64 t.2.toList⟩]) ?_ BIG (0#64, 0, s0.2) () t_2 Hl ?_
   ·intro s1 g1_ r1 H K hK hE
    unfold num_Field_Mul.b1 at H
    refine TC_seq ?_
    refine TC_region ?_
    refine TLv (V_bin rfl rfl (fun w => lssI w s1.2.1 4)) ?_
    refine TL_nil ?_
    refine TX_next ?_
    refine TC_seq ?_
    refine TC_cond (b := (decide (s1.2.1 < 4))) rfl (fun hc => ?_) (fun hc => ?_)
    ·replace H := ite_t (of_decide_eq_true hc) H
     refine TC_skip ?_
     refine TX_next ?_
     refine TC_seq ?_
     refine TC_block ?_
     refine TC_seq ?_
     refine TC_region ?_
     refine TLv (V_move rfl) ?_
     refine TLv (V_assign rfl) ?_
     refine TL_nil ?_
     refine TX_next ?_
     refine TC_seq ?_
     obtain ⟨h1, H⟩ := if_elim H
     obtain ⟨h2, H⟩ := if_elim H
     obtain ⟨r_1, hr_1, H⟩ := bind_elim H
     refine TA_begin [] 12 (by kernel_rfl) (N := 12) rfl ?_
     refine TA_mix (is := []) (done' := dn 12 4095) [itV 0 29 (vi s1.2.1) [], itV 1 30 (ptr (some (b1, 0)) ((s1.2.1).toNat)) [0], itV 2 31 (v64 (vg x ((s1.2.1).toNat))) [1], itV 3 32 (vi s0.1) [], itV 4 33 (ptr (some (b2, 0)) ((s0.1).toNat)) [3], itV 5 34 (v64 (vg y ((s0.1).toNat))) [4], itV 6 35 (Value.tuple [v64 r_1.1, v64 r_1.2].toArray) [5, 2], itV 7 28 (Value.tuple [v64 r_1.1, v64 r_1.2].toArray) [6], itV 8 36 (v64 r_1.1) [7], itV 9 37 (v64 r_1.2) [7], itV 10 11 (v64 r_1.1) [8], itV 11 12 (v64 r_1.2) [9]] [] 0 (by kernel_rfl) (QP.then (QP.block (QP.then (QP.then (QP.block (QP.then (QP.block (QP.then (QP.then (QP.block (QP.then QP.body))))))))))) (by kernel_rfl) rfl (.v rfl (V_move rfl) (.v rfl (V_idxArr (i := s1.2.1) rfl rfl Try.underlying57 TryI.inf55 rfl h1.1 h1.2 (k := (s1.2.1).toNat) (k01 _)) (.v rfl (V_load rfl (.o 0) (get_vec (f := v64) (V := x) (toNat_lt h1.1 h1.2)) Try.isAgg55) (.v rfl (V_move rfl) (.v rfl (V_idxArr (i := s0.1) rfl rfl Try.underlying57 TryI.inf55 rfl h2.1 h2.2 (k := (s0.1).toNat) (k01 _)) (.v rfl (V_load rfl (.o 1) (get_vec (f := v64) (V := y) (toNat_lt h2.1 h2.2)) Try.isAgg55) (.e rfl (E_cu (F86_calls (vg x ((s1.2.1).toNat)) (vg y ((s0.1).toNat)) r_1 hr_1) Try.call86 .z) (.v rfl (V_move rfl) (.v rfl V_ex (.v rfl V_ex (.v rfl (V_assign rfl) (.v rfl (V_assign rfl) .nil)))))))))))) .nil (by kernel_rfl) rfl (fun γ => ?_)
     refine TA_cut [(12, v64 r_1.2), (11, v64 r_1.1), (10, vi s1.2.1), (0, ptr (some (bf, obf)) 0), (4, ptr (some (b1, 0)) 0), (5, ptr (some (b2, 0)) 0), (6, ptr (some (b3, 0)) 0), (7, ptr (some (b4, 0)) 0), (8, vi s0.1), (9, v64 s1.1), (22, vi s0.1), (25, vi s1.2.1)] [⟨some (b1, 0), e64 x.toList⟩, ⟨some (b2, 0), e64 y.toList⟩, ⟨some (b3, 0), e64 ((replicate 4 0#64).toList)⟩, ⟨some (b4, 0), e64 s1.2.2.toList⟩] ⟨rfl, rfl, rfl, rfl, rfl, rfl, rfl, rfl, rfl, rfl, rfl, rfl, trivial⟩ rfl ?_
     refine TA_done (by kernel_rfl) ?_ 0
     refine TX_next ?_
     refine TC_seq ?_
     refine TC_region ?_
     refine TLv (V_assign rfl) ?_
     refine TL_nil ?_
     refine TX_next ?_
     refine TC_seq ?_
     refine TC_region ?_
     refine TLv (V_move rfl) ?_
     refine TLv (V_move rfl) ?_
     obtain ⟨h3, H⟩ := if_elim H
     refine TLv (V_idxArr (i := s1.2.1) rfl rfl Try.underlying116 TryI.inf55 rfl h3.1 h3.2 (k := (s1.2.1).toNat) (k01 _)) ?_
     refine TLv (V_load rfl (.o 3) (get_vec (f := v64) (V := s1.2.2) (toNat_lt h3.1 h3.2)) Try.isAgg55) ?_
     obtain ⟨r_2, hr_2, H⟩ := bind_elim H
     refine TLv (V_ext rfl (ext_add Try.func87 rfl rfl rfl rfl hr_2)) ?_
     refine TLv (V_move rfl) ?_
     refine TLv V_ex ?_
     refine TLv V_ex ?_
     refine TLv (V_assign rfl) ?_
     refine TLv (V_assign rfl) ?_
     refine TL_nil ?_
     refine TX_next ?_
     refine TC_seq ?_
     refine TC_region ?_
     refine TLv (V_move rfl) ?_
     refine TLv (V_move rfl) ?_
     refine TLv (V_bin rfl rfl (fun w => add64 w r_1.1 r_2.2)) ?_
     refine TLv (V_assign rfl) ?_
     obtain ⟨high1, hhigh1, H⟩ := ltt_elim H
     refine TL_re (d := 11) (v := v64 (r_1.1 + r_2.2)) (v' := v64 high1) rfl (congrArg v64 hhigh1) ?_
     refine TL_nil ?_
     refine TX_next ?_
     refine TC_seq ?_
     refine TC_region ?_
     refine TLv (V_move rfl) ?_
     refine TLv (V_move rfl) ?_
     obtain ⟨r_3, hr_3, H⟩ := bind_elim H
     refine TLv (V_ext rfl (ext_add Try.func87 rfl rfl rfl rfl hr_3)) ?_
     refine TLv (V_move rfl) ?_
     refine TLv V_ex ?_
     refine TLv V_ex ?_
     refine TLv (V_assign rfl) ?_
     refine TLv (V_assign rfl) ?_
     refine TL_nil ?_
     refine TX_next ?_
     refine TC.sub (m' := [(0, ptr (some (bf, obf)) 0), (4, ptr (some (b1, 0)) 0), (5, ptr (some (b2, 0)) 0), (6, ptr (some (b3, 0)) 0), (7, ptr (some (b4, 0)) 0), (8, vi s0.1), (10, vi s1.2.1), (11, v64 high1), (12, v64 r_3.1), (13, v64 r_3.2), (22, vi s0.1), (25, vi s1.2.1)]) ⟨rfl, rfl, rfl, rfl, rfl, rfl, rfl, rfl, rfl, rfl, rfl, rfl, trivial⟩ ?_
     refine TC.pull (is := [0, 0, 0, 0]) (L' := [⟨some (b1, 0), e64 x.toList⟩, ⟨some (b2, 0), e64 y.toList⟩, ⟨some (b3, 0), e64 ((replicate 4 0#64).toList)⟩, ⟨some (b4, 0), e64 s1.2.2.toList⟩]) rfl ?_
     refine TC_region ?_
     refine TLv (V_move rfl) ?_
     refine TLv (V_move rfl) ?_
     refine TLv (V_move rfl) ?_
     refine TLv (V_move rfl) ?_
     refine TLv (V_bin rfl rfl (fun w => add64 w high1 r_3.2)) ?_
     obtain ⟨h4, H⟩ := if_elim H
     refine TLv (V_idxArr (i := s1.2.1) rfl rfl Try.underlying116 TryI.inf55 rfl h4.1 h4.2 (k := (s1.2.1).toNat) (k01 _)) ?_
     refine TLn (E_store (j := 3) rfl rfl TryI.inf55 rfl rfl rfl (by simpa using (toNat_lt h4.1 h4.2)) (cs' := e64 ((vp s1.2.2 ((s1.2.1).toNat) r_3.1).toList)) set_vec) (fun _ => ?_)
     obtain ⟨m_1, hm_1, H⟩ := ltt_elim H
     refine TL_reE (j := 3) (A := some (b4, 0)) (cs := e64 ((vp s1.2.2 ((s1.2.1).toNat) r_3.1).toList)) (cs' := e64 m_1.toList) rfl (congrArg (fun z : Vx 64 6 => e64 (Vector.toList z)) hm_1) ?_
     refine TLv (V_assign rfl) ?_
     obtain ⟨c1, hc1, H⟩ := ltt_elim H
     refine TL_re (d := 9) (v := v64 (high1 + r_3.2)) (v' := v64 c1) rfl (congrArg v64 hc1) ?_
     refine TL_nil ?_
     refine TX_block_normal ?_
     refine TX_next ?_
     refine TC_region ?_
     refine TLv (V_bin rfl rfl (fun w => addI w s1.2.1 1)) ?_
     refine TLv (V_move rfl) ?_
     refine TL_nil ?_
     refine TX.sub (m' := [(0, ptr (some (bf, obf)) 0), (4, ptr (some (b1, 0)) 0), (5, ptr (some (b2, 0)) 0), (6, ptr (some (b3, 0)) 0), (7, ptr (some (b4, 0)) 0), (8, vi s0.1), (9, v64 c1), (22, vi s0.1), (25, vi (w64 (s1.2.1 + 1)))]) ⟨rfl, rfl, rfl, rfl, rfl, rfl, rfl, rfl, rfl, trivial⟩ ?_
     refine TX.pull (is := [0, 0, 0, 0]) (L' := [⟨some (b1, 0), e64 x.toList⟩, ⟨some (b2, 0), e64 y.toList⟩, ⟨some (b3, 0), e64 ((replicate 4 0#64).toList)⟩, ⟨some (b4, 0), e64 m_1.toList⟩]) rfl ?_
     obtain rfl := Option.some.inj H
     exact fun a w hs => hK (c1, w64 (s1.2.1 + 1), m_1) rfl () a w hs
    ·replace H := ite_f (of_decide_eq_false hc) H
     refine TC_exit ?_
     refine TX_then_exit ?_
     refine TX_then_exit ?_
     refine TX.sub (m' := [(0, ptr (some (bf, obf)) 0), (4, ptr (some (b1, 0)) 0), (5, ptr (some (b2, 0)) 0), (6, ptr (some (b3, 0)) 0), (7, ptr (some (b4, 0)) 0), (9, v64 s1.1), (22, vi s0.1)]) ⟨rfl, rfl, rfl, rfl, rfl, rfl, rfl, trivial⟩ ?_
     refine TX.pull (is := [0, 0, 0, 0]) (L' := [⟨some (b1, 0), e64 x.toList⟩, ⟨some (b2, 0), e64 y.toList⟩, ⟨some (b3, 0), e64 ((replicate 4 0#64).toList)⟩, ⟨some (b4, 0), e64 s1.2.2.toList⟩]) rfl ?_
     obtain rfl := Option.some.inj H
     exact hE (s1.1, s1.2.2) rfl ()
   ·intro g
    refine TX_block_exit ?_
    refine TX_next ?_
    refine TC_seq ?_
    refine TC_region ?_
    refine TLv (V_assign rfl) ?_
    refine TL_nil ?_
    refine TX_next ?_
    refine TC_seq ?_
    refine TC_region ?_
    refine TLv (V_idxArr (i := 4) rfl rfl Try.underlying116 TryI.inf55 rfl (by decide) (by decide) (k := 4) (k01 _)) ?_
    refine TLv (V_load rfl (.o 3) (get_vec (f := v64) (V := t_2.2) (by decide : 4 < 6)) Try.isAgg55) ?_
    refine TLv (V_move rfl) ?_
    obtain ⟨r_4, hr_4, H⟩ := bind_elim H
    refine TLv (V_ext rfl (ext_add Try.func87 rfl rfl rfl rfl hr_4)) ?_
    refine TLv (V_move rfl) ?_
    refine TLv V_ex ?_
    refine TLv V_ex ?_
    refine TLv (V_idxArr (i := 4) rfl rfl Try.underlying116 TryI.inf55 rfl (by decide) (by decide) (k := 4) (k01 _)) ?_
    refine TLn (E_store (j := 3) rfl rfl TryI.inf55 rfl rfl rfl (by simp) (cs' := e64 ((vp t_2.2 4 r_4.1).toList)) set_vec) (fun _ => ?_)
    refine TLv (V_assign rfl) ?_
    refine TL_nil ?_
    refine TX_next ?_
    refine TC_seq ?_
    refine TC_region ?_
    refine TLv (V_move rfl) ?_
    refine TLv (V_idxArr (i := 5) rfl rfl Try.underlying116 TryI.inf55 rfl (by decide) (by decide) (k := 5) (k01 _)) ?_
    refine TLn (E_store (j := 3) rfl rfl TryI.inf55 rfl rfl rfl (by simp) (cs' := e64 ((vp (vp t_2.2 4 r_4.1) 5 r_4.2).toList)) set_vec) (fun _ => ?_)
    obtain ⟨m_2, hm_2, H⟩ := ltt_elim H
    refine TL_reE (j := 3) (A := some (b4, 0)) (cs := e64 ((vp (vp t_2.2 4 r_4.1) 5 r_4.2).toList)) (cs' := e64 m_2.toList) rfl (congrArg (fun z : Vx 64 6 => e64 (Vector.toList z)) hm_2) ?_
    refine TL_nil ?_
    refine TX_next ?_
    refine TC_seq ?_
    obtain ⟨m_3, hm_3, H⟩ := ltt_elim H
    refine TA_begin [] 8 (by kernel_rfl) (N := 8) rfl ?_
    refine TA_mix (is := []) (done' := dn 8 127) [itV 0 72 (ptr (some (b4, 0)) 0) [], itV 1 73 (v64 (vg m_2 0)) [0], itV 2 74 (ptr (some (bf, obf)) 0) [], itV 3 75 (ptr (some (bf, obf)) 0) [2], itV 4 76 (ptr (some (bf, obf + 4)) 0) [3], itV 5 77 (v64 f_inv) [4], itV 6 78 (v64 ((vg m_2 0) * f_inv)) [1, 5]] [] 1 (by kernel_rfl) (QP.then (QP.block (QP.then (QP.then (QP.block (QP.then QP.body)))))) (by kernel_rfl) rfl (.v rfl (V_idxArr (i := 0) rfl rfl Try.underlying116 TryI.inf55 rfl (by decide) (by decide) (k := 0) (k01 _)) (.v rfl (V_load rfl (.o 3) (get_vec (f := v64) (V := m_2) (by decide : 0 < 6)) Try.isAgg55) (.v rfl (V_move rfl) (.v rfl (V_nilCheck rfl) (.v rfl (V_fe Try.underlying113 TryI.inf55) (.v rfl (V_load rfl (.r 1) rfl Try.isAgg55) (.v rfl (V_bin rfl rfl (fun w => mul64 w (vg m_2 0) f_inv)) .nil))))))) .nil (by kernel_rfl) rfl (fun γ => ?_)
    refine TA_cut [(78, v64 ((vg m_2 0) * f_inv)), (0, ptr (some (bf, obf)) 0), (4, ptr (some (b1, 0)) 0), (5, ptr (some (b2, 0)) 0), (6, ptr (some (b3, 0)) 0), (7, ptr (some (b4, 0)) 0), (22, vi s0.1)] [⟨some (b1, 0), e64 x.toList⟩, ⟨some (b2, 0), e64 y.toList⟩, ⟨some (b3, 0), e64 ((replicate 4 0#64).toList)⟩, ⟨some (b4, 0), e64 m_2.toList⟩] ⟨rfl, rfl, rfl, rfl, rfl, rfl, rfl, trivial⟩ rfl ?_
    refine TA_all (rs := [7]) (by kernel_rfl) rfl ?_
    refine ⟨?_, trivial⟩
    refine TO_v (is := []) (done' := dn 8 255) rfl rfl rfl rfl (by kernel_rfl) (V_assign rfl) (fun _ => rfl) ?_
    refine TA_re (d := 15) (v := v64 ((vg m_2 0) * f_inv)) (v' := v64 m_3) rfl (congrArg v64 hm_3) ?_
    refine TA_done (by kernel_rfl) ?_ 0
    refine TX_next ?_
    refine TC_seq ?_
    refine TC_region ?_
    refine TLv (V_move rfl) ?_
    refine TLv (V_move rfl) ?_
    refine TLv (V_nilCheck rfl) ?_
    refine TLv (V_fieldE rfl Try.underlying113 rfl rfl TryI.inf57 rfl (v := ptr (some (bf, obf)) 0) rfl) ?_
    refine TLv (V_idxArr (i := 0) rfl rfl Try.underlying57 TryI.inf55 rfl (by decide) (by decide) (k := 0) (k01 _)) ?_
    refine TLv (V_load rfl (.r 0) (get_vec (f := v64) (V := f_M) (by decide : 0 < 4)) Try.isAgg55) ?_
    obtain ⟨r_5, hr_5, H⟩ := bind_elim H
    refine TLe (E_c0 (F86_calls m_3 (vg f_M 0) r_5 hr_5) Try.call86 .z) (fun g_2 => ?_)
    refine TLv (V_move rfl) ?_
    refine TLv V_ex ?_
    refine TLv V_ex ?_
    refine TLv (V_assign rfl) ?_
    refine TLv (V_assign rfl) ?_
    refine TL_nil ?_
    refine TX_next ?_
    refine TC_seq ?_
    refine TC_region ?_
    refine TLv (V_move rfl) ?_
    refine TLv (V_idxArr (i := 0) rfl rfl Try.underlying116 TryI.inf55 rfl (by decide) (by decide) (k := 0) (k01 _)) ?_
    refine TLv (V_load rfl (.o 3) (get_vec (f := v64) (V := m_2) (by decide : 0 < 6)) Try.isAgg55) ?_
    obtain ⟨r_6, hr_6, H⟩ := bind_elim H
    refine TLv (V_ext rfl (ext_add Try.func87 rfl rfl rfl rfl hr_6)) ?_
    refine TLv (V_move rfl) ?_
    refine TLv V_ex ?_
    refine TLv V_ex ?_
    refine TLv (V_assign rfl) ?_
    refine TL_nil ?_
    refine TX_next ?_
    refine TC_seq ?_
    refine TC_region ?_
    refine TLv (V_move rfl) ?_
    refine TLv (V_move rfl) ?_
    refine TLv (V_bin rfl rfl (fun w => add64 w r_5.1 r_6.2)) ?_
    refine TLv (V_assign rfl) ?_
    obtain ⟨c2, hc2, H⟩ := ltt_elim H
    refine TL_re (d := 9) (v := v64 (r_5.1 + r_6.2)) (v' := v64 c2) rfl (congrArg v64 hc2) ?_
    refine TL_nil ?_
    refine TX_next ?_
    refine TC.sub (m' := [(0, ptr (some (bf, obf)) 0), (4, ptr (some (b1, 0)) 0), (5, ptr (some (b2, 0)) 0), (6, ptr (some (b3, 0)) 0), (7, ptr (some (b4, 0)) 0), (9, v64 c2), (15, v64 m_3), (22, vi s0.1)]) ⟨rfl, rfl, rfl, rfl, rfl, rfl, rfl, rfl, trivial⟩ ?_
    refine TC.pull (is := [0, 0, 0, 0]) (L' := [⟨some (b1, 0), e64 x.toList⟩, ⟨some (b2, 0), e64 y.toList⟩, ⟨some (b3, 0), e64 ((replicate 4 0#64).toList)⟩, ⟨some (b4, 0), e64 m_2.toList⟩]) rfl ?_
    refine TC_seq ?_
    refine TC_seq ?_
    refine TC_region ?_
    refine TLv (V_assign rfl) ?_
    refine TL_nil ?_
    refine TX_next ?_
    refine TC_block ?_
    obtain ⟨t_3, Hl, H⟩ := bind_elim H
    refine TC.sub (m' := [(0, ptr (some (bf, obf)) 0), (4, ptr (some (b1, 0)) 0), (5, ptr (some (b2, 0)) 0), (6, ptr (some (b3, 0)) 0), (7, ptr (some (b4, 0)) 0), (9, v64 c2), (15, v64 m_3), (18, vi 1), (22, vi s0.1)]) ⟨rfl, rfl, rfl, rfl, rfl, rfl, rfl, rfl, rfl, trivial⟩ ?_
    refine TC.pull (is := [0, 0, 0, 0]) (L' := [⟨some (b1, 0), e64 x.toList⟩, ⟨some (b2, 0), e64 y.toList⟩, ⟨some (b3, 0), e64 ((replicate 4 0#64).toList)⟩, ⟨some (b4, 0), e64 m_2.toList⟩]) rfl ?_
    refine TC_loopL (id := 4) (body := (num_Field_Mul.b2 f_M m_3)) (σ := BitVec 64 × Int × Vx 64 6) (Γ := Unit) (Γx := Unit) (fun s2 g2_ => [(0, ptr (some (bf, obf)) 0), (4, ptr (some (b1, 0)) 0), (5, ptr (some (b2, 0)) 0), (6, ptr (some (b3, 0)) 0), (7, ptr (some (b4, 0)) 0), (9, v64 s2.1), (15, v64 m_3), (18, vi s2.2.1), (22, vi s0.1)]) (fun s2 g2_ => [⟨some (b1, 0), e64 x.toList⟩, ⟨some (b2, 0), e64 y.toList⟩, ⟨some (b3, 0), e64 ((replicate 4 0#64).toList)⟩, ⟨some (b4, 0), e64 s2.2.2.toList⟩]) (fun t g => [(0, ptr (some (bf, obf)) 0), (4, ptr (some (b1, 0)) 0), (5, ptr (some (b2, 0)) 0), (6, ptr (some (b3, 0)) 0), (7, ptr (some (b4, 0)) 0), (9, v64 t.1), (22, vi s0.1)]) (fun t g => [⟨some (b1, 0), e64 x.toList⟩, ⟨some (b2, 0), e64 y.toList⟩, ⟨some (b3, 0), e64 ((replicate 4 0#64).toList)⟩, ⟨some (b4, 0), e64 t.2.toList⟩]) ?_ BIG (c2, 1, m_2) () t_3 Hl ?_
    ·intro s2 g2_ r1 H K hK hE
     unfold num_Field_Mul.b2 at H
     refine TC_seq ?_
     refine TC_seq ?_
     refine TC_region ?_
     refine TLv (V_move rfl) ?_
     refine TLv (V_bin rfl rfl (fun w => lssI w s2.2.1 4)) ?_
     refine TL_nil ?_
     refine TX_next ?_
     refine TC_cond (b := (decide (s2.2.1 < 4))) rfl (fun hc => ?_) (fun hc => ?_)
     ·replace H := ite_t (of_decide_eq_true hc) H
      refine TC_skip ?_
      refine TX_next ?_
      refine TC_seq ?_
      refine TC_block ?_
      refine TC_seq ?_
      refine TC_region ?_
      refine TLv (V_move rfl) ?_
      refine TLv (V_move rfl) ?_
      refine TLv (V_move rfl) ?_
      refine TLv (V_nilCheck rfl) ?_
      refine TLv (V_fieldE rfl Try.underlying113 rfl rfl TryI.inf57 rfl (v := ptr (some (bf, obf)) 0) rfl) ?_
      obtain ⟨h5, H⟩ := if_elim H
      refine TLv (V_idxArr (i := s2.2.1) rfl rfl Try.underlying57 TryI.inf55 rfl h5.1 h5.2 (k := (s2.2.1).toNat) (k01 _)) ?_
      refine TLv (V_load rfl (.r 0) (get_vec (f := v64) (V := f_M) (toNat_lt h5.1 h5.2)) Try.isAgg55) ?_
      obtain ⟨r_7, hr_7, H⟩ := bind_elim H
      refine TLe (E_c0 (F86_calls m_3 (vg f_M ((s2.2.1).toNat)) r_7 hr_7) Try.call86 .z) (fun g_3 => ?_)
      refine TLv (V_move rfl) ?_
      refine TLv V_ex ?_
      refine TLv V_ex ?_
      refine TLv (V_assign rfl) ?_
      refine TLv (V_assign rfl) ?_
      refine TL_nil ?_
      refine TX_next ?_
      refine TC_seq ?_
      refine TC_region ?_
      refine TLv (V_move rfl) ?_
      refine TLv (V_move rfl) ?_
      obtain ⟨h6, H⟩ := if_elim H
      refine TLv (V_idxArr (i := s2.2.1) rfl rfl Try.underlying116 TryI.inf55 rfl h6.1 h6.2 (k := (s2.2.1).toNat) (k01 _)) ?_
      refine TLv (V_load rfl (.o 3) (get_vec (f := v64) (V := s2.2.2) (toNat_lt h6.1 h6.2)) Try.isAgg55) ?_
      obtain ⟨r_8, hr_8, H⟩ := bind_elim H
      refine TLv (V_ext rfl (ext_add Try.func87 rfl rfl rfl rfl hr_8)) ?_
      refine TLv (V_move rfl) ?_
      refine TLv V_ex ?_
      refine TLv V_ex ?_
      refine TLv (V_assign rfl) ?_
      refine TLv (V_assign rfl) ?_
      refine TL_nil ?_
      refine TX_next ?_
      refine TC.sub (m' := [(0, ptr (some (bf, obf)) 0), (4, ptr (some (b1, 0)) 0), (5, ptr (some (b2, 0)) 0), (6, ptr (some (b3, 0)) 0), (7, ptr (some (b4, 0)) 0), (9, v64 s2.1), (14, v64 r_8.2), (15, v64 m_3), (16, v64 r_7.1), (17, v64 r_8.1), (18, vi s2.2.1), (22, vi s0.1)]) ⟨rfl, rfl, rfl, rfl, rfl, rfl, rfl, rfl, rfl, rfl, rfl, rfl, trivial⟩ ?_
      refine TC.pull (is := [0, 0, 0, 0]) (L' := [⟨some (b1, 0), e64 x.toList⟩, ⟨some (b2, 0), e64 y.toList⟩, ⟨some (b3, 0), e64 ((replicate 4 0#64).toList)⟩, ⟨some (b4, 0), e64 s2.2.2.toList⟩]) rfl ?_
      refine TC_seq ?_
      refine TC_region ?_
      refine TLv (V_move rfl) ?_
      refine TLv (V_move rfl) ?_
      refine TLv (V_bin rfl rfl (fun w => add64 w r_7.1 r_8.2)) ?_
      refine TLv (V_assign rfl) ?_
      obtain ⟨high2, hhigh2, H⟩ := ltt_elim H
      refine TL_re (d := 16) (v := v64 (r_7.1 + r_8.2)) (v' := v64 high2) rfl (congrArg v64 hhigh2) ?_
      refine TL_nil ?_
      refine TX_next ?_
      refine TC_seq ?_
      refine TC_region ?_
      refine TLv (V_move rfl) ?_
      refine TLv (V_move rfl) ?_
      obtain ⟨r_9, hr_9, H⟩ := bind_elim H
      refine TLv (V_ext rfl (ext_add Try.func87 rfl rfl rfl rfl hr_9)) ?_
      refine TLv (V_move rfl) ?_
      refine TLv V_ex ?_
      refine TLv V_ex ?_
      refine TLv (V_assign rfl) ?_
      refine TLv (V_assign rfl) ?_
      refine TL_nil ?_
      refine TX_next ?_
      refine TC_region ?_
      refine TLv (V_move rfl) ?_
      refine TLv (V_bin rfl rfl (fun w => subI w s2.2.1 1)) ?_
      refine TLv (V_move rfl) ?_
      refine TLv (V_move rfl) ?_
      refine TLv (V_move rfl) ?_
      refine TLv (V_bin rfl rfl (fun w => add64 w high2 r_9.2)) ?_
      obtain ⟨h7, H⟩ := if_elim H
      refine TLv (V_idxArr (i := w64 (s2.2.1 - 1)) rfl rfl Try.underlying116 TryI.inf55 rfl h7.1 h7.2 (k := (w64 (s2.2.1 - 1)).toNat) (k01 _)) ?_
      refine TLn (E_store (j := 3) rfl rfl TryI.inf55 rfl rfl rfl (by simpa using (toNat_lt h7.1 h7.2)) (cs' := e64 ((vp s2.2.2 ((w64 (s2.2.1 - 1)).toNat) r_9.1).toList)) set_vec) (fun _ => ?_)
      obtain ⟨m_4, hm_4, H⟩ := ltt_elim H
      refine TL_reE (j := 3) (A := some (b4, 0)) (cs := e64 ((vp s2.2.2 ((w64 (s2.2.1 - 1)).toNat) r_9.1).toList)) (cs' := e64 m_4.toList) rfl (congrArg (fun z : Vx 64 6 => e64 (Vector.toList z)) hm_4) ?_
      refine TLv (V_assign rfl) ?_
      obtain ⟨c3, hc3, H⟩ := ltt_elim H
      refine TL_re (d := 9) (v := v64 (high2 + r_9.2)) (v' := v64 c3) rfl (congrArg v64 hc3) ?_
      refine TL_nil ?_
      refine TX_block_normal ?_
      refine TX_next ?_
      refine TC.sub (m' := [(0, ptr (some (bf, obf)) 0), (4, ptr (some (b1, 0)) 0), (5, ptr (some (b2, 0)) 0), (6, ptr (some (b3, 0)) 0), (7, ptr (some (b4, 0)) 0), (9, v64 c3), (15, v64 m_3), (18, vi s2.2.1), (22, vi s0.1)]) ⟨rfl, rfl, rfl, rfl, rfl, rfl, rfl, rfl, rfl, trivial⟩ ?_
      refine TC.pull (is := [0, 0, 0, 0]) (L' := [⟨some (b1, 0), e64 x.toList⟩, ⟨some (b2, 0), e64 y.toList⟩, ⟨some (b3, 0), e64 ((replicate 4 0#64).toList)⟩, ⟨some (b4, 0), e64 m_4.toList⟩]) rfl ?_
      refine TC_region ?_
      refine TLv (V_move rfl) ?_
      refine TLv (V_bin rfl rfl (fun w => addI w s2.2.1 1)) ?_
      refine TLv (V_assign rfl) ?_
      obtain ⟨k_1, hk_1, H⟩ := ltt_elim H
      refine TL_re (d := 18) (v := vi (w64 (s2.2.1 + 1))) (v' := vi k_1) rfl (congrArg vi hk_1) ?_
      refine TL_nil ?_
      refine TX.sub (m' := [(0, ptr (some (bf, obf)) 0), (4, ptr (some (b1, 0)) 0), (5, ptr (some (b2, 0)) 0), (6, ptr (some (b3, 0)) 0), (7, ptr (some (b4, 0)) 0), (9, v64 c3), (15, v64 m_3), (18, vi k_1), (22, vi s0.1)]) ⟨rfl, rfl, rfl, rfl, rfl, rfl, rfl, rfl, rfl, trivial⟩ ?_
      refine TX.pull (is := [0, 0, 0, 0]) (L' := [⟨some (b1, 0), e64 x.toList⟩, ⟨some (b2, 0), e64 y.toList⟩, ⟨some (b3, 0), e64 ((replicate 4 0#64).toList)⟩, ⟨some (b4, 0), e64 m_4.toList⟩]) rfl ?_
      obtain rfl := Option.some.inj H
      exact fun a w hs => hK (c3, k_1, m_4) rfl () a w hs
     ·replace H := ite_f (of_decide_eq_false hc) H
      refine TC_exit ?_
      refine TX_then_exit ?_
      refine TX_then_exit ?_
      refine TX.sub (m' := [(0, ptr (some (bf, obf)) 0), (4, ptr (some (b1, 0)) 0), (5, ptr (some (b2, 0)) 0), (6, ptr (some (b3, 0)) 0), (7, ptr (some (b4, 0)) 0), (9, v64 s2.1), (22, vi s0.1)]) ⟨rfl, rfl, rfl, rfl, rfl, rfl, rfl, trivial⟩ ?_
      refine TX.pull (is := [0, 0, 0, 0]) (L' := [⟨some (b1, 0), e64 x.toList⟩, ⟨some (b2, 0), e64 y.toList⟩, ⟨some (b3, 0), e64 ((replicate 4 0#64).toList)⟩, ⟨some (b4, 0), e64 s2.2.2.toList⟩]) rfl ?_
      obtain rfl := Option.some.inj H
      exact hE (s2.1, s2.2.2) rfl ()
    ·intro g
     refine TX_block_exit ?_
     refine TX_next ?_
     refine TC_seq ?_
     refine TC_region ?_
     refine TLv (V_idxArr (i := 4) rfl rfl Try.underlying116 TryI.inf55 rfl (by decide) (by decide) (k := 4) (k01 _)) ?_
     refine TLv (V_load rfl (.o 3) (get_vec (f := v64) (V := t_3.2) (by decide : 4 < 6)) Try.isAgg55) ?_
     refine TLv (V_move rfl) ?_
     obtain ⟨r_10, hr_10, H⟩ := bind_elim H
     refine TLv (V_ext rfl (ext_add Try.func87 rfl rfl rfl rfl hr_10)) ?_
     refine TLv (V_move rfl) ?_
     refine TLv V_ex ?_
     refine TLv V_ex ?_
     refine TLv (V_idxArr (i := 3) rfl rfl Try.underlying116 TryI.inf55 rfl (by decide) (by decide) (k := 3) (k01 _)) ?_
     refine TLn (E_store (j := 3) rfl rfl TryI.inf55 rfl rfl rfl (by simp) (cs' := e64 ((vp t_3.2 3 r_10.1).toList)) set_vec) (fun _ => ?_)
     refine TLv (V_assign rfl) ?_
     refine TL_nil ?_
     refine TX_next ?_
     refine TC_region ?_
     refine TLv (V_idxArr (i := 5) rfl rfl Try.underlying116 TryI.inf55 rfl (by decide) (by decide) (k := 5) (k01 _)) ?_
     refine TLv (V_load rfl (.o 3) (get_vec (f := v64) (V := (vp t_3.2 3 r_10.1)) (by decide : 5 < 6)) Try.isAgg55) ?_
     refine TLv (V_move rfl) ?_
     refine TLv (V_bin rfl rfl (fun w => add64 w (vg (vp t_3.2 3 r_10.1) 5) r_10.2)) ?_
     refine TLv (V_idxArr (i := 4) rfl rfl Try.underlying116 TryI.inf55 rfl (by decide) (by decide) (k := 4) (k01 _)) ?_
     refine TLn (E_store (j := 3) rfl rfl TryI.inf55 rfl rfl rfl (by simp) (cs' := e64 ((vp (vp t_3.2 3 r_10.1) 4 ((vg (vp t_3.2 3 r_10.1) 5) + r_10.2)).toList)) set_vec) (fun _ => ?_)
     obtain ⟨m_5, hm_5, H⟩ := ltt_elim H
     refine TL_reE (j := 3) (A := some (b4, 0)) (cs := e64 ((vp (vp t_3.2 3 r_10.1) 4 ((vg (vp t_3.2 3 r_10.1) 5) + r_10.2)).toList)) (cs' := e64 m_5.toList) rfl (congrArg (fun z : Vx 64 6 => e64 (Vector.toList z)) hm_5) ?_
     refine TL_nil ?_
     refine TX_block_normal ?_
     refine TX_next ?_
     refine TC_region ?_
     refine TLv (V_bin rfl rfl (fun w => addI w s0.1 1)) ?_
     refine TLv (V_move rfl) ?_
     refine TL_nil ?_
     refine TX.sub (m' := [(0, ptr (some (bf, obf)) 0), (4, ptr (some (b1, 0)) 0), (5, ptr (some (b2, 0)) 0), (6, ptr (some (b3, 0)) 0), (7, ptr (some (b4, 0)) 0), (22, vi (w64 (s0.1 + 1)))]) ⟨rfl, rfl, rfl, rfl, rfl, rfl, trivial⟩ ?_
     refine TX.pull (is := [0, 0, 0, 0]) (L' := [⟨some (b1, 0), e64 x.toList⟩, ⟨some (b2, 0), e64 y.toList⟩, ⟨some (b3, 0), e64 ((replicate 4 0#64).toList)⟩, ⟨some (b4, 0), e64 m_5.toList⟩]) rfl ?_
     obtain rfl := Option.some.inj H
     exact fun a w hs => hK (w64 (s0.1 + 1), m_5) rfl () a w hs
  ·replace H := ite_f (of_decide_eq_false hc) H
   refine TC_exit ?_
   refine TX_then_exit ?_
   refine TX_then_exit ?_
   refine TX.sub (m' := [(0, ptr (some (bf, obf)) 0), (6, ptr (some (b3, 0)) 0), (7, ptr (some (b4, 0)) 0)]) ⟨rfl, rfl, rfl, trivial⟩ ?_
   refine TX.pull (is := [2, 2]) (L' := [⟨some (b3, 0), e64 ((replicate 4 0#64).toList)⟩, ⟨some (b4, 0), e64 s0.2.toList⟩]) rfl ?_
   obtain rfl := Option.some.inj H
   exact hE s0.2 rfl ()
 ·intro g
  refine TX_block_exit ?_
  refine TX_next ?_
  refine TC_seq ?_
  refine TC_region ?_
  refine TLv (V_idxArr (i := 0) rfl rfl Try.underlying116 TryI.inf55 rfl (by decide) (by decide) (k := 0) (k01 _)) ?_
  refine TLv (V_load rfl (.o 1) (get_vec (f := v64) (V := t_1) (by decide : 0 < 6)) Try.isAgg55) ?_
  refine TLv (V_idxArr (i := 1) rfl rfl Try.underlying116 TryI.inf55 rfl (by decide) (by decide) (k := 1) (k01 _)) ?_
  refine TLv (V_load rfl (.o 1) (get_vec (f := v64) (V := t_1) (by decide : 1 < 6)) Try.isAgg55) ?_
  refine TLv (V_idxArr (i := 2) rfl rfl Try.underlying116 TryI.inf55 rfl (by decide) (by decide) (k := 2) (k01 _)) ?_
  refine TLv (V_load rfl (.o 1) (get_vec (f := v64) (V := t_1) (by decide : 2 < 6)) Try.isAgg55) ?_
  refine TLv (V_idxArr (i := 3) rfl rfl Try.underlying116 TryI.inf55 rfl (by decide) (by decide) (k := 3) (k01 _)) ?_
  refine TLv (V_load rfl (.o 1) (get_vec (f := v64) (V := t_1) (by decide : 3 < 6)) Try.isAgg55) ?_
  refine TLv (V_buildArr (pv := [(0, v64 (vg t_1 0)), (1, v64 (vg t_1 1)), (2, v64 (vg t_1 2)), (3, v64 (vg t_1 3))]) rfl rfl Try.underlying57 TryI.inf57 TryI.inf55 rfl TryI.zer57 (cs := e64 ((#v[vg t_1 0, vg t_1 1, vg t_1 2, vg t_1 3] : Vx 64 4).toList)) (by kernel_rfl)) ?_
  refine TLe (E_al64 4 TryI.inf57 TryI.zer57) (fun b5 => ?_)
  refine TLn (E_sv 0 TryI.inf57) (fun _ => ?_)
  obtain ⟨m_6, hm_6, H⟩ := ltt_elim H
  refine TL_reE (j := 0) (A := some (b5, 0)) (cs := e64 ((#v[vg t_1 0, vg t_1 1, vg t_1 2, vg t_1 3] : Vx 64 4).toList)) (cs' := e64 m_6.toList) rfl (congrArg (fun z : Vx 64 4 => e64 (Vector.toList z)) hm_6) ?_
  refine TL_nil ?_
  refine TX_next ?_
  refine TC_seq ?_
  obtain ⟨r_11, hr_11, H⟩ := bind_elim H
  refine TA_begin [⟨some (b5, 0), e64 m_6.toList⟩, ⟨some (b3, 0), e64 ((replicate 4 0#64).toList)⟩, ⟨some (b4, 0), e64 t_1.toList⟩] 11 (by kernel_rfl) (N := 12) rfl ?_
  refine TA_tk 0 [0, 0, 0] (dn 12 1) rfl rfl (V_lag (.o 0) Try.isAgg57 TryI.inf57) ?_
  refine TA_tk 1 [0, 0, 0] (dn 12 3) rfl rfl (V_move rfl) ?_
  refine TA_tk 2 [0, 0, 0] (dn 12 7) rfl rfl (V_nilCheck rfl) ?_
  refine TA_tk 3 [0, 0, 0] (dn 12 15) rfl rfl (V_fieldE rfl Try.underlying113 rfl rfl TryI.inf57 rfl (v := ptr (some (bf, obf)) 0) rfl) ?_
  refine TA_tk 4 [0, 0, 0] (dn 12 31) rfl rfl (V_lag (.r 0) Try.isAgg57 TryI.inf57) ?_
  refine TA_mix (is := [0, 0, 0]) (done' := dn 12 1023) [itV 5 167 (Value.tuple [aG [(4, e64 r_11.1.toList)], v64 r_11.2].toArray) [], itV 6 161 (Value.tuple [aG [(4, e64 r_11.1.toList)], v64 r_11.2].toArray) [5], itV 7 168 (aG [(4, e64 r_11.1.toList)]) [6], itA64 9 20 4] [itV 8 169 (v64 r_11.2) [6]] 2 (by kernel_rfl) (QP.then QP.body) (by kernel_rfl) rfl (.e rfl (E_cu (F85_calls m_6 f_M r_11 hr_11) Try.call85 .z) (.v rfl (V_move rfl) (.v rfl V_ex (.c rfl (fun _ _ => (E_al64 4 TryI.inf57 TryI.zer57)) .nil)))) (.c rfl (fun _ => V_ex) .nil) (by kernel_rfl) rfl (fun γ => ?_)
  refine TA_cut [(169, v64 r_11.2), (20, ptr (some ((γ 9), 0)) 0), (168, aG [(4, e64 r_11.1.toList)]), (19, ptr (some (b5, 0)) 0), (6, ptr (some (b3, 0)) 0), (7, ptr (some (b4, 0)) 0)] [⟨some ((γ 9), 0), e64 ((replicate 4 0#64).toList)⟩, ⟨some (b5, 0), e64 m_6.toList⟩, ⟨some (b3, 0), e64 ((replicate 4 0#64).toList)⟩, ⟨some (b4, 0), e64 t_1.toList⟩] ⟨rfl, rfl, rfl, rfl, rfl, rfl, trivial⟩ rfl ?_
  generalize γ 9 = b6
  refine TA_all (rs := [10]) (by kernel_rfl) rfl ?_
  refine ⟨?_, trivial⟩
  refine TO_n (is := [1, 1, 1]) (done' := dn 12 2047) rfl rfl rfl (by kernel_rfl) (E_sv (vs := e64 r_11.1.toList) 0 TryI.inf57) (fun _ _ => rfl) (fun _ => ?_)
  refine TA_all (rs := [11]) (by kernel_rfl) rfl ?_
  refine ⟨?_, trivial⟩
  refine TO_v (is := []) (R := []) (done' := dn 12 4095) rfl rfl rfl rfl (by kernel_rfl) (V_assign rfl) (fun h => by cases h) ?_
  refine TA_done (by kernel_rfl) ?_ 0
  refine TX_next ?_
  refine TC_seq ?_
  refine TC_seq ?_
  refine TC_region ?_
  refine TLv (V_idxArr (i := 4) rfl rfl Try.underlying116 TryI.inf55 rfl (by decide) (by decide) (k := 4) (k01 _)) ?_
  refine TLv (V_load rfl (.o 3) (get_vec (f := v64) (V := t_1) (by decide : 4 < 6)) Try.isAgg55) ?_
  refine TLv (V_bin rfl rfl (fun w => eql64 w (vg t_1 4) 1#64)) ?_
  refine TLv (V_move rfl) ?_
  obtain ⟨j1, Hj, H⟩ := bind_elim H
  refine TL_join (Γ := Unit) (fun gj1 => [(6, ptr (some (b3, 0)) 0), (19, ptr (some (b5, 0)) 0), (20, ptr (some (b6, 0)) 0), (176, vb j1)]) (fun gj1 => [⟨some (b3, 0), e64 ((replicate 4 0#64).toList)⟩, ⟨some (b5, 0), e64 m_6.toList⟩, ⟨some (b6, 0), e64 r_11.1.toList⟩]) ?_ ?_
  ·intro gj1
   refine TX_next ?_
   refine TC_cond (b := j1) rfl (fun hc => ?_) (fun hc => ?_)
   ·replace H := ite_t hc H
    refine TC_seq ?_
    refine TC_region ?_
    refine TLv (V_lag (.o 2) Try.isAgg57 TryI.inf57) ?_
    refine TLn (E_sv (vs := e64 r_11.1.toList) 0 TryI.inf57) (fun _ => ?_)
    refine TL_nil ?_
    refine TX_next ?_
    refine TC_ret ?_
    refine TX_then_ret ?_
    have hrv := Option.some.inj H
    subst hrv
    exact TX_ret (rs := [.cell 6 57]) (vs := [aG [(4, e64 r_11.1.toList)]]) rfl ⟨(Res_agg (n := 4) rfl (by simp) (.o 0) Try.isAgg57 TryI.inf57 rfl (lenV (f := v64) r_11.1)), trivial⟩ (fun w' hs' => ⟨(), rfl, Step.left (Step.pulled (is := []) (A := []) hs' rfl)⟩)
   ·replace H := ite_f (Bool.eq_false_iff.1 hc) H
    refine TC_skip ?_
    refine TX_next ?_
    refine TC_seq ?_
    refine TC_region ?_
    refine TLv (V_lag (.o 1) Try.isAgg57 TryI.inf57) ?_
    refine TLn (E_sv (vs := e64 m_6.toList) 0 TryI.inf57) (fun _ => ?_)
    refine TL_nil ?_
    refine TX_next ?_
    refine TC_ret ?_
    have hrv := Option.some.inj H
    subst hrv
    exact TX_ret (rs := [.cell 6 57]) (vs := [aG [(4, e64 m_6.toList)]]) rfl ⟨(Res_agg (n := 4) rfl (by simp) (.o 0) Try.isAgg57 TryI.inf57 rfl (lenV (f := v64) m_6)), trivial⟩ (fun w' hs' => ⟨(), rfl, Step.left (Step.pulled (is := []) (A := []) hs' rfl)⟩)
  ·intro hJ
   replace H := Hj
   refine TL_fork (d := 173) (b := (decide ((vg t_1 4) = 1#64))) rfl (fun hc => ?_) (fun hc => ?_)
   ·replace H := ite_t (of_decide_eq_true hc) H
    refine TL_skip rfl rfl rfl rfl rfl rfl rfl ?_
    refine TL_skip rfl rfl rfl rfl rfl rfl rfl ?_
    refine TLv (V_pick (b := true) rfl rfl) ?_
    refine TL_nil ?_
    refine TX.sub (m' := [(6, ptr (some (b3, 0)) 0), (19, ptr (some (b5, 0)) 0), (20, ptr (some (b6, 0)) 0), (176, vb true)]) ⟨rfl, rfl, rfl, rfl, trivial⟩ ?_
    refine TX.pull (is := [2, 1, 0]) (L' := [⟨some (b3, 0), e64 ((replicate 4 0#64).toList)⟩, ⟨some (b5, 0), e64 m_6.toList⟩, ⟨some (b6, 0), e64 r_11.1.toList⟩]) rfl ?_
    obtain rfl := Option.some.inj H
    exact hJ ()
   ·replace H := ite_f (of_decide_eq_false hc) H
    refine TL_want rfl rfl rfl rfl rfl rfl (V_move rfl) ?_
    refine TL_want rfl rfl rfl rfl rfl rfl (V_bin rfl rfl (fun w => eql64 w r_11.2 0#64)) ?_
    refine TLv (V_pick (b := false) rfl rfl) ?_
    refine TL_nil ?_
    refine TX.sub (m' := [(6, ptr (some (b3, 0)) 0), (19, ptr (some (b5, 0)) 0), (20, ptr (some (b6, 0)) 0), (176, vb (decide (r_11.2 = 0#64)))]) ⟨rfl, rfl, rfl, rfl, trivial⟩ ?_
    refine TX.pull (is := [2, 1, 0]) (L' := [⟨some (b3, 0), e64 ((replicate 4 0#64).toList)⟩, ⟨some (b5, 0), e64 m_6.toList⟩, ⟨some (b6, 0), e64 r_11.1.toList⟩]) rfl ?_
    obtain rfl := Option.some.inj H
    exact hJ ()
end Go.Proofs
end

section
namespace Go.Proofs
open Go Go.Kx
open Vector (replicate)
def num_Field_Add (f_M : Vx 64 4) (f_inv : BitVec 64) (f_one : Vx 64 4) (f_two : Vx 64 4) (x : Vx 64 4) (y : Vx 64 4) : Option (Vx 64 4) :=
 (num_add x y).bind fun (r_1 : Vx 64 4 × BitVec 64) => ((num_sub r_1.1 f_M).bind fun (r_2 : Vx 64 4 × BitVec 64) => ((if r_1.2 = 1#64 then (some true) else (some (decide (r_2.2 = 0#64)))).bind fun (j1 : Bool) => (if j1 = true then (some r_2.1) else (some r_1.1))))
set_option maxHeartbeats 4000000 in
set_option maxRecDepth 20000 in
theorem F59_calls (bf : Nat) (obf : Nat) (f_M : Vx 64 4) (f_inv : BitVec 64) (f_one : Vx 64 4) (f_two : Vx 64 4) (x : Vx 64 4) (y : Vx 64 4) (r : Vx 64 4) (H : num_Field_Add f_M f_inv f_one f_two x y = some r) :
  Does Try.prog 59 [ptr (some (bf, obf)) 0, aG [(4, e64 x.toList)], aG [(4, e64 y.toList)]] [] [⟨some (bf, obf), e64 f_M.toList⟩, ⟨some (bf, obf + 4), [v64 f_inv]⟩, ⟨some (bf, obf + 5), e64 f_one.toList⟩, ⟨some (bf, obf + 9), e64 f_two.toList⟩] (Γ := Unit) (fun g => aG [(4, e64 r.toList)]) (fun g => []) := by
 intro w hmem hro hd
 refine calls_of (N := 34) (m0 := [(0, ptr (some (bf, obf)) 0), (1, aG [(4, e64 x.toList)]), (2, aG [(4, e64 y.toList)])]) Try.func59 rfl Try.ntmps59 (argM_ok [ptr (some (bf, obf)) 0, aG [(4, e64 x.toList)], aG [(4, e64 y.toList)]]) rfl hmem hro hd ?_
 unfold num_Field_Add at H
 refine TC_seq ?_
 refine TC_region ?_
 refine TLe (E_boxP [(4, e64 x.toList)] rfl rfl ⟨(lenV (f := v64) x), trivial⟩) (fun b1 => ?_)
 refine TLe (E_boxP [(4, e64 y.toList)] rfl rfl ⟨(lenV (f := v64) y), trivial⟩) (fun b2 => ?_)
 refine TLe (E_al64 4 TryI.inf57 TryI.zer57) (fun b3 => ?_)
 refine TL_nil ?_
 refine TX_next ?_
 refine TC_seq ?_
 refine TC_region ?_
 refine TLv (V_lag (.o 2) Try.isAgg57 TryI.inf57) ?_
 refine TLv (V_lag (.o 1) Try.isAgg57 TryI.inf57) ?_
 obtain ⟨r_1, hr_1, H⟩ := bind_elim H
 refine TLe (E_c0 (F88_calls x y r_1 hr_1) Try.call88 .z) (fun g_1 => ?_)
 refine TLv (V_move rfl) ?_
 refine TLv V_ex ?_
 refine TLv V_ex ?_
 refine TLe (E_al64 4 TryI.inf57 TryI.zer57) (fun b4 => ?_)
 refine TLn (E_sv (vs := e64 r_1.1.toList) 0 TryI.inf57) (fun _ => ?_)
 refine TLv (V_assign rfl) ?_
 refine TL_nil ?_
 refine TX_next ?_
 refine TC_seq ?_
 obtain ⟨r_2, hr_2, H⟩ := bind_elim H
 refine TA_begin [⟨some (b4, 0), e64 r_1.1.toList⟩, ⟨some (b3, 0), e64 ((replicate 4 0#64).toList)⟩, ⟨some (b2, 0), e64 y.toList⟩, ⟨some (b1, 0), e64 x.toList⟩] 11 (by kernel_rfl) (N := 12) rfl ?_
 refine TA_tk 0 [0, 0, 0, 0] (dn 12 1) rfl rfl (V_lag (.o 0) Try.isAgg57 TryI.inf57) ?_
 refine TA_tk 1 [0, 0, 0, 0] (dn 12 3) rfl rfl (V_move rfl) ?_
 refine TA_tk 2 [0, 0, 0, 0] (dn 12 7) rfl rfl (V_nilCheck rfl) ?_
 refine TA_tk 3 [0, 0, 0, 0] (dn 12 15) rfl rfl (V_fieldE rfl Try.underlying113 rfl rfl TryI.inf57 rfl (v := ptr (some (bf, obf)) 0) rfl) ?_
 refine TA_tk 4 [0, 0, 0, 0] (dn 12 31) rfl rfl (V_lag (.r 0) Try.isAgg57 TryI.inf57) ?_
 refine TA_mix (is := [0, 0, 0, 0]) (done' := dn 12 1023) [itV 5 23 (Value.tuple [aG [(4, e64 r_2.1.toList)], v64 r_2.2].toArray) [], itV 6 17 (Value.tuple [aG [(4, e64 r_2.1.toList)], v64 r_2.2].toArray) [5], itV 7 24 (aG [(4, e64 r_2.1.toList)]) [6], itA64 9 9 4] [itV 8 25 (v64 r_2.2) [6]] 2 (by kernel_rfl) (QP.then QP.body) (by kernel_rfl) rfl (.e rfl (E_cu (F85_calls r_1.1 f_M r_2 hr_2) Try.call85 .z) (.v rfl (V_move rfl) (.v rfl V_ex (.c rfl (fun _ _ => (E_al64 4 TryI.inf57 TryI.zer57)) .nil)))) (.c rfl (fun _ => V_ex) .nil) (by kernel_rfl) rfl (fun γ => ?_)
 refine TA_cut [(25, v64 r_2.2), (9, ptr (some ((γ 9), 0)) 0), (24, aG [(4, e64 r_2.1.toList)]), (8, v64 r_1.2), (7, ptr (some (b4, 0)) 0), (6, ptr (some (b3, 0)) 0)] [⟨some ((γ 9), 0), e64 ((replicate 4 0#64).toList)⟩, ⟨some (b4, 0), e64 r_1.1.toList⟩, ⟨some (b3, 0), e64 ((replicate 4 0#64).toList)⟩, ⟨some (b2, 0), e64 y.toList⟩, ⟨some (b1, 0), e64 x.toList⟩] ⟨rfl, rfl, rfl, rfl, rfl, rfl, trivial⟩ rfl ?_
 generalize γ 9 = b5
 refine TA_all (rs := [10]) (by kernel_rfl) rfl ?_
 refine ⟨?_, trivial⟩
 refine TO_n (is := [1, 1, 1, 1]) (done' := dn 12 2047) rfl rfl rfl (by kernel_rfl) (E_sv (vs := e64 r_2.1.toList) 0 TryI.inf57) (fun _ _ => rfl) (fun _ => ?_)
 refine TA_all (rs := [11]) (by kernel_rfl) rfl ?_
 refine ⟨?_, trivial⟩
 refine TO_v (is := []) (R := []) (done' := dn 12 4095) rfl rfl rfl rfl (by kernel_rfl) (V_assign rfl) (fun h => by cases h) ?_
 refine TA_done (by kernel_rfl) ?_ 0
 refine TX_next ?_
 refine TC_seq ?_
 refine TC_seq ?_
 refine TC_region ?_
 refine TLv (V_move rfl) ?_
 refine TLv (V_bin rfl rfl (fun w => eql64 w r_1.2 1#64)) ?_
 refine TLv (V_move rfl) ?_
 obtain ⟨j1, Hj, H⟩ := bind_elim H
 refine TL_join (Γ := Unit) (fun gj1 => [(6, ptr (some (b3, 0)) 0), (7, ptr (some (b4, 0)) 0), (9, ptr (some (b5, 0)) 0), (31, vb j1)]) (fun gj1 => [⟨some (b3, 0), e64 ((replicate 4 0#64).toList)⟩, ⟨some (b4, 0), e64 r_1.1.toList⟩, ⟨some (b5, 0), e64 r_2.1.toList⟩]) ?_ ?_
 ·intro gj1
  refine TX_next ?_
  refine TC_cond (b := j1) rfl (fun hc => ?_) (fun hc => ?_)
  ·replace H := ite_t hc H
   refine TC_seq ?_
   refine TC_region ?_
   refine TLv (V_lag (.o 2) Try.isAgg57 TryI.inf57) ?_
   refine TLn (E_sv (vs := e64 r_2.1.toList) 0 TryI.inf57) (fun _ => ?_)
   refine TL_nil ?_
   refine TX_next ?_
   refine TC_ret ?_
   refine TX_then_ret ?_
   have hrv := Option.some.inj H
   subst hrv
   exact TX_ret (rs := [.cell 6 57]) (vs := [aG [(4, e64 r_2.1.toList)]]) rfl ⟨(Res_agg (n := 4) rfl (by simp) (.o 0) Try.isAgg57 TryI.inf57 rfl (lenV (f := v64) r_2.1)), trivial⟩ (fun w' hs' => ⟨(), rfl, Step.left (Step.pulled (is := []) (A := []) hs' rfl)⟩)
  ·replace H := ite_f (Bool.eq_false_iff.1 hc) H
   refine TC_skip ?_
   refine TX_next ?_
   refine TC_seq ?_
   refine TC_region ?_
   refine TLv (V_lag (.o 1) Try.isAgg57 TryI.inf57) ?_
   refine TLn (E_sv (vs := e64 r_1.1.toList) 0 TryI.inf57) (fun _ => ?_)
   refine TL_nil ?_
   refine TX_next ?_
   refine TC_ret ?_
   have hrv := Option.some.inj H
   subst hrv
   exact TX_ret (rs := [.cell 6 57]) (vs := [aG [(4, e64 r_1.1.toList)]]) rfl ⟨(Res_agg (n := 4) rfl (by simp) (.o 0) Try.isAgg57 TryI.inf57 rfl (lenV (f := v64) r_1.1)), trivial⟩ (fun w' hs' => ⟨(), rfl, Step.left (Step.pulled (is := []) (A := []) hs' rfl)⟩)
 ·intro hJ
  replace H := Hj
  refine TL_fork (d := 28) (b := (decide (r_1.2 = 1#64))) rfl (fun hc => ?_) (fun hc => ?_)
  ·replace H := ite_t (of_decide_eq_true hc) H
   refine TL_skip rfl rfl rfl rfl rfl rfl rfl ?_
   refine TL_skip rfl rfl rfl rfl rfl rfl rfl ?_
   refine TLv (V_pick (b := true) rfl rfl) ?_
   refine TL_nil ?_
   refine TX.sub (m' := [(6, ptr (some (b3, 0)) 0), (7, ptr (some (b4, 0)) 0), (9, ptr (some (b5, 0)) 0), (31, vb true)]) ⟨rfl, rfl, rfl, rfl, trivial⟩ ?_
   refine TX.pull (is := [2, 1, 0]) (L' := [⟨some (b3, 0), e64 ((replicate 4 0#64).toList)⟩, ⟨some (b4, 0), e64 r_1.1.toList⟩, ⟨some (b5, 0), e64 r_2.1.toList⟩]) rfl ?_
   obtain rfl := Option.some.inj H
   exact hJ ()
  ·replace H := ite_f (of_decide_eq_false hc) H
   refine TL_want rfl rfl rfl rfl rfl rfl (V_move rfl) ?_
   refine TL_want rfl rfl rfl rfl rfl rfl (V_bin rfl rfl (fun w => eql64 w r_2.2 0#64)) ?_
   refine TLv (V_pick (b := false) rfl rfl) ?_
   refine TL_nil ?_
   refine TX.sub (m' := [(6, ptr (some (b3, 0)) 0), (7, ptr (some (b4, 0)) 0), (9, ptr (some (b5, 0)) 0), (31, vb (decide (r_2.2 = 0#64)))]) ⟨rfl, rfl, rfl, rfl, trivial⟩ ?_
   refine TX.pull (is := [2, 1, 0]) (L' := [⟨some (b3, 0), e64 ((replicate 4 0#64).toList)⟩, ⟨some (b4, 0), e64 r_1.1.toList⟩, ⟨some (b5, 0), e64 r_2.1.toList⟩]) rfl ?_
   obtain rfl := Option.some.inj H
   exact hJ ()
end Go.Proofs
end

section
namespace Go.Proofs
open Go Go.Kx
open Vector (replicate)
def num_Field_Sub (f_M : Vx 64 4) (f_inv : BitVec 64) (f_one : Vx 64 4) (f_two : Vx 64 4) (x : Vx 64 4) (y : Vx 64 4) : Option (Vx 64 4) :=
 (num_sub x y).bind fun (r_1 : Vx 64 4 × BitVec 64) => (if r_1.2 = 1#64 then ((num_add r_1.1 f_M).bind fun (r_2 : Vx 64 4 × BitVec 64) => (some r_2.1)) else (some r_1.1))
set_option maxHeartbeats 4000000 in
set_option maxRecDepth 20000 in
theorem F77_calls (bf : Nat) (obf : Nat) (f_M : Vx 64 4) (f_inv : BitVec 64) (f_one : Vx 64 4) (f_two : Vx 64 4) (x : Vx 64 4) (y : Vx 64 4) (r : Vx 64 4) (H : num_Field_Sub f_M f_inv f_one f_two x y = some r) :
  Does Try.prog 77 [ptr (some (bf, obf)) 0, aG [(4, e64 x.toList)], aG [(4, e64 y.toList)]] [] [⟨some (bf, obf), e64 f_M.toList⟩, ⟨some (bf, obf + 4), [v64 f_inv]⟩, ⟨some (bf, obf + 5), e64 f_one.toList⟩, ⟨some (bf, obf + 9), e64 f_two.toList⟩] (Γ := Unit) (fun g => aG [(4, e64 r.toList)]) (fun g => []) := by
 intro w hmem hro hd
 refine calls_of (N := 27) (m0 := [(0, ptr (some (bf, obf)) 0), (1, aG [(4, e64 x.toList)]), (2, aG [(4, e64 y.toList)])]) Try.func77 rfl Try.ntmps77 (argM_ok [ptr (some (bf, obf)) 0, aG [(4, e64 x.toList)], aG [(4, e64 y.toList)]]) rfl hmem hro hd ?_
 unfold num_Field_Sub at H
 refine TC_seq ?_
 refine TC_region ?_
 refine TLe (E_boxP [(4, e64 x.toList)] rfl rfl ⟨(lenV (f := v64) x), trivial⟩) (fun b1 => ?_)
 refine TLe (E_boxP [(4, e64 y.toList)] rfl rfl ⟨(lenV (f := v64) y), trivial⟩) (fun b2 => ?_)
 refine TLe (E_al64 4 TryI.inf57 TryI.zer57) (fun b3 => ?_)
 refine TL_nil ?_
 refine TX_next ?_
 refine TC_seq ?_
 refine TC_region ?_
 refine TLv (V_lag (.o 2) Try.isAgg57 TryI.inf57) ?_
 refine TLv (V_lag (.o 1) Try.isAgg57 TryI.inf57) ?_
 obtain ⟨r_1, hr_1, H⟩ := bind_elim H
 refine TLe (E_c0 (F85_calls x y r_1 hr_1) Try.call85 .z) (fun g_1 => ?_)
 refine TLv (V_move rfl) ?_
 refine TLv V_ex ?_
 refine TLv V_ex ?_
 refine TLe (E_al64 4 TryI.inf57 TryI.zer57) (fun b4 => ?_)
 refine TLn (E_sv (vs := e64 r_1.1.toList) 0 TryI.inf57) (fun _ => ?_)
 refine TLv (V_assign rfl) ?_
 refine TL_nil ?_
 refine TX_next ?_
 refine TC_seq ?_
 refine TC_seq ?_
 refine TC_region ?_
 refine TLv (V_move rfl) ?_
 refine TLv (V_bin rfl rfl (fun w => eql64 w r_1.2 1#64)) ?_
 refine TL_nil ?_
 refine TX_next ?_
 refine TC_cond (b := (decide (r_1.2 = 1#64))) rfl (fun hc => ?_) (fun hc => ?_)
 ·replace H := ite_t (of_decide_eq_true hc) H
  obtain ⟨r_2, hr_2, H⟩ := bind_elim H
  refine TA_begin [⟨some (b3, 0), e64 ((replicate 4 0#64).toList)⟩, ⟨some (b2, 0), e64 y.toList⟩, ⟨some (b1, 0), e64 x.toList⟩] 10 (by kernel_rfl) (N := 10) rfl ?_
  refine TA_tk 1 [1, 1, 1] (dn 10 2) rfl rfl (V_move rfl) ?_
  refine TA_tk 2 [1, 1, 1] (dn 10 6) rfl rfl (V_nilCheck rfl) ?_
  refine TA_tk 3 [1, 1, 1] (dn 10 14) rfl rfl (V_fieldE rfl Try.underlying113 rfl rfl TryI.inf57 rfl (v := ptr (some (bf, obf)) 0) rfl) ?_
  refine TA_tk 4 [1, 1, 1] (dn 10 30) rfl rfl (V_lag (.r 0) Try.isAgg57 TryI.inf57) ?_
  refine TA_all (rs := [0]) (by kernel_rfl) rfl ?_
  refine ⟨?_, trivial⟩
  refine TO_v (is := [1, 1, 1]) (done' := dn 10 31) rfl rfl rfl rfl (by kernel_rfl) (V_lag (.o 0) Try.isAgg57 TryI.inf57) (fun _ => rfl) ?_
  refine TA_all (rs := [5]) (by kernel_rfl) rfl ?_
  refine ⟨?_, trivial⟩
  refine TO_e (is := [1, 1, 1]) (done' := dn 10 63) rfl rfl rfl rfl (by kernel_rfl) (E_c0 (F88_calls r_1.1 f_M r_2 hr_2) Try.call88 .z) (fun _ _ => rfl) (fun g_2 => ?_)
  refine TA_tk 6 [1, 1, 1] (dn 10 127) rfl rfl (V_move rfl) ?_
  refine TA_tk 7 [1, 1, 1] (dn 10 255) rfl rfl V_ex ?_
  refine TA_tk 8 [1, 1, 1] (dn 10 511) rfl rfl V_ex ?_
  refine TA_all (rs := [9]) (by kernel_rfl) rfl ?_
  refine ⟨?_, trivial⟩
  refine TO_n (is := [1, 1, 1]) (done' := dn 10 1023) rfl rfl rfl (by kernel_rfl) (E_sv (vs := e64 r_2.1.toList) 0 TryI.inf57) (fun _ _ => rfl) (fun _ => ?_)
  refine TA_done (by kernel_rfl) ?_ 0
  refine TX_next ?_
  refine TC_seq ?_
  refine TC_region ?_
  refine TLv (V_lag (.o 0) Try.isAgg57 TryI.inf57) ?_
  refine TLn (E_sv (vs := e64 r_2.1.toList) 1 TryI.inf57) (fun _ => ?_)
  refine TL_nil ?_
  refine TX_next ?_
  refine TC_ret ?_
  have hrv := Option.some.inj H
  subst hrv
  exact TX_ret (rs := [.cell 6 57]) (vs := [aG [(4, e64 r_2.1.toList)]]) rfl ⟨(Res_agg (n := 4) rfl (by simp) (.o 1) Try.isAgg57 TryI.inf57 rfl (lenV (f := v64) r_2.1)), trivial⟩ (fun w' hs' => ⟨(), rfl, Step.left (Step.pulled (is := []) (A := []) hs' rfl)⟩)
 ·replace H := ite_f (of_decide_eq_false hc) H
  refine TC_skip ?_
  refine TX_next ?_
  refine TC_seq ?_
  refine TC_region ?_
  refine TLv (V_lag (.o 0) Try.isAgg57 TryI.inf57) ?_
  refine TLn (E_sv (vs := e64 r_1.1.toList) 1 TryI.inf57) (fun _ => ?_)
  refine TL_nil ?_
  refine TX_next ?_
  refine TC_ret ?_
  have hrv := Option.some.inj H
  subst hrv
  exact TX_ret (rs := [.cell 6 57]) (vs := [aG [(4, e64 r_1.1.toList)]]) rfl ⟨(Res_agg (n := 4) rfl (by simp) (.o 1) Try.isAgg57 TryI.inf57 rfl (lenV (f := v64) r_1.1)), trivial⟩ (fun w' hs' => ⟨(), rfl, Step.left (Step.pulled (is := []) (A := []) hs' rfl)⟩)
end Go.Proofs
end

section
namespace Go.Proofs
open Go Go.Kx
open Vector (replicate)
def num_Field_In (f_M : Vx 64 4) (f_inv : BitVec 64) (f_one : Vx 64 4) (f_two : Vx 64 4) (x : Vx 64 4) : Option (Vx 64 4) :=
 (num_Field_Mul f_M f_inv f_one f_two x f_two).bind fun (r_1 : Vx 64 4) => (some r_1)
set_option maxHeartbeats 4000000 in
set_option maxRecDepth 20000 in
theorem F56_calls (bf : Nat) (obf : Nat) (f_M : Vx 64 4) (f_inv : BitVec 64) (f_one : Vx 64 4) (f_two : Vx 64 4) (x : Vx 64 4) (r : Vx 64 4) (H : num_Field_In f_M f_inv f_one f_two x = some r) :
  Does Try.prog 56 [ptr (some (bf, obf)) 0, aG [(4, e64 x.toList)]] [] [⟨some (bf, obf), e64 f_M.toList⟩, ⟨some (bf, obf + 4), [v64 f_inv]⟩, ⟨some (bf, obf + 5), e64 f_one.toList⟩, ⟨some (bf, obf + 9), e64 f_two.toList⟩] (Γ := Unit) (fun g => aG [(4, e64 r.toList)]) (fun g => []) := by
 intro w hmem hro hd
 refine calls_of (N := 12) (m0 := [(0, ptr (some (bf, obf)) 0), (1, aG [(4, e64 x.toList)])]) Try.func56 rfl Try.ntmps56 (argM_ok [ptr (some (bf, obf)) 0, aG [(4, e64 x.toList)]]) rfl hmem hro hd ?_
 unfold num_Field_In at H
 refine TC_seq ?_
 refine TC_region ?_
 refine TLe (E_boxP [(4, e64 x.toList)] rfl rfl ⟨(lenV (f := v64) x), trivial⟩) (fun b1 => ?_)
 refine TLe (E_al64 4 TryI.inf57 TryI.zer57) (fun b2 => ?_)
 refine TL_nil ?_
 refine TX_next ?_
 refine TC_seq ?_
 obtain ⟨r_1, hr_1, H⟩ := bind_elim H
 refine TA_begin [] 8 (by kernel_rfl) (N := 8) rfl ?_
 refine TA_mix (is := []) (done' := dn 8 127) [itV 0 5 (ptr (some (bf, obf)) 0) [], itV 1 6 (aG [(4, e64 x.toList)]) [], itV 2 7 (ptr (some (bf, obf)) 0) [], itV 3 8 (ptr (some (bf, obf)) 0) [2], itV 4 9 (ptr (some (bf, obf + 9)) 0) [3], itV 5 10 (aG [(4, e64 f_two.toList)]) [4], itV 6 11 (aG [(4, e64 r_1.toList)]) [5, 0, 1]] [] 1 (by kernel_rfl) (QP.then QP.body) (by kernel_rfl) rfl (.v rfl (V_move rfl) (.v rfl (V_lag (.o 1) Try.isAgg57 TryI.inf57) (.v rfl (V_move rfl) (.v rfl (V_nilCheck rfl) (.v rfl (V_fe Try.underlying113 TryI.inf57) (.v rfl (V_lag (.r 3) Try.isAgg57 TryI.inf57) (.e rfl (E_cu (F58_calls bf obf f_M f_inv f_one f_two x f_two r_1 hr_1) Try.call58 ⟨.r 0, .r 1, .r 2, .r 3, trivial⟩) .nil))))))) .nil (by kernel_rfl) rfl (fun γ => ?_)
 refine TA_cut [(11, aG [(4, e64 r_1.toList)]), (4, ptr (some (b2, 0)) 0)] [⟨some (b2, 0), e64 ((replicate 4 0#64).toList)⟩, ⟨some (b1, 0), e64 x.toList⟩] ⟨rfl, rfl, trivial⟩ rfl ?_
 refine TA_all (rs := [7]) (by kernel_rfl) rfl ?_
 refine ⟨?_, trivial⟩
 refine TO_n (is := []) (done' := dn 8 255) rfl rfl rfl (by kernel_rfl) (E_sv (vs := e64 r_1.toList) 0 TryI.inf57) (fun _ _ => rfl) (fun _ => ?_)
 refine TA_done (by kernel_rfl) ?_ 0
 refine TX_next ?_
 refine TC_ret ?_
 have hrv := Option.some.inj H
 subst hrv
 exact TX_ret (rs := [.cell 4 57]) (vs := [aG [(4, e64 r_1.toList)]]) rfl ⟨(Res_agg (n := 4) rfl (by simp) (.o 0) Try.isAgg57 TryI.inf57 rfl (lenV (f := v64) r_1)), trivial⟩ (fun w' hs' => ⟨(), rfl, Step.left (Step.pulled (is := []) (A := []) hs' rfl)⟩)
end Go.Proofs
end

section
namespace Go.Proofs
open Go Go.Kx
open Vector (replicate)
def num_Field_Out (f_M : Vx 64 4) (f_inv : BitVec 64) (f_one : Vx 64 4) (f_two : Vx 64 4) (x : Vx 64 4) : Option (Vx 64 4) :=
 (num_Field_Mul f_M f_inv f_one f_two x (vp (replicate 4 0#64) 0 1#64 : Vx 64 4)).bind fun (r_1 : Vx 64 4) => (some r_1)
set_option maxHeartbeats 4000000 in
set_option maxRecDepth 20000 in
theorem F57_calls (bf : Nat) (obf : Nat) (f_M : Vx 64 4) (f_inv : BitVec 64) (f_one : Vx 64 4) (f_two : Vx 64 4) (x : Vx 64 4) (r : Vx 64 4) (H : num_Field_Out f_M f_inv f_one f_two x = some r) :
  Does Try.prog 57 [ptr (some (bf, obf)) 0, aG [(4, e64 x.toList)]] [] [⟨some (bf, obf), e64 f_M.toList⟩, ⟨some (bf, obf + 4), [v64 f_inv]⟩, ⟨some (bf, obf + 5), e64 f_one.toList⟩, ⟨some (bf, obf + 9), e64 f_two.toList⟩] (Γ := Unit) (fun g => aG [(4, e64 r.toList)]) (fun g => []) := by
 intro w hmem hro hd
 refine calls_of (N := 9) (m0 := [(0, ptr (some (bf, obf)) 0), (1, aG [(4, e64 x.toList)])]) Try.func57 rfl Try.ntmps57 (argM_ok [ptr (some (bf, obf)) 0, aG [(4, e64 x.toList)]]) rfl hmem hro hd ?_
 unfold num_Field_Out at H
 refine TC_seq ?_
 refine TC_region ?_
 refine TLe (E_boxP [(4, e64 x.toList)] rfl rfl ⟨(lenV (f := v64) x), trivial⟩) (fun b1 => ?_)
 refine TLe (E_al64 4 TryI.inf57 TryI.zer57) (fun b2 => ?_)
 refine TL_nil ?_
 refine TX_next ?_
 refine TC_seq ?_
 refine TC_region ?_
 refine TLv (V_move rfl) ?_
 refine TLv (V_lag (.o 1) Try.isAgg57 TryI.inf57) ?_
 refine TLv (V_buildArr (pv := [(0, v64 1#64)]) rfl rfl Try.underlying57 TryI.inf57 TryI.inf55 rfl TryI.zer57 (cs := e64 ((vp (replicate 4 0#64) 0 1#64 : Vx 64 4).toList)) (by kernel_rfl)) ?_
 obtain ⟨r_1, hr_1, H⟩ := bind_elim H
 refine TLe (E_c0 (F58_calls bf obf f_M f_inv f_one f_two x (vp (replicate 4 0#64) 0 1#64 : Vx 64 4) r_1 hr_1) Try.call58 ⟨.r 0, .r 1, .r 2, .r 3, trivial⟩) (fun g_1 => ?_)
 refine TLn (E_sv (vs := e64 r_1.toList) 0 TryI.inf57) (fun _ => ?_)
 refine TL_nil ?_
 refine TX_next ?_
 refine TC_ret ?_
 have hrv := Option.some.inj H
 subst hrv
 exact TX_ret (rs := [.cell 4 57]) (vs := [aG [(4, e64 r_1.toList)]]) rfl ⟨(Res_agg (n := 4) rfl (by simp) (.o 0) Try.isAgg57 TryI.inf57 rfl (lenV (f := v64) r_1)), trivial⟩ (fun w' hs' => ⟨(), rfl, Step.left (Step.pulled (is := []) (A := []) hs' rfl)⟩)
end Go.Proofs
end

section
namespace Go.Proofs
open Go Go.Kx
def num_Field_One (f_M : Vx 64 4) (f_inv : BitVec 64) (f_one : Vx 64 4) (f_two : Vx 64 4) : Option (Vx 64 4) :=
 some f_one
set_option maxHeartbeats 4000000 in
set_option maxRecDepth 20000 in
theorem F75_calls (bf : Nat) (obf : Nat) (f_M : Vx 64 4) (f_inv : BitVec 64) (f_one : Vx 64 4) (f_two : Vx 64 4) (r : Vx 64 4) (H : num_Field_One f_M f_inv f_one f_two = some r) :
  Does Try.prog 75 [ptr (some (bf, obf)) 0] [] [⟨some (bf, obf), e64 f_M.toList⟩, ⟨some (bf, obf + 4), [v64 f_inv]⟩, ⟨some (bf, obf + 5), e64 f_one.toList⟩, ⟨some (bf, obf + 9), e64 f_two.toList⟩] (Γ := Unit) (fun g => aG [(4, e64 r.toList)]) (fun g => []) := by
 intro w hmem hro hd
 refine calls_of (N := 7) (m0 := [(0, ptr (some (bf, obf)) 0)]) Try.func75 rfl Try.ntmps75 (argM_ok [ptr (some (bf, obf)) 0]) rfl hmem hro hd ?_
 unfold num_Field_One at H
 refine TC_seq ?_
 refine TC_region ?_
 refine TLe (E_al64 4 TryI.inf57 TryI.zer57) (fun b1 => ?_)
 refine TL_nil ?_
 refine TX_next ?_
 refine TC_seq ?_
 refine TC_region ?_
 refine TLv (V_move rfl) ?_
 refine TLv (V_nilCheck rfl) ?_
 refine TLv (V_fieldE rfl Try.underlying113 rfl rfl TryI.inf57 rfl (v := ptr (some (bf, obf + 5)) 0) rfl) ?_
 refine TLv (V_lag (.r 2) Try.isAgg57 TryI.inf57) ?_
 refine TLn (E_sv (vs := e64 f_one.toList) 0 TryI.inf57) (fun _ => ?_)
 refine TL_nil ?_
 refine TX_next ?_
 refine TC_ret ?_
 have hrv := Option.some.inj H
 subst hrv
 exact TX_ret (rs := [.cell 2 57]) (vs := [aG [(4, e64 f_one.toList)]]) rfl ⟨(Res_agg (n := 4) rfl (by simp) (.o 0) Try.isAgg57 TryI.inf57 rfl (lenV (f := v64) f_one)), trivial⟩ (fun w' hs' => ⟨(), rfl, Step.left (Step.pulled (is := []) (A := []) hs' rfl)⟩)
end Go.Proofs
end

section
namespace Go.Proofs
open Go Go.Kx
open Vector (replicate)
def num_Field_Inv.b0 (f_M : Vx 64 4) (f_inv : BitVec 64) (f_one : Vx 64 4) (f_two : Vx 64 4) (x : Vx 64 4) (r_1 : Vx 64 4 × BitVec 64) (s0 : Int × Vx 64 4) : Option ((Int × Vx 64 4) ⊕ (Vx 64 4)) :=
 if 0 ≤ s0.1 then ((num_Field_Mul f_M f_inv f_one f_two s0.2 s0.2).bind fun (r_2 : Vx 64 4) => (if 0 ≤ w64 (s0.1.tdiv 64) ∧ w64 (s0.1.tdiv 64) < (4 : Int) then (if 0 ≤ s0.1.tmod 64 then (if (((vg r_1.1 ((w64 (s0.1.tdiv 64)).toNat)) >>> (s0.1.tmod 64).toNat) &&& 1#64) = 1#64 then ((num_Field_Mul f_M f_inv f_one f_two r_2 x).bind fun (r_3 : Vx 64 4) => (ltt (w64 (s0.1 - 1)) fun (i1 : Int) => (some (.inl (i1, r_3))))) else (ltt (w64 (s0.1 - 1)) fun (i2 : Int) => (some (.inl (i2, r_2))))) else none) else none)) else (some (.inr s0.2))
def num_Field_Inv (f_M : Vx 64 4) (f_inv : BitVec 64) (f_one : Vx 64 4) (f_two : Vx 64 4) (x : Vx 64 4) : Option (Vx 64 4) :=
 (num_sub f_M (vp (replicate 4 0#64) 0 2#64 : Vx 64 4)).bind fun (r_1 : Vx 64 4 × BitVec 64) => ((loop (num_Field_Inv.b0 f_M f_inv f_one f_two x r_1) BIG (255, f_one)).bind fun (t_1 : Vx 64 4) => (some t_1))
set_option maxHeartbeats 4000000 in
set_option maxRecDepth 20000 in
theorem F60_calls (bf : Nat) (obf : Nat) (f_M : Vx 64 4) (f_inv : BitVec 64) (f_one : Vx 64 4) (f_two : Vx 64 4) (x : Vx 64 4) (r : Vx 64 4) (H : num_Field_Inv f_M f_inv f_one f_two x = some r) :
  Does Try.prog 60 [ptr (some (bf, obf)) 0, aG [(4, e64 x.toList)]] [] [⟨some (bf, obf), e64 f_M.toList⟩, ⟨some (bf, obf + 4), [v64 f_inv]⟩, ⟨some (bf, obf + 5), e64 f_one.toList⟩, ⟨some (bf, obf + 9), e64 f_two.toList⟩] (Γ := Unit) (fun g => aG [(4, e64 r.toList)]) (fun g => []) := by
 intro w hmem hro hd
 refine calls_of (N := 44) (m0 := [(0, ptr (some (bf, obf)) 0), (1, aG [(4, e64 x.toList)])]) Try.func60 rfl Try.ntmps60 (argM_ok [ptr (some (bf, obf)) 0, aG [(4, e64 x.toList)]]) rfl hmem hro hd ?_
 unfold num_Field_Inv at H
 refine TC_seq ?_
 refine TC_region ?_
 refine TLe (E_boxP [(4, e64 x.toList)] rfl rfl ⟨(lenV (f := v64) x), trivial⟩) (fun b1 => ?_)
 refine TLe (E_al64 4 TryI.inf57 TryI.zer57) (fun b2 => ?_)
 refine TL_nil ?_
 refine TX_next ?_
 refine TC_seq ?_
 refine TC_region ?_
 refine TLv (V_move rfl) ?_
 refine TLv (V_nilCheck rfl) ?_
 refine TLv (V_fieldE rfl Try.underlying113 rfl rfl TryI.inf57 rfl (v := ptr (some (bf, obf)) 0) rfl) ?_
 refine TLv (V_lag (.r 0) Try.isAgg57 TryI.inf57) ?_
 refine TLv (V_buildArr (pv := [(0, v64 2#64)]) rfl rfl Try.underlying57 TryI.inf57 TryI.inf55 rfl TryI.zer57 (cs := e64 ((vp (replicate 4 0#64) 0 2#64 : Vx 64 4).toList)) (by kernel_rfl)) ?_
 obtain ⟨r_1, hr_1, H⟩ := bind_elim H
 refine TLe (E_c0 (F85_calls f_M (vp (replicate 4 0#64) 0 2#64 : Vx 64 4) r_1 hr_1) Try.call85 .z) (fun g_1 => ?_)
 refine TLv (V_move rfl) ?_
 refine TLv V_ex ?_
 refine TLv V_ex ?_
 refine TLe (E_al64 4 TryI.inf57 TryI.zer57) (fun b3 => ?_)
 refine TLn (E_sv (vs := e64 r_1.1.toList) 0 TryI.inf57) (fun _ => ?_)
 refine TLv (V_assign rfl) ?_
 refine TL_nil ?_
 refine TX_next ?_
 refine TC_seq ?_
 refine TC_region ?_
 refine TLv (V_move rfl) ?_
 refine TLv (V_nilCheck rfl) ?_
 refine TLv (V_fieldE rfl Try.underlying113 rfl rfl TryI.inf57 rfl (v := ptr (some (bf, obf + 5)) 0) rfl) ?_
 refine TLv (V_lag (.r 2) Try.isAgg57 TryI.inf57) ?_
 refine TLe (E_al64 4 TryI.inf57 TryI.zer57) (fun b4 => ?_)
 refine TLn (E_sv (vs := e64 f_one.toList) 0 TryI.inf57) (fun _ => ?_)
 refine TL_nil ?_
 refine TX_next ?_
 refine TC_seq ?_
 refine TC_seq ?_
 refine TC_region ?_
 refine TLv (V_assign rfl) ?_
 refine TL_nil ?_
 refine TX_next ?_
 refine TC_block ?_
 obtain ⟨t_1, Hl, H⟩ := bind_elim H
 refine TC.sub (m' := [(0, ptr (some (bf, obf)) 0), (3, ptr (some (b1, 0)) 0), (4, ptr (some (b2, 0)) 0), (5, ptr (some (b3, 0)) 0), (7, ptr (some (b4, 0)) 0), (8, vi 255)]) ⟨rfl, rfl, rfl, rfl, rfl, rfl, trivial⟩ ?_
 refine TC.pull (is := [3, 2, 1, 0]) (L' := [⟨some (b1, 0), e64 x.toList⟩, ⟨some (b2, 0), e64 ((replicate 4 0#64).toList)⟩, ⟨some (b3, 0), e64 r_1.1.toList⟩, ⟨some (b4, 0), e64 f_one.toList⟩]) rfl ?_
 refine TC_loopL (id := 0) (body := (num_Field_Inv.b0 f_M f_inv f_one f_two x r_1)) (σ := Int × Vx 64 4) (Γ := Unit) (Γx := Unit) (fun s0 g0_ => [(0, ptr (some (bf, obf)) 0), (3, ptr (some (b1, 0)) 0), (4, ptr (some (b2, 0)) 0), (5, ptr (some (b3, 0)) 0), (7, ptr (some (b4, 0)) 0), (8, vi s0.1)]) (fun s0 g0_ => [⟨some (b1, 0), e64 x.toList⟩, ⟨some (b2, 0), e64 ((replicate 4 0#64).toList)⟩, ⟨some (b3, 0), e64 r_1.1.toList⟩, ⟨some (b4, 0), e64 s0.2.toList⟩]) (fun t g => [(4, ptr (some (b2, 0)) 0), (7, ptr (some (b4, 0)) 0)]) (fun t g => [⟨some (b2, 0), e64 ((replicate 4 0#64).toList)⟩, ⟨some (b4, 0), e64 t.toList⟩]) ?_ BIG (255, f_one) () t_1 Hl ?_
 ·intro s0 g0_ r1 H K hK hE
  unfold num_Field_Inv.b0 at H
  refine TC_seq ?_
  refine TC_seq ?_
  refine TC_region ?_
  refine TLv (V_move rfl) ?_
  refine TLv (V_bin rfl rfl (fun w => geqI w s0.1 0)) ?_
  refine TL_nil ?_
  refine TX_next ?_
  refine TC_cond (b := (decide (0 ≤ s0.1))) rfl (fun hc => ?_) (fun hc => ?_)
  ·replace H := ite_t (of_decide_eq_true hc) H
   refine TC_skip ?_
   refine TX_next ?_
   refine TC_seq ?_
   refine TC_block ?_
   refine TC_seq ?_
   refine TC_region ?_
   refine TLv (V_move rfl) ?_
   refine TLv (V_lag (.o 3) Try.isAgg57 TryI.inf57) ?_
   refine TLv (V_lag (.o 3) Try.isAgg57 TryI.inf57) ?_
   obtain ⟨r_2, hr_2, H⟩ := bind_elim H
   refine TLe (E_c0 (F58_calls bf obf f_M f_inv f_one f_two s0.2 s0.2 r_2 hr_2) Try.call58 ⟨.r 0, .r 1, .r 2, .r 3, trivial⟩) (fun g_2 => ?_)
   refine TLn (E_sv (vs := e64 r_2.toList) 3 TryI.inf57) (fun _ => ?_)
   refine TL_nil ?_
   refine TX_next ?_
   refine TC_seq ?_
   refine TC_region ?_
   refine TLv (V_move rfl) ?_
   refine TLv (V_bin rfl rfl (fun w => quoI w s0.1 64 (by decide))) ?_
   obtain ⟨h1, H⟩ := if_elim H
   refine TLv (V_idxArr (i := w64 (s0.1.tdiv 64)) rfl rfl Try.underlying57 TryI.inf55 rfl h1.1 h1.2 (k := (w64 (s0.1.tdiv 64)).toNat) (k01 _)) ?_
   refine TLv (V_load rfl (.o 2) (get_vec (f := v64) (V := r_1.1) (toNat_lt h1.1 h1.2)) Try.isAgg55) ?_
   refine TLv (V_move rfl) ?_
   refine TLv (V_bin rfl rfl (fun w => remI w s0.1 64 (by decide))) ?_
   obtain ⟨h2, H⟩ := if_elim H
   refine TLv (V_bin rfl rfl (fun w => shr64 w (vg r_1.1 ((w64 (s0.1.tdiv 64)).toNat)) .i64 (s0.1.tmod 64) h2)) ?_
   refine TLv (V_bin rfl rfl (fun w => and64 w ((vg r_1.1 ((w64 (s0.1.tdiv 64)).toNat)) >>> (s0.1.tmod 64).toNat) 1#64)) ?_
   refine TLv (V_bin rfl rfl (fun w => eql64 w (((vg r_1.1 ((w64 (s0.1.tdiv 64)).toNat)) >>> (s0.1.tmod 64).toNat) &&& 1#64) 1#64)) ?_
   refine TL_nil ?_
   refine TX_next ?_
   refine TC_cond (b := (decide ((((vg r_1.1 ((w64 (s0.1.tdiv 64)).toNat)) >>> (s0.1.tmod 64).toNat) &&& 1#64) = 1#64))) rfl (fun hc => ?_) (fun hc => ?_)
   ·replace H := ite_t (of_decide_eq_true hc) H
    refine TC_region ?_
    refine TLv (V_move rfl) ?_
    refine TLv (V_lag (.o 3) Try.isAgg57 TryI.inf57) ?_
    refine TLv (V_lag (.o 0) Try.isAgg57 TryI.inf57) ?_
    obtain ⟨r_3, hr_3, H⟩ := bind_elim H
    refine TLe (E_c0 (F58_calls bf obf f_M f_inv f_one f_two r_2 x r_3 hr_3) Try.call58 ⟨.r 0, .r 1, .r 2, .r 3, trivial⟩) (fun g_3 => ?_)
    refine TLn (E_sv (vs := e64 r_3.toList) 3 TryI.inf57) (fun _ => ?_)
    refine TL_nil ?_
    refine TX_block_normal ?_
    refine TX_next ?_
    refine TC_region ?_
    refine TLv (V_move rfl) ?_
    refine TLv (V_bin rfl rfl (fun w => subI w s0.1 1)) ?_
    refine TLv (V_assign rfl) ?_
    obtain ⟨i1, hi1, H⟩ := ltt_elim H
    refine TL_re (d := 8) (v := vi (w64 (s0.1 - 1))) (v' := vi i1) rfl (congrArg vi hi1) ?_
    refine TL_nil ?_
    refine TX.sub (m' := [(0, ptr (some (bf, obf)) 0), (3, ptr (some (b1, 0)) 0), (4, ptr (some (b2, 0)) 0), (5, ptr (some (b3, 0)) 0), (7, ptr (some (b4, 0)) 0), (8, vi i1)]) ⟨rfl, rfl, rfl, rfl, rfl, rfl, trivial⟩ ?_
    refine TX.pull (is := [0, 0, 0, 0]) (L' := [⟨some (b1, 0), e64 x.toList⟩, ⟨some (b2, 0), e64 ((replicate 4 0#64).toList)⟩, ⟨some (b3, 0), e64 r_1.1.toList⟩, ⟨some (b4, 0), e64 r_3.toList⟩]) rfl ?_
    obtain rfl := Option.some.inj H
    exact fun a w hs => hK (i1, r_3) rfl () a w hs
   ·replace H := ite_f (of_decide_eq_false hc) H
    refine TC_skip ?_
    refine TX_block_normal ?_
    refine TX_next ?_
    refine TC_region ?_
    refine TLv (V_move rfl) ?_
    refine TLv (V_bin rfl rfl (fun w => subI w s0.1 1)) ?_
    refine TLv (V_assign rfl) ?_
    obtain ⟨i2, hi2, H⟩ := ltt_elim H
    refine TL_re (d := 8) (v := vi (w64 (s0.1 - 1))) (v' := vi i2) rfl (congrArg vi hi2) ?_
    refine TL_nil ?_
    refine TX.sub (m' := [(0, ptr (some (bf, obf)) 0), (3, ptr (some (b1, 0)) 0), (4, ptr (some (b2, 0)) 0), (5, ptr (some (b3, 0)) 0), (7, ptr (some (b4, 0)) 0), (8, vi i2)]) ⟨rfl, rfl, rfl, rfl, rfl, rfl, trivial⟩ ?_
    refine TX.pull (is := [0, 0, 0, 0]) (L' := [⟨some (b1, 0), e64 x.toList⟩, ⟨some (b2, 0), e64 ((replicate 4 0#64).toList)⟩, ⟨some (b3, 0), e64 r_1.1.toList⟩, ⟨some (b4, 0), e64 r_2.toList⟩]) rfl ?_
    obtain rfl := Option.some.inj H
    exact fun a w hs => hK (i2, r_2) rfl () a w hs
  ·replace H := ite_f (of_decide_eq_false hc) H
   refine TC_exit ?_
   refine TX_then_exit ?_
   refine TX_then_exit ?_
   refine TX.sub (m' := [(4, ptr (some (b2, 0)) 0), (7, ptr (some (b4, 0)) 0)]) ⟨rfl, rfl, trivial⟩ ?_
   refine TX.pull (is := [1, 2]) (L' := [⟨some (b2, 0), e64 ((replicate 4 0#64).toList)⟩, ⟨some (b4, 0), e64 s0.2.toList⟩]) rfl ?_
   obtain rfl := Option.some.inj H
   exact hE s0.2 rfl ()
 ·intro g
  refine TX_block_exit ?_
  refine TX_next ?_
  refine TC_seq ?_
  refine TC_region ?_
  refine TLv (V_lag (.o 1) Try.isAgg57 TryI.inf57) ?_
  refine TLn (E_sv (vs := e64 t_1.toList) 0 TryI.inf57) (fun _ => ?_)
  refine TL_nil ?_
  refine TX_next ?_
  refine TC_ret ?_
  have hrv := Option.some.inj H
  subst hrv
  exact TX_ret (rs := [.cell 4 57]) (vs := [aG [(4, e64 t_1.toList)]]) rfl ⟨(Res_agg (n := 4) rfl (by simp) (.o 0) Try.isAgg57 TryI.inf57 rfl (lenV (f := v64) t_1)), trivial⟩ (fun w' hs' => ⟨(), rfl, Step.left (Step.pulled (is := []) (A := []) hs' rfl)⟩)
end Go.Proofs
end

section
namespace Go.Proofs
open Go Go.Kx
open Vector (replicate)
def num_Field_Rest (f_M : Vx 64 4) (f_inv : BitVec 64) (f_one : Vx 64 4) (f_two : Vx 64 4) (x : Vx 64 4) : Option (Vx 64 4) :=
 (num_sub x f_M).bind fun (r_1 : Vx 64 4 × BitVec 64) => (if r_1.2 = 0#64 then (some r_1.1) else (some x))
set_option maxHeartbeats 4000000 in
set_option maxRecDepth 20000 in
theorem F54_calls (bf : Nat) (obf : Nat) (f_M : Vx 64 4) (f_inv : BitVec 64) (f_one : Vx 64 4) (f_two : Vx 64 4) (x : Vx 64 4) (r : Vx 64 4) (H : num_Field_Rest f_M f_inv f_one f_two x = some r) :
  Does Try.prog 54 [ptr (some (bf, obf)) 0, aG [(4, e64 x.toList)]] [] [⟨some (bf, obf), e64 f_M.toList⟩, ⟨some (bf, obf + 4), [v64 f_inv]⟩, ⟨some (bf, obf + 5), e64 f_one.toList⟩, ⟨some (bf, obf + 9), e64 f_two.toList⟩] (Γ := Unit) (fun g => aG [(4, e64 r.toList)]) (fun g => []) := by
 intro w hmem hro hd
 refine calls_of (N := 20) (m0 := [(0, ptr (some (bf, obf)) 0), (1, aG [(4, e64 x.toList)])]) Try.func54 rfl Try.ntmps54 (argM_ok [ptr (some (bf, obf)) 0, aG [(4, e64 x.toList)]]) rfl hmem hro hd ?_
 unfold num_Field_Rest at H
 refine TC_seq ?_
 refine TC_region ?_
 refine TLe (E_boxP [(4, e64 x.toList)] rfl rfl ⟨(lenV (f := v64) x), trivial⟩) (fun b1 => ?_)
 refine TLe (E_al64 4 TryI.inf57 TryI.zer57) (fun b2 => ?_)
 refine TL_nil ?_
 refine TX_next ?_
 refine TC_seq ?_
 obtain ⟨r_1, hr_1, H⟩ := bind_elim H
 refine TA_begin [⟨some (b2, 0), e64 ((replicate 4 0#64).toList)⟩, ⟨some (b1, 0), e64 x.toList⟩] 11 (by kernel_rfl) (N := 12) rfl ?_
 refine TA_tk 0 [0, 0] (dn 12 1) rfl rfl (V_lag (.o 1) Try.isAgg57 TryI.inf57) ?_
 refine TA_tk 1 [0, 0] (dn 12 3) rfl rfl (V_move rfl) ?_
 refine TA_tk 2 [0, 0] (dn 12 7) rfl rfl (V_nilCheck rfl) ?_
 refine TA_tk 3 [0, 0] (dn 12 15) rfl rfl (V_fieldE rfl Try.underlying113 rfl rfl TryI.inf57 rfl (v := ptr (some (bf, obf)) 0) rfl) ?_
 refine TA_tk 4 [0, 0] (dn 12 31) rfl rfl (V_lag (.r 0) Try.isAgg57 TryI.inf57) ?_
 refine TA_mix (is := [0, 0]) (done' := dn 12 1023) [itV 5 13 (Value.tuple [aG [(4, e64 r_1.1.toList)], v64 r_1.2].toArray) [], itV 6 7 (Value.tuple [aG [(4, e64 r_1.1.toList)], v64 r_1.2].toArray) [5], itV 7 14 (aG [(4, e64 r_1.1.toList)]) [6], itA64 9 5 4] [itV 8 15 (v64 r_1.2) [6]] 2 (by kernel_rfl) (QP.then QP.body) (by kernel_rfl) rfl (.e rfl (E_cu (F85_calls x f_M r_1 hr_1) Try.call85 .z) (.v rfl (V_move rfl) (.v rfl V_ex (.c rfl (fun _ _ => (E_al64 4 TryI.inf57 TryI.zer57)) .nil)))) (.c rfl (fun _ => V_ex) .nil) (by kernel_rfl) rfl (fun γ => ?_)
 refine TA_cut [(15, v64 r_1.2), (5, ptr (some ((γ 9), 0)) 0), (14, aG [(4, e64 r_1.1.toList)]), (4, ptr (some (b2, 0)) 0), (3, ptr (some (b1, 0)) 0)] [⟨some ((γ 9), 0), e64 ((replicate 4 0#64).toList)⟩, ⟨some (b2, 0), e64 ((replicate 4 0#64).toList)⟩, ⟨some (b1, 0), e64 x.toList⟩] ⟨rfl, rfl, rfl, rfl, rfl, trivial⟩ rfl ?_
 generalize γ 9 = b3
 refine TA_all (rs := [10]) (by kernel_rfl) rfl ?_
 refine ⟨?_, trivial⟩
 refine TO_n (is := [1, 1]) (done' := dn 12 2047) rfl rfl rfl (by kernel_rfl) (E_sv (vs := e64 r_1.1.toList) 0 TryI.inf57) (fun _ _ => rfl) (fun _ => ?_)
 refine TA_all (rs := [11]) (by kernel_rfl) rfl ?_
 refine ⟨?_, trivial⟩
 refine TO_v (is := []) (R := []) (done' := dn 12 4095) rfl rfl rfl rfl (by kernel_rfl) (V_assign rfl) (fun h => by cases h) ?_
 refine TA_done (by kernel_rfl) ?_ 0
 refine TX_next ?_
 refine TC_seq ?_
 refine TC_seq ?_
 refine TC_region ?_
 refine TLv (V_move rfl) ?_
 refine TLv (V_bin rfl rfl (fun w => eql64 w r_1.2 0#64)) ?_
 refine TL_nil ?_
 refine TX_next ?_
 refine TC_cond (b := (decide (r_1.2 = 0#64))) rfl (fun hc => ?_) (fun hc => ?_)
 ·replace H := ite_t (of_decide_eq_true hc) H
  refine TC_seq ?_
  refine TC_region ?_
  refine TLv (V_lag (.o 0) Try.isAgg57 TryI.inf57) ?_
  refine TLn (E_sv (vs := e64 r_1.1.toList) 1 TryI.inf57) (fun _ => ?_)
  refine TL_nil ?_
  refine TX_next ?_
  refine TC_ret ?_
  refine TX_then_ret ?_
  have hrv := Option.some.inj H
  subst hrv
  exact TX_ret (rs := [.cell 4 57]) (vs := [aG [(4, e64 r_1.1.toList)]]) rfl ⟨(Res_agg (n := 4) rfl (by simp) (.o 1) Try.isAgg57 TryI.inf57 rfl (lenV (f := v64) r_1.1)), trivial⟩ (fun w' hs' => ⟨(), rfl, Step.left (Step.pulled (is := []) (A := []) hs' rfl)⟩)
 ·replace H := ite_f (of_decide_eq_false hc) H
  refine TC_skip ?_
  refine TX_next ?_
  refine TC_seq ?_
  refine TC_region ?_
  refine TLv (V_lag (.o 2) Try.isAgg57 TryI.inf57) ?_
  refine TLn (E_sv (vs := e64 x.toList) 1 TryI.inf57) (fun _ => ?_)
  refine TL_nil ?_
  refine TX_next ?_
  refine TC_ret ?_
  have hrv := Option.some.inj H
  subst hrv
  exact TX_ret (rs := [.cell 4 57]) (vs := [aG [(4, e64 x.toList)]]) rfl ⟨(Res_agg (n := 4) rfl (by simp) (.o 1) Try.isAgg57 TryI.inf57 rfl (lenV (f := v64) x)), trivial⟩ (fun w' hs' => ⟨(), rfl, Step.left (Step.pulled (is := []) (A := []) hs' rfl)⟩)
end Go.Proofs
end

section
namespace Go.Proofs
open Go Go.Kx
open Vector (replicate)
def num_Nat_Zero (x : Vx 64 4) : Option (Bool) :=
 ltt (decide (x = (replicate 4 0#64 : Vx 64 4))) fun (x1 : Bool) => (some x1)
set_option maxHeartbeats 4000000 in
set_option maxRecDepth 20000 in
theorem F43_calls (x : Vx 64 4) (r : Bool) (H : num_Nat_Zero x = some r) :
  Does Try.prog 43 [aG [(4, e64 x.toList)]] [] [] (Γ := Unit) (fun g => vb r) (fun g => []) := by
 intro w hmem hro hd
 refine calls_of (N := 6) (m0 := [(0, aG [(4, e64 x.toList)])]) Try.func43 rfl Try.ntmps43 (argM_ok [aG [(4, e64 x.toList)]]) rfl hmem hro hd ?_
 unfold num_Nat_Zero at H
 refine TC_seq ?_
 refine TC_region ?_
 refine TLe (E_boxP [(4, e64 x.toList)] rfl rfl ⟨(lenV (f := v64) x), trivial⟩) (fun b1 => ?_)
 refine TLv (V_assign rfl) ?_
 refine TL_nil ?_
 refine TX_next ?_
 refine TC_seq ?_
 refine TC_region ?_
 refine TLv (V_lag (.o 0) Try.isAgg57 TryI.inf57) ?_
 refine TLv (V_buildArr (pv := []) rfl rfl Try.underlying57 TryI.inf57 TryI.inf55 rfl TryI.zer57 (cs := e64 ((replicate 4 0#64 : Vx 64 4).toList)) (by kernel_rfl)) ?_
 refine TLv (V_bin rfl rfl (fun w => eqlA w Try.underlying57 Try.underlying55 (by kernel_rfl) (by kernel_rfl) x (replicate 4 0#64 : Vx 64 4))) ?_
 refine TLv (V_assign rfl) ?_
 obtain ⟨x1, hx1, H⟩ := ltt_elim H
 refine TL_re (d := 2) (v := vb (decide (x = (replicate 4 0#64 : Vx 64 4)))) (v' := vb x1) rfl (congrArg vb hx1) ?_
 refine TL_nil ?_
 refine TX_next ?_
 refine TC_ret ?_
 have hrv := Option.some.inj H
 subst hrv
 exact TX_ret (rs := [.tmp 2]) (vs := [vb x1]) rfl ⟨rfl, trivial⟩ (fun w' hs' => ⟨(), rfl, Step.left (Step.pulled (is := []) (A := []) hs' rfl)⟩)
end Go.Proofs
end

section
namespace Go.Proofs
open Go Go.Kx
def num_Nat_Less (x : Vx 64 4) (y : Vx 64 4) : Option (Bool) :=
 (num_sub x y).bind fun (r_1 : Vx 64 4 × BitVec 64) => (ltt (decide (r_1.2 = 1#64)) fun (x1 : Bool) => (some x1))
set_option maxHeartbeats 4000000 in
set_option maxRecDepth 20000 in
theorem F100_calls (x : Vx 64 4) (y : Vx 64 4) (r : Bool) (H : num_Nat_Less x y = some r) :
  Does Try.prog 100 [aG [(4, e64 x.toList)], aG [(4, e64 y.toList)]] [] [] (Γ := Unit) (fun g => vb r) (fun g => []) := by
 intro w hmem hro hd
 refine calls_of (N := 15) (m0 := [(0, aG [(4, e64 x.toList)]), (1, aG [(4, e64 y.toList)])]) Try.func100 rfl Try.ntmps100 (argM_ok [aG [(4, e64 x.toList)], aG [(4, e64 y.toList)]]) rfl hmem hro hd ?_
 unfold num_Nat_Less at H
 refine TC_seq ?_
 refine TC_region ?_
 refine TLe (E_boxP [(4, e64 x.toList)] rfl rfl ⟨(lenV (f := v64) x), trivial⟩) (fun b1 => ?_)
 refine TLe (E_boxP [(4, e64 y.toList)] rfl rfl ⟨(lenV (f := v64) y), trivial⟩) (fun b2 => ?_)
 refine TLv (V_assign rfl) ?_
 refine TL_nil ?_
 refine TX_next ?_
 refine TC_seq ?_
 refine TC_region ?_
 refine TLv (V_lag (.o 1) Try.isAgg57 TryI.inf57) ?_
 refine TLv (V_lag (.o 0) Try.isAgg57 TryI.inf57) ?_
 obtain ⟨r_1, hr_1, H⟩ := bind_elim H
 refine TLe (E_c0 (F85_calls x y r_1 hr_1) Try.call85 .z) (fun g_1 => ?_)
 refine TLv (V_move rfl) ?_
 refine TLv V_ex ?_
 refine TLv V_ex ?_
 refine TLe (E_al64 4 TryI.inf57 TryI.zer57) (fun b3 => ?_)
 refine TLn (E_sv (vs := e64 r_1.1.toList) 0 TryI.inf57) (fun _ => ?_)
 refine TLv (V_assign rfl) ?_
 refine TL_nil ?_
 refine TX_next ?_
 refine TC_seq ?_
 refine TC_region ?_
 refine TLv (V_move rfl) ?_
 refine TLv (V_bin rfl rfl (fun w => eql64 w r_1.2 1#64)) ?_
 refine TLv (V_assign rfl) ?_
 obtain ⟨x1, hx1, H⟩ := ltt_elim H
 refine TL_re (d := 4) (v := vb (decide (r_1.2 = 1#64))) (v' := vb x1) rfl (congrArg vb hx1) ?_
 refine TL_nil ?_
 refine TX_next ?_
 refine TC_ret ?_
 have hrv := Option.some.inj H
 subst hrv
 exact TX_ret (rs := [.tmp 4]) (vs := [vb x1]) rfl ⟨rfl, trivial⟩ (fun w' hs' => ⟨(), rfl, Step.left (Step.pulled (is := []) (A := []) hs' rfl)⟩)
end Go.Proofs
end

section
namespace Go.Proofs
open Go Go.Kx
open Vector (replicate)
def num_New.b0 (r_1 : Vx 64 4 × Bool) (s0 : Int × BitVec 64) : Option ((Int × BitVec 64) ⊕ (BitVec 64)) :=
 if s0.1 < 6 then (some (.inl (w64 (s0.1 + 1), s0.2 * (2#64 - ((vg r_1.1 0) * s0.2))))) else (some (.inr s0.2))
def num_New.b1 (r_1 : Vx 64 4 × Bool) (t_1 : BitVec 64) (s1 : Int × Vx 64 4 × Vx 64 4) : Option ((Int × Vx 64 4 × Vx 64 4) ⊕ (Vx 64 4 × Vx 64 4)) :=
 if s1.1 < 512 then ((if s1.1 = 256 then (some s1.2.2) else (some s1.2.1)).bind fun (j1 : Vx 64 4) => ((num_Field_Add r_1.1 (-t_1) j1 (replicate 4 0#64) s1.2.2 s1.2.2).bind fun (r_2 : Vx 64 4) => (some (.inl (w64 (s1.1 + 1), j1, r_2))))) else (some (.inr (s1.2.1, s1.2.2)))
def num_New (which : Int) : Option ((Unit) ⊕ (Vx 64 4 × BitVec 64 × Vx 64 4 × Vx 64 4)) :=
 (num_modulus which).bind fun (r_1 : Vx 64 4 × Bool) => (if (!r_1.2) = true then (some (.inl ())) else ((loop (num_New.b0 r_1) BIG (0, 1#64)).bind fun (t_1 : BitVec 64) => (ltt ((vp (replicate 4 0#64) 0 1#64 : Vx 64 4)) fun (m_1 : Vx 64 4) => ((loop (num_New.b1 r_1 t_1) BIG (0, replicate 4 0#64, m_1)).bind fun (t_2 : Vx 64 4 × Vx 64 4) => (some (.inr (r_1.1, -t_1, t_2.1, t_2.2)))))))
set_option maxHeartbeats 4000000 in
set_option maxRecDepth 20000 in
theorem F53_calls (which : Int) (r : (Unit) ⊕ (Vx 64 4 × BitVec 64 × Vx 64 4 × Vx 64 4)) (H : num_New which = some r) :
  Does Try.prog 53 [vi which] [] [] (Γ := Unit × Nat) (fun g => match r with | .inl r => Value.pointer none | .inr r => ptr (some (g.2, 0)) 0) (fun g => match r with | .inl r => [] | .inr r => [⟨some (g.2, 0), e64 r.1.toList⟩, ⟨some (g.2, 4), [v64 r.2.1]⟩, ⟨some (g.2, 5), e64 r.2.2.1.toList⟩, ⟨some (g.2, 9), e64 r.2.2.2.toList⟩]) := by
 intro w hmem hro hd
 refine calls_of (N := 64) (m0 := [(0, vi which)]) Try.func53 rfl Try.ntmps53 (argM_ok [vi which]) rfl hmem hro hd ?_
 unfold num_New at H
 refine TC_seq ?_
 refine TC_region ?_
 refine TLv (V_assign rfl) ?_
 refine TL_nil ?_
 refine TX_next ?_
 refine TC_seq ?_
 refine TC_region ?_
 refine TLv (V_move rfl) ?_
 obtain ⟨r_1, hr_1, H⟩ := bind_elim H
 refine TLe (E_c0 (F84_calls which r_1 hr_1) Try.call84 .z) (fun g_1 => ?_)
 refine TLv (V_move rfl) ?_
 refine TLv V_ex ?_
 refine TLv V_ex ?_
 refine TLe (E_al64 4 TryI.inf57 TryI.zer57) (fun b1 => ?_)
 refine TLn (E_sv (vs := e64 r_1.1.toList) 0 TryI.inf57) (fun _ => ?_)
 refine TLv (V_assign rfl) ?_
 refine TL_nil ?_
 refine TX_next ?_
 refine TC_seq ?_
 refine TC_seq ?_
 refine TC_region ?_
 refine TLv (V_move rfl) ?_
 refine TLv (V_un rfl (fun w => notB w r_1.2)) ?_
 refine TL_nil ?_
 refine TX_next ?_
 refine TC_cond (b := (!r_1.2)) rfl (fun hc => ?_) (fun hc => ?_)
 ·replace H := ite_t hc H
  refine TC_seq ?_
  refine TC_region ?_
  refine TLv (V_assign rfl) ?_
  refine TL_nil ?_
  refine TX_next ?_
  refine TC_ret ?_
  refine TX_then_ret ?_
  have hrv := Option.some.inj H
  subst hrv
  exact TX_ret (rs := [.tmp 2]) (vs := [Value.pointer none]) rfl ⟨rfl, trivial⟩ (fun w' hs' => ⟨((), (default : Nat)), rfl, Step.left (Step.pulled (is := []) (A := []) hs' rfl)⟩)
 ·replace H := ite_f (Bool.eq_false_iff.1 hc) H
  refine TC_skip ?_
  refine TX_next ?_
  refine TC_seq ?_
  refine TC_region ?_
  refine TLv (V_lag (.o 0) Try.isAgg57 TryI.inf57) ?_
  refine TLv (V_buildStruct (pv := [(0, aG [(4, e64 r_1.1.toList)]), (1, v64 1#64)]) (pl := [(0, 4), (4, 1), (5, 4), (9, 4)]) rfl rfl Try.underlying113 TryI.inf113 TryI.places113 TryI.zer113 (cs := flat [(4, e64 r_1.1.toList), (1, [v64 1#64]), (4, e64 ((replicate 4 0#64).toList)), (4, e64 ((replicate 4 0#64).toList))]) (fill_part [] [(1, [v64 0#64]), (4, e64 ((replicate 4 0#64).toList)), (4, e64 ((replicate 4 0#64).toList))] rfl rfl trivial rfl (lenV (f := v64) (replicate 4 0#64)) (lenV (f := v64) r_1.1) (fill_part [(4, e64 r_1.1.toList)] [(4, e64 ((replicate 4 0#64).toList)), (4, e64 ((replicate 4 0#64).toList))] rfl rfl ⟨(lenV (f := v64) r_1.1), trivial⟩ rfl rfl rfl fill_end))) ?_
  refine TLe (E_boxP [(4, e64 r_1.1.toList), (1, [v64 1#64]), (4, e64 ((replicate 4 0#64).toList)), (4, e64 ((replicate 4 0#64).toList))] rfl rfl ⟨(lenV (f := v64) r_1.1), rfl, (lenV (f := v64) (replicate 4 0#64)), (lenV (f := v64) (replicate 4 0#64)), trivial⟩) (fun b2 => ?_)
  refine TLv (V_assign rfl) ?_
  refine TL_nil ?_
  refine TX_next ?_
  refine TC_seq ?_
  refine TC_seq ?_
  refine TC_region ?_
  refine TLv (V_move rfl) ?_
  refine TL_nil ?_
  refine TX_next ?_
  refine TC_block ?_
  obtain ⟨t_1, Hl, H⟩ := bind_elim H
  refine TC.sub (m' := [(3, ptr (some (b1, 0)) 0), (5, ptr (some (b2, 0)) 0), (18, vi 0)]) ⟨rfl, rfl, rfl, trivial⟩ ?_
  refine TC.pull (is := [4, 0, 0, 0, 0]) (L' := [⟨some (b1, 0), e64 r_1.1.toList⟩, ⟨some (b2, 0), e64 r_1.1.toList⟩, ⟨some (b2, 4), [v64 1#64]⟩, ⟨some (b2, 5), e64 ((replicate 4 0#64).toList)⟩, ⟨some (b2, 9), e64 ((replicate 4 0#64).toList)⟩]) rfl ?_
  refine TC_loopL (id := 0) (body := (num_New.b0 r_1)) (σ := Int × BitVec 64) (Γ := Unit) (Γx := Unit) (fun s0 g0_ => [(3, ptr (some (b1, 0)) 0), (5, ptr (some (b2, 0)) 0), (18, vi s0.1)]) (fun s0 g0_ => [⟨some (b1, 0), e64 r_1.1.toList⟩, ⟨some (b2, 0), e64 r_1.1.toList⟩, ⟨some (b2, 4), [v64 s0.2]⟩, ⟨some (b2, 5), e64 ((replicate 4 0#64).toList)⟩, ⟨some (b2, 9), e64 ((replicate 4 0#64).toList)⟩]) (fun t g => [(5, ptr (some (b2, 0)) 0)]) (fun t g => [⟨some (b2, 0), e64 r_1.1.toList⟩, ⟨some (b2, 4), [v64 t]⟩, ⟨some (b2, 5), e64 ((replicate 4 0#64).toList)⟩, ⟨some (b2, 9), e64 ((replicate 4 0#64).toList)⟩]) ?_ BIG (0, 1#64) () t_1 Hl ?_
  ·intro s0 g0_ r1 H K hK hE
   unfold num_New.b0 at H
   refine TC_seq ?_
   refine TC_region ?_
   refine TLv (V_bin rfl rfl (fun w => lssI w s0.1 6)) ?_
   refine TL_nil ?_
   refine TX_next ?_
   refine TC_seq ?_
   refine TC_cond (b := (decide (s0.1 < 6))) rfl (fun hc => ?_) (fun hc => ?_)
   ·replace H := ite_t (of_decide_eq_true hc) H
    refine TC_skip ?_
    refine TX_next ?_
    refine TC_seq ?_
    refine TC_block ?_
    refine TA_begin [] 16 (by kernel_rfl) (N := 16) rfl ?_
    refine TA_mix (is := []) (done' := dn 16 32767) [itV 0 20 (ptr (some (b2, 0)) 0) [], itV 1 21 (ptr (some (b2, 0)) 0) [0], itV 2 22 (ptr (some (b2, 4)) 0) [1], itV 3 23 (v64 s0.2) [2], itV 4 24 (ptr (some (b1, 0)) 0) [], itV 5 25 (v64 (vg r_1.1 0)) [4], itV 6 26 (ptr (some (b2, 0)) 0) [], itV 7 27 (ptr (some (b2, 0)) 0) [6], itV 8 28 (ptr (some (b2, 4)) 0) [7], itV 9 29 (v64 s0.2) [8], itV 10 30 (v64 ((vg r_1.1 0) * s0.2)) [5, 9], itV 11 31 (v64 (2#64 - ((vg r_1.1 0) * s0.2))) [10], itV 12 32 (v64 (s0.2 * (2#64 - ((vg r_1.1 0) * s0.2)))) [11, 3], itV 13 33 (ptr (some (b2, 0)) 0) [0], itV 14 34 (ptr (some (b2, 4)) 0) [13]] [] 1 (by kernel_rfl) (QP.block (QP.then (QP.then (QP.block (QP.then QP.body))))) (by kernel_rfl) rfl (.v rfl (V_move rfl) (.v rfl (V_nilCheck rfl) (.v rfl (V_fe Try.underlying113 TryI.inf55) (.v rfl (V_load rfl (.o 2) rfl Try.isAgg55) (.v rfl (V_idxArr (i := 0) rfl rfl Try.underlying57 TryI.inf55 rfl (by decide) (by decide) (k := 0) (k01 _)) (.v rfl (V_load rfl (.o 0) (get_vec (f := v64) (V := r_1.1) (by decide : 0 < 4)) Try.isAgg55) (.v rfl (V_move rfl) (.v rfl (V_nilCheck rfl) (.v rfl (V_fe Try.underlying113 TryI.inf55) (.v rfl (V_load rfl (.o 2) rfl Try.isAgg55) (.v rfl (V_bin rfl rfl (fun w => mul64 w (vg r_1.1 0) s0.2)) (.v rfl (V_bin rfl rfl (fun w => sub64 w 2#64 ((vg r_1.1 0) * s0.2))) (.v rfl (V_bin rfl rfl (fun w => mul64 w s0.2 (2#64 - ((vg r_1.1 0) * s0.2)))) (.v rfl (V_nilCheck rfl) (.v rfl (V_fe Try.underlying113 TryI.inf55) .nil))))))))))))))) .nil (by kernel_rfl) rfl (fun γ => ?_)
    refine TA_cut [(34, ptr (some (b2, 4)) 0), (32, v64 (s0.2 * (2#64 - ((vg r_1.1 0) * s0.2)))), (3, ptr (some (b1, 0)) 0), (5, ptr (some (b2, 0)) 0), (18, vi s0.1)] [⟨some (b1, 0), e64 r_1.1.toList⟩, ⟨some (b2, 0), e64 r_1.1.toList⟩, ⟨some (b2, 4), [v64 s0.2]⟩, ⟨some (b2, 5), e64 ((replicate 4 0#64).toList)⟩, ⟨some (b2, 9), e64 ((replicate 4 0#64).toList)⟩] ⟨rfl, rfl, rfl, rfl, rfl, trivial⟩ rfl ?_
    refine TA_all (rs := [15]) (by kernel_rfl) rfl ?_
    refine ⟨?_, trivial⟩
    refine TO_n (is := []) (done' := dn 16 65535) rfl rfl rfl (by kernel_rfl) (E_store (j := 2) rfl rfl TryI.inf55 rfl rfl rfl (Nat.lt_succ_self 0) (cs' := [v64 (s0.2 * (2#64 - ((vg r_1.1 0) * s0.2)))]) rfl) (fun _ _ => rfl) (fun _ => ?_)
    refine TA_done (by kernel_rfl) ?_ 0
    refine TX_block_normal ?_
    refine TX_next ?_
    refine TC_region ?_
    refine TLv (V_bin rfl rfl (fun w => addI w s0.1 1)) ?_
    refine TLv (V_move rfl) ?_
    refine TL_nil ?_
    refine TX.sub (m' := [(3, ptr (some (b1, 0)) 0), (5, ptr (some (b2, 0)) 0), (18, vi (w64 (s0.1 + 1)))]) ⟨rfl, rfl, rfl, trivial⟩ ?_
    refine TX.pull (is := [0, 0, 0, 0, 0]) (L' := [⟨some (b1, 0), e64 r_1.1.toList⟩, ⟨some (b2, 0), e64 r_1.1.toList⟩, ⟨some (b2, 4), [v64 (s0.2 * (2#64 - ((vg r_1.1 0) * s0.2)))]⟩, ⟨some (b2, 5), e64 ((replicate 4 0#64).toList)⟩, ⟨some (b2, 9), e64 ((replicate 4 0#64).toList)⟩]) rfl ?_
    obtain rfl := Option.some.inj H
    exact fun a w hs => hK (w64 (s0.1 + 1), s0.2 * (2#64 - ((vg r_1.1 0) * s0.2))) rfl () a w hs
   ·replace H := ite_f (of_decide_eq_false hc) H
    refine TC_exit ?_
    refine TX_then_exit ?_
    refine TX_then_exit ?_
    refine TX.sub (m' := [(5, ptr (some (b2, 0)) 0)]) ⟨rfl, trivial⟩ ?_
    refine TX.pull (is := [1, 1, 1, 1]) (L' := [⟨some (b2, 0), e64 r_1.1.toList⟩, ⟨some (b2, 4), [v64 s0.2]⟩, ⟨some (b2, 5), e64 ((replicate 4 0#64).toList)⟩, ⟨some (b2, 9), e64 ((replicate 4 0#64).toList)⟩]) rfl ?_
    obtain rfl := Option.some.inj H
    exact hE s0.2 rfl ()
  ·intro g
   refine TX_block_exit ?_
   refine TX_next ?_
   refine TC_seq ?_
   refine TC_region ?_
   refine TLv (V_move rfl) ?_
   refine TLv (V_move rfl) ?_
   refine TLv (V_nilCheck rfl) ?_
   refine TLv (V_fieldE rfl Try.underlying113 rfl rfl TryI.inf55 rfl (v := ptr (some (b2, 4)) 0) rfl) ?_
   refine TLv (V_load rfl (.o 1) rfl Try.isAgg55) ?_
   refine TLv (V_un rfl (fun w => neg64 w t_1)) ?_
   refine TLv (V_nilCheck rfl) ?_
   refine TLv (V_fieldE rfl Try.underlying113 rfl rfl TryI.inf55 rfl (v := ptr (some (b2, 4)) 0) rfl) ?_
   refine TLn (E_store (j := 1) rfl rfl TryI.inf55 rfl rfl rfl (Nat.lt_succ_self 0) (cs' := [v64 (-t_1)]) rfl) (fun _ => ?_)
   refine TL_nil ?_
   refine TX_next ?_
   refine TC_seq ?_
   refine TC_region ?_
   refine TLv (V_buildArr (pv := [(0, v64 1#64)]) rfl rfl Try.underlying57 TryI.inf57 TryI.inf55 rfl TryI.zer57 (cs := e64 ((vp (replicate 4 0#64) 0 1#64 : Vx 64 4).toList)) (by kernel_rfl)) ?_
   refine TLe (E_al64 4 TryI.inf57 TryI.zer57) (fun b3 => ?_)
   refine TLn (E_sv 0 TryI.inf57) (fun _ => ?_)
   obtain ⟨m_1, hm_1, H⟩ := ltt_elim H
   refine TL_reE (j := 0) (A := some (b3, 0)) (cs := e64 ((vp (replicate 4 0#64) 0 1#64 : Vx 64 4).toList)) (cs' := e64 m_1.toList) rfl (congrArg (fun z : Vx 64 4 => e64 (Vector.toList z)) hm_1) ?_
   refine TL_nil ?_
   refine TX_next ?_
   refine TC_seq ?_
   refine TC_seq ?_
   refine TC_region ?_
   refine TLv (V_move rfl) ?_
   refine TL_nil ?_
   refine TX_next ?_
   refine TC_block ?_
   obtain ⟨t_2, Hl, H⟩ := bind_elim H
   refine TC.sub (m' := [(5, ptr (some (b2, 0)) 0), (6, ptr (some (b3, 0)) 0), (45, vi 0)]) ⟨rfl, rfl, rfl, trivial⟩ ?_
   refine TC.pull (is := [1, 1, 1, 1, 0]) (L' := [⟨some (b2, 0), e64 r_1.1.toList⟩, ⟨some (b2, 4), [v64 (-t_1)]⟩, ⟨some (b2, 5), e64 ((replicate 4 0#64).toList)⟩, ⟨some (b2, 9), e64 ((replicate 4 0#64).toList)⟩, ⟨some (b3, 0), e64 m_1.toList⟩]) rfl ?_
   refine TC_loopL (id := 2) (body := (num_New.b1 r_1 t_1)) (σ := Int × Vx 64 4 × Vx 64 4) (Γ := Unit) (Γx := Unit) (fun s1 g1_ => [(5, ptr (some (b2, 0)) 0), (6, ptr (some (b3, 0)) 0), (45, vi s1.1)]) (fun s1 g1_ => [⟨some (b2, 0), e64 r_1.1.toList⟩, ⟨some (b2, 4), [v64 (-t_1)]⟩, ⟨some (b2, 5), e64 s1.2.1.toList⟩, ⟨some (b2, 9), e64 ((replicate 4 0#64).toList)⟩, ⟨some (b3, 0), e64 s1.2.2.toList⟩]) (fun t g => [(5, ptr (some (b2, 0)) 0), (6, ptr (some (b3, 0)) 0)]) (fun t g => [⟨some (b2, 0), e64 r_1.1.toList⟩, ⟨some (b2, 4), [v64 (-t_1)]⟩, ⟨some (b2, 5), e64 t.1.toList⟩, ⟨some (b2, 9), e64 ((replicate 4 0#64).toList)⟩, ⟨some (b3, 0), e64 t.2.toList⟩]) ?_ BIG (0, replicate 4 0#64, m_1) () t_2 Hl ?_
   ·intro s1 g1_ r1 H K hK hE
    unfold num_New.b1 at H
    refine TC_seq ?_
    refine TC_region ?_
    refine TLv (V_bin rfl rfl (fun w => lssI w s1.1 512)) ?_
    refine TL_nil ?_
    refine TX_next ?_
    refine TC_seq ?_
    refine TC_cond (b := (decide (s1.1 < 512))) rfl (fun hc => ?_) (fun hc => ?_)
    ·replace H := ite_t (of_decide_eq_true hc) H
     refine TC_skip ?_
     refine TX_next ?_
     refine TC_seq ?_
     refine TC_block ?_
     refine TC_seq ?_
     refine TC_region ?_
     refine TLv (V_move rfl) ?_
     refine TLv (V_assign rfl) ?_
     refine TL_nil ?_
     refine TX_next ?_
     refine TC_seq ?_
     refine TC_seq ?_
     refine TC_region ?_
     refine TLv (V_move rfl) ?_
     refine TLv (V_bin rfl rfl (fun w => eqlI w s1.1 256)) ?_
     refine TL_nil ?_
     refine TX_next ?_
     obtain ⟨j1, Hj, H⟩ := bind_elim H
     refine TC_join (Γ := Unit) (fun gj1 => [(5, ptr (some (b2, 0)) 0), (6, ptr (some (b3, 0)) 0), (45, vi s1.1)]) (fun gj1 => [⟨some (b2, 0), e64 r_1.1.toList⟩, ⟨some (b2, 4), [v64 (-t_1)]⟩, ⟨some (b2, 5), e64 j1.toList⟩, ⟨some (b2, 9), e64 ((replicate 4 0#64).toList)⟩, ⟨some (b3, 0), e64 s1.2.2.toList⟩]) ?_ ?_
     ·intro gj1
      refine TX_next ?_
      refine TC_region ?_
      refine TLv (V_move rfl) ?_
      refine TLv (V_lag (.o 4) Try.isAgg57 TryI.inf57) ?_
      refine TLv (V_lag (.o 4) Try.isAgg57 TryI.inf57) ?_
      obtain ⟨r_2, hr_2, H⟩ := bind_elim H
      refine TLe (E_c0 (F59_calls b2 0 r_1.1 (-t_1) j1 (replicate 4 0#64) s1.2.2 s1.2.2 r_2 hr_2) Try.call59 ⟨.o 0, .o 1, .o 2, .o 3, trivial⟩) (fun g_2 => ?_)
      refine TLn (E_sv (vs := e64 r_2.toList) 4 TryI.inf57) (fun _ => ?_)
      refine TL_nil ?_
      refine TX_block_normal ?_
      refine TX_next ?_
      refine TC_region ?_
      refine TLv (V_bin rfl rfl (fun w => addI w s1.1 1)) ?_
      refine TLv (V_move rfl) ?_
      refine TL_nil ?_
      refine TX.sub (m' := [(5, ptr (some (b2, 0)) 0), (6, ptr (some (b3, 0)) 0), (45, vi (w64 (s1.1 + 1)))]) ⟨rfl, rfl, rfl, trivial⟩ ?_
      refine TX.pull (is := [0, 0, 0, 0, 0]) (L' := [⟨some (b2, 0), e64 r_1.1.toList⟩, ⟨some (b2, 4), [v64 (-t_1)]⟩, ⟨some (b2, 5), e64 j1.toList⟩, ⟨some (b2, 9), e64 ((replicate 4 0#64).toList)⟩, ⟨some (b3, 0), e64 r_2.toList⟩]) rfl ?_
      obtain rfl := Option.some.inj H
      exact fun a w hs => hK (w64 (s1.1 + 1), j1, r_2) rfl () a w hs
     ·intro hJ
      replace H := Hj
      refine TC_cond (b := (decide (s1.1 = 256))) rfl (fun hc => ?_) (fun hc => ?_)
      ·replace H := ite_t (of_decide_eq_true hc) H
       refine TC_region ?_
       refine TLv (V_move rfl) ?_
       refine TLv (V_lag (.o 4) Try.isAgg57 TryI.inf57) ?_
       refine TLv (V_nilCheck rfl) ?_
       refine TLv (V_fieldE rfl Try.underlying113 rfl rfl TryI.inf57 rfl (v := ptr (some (b2, 5)) 0) rfl) ?_
       refine TLn (E_sv (vs := e64 s1.2.2.toList) 2 TryI.inf57) (fun _ => ?_)
       refine TL_nil ?_
       refine TX.sub (m' := [(5, ptr (some (b2, 0)) 0), (6, ptr (some (b3, 0)) 0), (45, vi s1.1)]) ⟨rfl, rfl, rfl, trivial⟩ ?_
       refine TX.pull (is := [0, 0, 0, 0, 0]) (L' := [⟨some (b2, 0), e64 r_1.1.toList⟩, ⟨some (b2, 4), [v64 (-t_1)]⟩, ⟨some (b2, 5), e64 s1.2.2.toList⟩, ⟨some (b2, 9), e64 ((replicate 4 0#64).toList)⟩, ⟨some (b3, 0), e64 s1.2.2.toList⟩]) rfl ?_
       obtain rfl := Option.some.inj H
       exact hJ ()
      ·replace H := ite_f (of_decide_eq_false hc) H
       refine TC_skip ?_
       refine TX.sub (m' := [(5, ptr (some (b2, 0)) 0), (6, ptr (some (b3, 0)) 0), (45, vi s1.1)]) ⟨rfl, rfl, rfl, trivial⟩ ?_
       refine TX.pull (is := [0, 0, 0, 0, 0]) (L' := [⟨some (b2, 0), e64 r_1.1.toList⟩, ⟨some (b2, 4), [v64 (-t_1)]⟩, ⟨some (b2, 5), e64 s1.2.1.toList⟩, ⟨some (b2, 9), e64 ((replicate 4 0#64).toList)⟩, ⟨some (b3, 0), e64 s1.2.2.toList⟩]) rfl ?_
       obtain rfl := Option.some.inj H
       exact hJ ()
    ·replace H := ite_f (of_decide_eq_false hc) H
     refine TC_exit ?_
     refine TX_then_exit ?_
     refine TX_then_exit ?_
     refine TX.sub (m' := [(5, ptr (some (b2, 0)) 0), (6, ptr (some (b3, 0)) 0)]) ⟨rfl, rfl, trivial⟩ ?_
     refine TX.pull (is := [0, 0, 0, 0, 0]) (L' := [⟨some (b2, 0), e64 r_1.1.toList⟩, ⟨some (b2, 4), [v64 (-t_1)]⟩, ⟨some (b2, 5), e64 s1.2.1.toList⟩, ⟨some (b2, 9), e64 ((replicate 4 0#64).toList)⟩, ⟨some (b3, 0), e64 s1.2.2.toList⟩]) rfl ?_
     obtain rfl := Option.some.inj H
     exact hE (s1.2.1, s1.2.2) rfl ()
   ·intro g
    refine TX_block_exit ?_
    refine TX_next ?_
    refine TC_seq ?_
    refine TC_region ?_
    refine TLv (V_move rfl) ?_
    refine TLv (V_lag (.o 4) Try.isAgg57 TryI.inf57) ?_
    refine TLv (V_nilCheck rfl) ?_
    refine TLv (V_fieldE rfl Try.underlying113 rfl rfl TryI.inf57 rfl (v := ptr (some (b2, 9)) 0) rfl) ?_
    refine TLn (E_sv (vs := e64 t_2.2.toList) 3 TryI.inf57) (fun _ => ?_)
    refine TL_nil ?_
    refine TX_next ?_
    refine TC_seq ?_
    refine TC_region ?_
    refine TLv (V_move rfl) ?_
    refine TLv (V_assign rfl) ?_
    refine TL_nil ?_
    refine TX_next ?_
    refine TC_ret ?_
    have hrv := Option.some.inj H
    subst hrv
    exact TX_ret (rs := [.tmp 2]) (vs := [ptr (some (b2, 0)) 0]) rfl ⟨rfl, trivial⟩ (fun w' hs' => ⟨((), b2), rfl, Step.left (Step.pulled (is := [0, 0, 0, 0]) (A := [⟨some (b2, 0), e64 r_1.1.toList⟩, ⟨some (b2, 4), [v64 (-t_1)]⟩, ⟨some (b2, 5), e64 t_2.1.toList⟩, ⟨some (b2, 9), e64 t_2.2.toList⟩]) hs' rfl)⟩)
end Go.Proofs
end

section
namespace Go.Proofs
open Go Go.Kx
open Vector (replicate)
def num_Load.b0 (s_ : Str) (s0 : Int × Vx 64 4) : Option ((Int × Vx 64 4) ⊕ (Vx 64 4)) :=
 if s0.1 < 32 then (ltt (w64 (3 - (w64 (s0.1.tdiv 8)))) fun (k_1 : Int) => (if 0 ≤ k_1 ∧ k_1 < (4 : Int) then (if 0 ≤ s0.1 ∧ s0.1 < ((s_).length : Int) then (if 0 ≤ k_1 ∧ k_1 < (4 : Int) then (ltt (vp s0.2 ((k_1).toNat) (((vg s0.2 ((k_1).toNat)) <<< 8) ||| ((sg s_ s0.1).setWidth 64))) fun (m_1 : Vx 64 4) => (some (.inl (w64 (s0.1 + 1), m_1)))) else none) else none) else none)) else (some (.inr s0.2))
def num_Load (s_ : Str) : Option (Vx 64 4) :=
 (loop (num_Load.b0 s_) BIG (0, replicate 4 0#64)).bind fun (t_1 : Vx 64 4) => (some t_1)
set_option maxHeartbeats 4000000 in
set_option maxRecDepth 20000 in
theorem F55_calls (s_ : Str) (r : Vx 64 4) (H : num_Load s_ = some r) :
  Does Try.prog 55 [vs s_] [] [] (Γ := Unit) (fun g => aG [(4, e64 r.toList)]) (fun g => []) := by
 intro w hmem hro hd
 refine calls_of (N := 25) (m0 := [(0, vs s_)]) Try.func55 rfl Try.ntmps55 (argM_ok [vs s_]) rfl hmem hro hd ?_
 unfold num_Load at H
 refine TC_seq ?_
 refine TC_region ?_
 refine TLe (E_al64 4 TryI.inf57 TryI.zer57) (fun b1 => ?_)
 refine TL_nil ?_
 refine TX_next ?_
 refine TC_seq ?_
 refine TC_region ?_
 refine TLe (E_al64 4 TryI.inf57 TryI.zer57) (fun b2 => ?_)
 refine TL_nil ?_
 refine TX_next ?_
 refine TC_seq ?_
 refine TC_seq ?_
 refine TC_region ?_
 refine TLv (V_move rfl) ?_
 refine TL_nil ?_
 refine TX_next ?_
 refine TC_block ?_
 obtain ⟨t_1, Hl, H⟩ := bind_elim H
 refine TC.sub (m' := [(0, vs s_), (2, ptr (some (b1, 0)) 0), (3, ptr (some (b2, 0)) 0), (6, vi 0)]) ⟨rfl, rfl, rfl, rfl, trivial⟩ ?_
 refine TC.pull (is := [1, 0]) (L' := [⟨some (b1, 0), e64 ((replicate 4 0#64).toList)⟩, ⟨some (b2, 0), e64 ((replicate 4 0#64).toList)⟩]) rfl ?_
 refine TC_loopL (id := 0) (body := (num_Load.b0 s_)) (σ := Int × Vx 64 4) (Γ := Unit) (Γx := Unit) (fun s0 g0_ => [(0, vs s_), (2, ptr (some (b1, 0)) 0), (3, ptr (some (b2, 0)) 0), (6, vi s0.1)]) (fun s0 g0_ => [⟨some (b1, 0), e64 ((replicate 4 0#64).toList)⟩, ⟨some (b2, 0), e64 s0.2.toList⟩]) (fun t g => [(2, ptr (some (b1, 0)) 0), (3, ptr (some (b2, 0)) 0)]) (fun t g => [⟨some (b1, 0), e64 ((replicate 4 0#64).toList)⟩, ⟨some (b2, 0), e64 t.toList⟩]) ?_ BIG (0, replicate 4 0#64) () t_1 Hl ?_
 ·intro s0 g0_ r1 H K hK hE
  unfold num_Load.b0 at H
  refine TC_seq ?_
  refine TC_region ?_
  refine TLv (V_bin rfl rfl (fun w => lssI w s0.1 32)) ?_
  refine TL_nil ?_
  refine TX_next ?_
  refine TC_seq ?_
  refine TC_cond (b := (decide (s0.1 < 32))) rfl (fun hc => ?_) (fun hc => ?_)
  ·replace H := ite_t (of_decide_eq_true hc) H
   refine TC_skip ?_
   refine TX_next ?_
   refine TC_seq ?_
   refine TC_block ?_
   refine TC_seq ?_
   refine TC_region ?_
   refine TLv (V_move rfl) ?_
   refine TLv (V_assign rfl) ?_
   refine TL_nil ?_
   refine TX_next ?_
   refine TC_seq ?_
   refine TC_region ?_
   refine TLv (V_move rfl) ?_
   refine TLv (V_bin rfl rfl (fun w => quoI w s0.1 8 (by decide))) ?_
   refine TLv (V_bin rfl rfl (fun w => subI w 3 (w64 (s0.1.tdiv 8)))) ?_
   refine TLv (V_assign rfl) ?_
   obtain ⟨k_1, hk_1, H⟩ := ltt_elim H
   refine TL_re (d := 5) (v := vi (w64 (3 - (w64 (s0.1.tdiv 8))))) (v' := vi k_1) rfl (congrArg vi hk_1) ?_
   refine TL_nil ?_
   refine TX_next ?_
   obtain ⟨h1, H⟩ := if_elim H
   obtain ⟨h2, H⟩ := if_elim H
   obtain ⟨h3, H⟩ := if_elim H
   obtain ⟨m_1, hm_1, H⟩ := ltt_elim H
   refine TA_begin [] 12 (by kernel_rfl) (N := 12) rfl ?_
   refine TA_mix (is := []) (done' := dn 12 2047) [itV 0 12 (vi k_1) [], itV 1 13 (vi k_1) [], itV 2 14 (ptr (some (b2, 0)) ((k_1).toNat)) [1], itV 3 15 (v64 (vg s0.2 ((k_1).toNat))) [2], itV 4 16 (v64 ((vg s0.2 ((k_1).toNat)) <<< 8)) [3], itV 5 17 (vs s_) [], itV 6 18 (vi s0.1) [], itV 7 19 (v8 (sg s_ s0.1)) [5, 6], itV 8 20 (v64 ((sg s_ s0.1).setWidth 64)) [7], itV 9 21 (v64 (((vg s0.2 ((k_1).toNat)) <<< 8) ||| ((sg s_ s0.1).setWidth 64))) [4, 8], itV 10 22 (ptr (some (b2, 0)) ((k_1).toNat)) [0]] [] 1 (by kernel_rfl) (QP.block (QP.then (QP.then (QP.block (QP.then QP.body))))) (by kernel_rfl) rfl (.v rfl (V_move rfl) (.v rfl (V_move rfl) (.v rfl (V_idxArr (i := k_1) rfl rfl Try.underlying57 TryI.inf55 rfl h1.1 h1.2 (k := (k_1).toNat) (k01 _)) (.v rfl (V_load rfl (.o 1) (get_vec (f := v64) (V := s0.2) (toNat_lt h1.1 h1.2)) Try.isAgg55) (.v rfl (V_bin rfl rfl (fun w => shl64 w (vg s0.2 ((k_1).toNat)) .u64 8 (by decide))) (.v rfl (V_move rfl) (.v rfl (V_move rfl) (.v rfl (V_idxStr rfl rfl (i := s0.1) Try.underlying9 h2.1 h2.2) (.v rfl (V_conv rfl (fun w => cv8to64 w _ _ Try.underlying55 (TryI.und5) (sg s_ s0.1))) (.v rfl (V_bin rfl rfl (fun w => or64 w ((vg s0.2 ((k_1).toNat)) <<< 8) ((sg s_ s0.1).setWidth 64))) (.v rfl (V_idxArr (i := k_1) rfl rfl Try.underlying57 TryI.inf55 rfl h3.1 h3.2 (k := (k_1).toNat) (k01 _)) .nil))))))))))) .nil (by kernel_rfl) rfl (fun γ => ?_)
   refine TA_cut [(22, ptr (some (b2, 0)) ((k_1).toNat)), (21, v64 (((vg s0.2 ((k_1).toNat)) <<< 8) ||| ((sg s_ s0.1).setWidth 64))), (0, vs s_), (2, ptr (some (b1, 0)) 0), (3, ptr (some (b2, 0)) 0), (6, vi s0.1)] [⟨some (b1, 0), e64 ((replicate 4 0#64).toList)⟩, ⟨some (b2, 0), e64 s0.2.toList⟩] ⟨rfl, rfl, rfl, rfl, rfl, rfl, trivial⟩ rfl ?_
   refine TA_all (rs := [11]) (by kernel_rfl) rfl ?_
   refine ⟨?_, trivial⟩
   refine TO_n (is := []) (done' := dn 12 4095) rfl rfl rfl (by kernel_rfl) (E_store (j := 1) rfl rfl TryI.inf55 rfl rfl rfl (by simpa using (toNat_lt h3.1 h3.2)) (cs' := e64 ((vp s0.2 ((k_1).toNat) (((vg s0.2 ((k_1).toNat)) <<< 8) ||| ((sg s_ s0.1).setWidth 64))).toList)) set_vec) (fun _ _ => rfl) (fun _ => ?_)
   refine TA_reE (j := 1) (A := some (b2, 0)) (cs := e64 ((vp s0.2 ((k_1).toNat) (((vg s0.2 ((k_1).toNat)) <<< 8) ||| ((sg s_ s0.1).setWidth 64))).toList)) (cs' := e64 m_1.toList) rfl (congrArg (fun z : Vx 64 4 => e64 (Vector.toList z)) hm_1) ?_
   refine TA_done (by kernel_rfl) ?_ 0
   refine TX_block_normal ?_
   refine TX_next ?_
   refine TC_region ?_
   refine TLv (V_bin rfl rfl (fun w => addI w s0.1 1)) ?_
   refine TLv (V_move rfl) ?_
   refine TL_nil ?_
   refine TX.sub (m' := [(0, vs s_), (2, ptr (some (b1, 0)) 0), (3, ptr (some (b2, 0)) 0), (6, vi (w64 (s0.1 + 1)))]) ⟨rfl, rfl, rfl, rfl, trivial⟩ ?_
   refine TX.pull (is := [0, 0]) (L' := [⟨some (b1, 0), e64 ((replicate 4 0#64).toList)⟩, ⟨some (b2, 0), e64 m_1.toList⟩]) rfl ?_
   obtain rfl := Option.some.inj H
   exact fun a w hs => hK (w64 (s0.1 + 1), m_1) rfl () a w hs
  ·replace H := ite_f (of_decide_eq_false hc) H
   refine TC_exit ?_
   refine TX_then_exit ?_
   refine TX_then_exit ?_
   refine TX.sub (m' := [(2, ptr (some (b1, 0)) 0), (3, ptr (some (b2, 0)) 0)]) ⟨rfl, rfl, trivial⟩ ?_
   refine TX.pull (is := [0, 0]) (L' := [⟨some (b1, 0), e64 ((replicate 4 0#64).toList)⟩, ⟨some (b2, 0), e64 s0.2.toList⟩]) rfl ?_
   obtain rfl := Option.some.inj H
   exact hE s0.2 rfl ()
 ·intro g
  refine TX_block_exit ?_
  refine TX_next ?_
  refine TC_seq ?_
  refine TC_region ?_
  refine TLv (V_lag (.o 1) Try.isAgg57 TryI.inf57) ?_
  refine TLn (E_sv (vs := e64 t_1.toList) 0 TryI.inf57) (fun _ => ?_)
  refine TL_nil ?_
  refine TX_next ?_
  refine TC_ret ?_
  have hrv := Option.some.inj H
  subst hrv
  exact TX_ret (rs := [.cell 2 57]) (vs := [aG [(4, e64 t_1.toList)]]) rfl ⟨(Res_agg (n := 4) rfl (by simp) (.o 0) Try.isAgg57 TryI.inf57 rfl (lenV (f := v64) t_1)), trivial⟩ (fun w' hs' => ⟨(), rfl, Step.left (Step.pulled (is := []) (A := []) hs' rfl)⟩)
end Go.Proofs
end

section
namespace Go.Proofs
open Go Go.Kx
def num_Nat_Bytes.b0 (x : Vx 64 4) (s0 : Int × List (BitVec 8)) : Option ((Int × List (BitVec 8)) ⊕ (List (BitVec 8))) :=
 if s0.1 < 32 then (if 0 ≤ w64 (3 - (w64 (s0.1.tdiv 8))) ∧ w64 (3 - (w64 (s0.1.tdiv 8))) < (4 : Int) then (if 0 ≤ w64 (56 - (w64 (8 * (s0.1.tmod 8)))) then (if 0 ≤ s0.1 ∧ s0.1 < (32 : Int) then (if (s0.1).toNat < (s0.2).length then (ltt (s0.2.set ((s0.1).toNat) (((vg x ((w64 (3 - (w64 (s0.1.tdiv 8)))).toNat)) >>> (w64 (56 - (w64 (8 * (s0.1.tmod 8))))).toNat).setWidth 8)) fun (m_1 : List (BitVec 8)) => (some (.inl (w64 (s0.1 + 1), m_1)))) else none) else none) else none) else none) else (some (.inr s0.2))
def num_Nat_Bytes (x : Vx 64 4) : Option (Str) :=
 (loop (num_Nat_Bytes.b0 x) BIG (0, List.replicate 32 0#8)).bind fun (t_1 : List (BitVec 8)) => (if (t_1).length = 32 then (some t_1) else none)
set_option maxHeartbeats 4000000 in
set_option maxRecDepth 20000 in
theorem F62_calls (x : Vx 64 4) (r : Str) (H : num_Nat_Bytes x = some r) :
  Does Try.prog 62 [aG [(4, e64 x.toList)]] [] [] (Γ := Unit) (fun g => vs r) (fun g => []) := by
 intro w hmem hro hd
 refine calls_of (N := 28) (m0 := [(0, aG [(4, e64 x.toList)])]) Try.func62 rfl Try.ntmps62 (argM_ok [aG [(4, e64 x.toList)]]) rfl hmem hro hd ?_
 unfold num_Nat_Bytes at H
 refine TC_seq ?_
 refine TC_region ?_
 refine TLe (E_boxP [(4, e64 x.toList)] rfl rfl ⟨(lenV (f := v64) x), trivial⟩) (fun b1 => ?_)
 refine TLv (V_assign rfl) ?_
 refine TL_nil ?_
 refine TX_next ?_
 refine TC_seq ?_
 refine TC_region ?_
 refine TLe (E_mk1 rfl rfl Try.underlying42 TryI.inf5 (z := v8 0#8) rfl rfl rfl (B := 1) rfl (by decide) (Int.le_refl _) (by decide) (by decide) (n' := 32) (c' := 32) rfl rfl (cs := e8 (List.replicate 32 0#8)) (rep_map (f := v8))) (fun b2 => ?_)
 refine TLv (V_assign rfl) ?_
 refine TL_nil ?_
 refine TX_next ?_
 refine TC_seq ?_
 refine TC_seq ?_
 refine TC_region ?_
 refine TLv (V_move rfl) ?_
 refine TLv (V_len_slice rfl Try.underlying42) ?_
 refine TLv (V_move rfl) ?_
 refine TL_nil ?_
 refine TX_next ?_
 refine TC_block ?_
 obtain ⟨t_1, Hl, H⟩ := bind_elim H
 refine TC.sub (m' := [(1, ptr (some (b1, 0)) 0), (3, sl (some (b2, 0)) 32 32), (7, vi 32), (8, vi 0)]) ⟨rfl, rfl, rfl, rfl, trivial⟩ ?_
 refine TC.pull (is := [1, 0]) (L' := [⟨some (b1, 0), e64 x.toList⟩, ⟨some (b2, 0), e8 (List.replicate 32 0#8)⟩]) rfl ?_
 refine TC_loopL (id := 0) (body := (num_Nat_Bytes.b0 x)) (σ := Int × List (BitVec 8)) (Γ := Unit) (Γx := Unit) (fun s0 g0_ => [(1, ptr (some (b1, 0)) 0), (3, sl (some (b2, 0)) 32 32), (7, vi 32), (8, vi s0.1)]) (fun s0 g0_ => [⟨some (b1, 0), e64 x.toList⟩, ⟨some (b2, 0), e8 s0.2⟩]) (fun t g => [(3, sl (some (b2, 0)) 32 32)]) (fun t g => [⟨some (b2, 0), e8 t⟩]) ?_ BIG (0, List.replicate 32 0#8) () t_1 Hl ?_
 ·intro s0 g0_ r1 H K hK hE
  unfold num_Nat_Bytes.b0 at H
  refine TC_seq ?_
  refine TC_region ?_
  refine TLv (V_bin rfl rfl (fun w => lssI w s0.1 32)) ?_
  refine TL_nil ?_
  refine TX_next ?_
  refine TC_seq ?_
  refine TC_cond (b := (decide (s0.1 < 32))) rfl (fun hc => ?_) (fun hc => ?_)
  ·replace H := ite_t (of_decide_eq_true hc) H
   refine TC_skip ?_
   refine TX_next ?_
   refine TC_seq ?_
   refine TC_block ?_
   refine TC_seq ?_
   refine TC_region ?_
   refine TLv (V_move rfl) ?_
   refine TLv (V_assign rfl) ?_
   refine TL_nil ?_
   refine TX_next ?_
   refine TC_region ?_
   refine TLv (V_move rfl) ?_
   refine TLv (V_move rfl) ?_
   refine TLv (V_move rfl) ?_
   refine TLv (V_bin rfl rfl (fun w => quoI w s0.1 8 (by decide))) ?_
   refine TLv (V_bin rfl rfl (fun w => subI w 3 (w64 (s0.1.tdiv 8)))) ?_
   obtain ⟨h1, H⟩ := if_elim H
   refine TLv (V_idxArr (i := w64 (3 - (w64 (s0.1.tdiv 8)))) rfl rfl Try.underlying57 TryI.inf55 rfl h1.1 h1.2 (k := (w64 (3 - (w64 (s0.1.tdiv 8)))).toNat) (k01 _)) ?_
   refine TLv (V_load rfl (.o 0) (get_vec (f := v64) (V := x) (toNat_lt h1.1 h1.2)) Try.isAgg55) ?_
   refine TLv (V_move rfl) ?_
   refine TLv (V_bin rfl rfl (fun w => remI w s0.1 8 (by decide))) ?_
   refine TLv (V_bin rfl rfl (fun w => mulI w 8 (s0.1.tmod 8))) ?_
   refine TLv (V_bin rfl rfl (fun w => subI w 56 (w64 (8 * (s0.1.tmod 8))))) ?_
   obtain ⟨h2, H⟩ := if_elim H
   refine TLv (V_bin rfl rfl (fun w => shr64 w (vg x ((w64 (3 - (w64 (s0.1.tdiv 8)))).toNat)) .i64 (w64 (56 - (w64 (8 * (s0.1.tmod 8))))) h2)) ?_
   refine TLv (V_conv rfl (fun w => cv64to8 w _ _ Try.underlying5 (TryI.und55) ((vg x ((w64 (3 - (w64 (s0.1.tdiv 8)))).toNat)) >>> (w64 (56 - (w64 (8 * (s0.1.tmod 8))))).toNat))) ?_
   obtain ⟨h3, H⟩ := if_elim H
   obtain ⟨h4, H⟩ := if_elim H
   refine TLv (V_idxSl (i := s0.1) rfl rfl Try.underlying42 TryI.inf5 rfl (fun _ h => by cases h) h3.1 h3.2 (k := (s0.1).toNat) (km1 _)) ?_
   refine TLn (E_store (j := 1) rfl rfl TryI.inf5 rfl rfl rfl (by simpa using h4) (cs' := e8 (s0.2.set ((s0.1).toNat) (((vg x ((w64 (3 - (w64 (s0.1.tdiv 8)))).toNat)) >>> (w64 (56 - (w64 (8 * (s0.1.tmod 8))))).toNat).setWidth 8))) (set_map (f := v8) (l := s0.2) (k := ((s0.1).toNat)) (x := (((vg x ((w64 (3 - (w64 (s0.1.tdiv 8)))).toNat)) >>> (w64 (56 - (w64 (8 * (s0.1.tmod 8))))).toNat).setWidth 8)))) (fun _ => ?_)
   obtain ⟨m_1, hm_1, H⟩ := ltt_elim H
   refine TL_reE (j := 1) (A := some (b2, 0)) (cs := e8 (s0.2.set ((s0.1).toNat) (((vg x ((w64 (3 - (w64 (s0.1.tdiv 8)))).toNat)) >>> (w64 (56 - (w64 (8 * (s0.1.tmod 8))))).toNat).setWidth 8))) (cs' := e8 m_1) rfl (congrArg (e8) hm_1) ?_
   refine TL_nil ?_
   refine TX_block_normal ?_
   refine TX_next ?_
   refine TC_region ?_
   refine TLv (V_bin rfl rfl (fun w => addI w s0.1 1)) ?_
   refine TLv (V_move rfl) ?_
   refine TL_nil ?_
   refine TX.sub (m' := [(1, ptr (some (b1, 0)) 0), (3, sl (some (b2, 0)) 32 32), (7, vi 32), (8, vi (w64 (s0.1 + 1)))]) ⟨rfl, rfl, rfl, rfl, trivial⟩ ?_
   refine TX.pull (is := [0, 0]) (L' := [⟨some (b1, 0), e64 x.toList⟩, ⟨some (b2, 0), e8 m_1⟩]) rfl ?_
   obtain rfl := Option.some.inj H
   exact fun a w hs => hK (w64 (s0.1 + 1), m_1) rfl () a w hs
  ·replace H := ite_f (of_decide_eq_false hc) H
   refine TC_exit ?_
   refine TX_then_exit ?_
   refine TX_then_exit ?_
   refine TX.sub (m' := [(3, sl (some (b2, 0)) 32 32)]) ⟨rfl, trivial⟩ ?_
   refine TX.pull (is := [1]) (L' := [⟨some (b2, 0), e8 s0.2⟩]) rfl ?_
   obtain rfl := Option.some.inj H
   exact hE s0.2 rfl ()
 ·intro g
  refine TX_block_exit ?_
  refine TX_next ?_
  refine TC_seq ?_
  refine TC_region ?_
  refine TLv (V_move rfl) ?_
  obtain ⟨h5, H⟩ := if_elim H
  refine TLv (V_b2s rfl Try.underlying42 Try.underlying5 Try.underlying9 (.o 0) h5) ?_
  refine TLv (V_assign rfl) ?_
  refine TL_nil ?_
  refine TX_next ?_
  refine TC_ret ?_
  have hrv := Option.some.inj H
  subst hrv
  exact TX_ret (rs := [.tmp 2]) (vs := [vs t_1]) rfl ⟨rfl, trivial⟩ (fun w' hs' => ⟨(), rfl, Step.left (Step.pulled (is := []) (A := []) hs' rfl)⟩)
end Go.Proofs
end

section
namespace Go.Proofs
open Go Go.Kx
open Vector (replicate)
def num_Field_Read (f_M : Vx 64 4) (f_inv : BitVec 64) (f_one : Vx 64 4) (f_two : Vx 64 4) (s_ : Str) : Option (Vx 64 4 × Bool) :=
 if ((s_).length : Int) ≠ 32 then (ltt ((replicate 4 0#64 : Vx 64 4)) fun (m_1 : Vx 64 4) => (some (m_1, false))) else ((num_Load s_).bind fun (r_1 : Vx 64 4) => ((num_Nat_Less r_1 f_M).bind fun (r_2 : Bool) => (some (r_1, r_2))))
def num_Field_Read_nil0 (s_ : Str) : Option (Vx 64 4) :=
 if ((s_).length : Int) ≠ 32 then (ltt ((replicate 4 0#64 : Vx 64 4)) fun (m_1 : Vx 64 4) => (some m_1)) else ((num_Load s_).bind fun (r_1 : Vx 64 4) => (none))
set_option maxHeartbeats 4000000 in
set_option maxRecDepth 20000 in
theorem F73_calls (bf : Nat) (obf : Nat) (f_M : Vx 64 4) (f_inv : BitVec 64) (f_one : Vx 64 4) (f_two : Vx 64 4) (s_ : Str) (r : Vx 64 4 × Bool) (H : num_Field_Read f_M f_inv f_one f_two s_ = some r) :
  Does Try.prog 73 [ptr (some (bf, obf)) 0, vs s_] [] [⟨some (bf, obf), e64 f_M.toList⟩, ⟨some (bf, obf + 4), [v64 f_inv]⟩, ⟨some (bf, obf + 5), e64 f_one.toList⟩, ⟨some (bf, obf + 9), e64 f_two.toList⟩] (Γ := Unit) (fun g => Value.tuple [aG [(4, e64 r.1.toList)], vb r.2].toArray) (fun g => []) := by
 intro w hmem hro hd
 refine calls_of (N := 20) (m0 := [(0, ptr (some (bf, obf)) 0), (1, vs s_)]) Try.func73 rfl Try.ntmps73 (argM_ok [ptr (some (bf, obf)) 0, vs s_]) rfl hmem hro hd ?_
 unfold num_Field_Read at H
 refine TC_seq ?_
 refine TC_region ?_
 refine TLe (E_al64 4 TryI.inf57 TryI.zer57) (fun b1 => ?_)
 refine TLv (V_assign rfl) ?_
 refine TL_nil ?_
 refine TX_next ?_
 refine TC_seq ?_
 refine TC_seq ?_
 refine TC_region ?_
 refine TLv (V_move rfl) ?_
 refine TLv (V_len_str rfl Try.underlying9) ?_
 refine TLv (V_bin rfl rfl (fun w => neqI w ((s_).length : Int) 32)) ?_
 refine TL_nil ?_
 refine TX_next ?_
 refine TC_cond (b := (decide (((s_).length : Int) ≠ 32))) rfl (fun hc => ?_) (fun hc => ?_)
 ·replace H := ite_t (of_decide_eq_true hc) H
  refine TC_seq ?_
  refine TC_region ?_
  refine TLv (V_buildArr (pv := []) rfl rfl Try.underlying57 TryI.inf57 TryI.inf55 rfl TryI.zer57 (cs := e64 ((replicate 4 0#64 : Vx 64 4).toList)) (by kernel_rfl)) ?_
  refine TLn (E_sv 0 TryI.inf57) (fun _ => ?_)
  obtain ⟨m_1, hm_1, H⟩ := ltt_elim H
  refine TL_reE (j := 0) (A := some (b1, 0)) (cs := e64 ((replicate 4 0#64 : Vx 64 4).toList)) (cs' := e64 m_1.toList) rfl (congrArg (fun z : Vx 64 4 => e64 (Vector.toList z)) hm_1) ?_
  refine TLv (V_assign rfl) ?_
  refine TL_nil ?_
  refine TX_next ?_
  refine TC_ret ?_
  refine TX_then_ret ?_
  have hrv := Option.some.inj H
  subst hrv
  exact TX_ret (rs := [.cell 4 57, .tmp 5]) (vs := [aG [(4, e64 m_1.toList)], vb false]) rfl ⟨(Res_agg (n := 4) rfl (by simp) (.o 0) Try.isAgg57 TryI.inf57 rfl (lenV (f := v64) m_1)), rfl, trivial⟩ (fun w' hs' => ⟨(), rfl, Step.left (Step.pulled (is := []) (A := []) hs' rfl)⟩)
 ·replace H := ite_f (of_decide_eq_false hc) H
  refine TC_skip ?_
  refine TX_next ?_
  refine TC_seq ?_
  refine TC_region ?_
  refine TLv (V_move rfl) ?_
  obtain ⟨r_1, hr_1, H⟩ := bind_elim H
  refine TLe (E_c0 (F55_calls s_ r_1 hr_1) Try.call55 .z) (fun g_1 => ?_)
  refine TLe (E_al64 4 TryI.inf57 TryI.zer57) (fun b2 => ?_)
  refine TLn (E_sv (vs := e64 r_1.toList) 0 TryI.inf57) (fun _ => ?_)
  refine TL_nil ?_
  refine TX_next ?_
  refine TC_seq ?_
  obtain ⟨r_2, hr_2, H⟩ := bind_elim H
  refine TA_begin [] 9 (by kernel_rfl) (N := 9) rfl ?_
  refine TA_mix (is := []) (done' := dn 9 127) [itV 0 13 (aG [(4, e64 r_1.toList)]) [], itV 1 14 (aG [(4, e64 r_1.toList)]) [], itV 2 15 (ptr (some (bf, obf)) 0) [], itV 3 16 (ptr (some (bf, obf)) 0) [2], itV 4 17 (ptr (some (bf, obf)) 0) [3], itV 5 18 (aG [(4, e64 f_M.toList)]) [4], itV 6 19 (vb r_2) [5, 1]] [] 2 (by kernel_rfl) (QP.then QP.body) (by kernel_rfl) rfl (.v rfl (V_lag (.o 0) Try.isAgg57 TryI.inf57) (.v rfl (V_lag (.o 0) Try.isAgg57 TryI.inf57) (.v rfl (V_move rfl) (.v rfl (V_nilCheck rfl) (.v rfl (V_fe Try.underlying113 TryI.inf57) (.v rfl (V_lag (.r 0) Try.isAgg57 TryI.inf57) (.e rfl (E_cu (F100_calls r_1 f_M r_2 hr_2) Try.call100 .z) .nil))))))) .nil (by kernel_rfl) rfl (fun γ => ?_)
  refine TA_cut [(19, vb r_2), (13, aG [(4, e64 r_1.toList)]), (5, vb false), (4, ptr (some (b1, 0)) 0)] [⟨some (b2, 0), e64 r_1.toList⟩, ⟨some (b1, 0), e64 ((replicate 4 0#64).toList)⟩] ⟨rfl, rfl, rfl, rfl, trivial⟩ rfl ?_
  refine TA_all (rs := [7]) (by kernel_rfl) rfl ?_
  refine ⟨?_, trivial⟩
  refine TO_n (is := []) (done' := dn 9 255) rfl rfl rfl (by kernel_rfl) (E_sv (vs := e64 r_1.toList) 1 TryI.inf57) (fun _ _ => rfl) (fun _ => ?_)
  refine TA_all (rs := [8]) (by kernel_rfl) rfl ?_
  refine ⟨?_, trivial⟩
  refine TO_v (is := []) (done' := dn 9 511) rfl rfl rfl rfl (by kernel_rfl) (V_assign rfl) (fun _ => rfl) ?_
  refine TA_done (by kernel_rfl) ?_ 0
  refine TX_next ?_
  refine TC_ret ?_
  have hrv := Option.some.inj H
  subst hrv
  exact TX_ret (rs := [.cell 4 57, .tmp 5]) (vs := [aG [(4, e64 r_1.toList)], vb r_2]) rfl ⟨(Res_agg (n := 4) rfl (by simp) (.o 1) Try.isAgg57 TryI.inf57 rfl (lenV (f := v64) r_1)), rfl, trivial⟩ (fun w' hs' => ⟨(), rfl, Step.left (Step.pulled (is := []) (A := []) hs' rfl)⟩)
set_option maxHeartbeats 4000000 in
set_option maxRecDepth 20000 in
theorem F73_nil0_calls (s_ : Str) (r : Vx 64 4) (H : num_Field_Read_nil0 s_ = some r) :
  Does Try.prog 73 [Value.pointer none, vs s_] [] [] (Γ := Unit) (fun g => Value.tuple [aG [(4, e64 r.toList)], vb false].toArray) (fun g => []) := by
 intro w hmem hro hd
 refine calls_of (N := 20) (m0 := [(0, Value.pointer none), (1, vs s_)]) Try.func73 rfl Try.ntmps73 (argM_ok [Value.pointer none, vs s_]) rfl hmem hro hd ?_
 unfold num_Field_Read_nil0 at H
 refine TC_seq ?_
 refine TC_region ?_
 refine TLe (E_al64 4 TryI.inf57 TryI.zer57) (fun b1 => ?_)
 refine TLv (V_assign rfl) ?_
 refine TL_nil ?_
 refine TX_next ?_
 refine TC_seq ?_
 refine TC_seq ?_
 refine TC_region ?_
 refine TLv (V_move rfl) ?_
 refine TLv (V_len_str rfl Try.underlying9) ?_
 refine TLv (V_bin rfl rfl (fun w => neqI w ((s_).length : Int) 32)) ?_
 refine TL_nil ?_
 refine TX_next ?_
 refine TC_cond (b := (decide (((s_).length : Int) ≠ 32))) rfl (fun hc => ?_) (fun hc => ?_)
 ·replace H := ite_t (of_decide_eq_true hc) H
  refine TC_seq ?_
  refine TC_region ?_
  refine TLv (V_buildArr (pv := []) rfl rfl Try.underlying57 TryI.inf57 TryI.inf55 rfl TryI.zer57 (cs := e64 ((replicate 4 0#64 : Vx 64 4).toList)) (by kernel_rfl)) ?_
  refine TLn (E_sv 0 TryI.inf57) (fun _ => ?_)
  obtain ⟨m_1, hm_1, H⟩ := ltt_elim H
  refine TL_reE (j := 0) (A := some (b1, 0)) (cs := e64 ((replicate 4 0#64 : Vx 64 4).toList)) (cs' := e64 m_1.toList) rfl (congrArg (fun z : Vx 64 4 => e64 (Vector.toList z)) hm_1) ?_
  refine TLv (V_assign rfl) ?_
  refine TL_nil ?_
  refine TX_next ?_
  refine TC_ret ?_
  refine TX_then_ret ?_
  have hrv := Option.some.inj H
  subst hrv
  exact TX_ret (rs := [.cell 4 57, .tmp 5]) (vs := [aG [(4, e64 m_1.toList)], vb false]) rfl ⟨(Res_agg (n := 4) rfl (by simp) (.o 0) Try.isAgg57 TryI.inf57 rfl (lenV (f := v64) m_1)), rfl, trivial⟩ (fun w' hs' => ⟨(), rfl, Step.left (Step.pulled (is := []) (A := []) hs' rfl)⟩)
 ·replace H := ite_f (of_decide_eq_false hc) H
  refine TC_skip ?_
  refine TX_next ?_
  refine TC_seq ?_
  refine TC_region ?_
  refine TLv (V_move rfl) ?_
  obtain ⟨r_1, hr_1, H⟩ := bind_elim H
  refine TLe (E_c0 (F55_calls s_ r_1 hr_1) Try.call55 .z) (fun g_1 => ?_)
  refine TLe (E_al64 4 TryI.inf57 TryI.zer57) (fun b2 => ?_)
  refine TLn (E_sv (vs := e64 r_1.toList) 0 TryI.inf57) (fun _ => ?_)
  refine TL_nil ?_
  refine TX_next ?_
  refine TC_seq ?_
  exact absurd (show (none : Option _) = some _ from H) (fun h => by cases h)
end Go.Proofs
end

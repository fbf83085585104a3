/-
  Part KS2 of the proofs of this seat: F63, F64, F53, F54, F52, F68.
-/
import Derived.Test.YtfihcdfpjleimaaK2
import Derived.Test.YtfihcdfpjleimaaKS1
section
namespace Go.Proofs
open Go Go.Kx
set_option linter.unusedVariables false
set_option linter.unusedSimpArgs false
def halberdref1_rot (x : BitVec 32) (k : Int) : Option (BitVec 32) :=
  if 0 ≤ k then (if 0 ≤ w64 (32 - k) then (ltt ((x >>> (k).toNat) ||| (x <<< (w64 (32 - k)).toNat)) fun (x1 : BitVec 32) => (some x1)) else none) else none

set_option maxHeartbeats 4000000 in
set_option maxRecDepth 20000 in
theorem F63_calls (x : BitVec 32) (k : Int) (r : BitVec 32) (H : halberdref1_rot x k = some r) :
    Does Try.prog 63 [v32 x, vi k] [] [] (Γ := Unit) (fun g => v32 r) (fun g => []) := by
  intro w hmem hro hd
  refine calls_of (N := 13) (m0 := [(0, v32 x), (1, vi k)]) Try.func63 rfl Try.ntmps63 (argM_ok [v32 x, vi k]) rfl hmem hro hd ?_
  unfold halberdref1_rot at H
  refine TC_seq ?_
  refine TC_region ?_
  refine TL_v rfl rfl rfl (V_assign rfl) ?_
  refine TL_nil ?_
  refine TX_next ?_
  refine TC_seq ?_
  obtain ⟨h1, H⟩ := if_elim H
  obtain ⟨h2, H⟩ := if_elim H
  obtain ⟨x1, hx1, H⟩ := ltt_elim H
  refine TA_begin [] 9 (by kernel_rfl) (N := 9) rfl ?_
  refine TA_take (i := 0) (is := []) (done' := #[true, false, false, false, false, false, false, false, false]) rfl rfl rfl rfl (by kernel_rfl) (QP.then QP.body) (by kernel_rfl) rfl (V_move rfl) ?_
  refine TA_take (i := 1) (is := []) (done' := #[true, true, false, false, false, false, false, false, false]) rfl rfl rfl rfl (by kernel_rfl) (QP.then QP.body) (by kernel_rfl) rfl (V_move rfl) ?_
  refine TA_take (i := 2) (is := []) (done' := #[true, true, true, false, false, false, false, false, false]) rfl rfl rfl rfl (by kernel_rfl) (QP.then QP.body) (by kernel_rfl) rfl (V_bin rfl rfl (fun w => shr32 w x .i64 k h1)) ?_
  refine TA_take (i := 3) (is := []) (done' := #[true, true, true, true, false, false, false, false, false]) rfl rfl rfl rfl (by kernel_rfl) (QP.then QP.body) (by kernel_rfl) rfl (V_move rfl) ?_
  refine TA_take (i := 4) (is := []) (done' := #[true, true, true, true, true, false, false, false, false]) rfl rfl rfl rfl (by kernel_rfl) (QP.then QP.body) (by kernel_rfl) rfl (V_move rfl) ?_
  refine TA_take (i := 5) (is := []) (done' := #[true, true, true, true, true, true, false, false, false]) rfl rfl rfl rfl (by kernel_rfl) (QP.then QP.body) (by kernel_rfl) rfl (V_bin rfl rfl (fun w => subI w 32 k)) ?_
  refine TA_take (i := 6) (is := []) (done' := #[true, true, true, true, true, true, true, false, false]) rfl rfl rfl rfl (by kernel_rfl) (QP.then QP.body) (by kernel_rfl) rfl (V_bin rfl rfl (fun w => shl32 w x .i64 (w64 (32 - k)) h2)) ?_
  refine TA_take (i := 7) (is := []) (done' := #[true, true, true, true, true, true, true, true, false]) rfl rfl rfl rfl (by kernel_rfl) (QP.then QP.body) (by kernel_rfl) rfl (V_bin rfl rfl (fun w => or32 w (x >>> (k).toNat) (x <<< (w64 (32 - k)).toNat))) ?_
  refine TA_take (i := 8) (is := []) (done' := #[true, true, true, true, true, true, true, true, true]) rfl rfl rfl rfl (by kernel_rfl) (QP.then QP.body) (by kernel_rfl) rfl (V_assign rfl) ?_
  refine TA_re (d := 4) (v := v32 ((x >>> (k).toNat) ||| (x <<< (w64 (32 - k)).toNat))) (v' := v32 x1) rfl (congrArg v32 hx1) ?_
  refine TA_done (by kernel_rfl) ?_ 0
  refine TX_next ?_
  refine TC_ret ?_
  have hrv := Option.some.inj H
  subst hrv
  exact TX_ret (rs := [.tmp 4]) (vs := [v32 x1]) rfl ⟨rfl, trivial⟩ (fun w' hs' => ⟨(), rfl, Step.left (Step.pulled (is := []) (A := []) hs' rfl)⟩)

end Go.Proofs
end

section
namespace Go.Proofs
open Go Go.Kx
set_option linter.unusedVariables false
set_option linter.unusedSimpArgs false
def halberdref1_turn (x : BitVec 64) (k : Int) : Option (BitVec 64) :=
  if 0 ≤ k then (if 0 ≤ w64 (64 - k) then (ltt ((x >>> (k).toNat) ||| (x <<< (w64 (64 - k)).toNat)) fun (x1 : BitVec 64) => (some x1)) else none) else none

set_option maxHeartbeats 4000000 in
set_option maxRecDepth 20000 in
theorem F64_calls (x : BitVec 64) (k : Int) (r : BitVec 64) (H : halberdref1_turn x k = some r) :
    Does Try.prog 64 [v64 x, vi k] [] [] (Γ := Unit) (fun g => v64 r) (fun g => []) := by
  intro w hmem hro hd
  refine calls_of (N := 13) (m0 := [(0, v64 x), (1, vi k)]) Try.func64 rfl Try.ntmps64 (argM_ok [v64 x, vi k]) rfl hmem hro hd ?_
  unfold halberdref1_turn at H
  refine TC_seq ?_
  refine TC_region ?_
  refine TL_v rfl rfl rfl (V_assign rfl) ?_
  refine TL_nil ?_
  refine TX_next ?_
  refine TC_seq ?_
  obtain ⟨h1, H⟩ := if_elim H
  obtain ⟨h2, H⟩ := if_elim H
  obtain ⟨x1, hx1, H⟩ := ltt_elim H
  refine TA_begin [] 9 (by kernel_rfl) (N := 9) rfl ?_
  refine TA_take (i := 0) (is := []) (done' := #[true, false, false, false, false, false, false, false, false]) rfl rfl rfl rfl (by kernel_rfl) (QP.then QP.body) (by kernel_rfl) rfl (V_move rfl) ?_
  refine TA_take (i := 1) (is := []) (done' := #[true, true, false, false, false, false, false, false, false]) rfl rfl rfl rfl (by kernel_rfl) (QP.then QP.body) (by kernel_rfl) rfl (V_move rfl) ?_
  refine TA_take (i := 2) (is := []) (done' := #[true, true, true, false, false, false, false, false, false]) rfl rfl rfl rfl (by kernel_rfl) (QP.then QP.body) (by kernel_rfl) rfl (V_bin rfl rfl (fun w => shr64 w x .i64 k h1)) ?_
  refine TA_take (i := 3) (is := []) (done' := #[true, true, true, true, false, false, false, false, false]) rfl rfl rfl rfl (by kernel_rfl) (QP.then QP.body) (by kernel_rfl) rfl (V_move rfl) ?_
  refine TA_take (i := 4) (is := []) (done' := #[true, true, true, true, true, false, false, false, false]) rfl rfl rfl rfl (by kernel_rfl) (QP.then QP.body) (by kernel_rfl) rfl (V_move rfl) ?_
  refine TA_take (i := 5) (is := []) (done' := #[true, true, true, true, true, true, false, false, false]) rfl rfl rfl rfl (by kernel_rfl) (QP.then QP.body) (by kernel_rfl) rfl (V_bin rfl rfl (fun w => subI w 64 k)) ?_
  refine TA_take (i := 6) (is := []) (done' := #[true, true, true, true, true, true, true, false, false]) rfl rfl rfl rfl (by kernel_rfl) (QP.then QP.body) (by kernel_rfl) rfl (V_bin rfl rfl (fun w => shl64 w x .i64 (w64 (64 - k)) h2)) ?_
  refine TA_take (i := 7) (is := []) (done' := #[true, true, true, true, true, true, true, true, false]) rfl rfl rfl rfl (by kernel_rfl) (QP.then QP.body) (by kernel_rfl) rfl (V_bin rfl rfl (fun w => or64 w (x >>> (k).toNat) (x <<< (w64 (64 - k)).toNat))) ?_
  refine TA_take (i := 8) (is := []) (done' := #[true, true, true, true, true, true, true, true, true]) rfl rfl rfl rfl (by kernel_rfl) (QP.then QP.body) (by kernel_rfl) rfl (V_assign rfl) ?_
  refine TA_re (d := 4) (v := v64 ((x >>> (k).toNat) ||| (x <<< (w64 (64 - k)).toNat))) (v' := v64 x1) rfl (congrArg v64 hx1) ?_
  refine TA_done (by kernel_rfl) ?_ 0
  refine TX_next ?_
  refine TC_ret ?_
  have hrv := Option.some.inj H
  subst hrv
  exact TX_ret (rs := [.tmp 4]) (vs := [v64 x1]) rfl ⟨rfl, trivial⟩ (fun w' hs' => ⟨(), rfl, Step.left (Step.pulled (is := []) (A := []) hs' rfl)⟩)

end Go.Proofs
end

section
namespace Go.Proofs
open Go Go.Kx
set_option linter.unusedVariables false
set_option linter.unusedSimpArgs false
def halberdref1_block256.b0 (s_ : Str) (s0 : Int × Vector (BitVec 32) 64) : Option ((Int × Vector (BitVec 32) 64) ⊕ (Vector (BitVec 32) 64)) :=
  if s0.1 < 16 then (if 0 ≤ w64 (4 * s0.1) ∧ w64 (4 * s0.1) < ((s_).length : Int) then (if 0 ≤ w64 ((w64 (4 * s0.1)) + 1) ∧ w64 ((w64 (4 * s0.1)) + 1) < ((s_).length : Int) then (if 0 ≤ w64 ((w64 (4 * s0.1)) + 2) ∧ w64 ((w64 (4 * s0.1)) + 2) < ((s_).length : Int) then (if 0 ≤ w64 ((w64 (4 * s0.1)) + 3) ∧ w64 ((w64 (4 * s0.1)) + 3) < ((s_).length : Int) then (if 0 ≤ s0.1 ∧ s0.1 < (64 : Int) then (ltt (vp s0.2 ((s0.1).toNat) ((((((sg s_ (w64 (4 * s0.1))).setWidth 32) <<< 24) ||| (((sg s_ (w64 ((w64 (4 * s0.1)) + 1))).setWidth 32) <<< 16)) ||| (((sg s_ (w64 ((w64 (4 * s0.1)) + 2))).setWidth 32) <<< 8)) ||| ((sg s_ (w64 ((w64 (4 * s0.1)) + 3))).setWidth 32))) fun (m_2 : Vector (BitVec 32) 64) => (ltt (w64 (s0.1 + 1)) fun (i1 : Int) => (some (.inl (i1, m_2))))) else none) else none) else none) else none) else none) else (some (.inr s0.2))

def halberdref1_block256.b1  (s1 : Int × Vector (BitVec 32) 64) : Option ((Int × Vector (BitVec 32) 64) ⊕ (Vector (BitVec 32) 64)) :=
  if s1.1 < 64 then (if 0 ≤ w64 (s1.1 - 15) ∧ w64 (s1.1 - 15) < (64 : Int) then ((halberdref1_rot (vg s1.2 ((w64 (s1.1 - 15)).toNat)) 7).bind fun (r_1 : BitVec 32) => (if 0 ≤ w64 (s1.1 - 15) ∧ w64 (s1.1 - 15) < (64 : Int) then ((halberdref1_rot (vg s1.2 ((w64 (s1.1 - 15)).toNat)) 18).bind fun (r_2 : BitVec 32) => (if 0 ≤ w64 (s1.1 - 15) ∧ w64 (s1.1 - 15) < (64 : Int) then (ltt ((r_1 ^^^ r_2) ^^^ ((vg s1.2 ((w64 (s1.1 - 15)).toNat)) >>> 3)) fun (a_1 : BitVec 32) => (if 0 ≤ w64 (s1.1 - 2) ∧ w64 (s1.1 - 2) < (64 : Int) then ((halberdref1_rot (vg s1.2 ((w64 (s1.1 - 2)).toNat)) 17).bind fun (r_3 : BitVec 32) => (if 0 ≤ w64 (s1.1 - 2) ∧ w64 (s1.1 - 2) < (64 : Int) then ((halberdref1_rot (vg s1.2 ((w64 (s1.1 - 2)).toNat)) 19).bind fun (r_4 : BitVec 32) => (if 0 ≤ w64 (s1.1 - 2) ∧ w64 (s1.1 - 2) < (64 : Int) then (ltt ((r_3 ^^^ r_4) ^^^ ((vg s1.2 ((w64 (s1.1 - 2)).toNat)) >>> 10)) fun (b5 : BitVec 32) => (if 0 ≤ w64 (s1.1 - 16) ∧ w64 (s1.1 - 16) < (64 : Int) then (if 0 ≤ w64 (s1.1 - 7) ∧ w64 (s1.1 - 7) < (64 : Int) then (if 0 ≤ s1.1 ∧ s1.1 < (64 : Int) then (ltt (vp s1.2 ((s1.1).toNat) ((((vg s1.2 ((w64 (s1.1 - 16)).toNat)) + a_1) + (vg s1.2 ((w64 (s1.1 - 7)).toNat))) + b5)) fun (m_3 : Vector (BitVec 32) 64) => (ltt (w64 (s1.1 + 1)) fun (i2 : Int) => (some (.inl (i2, m_3))))) else none) else none) else none)) else none)) else none)) else none)) else none)) else none)) else none) else (some (.inr s1.2))

def halberdref1_block256.b2 (m_1 : Vector (BitVec 32) 64) (t_2 : Vector (BitVec 32) 64) (s2 : Int × Vector (BitVec 32) 8) : Option ((Int × Vector (BitVec 32) 8) ⊕ (Vector (BitVec 32) 8)) :=
  if s2.1 < 64 then ((halberdref1_rot (vg s2.2 4) 6).bind fun (r_5 : BitVec 32) => ((halberdref1_rot (vg s2.2 4) 11).bind fun (r_6 : BitVec 32) => ((halberdref1_rot (vg s2.2 4) 25).bind fun (r_7 : BitVec 32) => (ltt ((r_5 ^^^ r_6) ^^^ r_7) fun (a_2 : BitVec 32) => (if 0 ≤ s2.1 ∧ s2.1 < (64 : Int) then (if 0 ≤ s2.1 ∧ s2.1 < (64 : Int) then (ltt (((((vg s2.2 7) + a_2) + (((vg s2.2 4) &&& (vg s2.2 5)) ^^^ ((~~~(vg s2.2 4)) &&& (vg s2.2 6)))) + (vg m_1 ((s2.1).toNat))) + (vg t_2 ((s2.1).toNat))) fun (t_4 : BitVec 32) => ((halberdref1_rot (vg s2.2 0) 2).bind fun (r_8 : BitVec 32) => ((halberdref1_rot (vg s2.2 0) 13).bind fun (r_9 : BitVec 32) => ((halberdref1_rot (vg s2.2 0) 22).bind fun (r_10 : BitVec 32) => (ltt ((r_8 ^^^ r_9) ^^^ r_10) fun (b7 : BitVec 32) => (ltt (b7 + ((((vg s2.2 0) &&& (vg s2.2 1)) ^^^ ((vg s2.2 0) &&& (vg s2.2 2))) ^^^ ((vg s2.2 1) &&& (vg s2.2 2)))) fun (u1 : BitVec 32) => (ltt ((#v[t_4 + u1, vg s2.2 0, vg s2.2 1, vg s2.2 2, (vg s2.2 3) + t_4, vg s2.2 4, vg s2.2 5, vg s2.2 6] : Vector (BitVec 32) 8)) fun (m_4 : Vector (BitVec 32) 8) => (ltt (w64 (s2.1 + 1)) fun (i3 : Int) => (some (.inl (i3, m_4))))))))))) else none) else none))))) else (some (.inr s2.2))

def halberdref1_block256.b3 (t_3 : Vector (BitVec 32) 8) (s3 : Int × Vector (BitVec 32) 8) : Option ((Int × Vector (BitVec 32) 8) ⊕ (Vector (BitVec 32) 8)) :=
  if s3.1 < 8 then (if 0 ≤ s3.1 ∧ s3.1 < (8 : Int) then (if 0 ≤ s3.1 ∧ s3.1 < (8 : Int) then (if 0 ≤ s3.1 ∧ s3.1 < (8 : Int) then (ltt (vp s3.2 ((s3.1).toNat) ((vg s3.2 ((s3.1).toNat)) + (vg t_3 ((s3.1).toNat)))) fun (m_5 : Vector (BitVec 32) 8) => (ltt (w64 (s3.1 + 1)) fun (i4 : Int) => (some (.inl (i4, m_5))))) else none) else none) else none) else (some (.inr s3.2))

def halberdref1_block256 (h : Vector (BitVec 32) 8) (s_ : Str) : Option (Vector (BitVec 32) 8) :=
  ltt ((#v[1116352408#32, 1899447441#32, 3049323471#32, 3921009573#32, 961987163#32, 1508970993#32, 2453635748#32, 2870763221#32, 3624381080#32, 310598401#32, 607225278#32, 1426881987#32, 1925078388#32, 2162078206#32, 2614888103#32, 3248222580#32, 3835390401#32, 4022224774#32, 264347078#32, 604807628#32, 770255983#32, 1249150122#32, 1555081692#32, 1996064986#32, 2554220882#32, 2821834349#32, 2952996808#32, 3210313671#32, 3336571891#32, 3584528711#32, 113926993#32, 338241895#32, 666307205#32, 773529912#32, 1294757372#32, 1396182291#32, 1695183700#32, 1986661051#32, 2177026350#32, 2456956037#32, 2730485921#32, 2820302411#32, 3259730800#32, 3345764771#32, 3516065817#32, 3600352804#32, 4094571909#32, 275423344#32, 430227734#32, 506948616#32, 659060556#32, 883997877#32, 958139571#32, 1322822218#32, 1537002063#32, 1747873779#32, 1955562222#32, 2024104815#32, 2227730452#32, 2361852424#32, 2428436474#32, 2756734187#32, 3204031479#32, 3329325298#32] : Vector (BitVec 32) 64)) fun (m_1 : Vector (BitVec 32) 64) => ((loop (halberdref1_block256.b0 s_) BIG (0, Vector.replicate 64 0#32)).bind fun (t_1 : Vector (BitVec 32) 64) => ((loop (halberdref1_block256.b1) BIG (16, t_1)).bind fun (t_2 : Vector (BitVec 32) 64) => ((loop (halberdref1_block256.b2 m_1 t_2) BIG (0, h)).bind fun (t_3 : Vector (BitVec 32) 8) => ((loop (halberdref1_block256.b3 t_3) BIG (0, h)).bind fun (t_5 : Vector (BitVec 32) 8) => (some t_5)))))

set_option maxHeartbeats 4000000 in
set_option maxRecDepth 20000 in
theorem F53_calls (h : Vector (BitVec 32) 8) (s_ : Str) (r : Vector (BitVec 32) 8) (H : halberdref1_block256 h s_ = some r) :
    Does Try.prog 53 [Value.agg (flat [(8, e32 h.toList)]).toArray, vs s_] [] [] (Γ := Unit) (fun g => Value.agg (flat [(8, e32 r.toList)]).toArray) (fun g => []) := by
  intro w hmem hro hd
  refine calls_of (N := 212) (m0 := [(0, Value.agg (flat [(8, e32 h.toList)]).toArray), (1, vs s_)]) Try.func53 rfl Try.ntmps53 (argM_ok [Value.agg (flat [(8, e32 h.toList)]).toArray, vs s_]) rfl hmem hro hd ?_
  unfold halberdref1_block256 at H
  refine TC_seq ?_
  refine TC_region ?_
  refine TL_e rfl rfl rfl (E_boxP [(8, e32 h.toList)] rfl rfl ⟨(lenV (f := v32) h), trivial⟩) (fun b1 => ?_)
  refine TL_e rfl rfl rfl (E_allocP [(8, e32 ((Vector.replicate 8 0#32).toList))] TryI.inf68 TryI.zer68 ⟨(lenV (f := v32) (Vector.replicate 8 0#32)), trivial⟩) (fun b2 => ?_)
  refine TL_nil ?_
  refine TX_next ?_
  refine TC_seq ?_
  refine TC_region ?_
  refine TL_v rfl rfl rfl (V_buildArr (pv := [(0, v32 1116352408#32), (1, v32 1899447441#32), (2, v32 3049323471#32), (3, v32 3921009573#32), (4, v32 961987163#32), (5, v32 1508970993#32), (6, v32 2453635748#32), (7, v32 2870763221#32), (8, v32 3624381080#32), (9, v32 310598401#32), (10, v32 607225278#32), (11, v32 1426881987#32), (12, v32 1925078388#32), (13, v32 2162078206#32), (14, v32 2614888103#32), (15, v32 3248222580#32), (16, v32 3835390401#32), (17, v32 4022224774#32), (18, v32 264347078#32), (19, v32 604807628#32), (20, v32 770255983#32), (21, v32 1249150122#32), (22, v32 1555081692#32), (23, v32 1996064986#32), (24, v32 2554220882#32), (25, v32 2821834349#32), (26, v32 2952996808#32), (27, v32 3210313671#32), (28, v32 3336571891#32), (29, v32 3584528711#32), (30, v32 113926993#32), (31, v32 338241895#32), (32, v32 666307205#32), (33, v32 773529912#32), (34, v32 1294757372#32), (35, v32 1396182291#32), (36, v32 1695183700#32), (37, v32 1986661051#32), (38, v32 2177026350#32), (39, v32 2456956037#32), (40, v32 2730485921#32), (41, v32 2820302411#32), (42, v32 3259730800#32), (43, v32 3345764771#32), (44, v32 3516065817#32), (45, v32 3600352804#32), (46, v32 4094571909#32), (47, v32 275423344#32), (48, v32 430227734#32), (49, v32 506948616#32), (50, v32 659060556#32), (51, v32 883997877#32), (52, v32 958139571#32), (53, v32 1322822218#32), (54, v32 1537002063#32), (55, v32 1747873779#32), (56, v32 1955562222#32), (57, v32 2024104815#32), (58, v32 2227730452#32), (59, v32 2361852424#32), (60, v32 2428436474#32), (61, v32 2756734187#32), (62, v32 3204031479#32), (63, v32 3329325298#32)]) rfl rfl Try.underlying83 TryI.inf83 TryI.inf67 rfl TryI.zer83 (cs := e32 ((#v[1116352408#32, 1899447441#32, 3049323471#32, 3921009573#32, 961987163#32, 1508970993#32, 2453635748#32, 2870763221#32, 3624381080#32, 310598401#32, 607225278#32, 1426881987#32, 1925078388#32, 2162078206#32, 2614888103#32, 3248222580#32, 3835390401#32, 4022224774#32, 264347078#32, 604807628#32, 770255983#32, 1249150122#32, 1555081692#32, 1996064986#32, 2554220882#32, 2821834349#32, 2952996808#32, 3210313671#32, 3336571891#32, 3584528711#32, 113926993#32, 338241895#32, 666307205#32, 773529912#32, 1294757372#32, 1396182291#32, 1695183700#32, 1986661051#32, 2177026350#32, 2456956037#32, 2730485921#32, 2820302411#32, 3259730800#32, 3345764771#32, 3516065817#32, 3600352804#32, 4094571909#32, 275423344#32, 430227734#32, 506948616#32, 659060556#32, 883997877#32, 958139571#32, 1322822218#32, 1537002063#32, 1747873779#32, 1955562222#32, 2024104815#32, 2227730452#32, 2361852424#32, 2428436474#32, 2756734187#32, 3204031479#32, 3329325298#32] : Vector (BitVec 32) 64).toList)) (by kernel_rfl)) ?_
  refine TL_e rfl rfl rfl (E_allocP [(64, e32 ((Vector.replicate 64 0#32).toList))] TryI.inf83 TryI.zer83 ⟨(lenV (f := v32) (Vector.replicate 64 0#32)), trivial⟩) (fun b3 => ?_)
  refine TL_n rfl rfl (E_storeAgg (n := 64) (j := 0) (vs := e32 ((#v[1116352408#32, 1899447441#32, 3049323471#32, 3921009573#32, 961987163#32, 1508970993#32, 2453635748#32, 2870763221#32, 3624381080#32, 310598401#32, 607225278#32, 1426881987#32, 1925078388#32, 2162078206#32, 2614888103#32, 3248222580#32, 3835390401#32, 4022224774#32, 264347078#32, 604807628#32, 770255983#32, 1249150122#32, 1555081692#32, 1996064986#32, 2554220882#32, 2821834349#32, 2952996808#32, 3210313671#32, 3336571891#32, 3584528711#32, 113926993#32, 338241895#32, 666307205#32, 773529912#32, 1294757372#32, 1396182291#32, 1695183700#32, 1986661051#32, 2177026350#32, 2456956037#32, 2730485921#32, 2820302411#32, 3259730800#32, 3345764771#32, 3516065817#32, 3600352804#32, 4094571909#32, 275423344#32, 430227734#32, 506948616#32, 659060556#32, 883997877#32, 958139571#32, 1322822218#32, 1537002063#32, 1747873779#32, 1955562222#32, 2024104815#32, 2227730452#32, 2361852424#32, 2428436474#32, 2756734187#32, 3204031479#32, 3329325298#32] : Vector (BitVec 32) 64).toList)) rfl rfl TryI.inf83 rfl (lenV (f := v32) (#v[1116352408#32, 1899447441#32, 3049323471#32, 3921009573#32, 961987163#32, 1508970993#32, 2453635748#32, 2870763221#32, 3624381080#32, 310598401#32, 607225278#32, 1426881987#32, 1925078388#32, 2162078206#32, 2614888103#32, 3248222580#32, 3835390401#32, 4022224774#32, 264347078#32, 604807628#32, 770255983#32, 1249150122#32, 1555081692#32, 1996064986#32, 2554220882#32, 2821834349#32, 2952996808#32, 3210313671#32, 3336571891#32, 3584528711#32, 113926993#32, 338241895#32, 666307205#32, 773529912#32, 1294757372#32, 1396182291#32, 1695183700#32, 1986661051#32, 2177026350#32, 2456956037#32, 2730485921#32, 2820302411#32, 3259730800#32, 3345764771#32, 3516065817#32, 3600352804#32, 4094571909#32, 275423344#32, 430227734#32, 506948616#32, 659060556#32, 883997877#32, 958139571#32, 1322822218#32, 1537002063#32, 1747873779#32, 1955562222#32, 2024104815#32, 2227730452#32, 2361852424#32, 2428436474#32, 2756734187#32, 3204031479#32, 3329325298#32] : Vector (BitVec 32) 64)) (OneC.map (fun _ => rfl) _) rfl (Nat.le_of_eq (by simp)) (cs' := e32 ((#v[1116352408#32, 1899447441#32, 3049323471#32, 3921009573#32, 961987163#32, 1508970993#32, 2453635748#32, 2870763221#32, 3624381080#32, 310598401#32, 607225278#32, 1426881987#32, 1925078388#32, 2162078206#32, 2614888103#32, 3248222580#32, 3835390401#32, 4022224774#32, 264347078#32, 604807628#32, 770255983#32, 1249150122#32, 1555081692#32, 1996064986#32, 2554220882#32, 2821834349#32, 2952996808#32, 3210313671#32, 3336571891#32, 3584528711#32, 113926993#32, 338241895#32, 666307205#32, 773529912#32, 1294757372#32, 1396182291#32, 1695183700#32, 1986661051#32, 2177026350#32, 2456956037#32, 2730485921#32, 2820302411#32, 3259730800#32, 3345764771#32, 3516065817#32, 3600352804#32, 4094571909#32, 275423344#32, 430227734#32, 506948616#32, 659060556#32, 883997877#32, 958139571#32, 1322822218#32, 1537002063#32, 1747873779#32, 1955562222#32, 2024104815#32, 2227730452#32, 2361852424#32, 2428436474#32, 2756734187#32, 3204031479#32, 3329325298#32] : Vector (BitVec 32) 64).toList)) (splice_all (by simp))) (fun _ => ?_)
  obtain ⟨m_1, hm_1, H⟩ := ltt_elim H
  refine TL_reE (j := 0) (A := some (b3, 0)) (cs := e32 ((#v[1116352408#32, 1899447441#32, 3049323471#32, 3921009573#32, 961987163#32, 1508970993#32, 2453635748#32, 2870763221#32, 3624381080#32, 310598401#32, 607225278#32, 1426881987#32, 1925078388#32, 2162078206#32, 2614888103#32, 3248222580#32, 3835390401#32, 4022224774#32, 264347078#32, 604807628#32, 770255983#32, 1249150122#32, 1555081692#32, 1996064986#32, 2554220882#32, 2821834349#32, 2952996808#32, 3210313671#32, 3336571891#32, 3584528711#32, 113926993#32, 338241895#32, 666307205#32, 773529912#32, 1294757372#32, 1396182291#32, 1695183700#32, 1986661051#32, 2177026350#32, 2456956037#32, 2730485921#32, 2820302411#32, 3259730800#32, 3345764771#32, 3516065817#32, 3600352804#32, 4094571909#32, 275423344#32, 430227734#32, 506948616#32, 659060556#32, 883997877#32, 958139571#32, 1322822218#32, 1537002063#32, 1747873779#32, 1955562222#32, 2024104815#32, 2227730452#32, 2361852424#32, 2428436474#32, 2756734187#32, 3204031479#32, 3329325298#32] : Vector (BitVec 32) 64).toList)) (cs' := e32 m_1.toList) rfl (congrArg (fun z : Vector (BitVec 32) 64 => e32 (Vector.toList z)) hm_1) ?_
  refine TL_nil ?_
  refine TX_next ?_
  refine TC_seq ?_
  refine TC_region ?_
  refine TL_e rfl rfl rfl (E_allocP [(64, e32 ((Vector.replicate 64 0#32).toList))] TryI.inf83 TryI.zer83 ⟨(lenV (f := v32) (Vector.replicate 64 0#32)), trivial⟩) (fun b4 => ?_)
  refine TL_nil ?_
  refine TX_next ?_
  refine TC_seq ?_
  refine TC_seq ?_
  refine TC_region ?_
  refine TL_v rfl rfl rfl (V_assign rfl) ?_
  refine TL_nil ?_
  refine TX_next ?_
  refine TC_block ?_
  obtain ⟨t_1, Hl, H⟩ := bind_elim H
  refine TC.sub (m' := [(1, vs s_), (2, ptr (some (b1, 0)) 0), (4, ptr (some (b2, 0)) 0), (5, ptr (some (b3, 0)) 0), (6, ptr (some (b4, 0)) 0), (7, vi 0)]) ⟨rfl, rfl, rfl, rfl, rfl, rfl, trivial⟩ ?_
  refine TC.pull (is := [3, 2, 1, 0]) (L' := [⟨some (b1, 0), e32 h.toList⟩, ⟨some (b2, 0), e32 ((Vector.replicate 8 0#32).toList)⟩, ⟨some (b3, 0), e32 m_1.toList⟩, ⟨some (b4, 0), e32 ((Vector.replicate 64 0#32).toList)⟩]) rfl ?_
  refine TC_loopL (id := 0) (body := (halberdref1_block256.b0 s_)) (σ := Int × Vector (BitVec 32) 64) (Γ := Unit) (Γx := Unit) (fun s0 g0_ => [(1, vs s_), (2, ptr (some (b1, 0)) 0), (4, ptr (some (b2, 0)) 0), (5, ptr (some (b3, 0)) 0), (6, ptr (some (b4, 0)) 0), (7, vi s0.1)]) (fun s0 g0_ => [⟨some (b1, 0), e32 h.toList⟩, ⟨some (b2, 0), e32 ((Vector.replicate 8 0#32).toList)⟩, ⟨some (b3, 0), e32 m_1.toList⟩, ⟨some (b4, 0), e32 s0.2.toList⟩]) (fun t g => [(2, ptr (some (b1, 0)) 0), (4, ptr (some (b2, 0)) 0), (5, ptr (some (b3, 0)) 0), (6, ptr (some (b4, 0)) 0)]) (fun t g => [⟨some (b1, 0), e32 h.toList⟩, ⟨some (b2, 0), e32 ((Vector.replicate 8 0#32).toList)⟩, ⟨some (b3, 0), e32 m_1.toList⟩, ⟨some (b4, 0), e32 t.toList⟩]) ?_ BIG (0, Vector.replicate 64 0#32) () t_1 Hl ?_
  · intro s0 g0_ r1 H K hK hE
    unfold halberdref1_block256.b0 at H
    refine TC_seq ?_
    refine TC_seq ?_
    refine TC_region ?_
    refine TL_v rfl rfl rfl (V_move rfl) ?_
    refine TL_v rfl rfl rfl (V_bin rfl rfl (fun w => lssI w s0.1 16)) ?_
    refine TL_nil ?_
    refine TX_next ?_
    refine TC_cond (b := (decide (s0.1 < 16))) rfl (fun hc => ?_) (fun hc => ?_)
    · replace H := ite_t (of_decide_eq_true hc) H
      refine TC_skip ?_
      refine TX_next ?_
      refine TC_seq ?_
      refine TC_block ?_
      obtain ⟨h1, H⟩ := if_elim H
      obtain ⟨h2, H⟩ := if_elim H
      obtain ⟨h3, H⟩ := if_elim H
      obtain ⟨h4, H⟩ := if_elim H
      obtain ⟨h5, H⟩ := if_elim H
      obtain ⟨m_2, hm_2, H⟩ := ltt_elim H
      refine TA_begin [⟨some (b1, 0), e32 h.toList⟩, ⟨some (b2, 0), e32 ((Vector.replicate 8 0#32).toList)⟩, ⟨some (b3, 0), e32 m_1.toList⟩, ⟨some (b4, 0), e32 s0.2.toList⟩] 31 (by kernel_rfl) (N := 32) rfl ?_
      refine TA_take (i := 0) (is := [0, 0, 0, 0]) (done' := #[true, false, false, false, false, false, false, false, false, false, false, false, false, false, false, false, false, false, false, false, false, false, false, false, false, false, false, false, false, false, false, false]) rfl rfl rfl rfl (by kernel_rfl) (QP.block (QP.then (QP.then (QP.block (QP.then QP.body))))) (by kernel_rfl) rfl (V_move rfl) ?_
      refine TA_take (i := 1) (is := [0, 0, 0, 0]) (done' := #[true, true, false, false, false, false, false, false, false, false, false, false, false, false, false, false, false, false, false, false, false, false, false, false, false, false, false, false, false, false, false, false]) rfl rfl rfl rfl (by kernel_rfl) (QP.block (QP.then (QP.then (QP.block (QP.then QP.body))))) (by kernel_rfl) rfl (V_move rfl) ?_
      refine TA_take (i := 2) (is := [0, 0, 0, 0]) (done' := #[true, true, true, false, false, false, false, false, false, false, false, false, false, false, false, false, false, false, false, false, false, false, false, false, false, false, false, false, false, false, false, false]) rfl rfl rfl rfl (by kernel_rfl) (QP.block (QP.then (QP.then (QP.block (QP.then QP.body))))) (by kernel_rfl) rfl (V_move rfl) ?_
      refine TA_take (i := 3) (is := [0, 0, 0, 0]) (done' := #[true, true, true, true, false, false, false, false, false, false, false, false, false, false, false, false, false, false, false, false, false, false, false, false, false, false, false, false, false, false, false, false]) rfl rfl rfl rfl (by kernel_rfl) (QP.block (QP.then (QP.then (QP.block (QP.then QP.body))))) (by kernel_rfl) rfl (V_bin rfl rfl (fun w => mulI w 4 s0.1)) ?_
      refine TA_take (i := 4) (is := [0, 0, 0, 0]) (done' := #[true, true, true, true, true, false, false, false, false, false, false, false, false, false, false, false, false, false, false, false, false, false, false, false, false, false, false, false, false, false, false, false]) rfl rfl rfl rfl (by kernel_rfl) (QP.block (QP.then (QP.then (QP.block (QP.then QP.body))))) (by kernel_rfl) rfl (V_idxStr rfl rfl (i := w64 (4 * s0.1)) Try.underlying9 h1.1 h1.2) ?_
      refine TA_take (i := 5) (is := [0, 0, 0, 0]) (done' := #[true, true, true, true, true, true, false, false, false, false, false, false, false, false, false, false, false, false, false, false, false, false, false, false, false, false, false, false, false, false, false, false]) rfl rfl rfl rfl (by kernel_rfl) (QP.block (QP.then (QP.then (QP.block (QP.then QP.body))))) (by kernel_rfl) rfl (V_conv rfl (fun w => cv8to32 w _ _ Try.underlying67 (TryI.und5) (sg s_ (w64 (4 * s0.1))))) ?_
      refine TA_take (i := 6) (is := [0, 0, 0, 0]) (done' := #[true, true, true, true, true, true, true, false, false, false, false, false, false, false, false, false, false, false, false, false, false, false, false, false, false, false, false, false, false, false, false, false]) rfl rfl rfl rfl (by kernel_rfl) (QP.block (QP.then (QP.then (QP.block (QP.then QP.body))))) (by kernel_rfl) rfl (V_bin rfl rfl (fun w => shl32 w ((sg s_ (w64 (4 * s0.1))).setWidth 32) .u64 24 (by decide))) ?_
      refine TA_take (i := 7) (is := [0, 0, 0, 0]) (done' := #[true, true, true, true, true, true, true, true, false, false, false, false, false, false, false, false, false, false, false, false, false, false, false, false, false, false, false, false, false, false, false, false]) rfl rfl rfl rfl (by kernel_rfl) (QP.block (QP.then (QP.then (QP.block (QP.then QP.body))))) (by kernel_rfl) rfl (V_move rfl) ?_
      refine TA_take (i := 8) (is := [0, 0, 0, 0]) (done' := #[true, true, true, true, true, true, true, true, true, false, false, false, false, false, false, false, false, false, false, false, false, false, false, false, false, false, false, false, false, false, false, false]) rfl rfl rfl rfl (by kernel_rfl) (QP.block (QP.then (QP.then (QP.block (QP.then QP.body))))) (by kernel_rfl) rfl (V_move rfl) ?_
      refine TA_take (i := 9) (is := [0, 0, 0, 0]) (done' := #[true, true, true, true, true, true, true, true, true, true, false, false, false, false, false, false, false, false, false, false, false, false, false, false, false, false, false, false, false, false, false, false]) rfl rfl rfl rfl (by kernel_rfl) (QP.block (QP.then (QP.then (QP.block (QP.then QP.body))))) (by kernel_rfl) rfl (V_bin rfl rfl (fun w => mulI w 4 s0.1)) ?_
      refine TA_take (i := 10) (is := [0, 0, 0, 0]) (done' := #[true, true, true, true, true, true, true, true, true, true, true, false, false, false, false, false, false, false, false, false, false, false, false, false, false, false, false, false, false, false, false, false]) rfl rfl rfl rfl (by kernel_rfl) (QP.block (QP.then (QP.then (QP.block (QP.then QP.body))))) (by kernel_rfl) rfl (V_bin rfl rfl (fun w => addI w (w64 (4 * s0.1)) 1)) ?_
      refine TA_take (i := 11) (is := [0, 0, 0, 0]) (done' := #[true, true, true, true, true, true, true, true, true, true, true, true, false, false, false, false, false, false, false, false, false, false, false, false, false, false, false, false, false, false, false, false]) rfl rfl rfl rfl (by kernel_rfl) (QP.block (QP.then (QP.then (QP.block (QP.then QP.body))))) (by kernel_rfl) rfl (V_idxStr rfl rfl (i := w64 ((w64 (4 * s0.1)) + 1)) Try.underlying9 h2.1 h2.2) ?_
      refine TA_take (i := 12) (is := [0, 0, 0, 0]) (done' := #[true, true, true, true, true, true, true, true, true, true, true, true, true, false, false, false, false, false, false, false, false, false, false, false, false, false, false, false, false, false, false, false]) rfl rfl rfl rfl (by kernel_rfl) (QP.block (QP.then (QP.then (QP.block (QP.then QP.body))))) (by kernel_rfl) rfl (V_conv rfl (fun w => cv8to32 w _ _ Try.underlying67 (TryI.und5) (sg s_ (w64 ((w64 (4 * s0.1)) + 1))))) ?_
      refine TA_take (i := 13) (is := [0, 0, 0, 0]) (done' := #[true, true, true, true, true, true, true, true, true, true, true, true, true, true, false, false, false, false, false, false, false, false, false, false, false, false, false, false, false, false, false, false]) rfl rfl rfl rfl (by kernel_rfl) (QP.block (QP.then (QP.then (QP.block (QP.then QP.body))))) (by kernel_rfl) rfl (V_bin rfl rfl (fun w => shl32 w ((sg s_ (w64 ((w64 (4 * s0.1)) + 1))).setWidth 32) .u64 16 (by decide))) ?_
      refine TA_take (i := 14) (is := [0, 0, 0, 0]) (done' := #[true, true, true, true, true, true, true, true, true, true, true, true, true, true, true, false, false, false, false, false, false, false, false, false, false, false, false, false, false, false, false, false]) rfl rfl rfl rfl (by kernel_rfl) (QP.block (QP.then (QP.then (QP.block (QP.then QP.body))))) (by kernel_rfl) rfl (V_bin rfl rfl (fun w => or32 w (((sg s_ (w64 (4 * s0.1))).setWidth 32) <<< 24) (((sg s_ (w64 ((w64 (4 * s0.1)) + 1))).setWidth 32) <<< 16))) ?_
      refine TA_take (i := 15) (is := [0, 0, 0, 0]) (done' := #[true, true, true, true, true, true, true, true, true, true, true, true, true, true, true, true, false, false, false, false, false, false, false, false, false, false, false, false, false, false, false, false]) rfl rfl rfl rfl (by kernel_rfl) (QP.block (QP.then (QP.then (QP.block (QP.then QP.body))))) (by kernel_rfl) rfl (V_move rfl) ?_
      refine TA_take (i := 16) (is := [0, 0, 0, 0]) (done' := #[true, true, true, true, true, true, true, true, true, true, true, true, true, true, true, true, true, false, false, false, false, false, false, false, false, false, false, false, false, false, false, false]) rfl rfl rfl rfl (by kernel_rfl) (QP.block (QP.then (QP.then (QP.block (QP.then QP.body))))) (by kernel_rfl) rfl (V_move rfl) ?_
      refine TA_take (i := 17) (is := [0, 0, 0, 0]) (done' := #[true, true, true, true, true, true, true, true, true, true, true, true, true, true, true, true, true, true, false, false, false, false, false, false, false, false, false, false, false, false, false, false]) rfl rfl rfl rfl (by kernel_rfl) (QP.block (QP.then (QP.then (QP.block (QP.then QP.body))))) (by kernel_rfl) rfl (V_bin rfl rfl (fun w => mulI w 4 s0.1)) ?_
      refine TA_take (i := 18) (is := [0, 0, 0, 0]) (done' := #[true, true, true, true, true, true, true, true, true, true, true, true, true, true, true, true, true, true, true, false, false, false, false, false, false, false, false, false, false, false, false, false]) rfl rfl rfl rfl (by kernel_rfl) (QP.block (QP.then (QP.then (QP.block (QP.then QP.body))))) (by kernel_rfl) rfl (V_bin rfl rfl (fun w => addI w (w64 (4 * s0.1)) 2)) ?_
      refine TA_take (i := 19) (is := [0, 0, 0, 0]) (done' := #[true, true, true, true, true, true, true, true, true, true, true, true, true, true, true, true, true, true, true, true, false, false, false, false, false, false, false, false, false, false, false, false]) rfl rfl rfl rfl (by kernel_rfl) (QP.block (QP.then (QP.then (QP.block (QP.then QP.body))))) (by kernel_rfl) rfl (V_idxStr rfl rfl (i := w64 ((w64 (4 * s0.1)) + 2)) Try.underlying9 h3.1 h3.2) ?_
      refine TA_take (i := 20) (is := [0, 0, 0, 0]) (done' := #[true, true, true, true, true, true, true, true, true, true, true, true, true, true, true, true, true, true, true, true, true, false, false, false, false, false, false, false, false, false, false, false]) rfl rfl rfl rfl (by kernel_rfl) (QP.block (QP.then (QP.then (QP.block (QP.then QP.body))))) (by kernel_rfl) rfl (V_conv rfl (fun w => cv8to32 w _ _ Try.underlying67 (TryI.und5) (sg s_ (w64 ((w64 (4 * s0.1)) + 2))))) ?_
      refine TA_take (i := 21) (is := [0, 0, 0, 0]) (done' := #[true, true, true, true, true, true, true, true, true, true, true, true, true, true, true, true, true, true, true, true, true, true, false, false, false, false, false, false, false, false, false, false]) rfl rfl rfl rfl (by kernel_rfl) (QP.block (QP.then (QP.then (QP.block (QP.then QP.body))))) (by kernel_rfl) rfl (V_bin rfl rfl (fun w => shl32 w ((sg s_ (w64 ((w64 (4 * s0.1)) + 2))).setWidth 32) .u64 8 (by decide))) ?_
      refine TA_take (i := 22) (is := [0, 0, 0, 0]) (done' := #[true, true, true, true, true, true, true, true, true, true, true, true, true, true, true, true, true, true, true, true, true, true, true, false, false, false, false, false, false, false, false, false]) rfl rfl rfl rfl (by kernel_rfl) (QP.block (QP.then (QP.then (QP.block (QP.then QP.body))))) (by kernel_rfl) rfl (V_bin rfl rfl (fun w => or32 w ((((sg s_ (w64 (4 * s0.1))).setWidth 32) <<< 24) ||| (((sg s_ (w64 ((w64 (4 * s0.1)) + 1))).setWidth 32) <<< 16)) (((sg s_ (w64 ((w64 (4 * s0.1)) + 2))).setWidth 32) <<< 8))) ?_
      refine TA_take (i := 23) (is := [0, 0, 0, 0]) (done' := #[true, true, true, true, true, true, true, true, true, true, true, true, true, true, true, true, true, true, true, true, true, true, true, true, false, false, false, false, false, false, false, false]) rfl rfl rfl rfl (by kernel_rfl) (QP.block (QP.then (QP.then (QP.block (QP.then QP.body))))) (by kernel_rfl) rfl (V_move rfl) ?_
      refine TA_take (i := 24) (is := [0, 0, 0, 0]) (done' := #[true, true, true, true, true, true, true, true, true, true, true, true, true, true, true, true, true, true, true, true, true, true, true, true, true, false, false, false, false, false, false, false]) rfl rfl rfl rfl (by kernel_rfl) (QP.block (QP.then (QP.then (QP.block (QP.then QP.body))))) (by kernel_rfl) rfl (V_move rfl) ?_
      refine TA_take (i := 25) (is := [0, 0, 0, 0]) (done' := #[true, true, true, true, true, true, true, true, true, true, true, true, true, true, true, true, true, true, true, true, true, true, true, true, true, true, false, false, false, false, false, false]) rfl rfl rfl rfl (by kernel_rfl) (QP.block (QP.then (QP.then (QP.block (QP.then QP.body))))) (by kernel_rfl) rfl (V_bin rfl rfl (fun w => mulI w 4 s0.1)) ?_
      refine TA_take (i := 26) (is := [0, 0, 0, 0]) (done' := #[true, true, true, true, true, true, true, true, true, true, true, true, true, true, true, true, true, true, true, true, true, true, true, true, true, true, true, false, false, false, false, false]) rfl rfl rfl rfl (by kernel_rfl) (QP.block (QP.then (QP.then (QP.block (QP.then QP.body))))) (by kernel_rfl) rfl (V_bin rfl rfl (fun w => addI w (w64 (4 * s0.1)) 3)) ?_
      refine TA_take (i := 27) (is := [0, 0, 0, 0]) (done' := #[true, true, true, true, true, true, true, true, true, true, true, true, true, true, true, true, true, true, true, true, true, true, true, true, true, true, true, true, false, false, false, false]) rfl rfl rfl rfl (by kernel_rfl) (QP.block (QP.then (QP.then (QP.block (QP.then QP.body))))) (by kernel_rfl) rfl (V_idxStr rfl rfl (i := w64 ((w64 (4 * s0.1)) + 3)) Try.underlying9 h4.1 h4.2) ?_
      refine TA_take (i := 28) (is := [0, 0, 0, 0]) (done' := #[true, true, true, true, true, true, true, true, true, true, true, true, true, true, true, true, true, true, true, true, true, true, true, true, true, true, true, true, true, false, false, false]) rfl rfl rfl rfl (by kernel_rfl) (QP.block (QP.then (QP.then (QP.block (QP.then QP.body))))) (by kernel_rfl) rfl (V_conv rfl (fun w => cv8to32 w _ _ Try.underlying67 (TryI.und5) (sg s_ (w64 ((w64 (4 * s0.1)) + 3))))) ?_
      refine TA_take (i := 29) (is := [0, 0, 0, 0]) (done' := #[true, true, true, true, true, true, true, true, true, true, true, true, true, true, true, true, true, true, true, true, true, true, true, true, true, true, true, true, true, true, false, false]) rfl rfl rfl rfl (by kernel_rfl) (QP.block (QP.then (QP.then (QP.block (QP.then QP.body))))) (by kernel_rfl) rfl (V_bin rfl rfl (fun w => or32 w (((((sg s_ (w64 (4 * s0.1))).setWidth 32) <<< 24) ||| (((sg s_ (w64 ((w64 (4 * s0.1)) + 1))).setWidth 32) <<< 16)) ||| (((sg s_ (w64 ((w64 (4 * s0.1)) + 2))).setWidth 32) <<< 8)) ((sg s_ (w64 ((w64 (4 * s0.1)) + 3))).setWidth 32))) ?_
      refine TA_take (i := 30) (is := [0, 0, 0, 0]) (done' := #[true, true, true, true, true, true, true, true, true, true, true, true, true, true, true, true, true, true, true, true, true, true, true, true, true, true, true, true, true, true, true, false]) rfl rfl rfl rfl (by kernel_rfl) (QP.block (QP.then (QP.then (QP.block (QP.then QP.body))))) (by kernel_rfl) rfl (V_idxArr (i := s0.1) rfl rfl Try.underlying83 TryI.inf67 rfl h5.1 h5.2 (k := (s0.1).toNat) (k01 _)) ?_
      refine TA_all (rs := [31]) (by kernel_rfl) rfl ?_
      refine ⟨?_, trivial⟩
      refine TO_n (is := []) (R := fun _ => []) (done' := #[true, true, true, true, true, true, true, true, true, true, true, true, true, true, true, true, true, true, true, true, true, true, true, true, true, true, true, true, true, true, true, true]) rfl rfl rfl (by kernel_rfl) (E_store (j := 3) rfl rfl TryI.inf67 rfl rfl rfl (by simpa using (toNat_lt h5.1 h5.2)) (cs' := e32 ((vp s0.2 ((s0.1).toNat) ((((((sg s_ (w64 (4 * s0.1))).setWidth 32) <<< 24) ||| (((sg s_ (w64 ((w64 (4 * s0.1)) + 1))).setWidth 32) <<< 16)) ||| (((sg s_ (w64 ((w64 (4 * s0.1)) + 2))).setWidth 32) <<< 8)) ||| ((sg s_ (w64 ((w64 (4 * s0.1)) + 3))).setWidth 32))).toList)) set_vec) (fun h => by cases h) (fun _ => ?_)
      refine TA_reE (j := 3) (A := some (b4, 0)) (cs := e32 ((vp s0.2 ((s0.1).toNat) ((((((sg s_ (w64 (4 * s0.1))).setWidth 32) <<< 24) ||| (((sg s_ (w64 ((w64 (4 * s0.1)) + 1))).setWidth 32) <<< 16)) ||| (((sg s_ (w64 ((w64 (4 * s0.1)) + 2))).setWidth 32) <<< 8)) ||| ((sg s_ (w64 ((w64 (4 * s0.1)) + 3))).setWidth 32))).toList)) (cs' := e32 m_2.toList) rfl (congrArg (fun z : Vector (BitVec 32) 64 => e32 (Vector.toList z)) hm_2) ?_
      refine TA_done (by kernel_rfl) ?_ 0
      refine TX_block_normal ?_
      refine TX_next ?_
      refine TC.sub (m' := [(1, vs s_), (2, ptr (some (b1, 0)) 0), (4, ptr (some (b2, 0)) 0), (5, ptr (some (b3, 0)) 0), (6, ptr (some (b4, 0)) 0), (7, vi s0.1)]) ⟨rfl, rfl, rfl, rfl, rfl, rfl, trivial⟩ ?_
      refine TC_region ?_
      refine TL_v rfl rfl rfl (V_move rfl) ?_
      refine TL_v rfl rfl rfl (V_bin rfl rfl (fun w => addI w s0.1 1)) ?_
      refine TL_v rfl rfl rfl (V_assign rfl) ?_
      obtain ⟨i1, hi1, H⟩ := ltt_elim H
      refine TL_re (d := 7) (v := vi (w64 (s0.1 + 1))) (v' := vi i1) rfl (congrArg vi hi1) ?_
      refine TL_nil ?_
      refine TX.sub (m' := [(1, vs s_), (2, ptr (some (b1, 0)) 0), (4, ptr (some (b2, 0)) 0), (5, ptr (some (b3, 0)) 0), (6, ptr (some (b4, 0)) 0), (7, vi i1)]) ⟨rfl, rfl, rfl, rfl, rfl, rfl, trivial⟩ ?_
      refine TX.pull (is := [0, 0, 0, 0]) (L' := [⟨some (b1, 0), e32 h.toList⟩, ⟨some (b2, 0), e32 ((Vector.replicate 8 0#32).toList)⟩, ⟨some (b3, 0), e32 m_1.toList⟩, ⟨some (b4, 0), e32 m_2.toList⟩]) rfl ?_
      obtain rfl := Option.some.inj H
      exact fun a w hs => hK (i1, m_2) rfl () a w hs
    · replace H := ite_f (of_decide_eq_false hc) H
      refine TC_exit ?_
      refine TX_then_exit ?_
      refine TX_then_exit ?_
      refine TX.sub (m' := [(2, ptr (some (b1, 0)) 0), (4, ptr (some (b2, 0)) 0), (5, ptr (some (b3, 0)) 0), (6, ptr (some (b4, 0)) 0)]) ⟨rfl, rfl, rfl, rfl, trivial⟩ ?_
      refine TX.pull (is := [0, 0, 0, 0]) (L' := [⟨some (b1, 0), e32 h.toList⟩, ⟨some (b2, 0), e32 ((Vector.replicate 8 0#32).toList)⟩, ⟨some (b3, 0), e32 m_1.toList⟩, ⟨some (b4, 0), e32 s0.2.toList⟩]) rfl ?_
      obtain rfl := Option.some.inj H
      exact hE s0.2 rfl ()
  · intro g
    refine TX_block_exit ?_
    refine TX_next ?_
    refine TC_seq ?_
    refine TC_seq ?_
    refine TC_region ?_
    refine TL_v rfl rfl rfl (V_assign rfl) ?_
    refine TL_nil ?_
    refine TX_next ?_
    refine TC_block ?_
    obtain ⟨t_2, Hl, H⟩ := bind_elim H
    refine TC.sub (m' := [(2, ptr (some (b1, 0)) 0), (4, ptr (some (b2, 0)) 0), (5, ptr (some (b3, 0)) 0), (6, ptr (some (b4, 0)) 0), (8, vi 16)]) ⟨rfl, rfl, rfl, rfl, rfl, trivial⟩ ?_
    refine TC.pull (is := [0, 0, 0, 0]) (L' := [⟨some (b1, 0), e32 h.toList⟩, ⟨some (b2, 0), e32 ((Vector.replicate 8 0#32).toList)⟩, ⟨some (b3, 0), e32 m_1.toList⟩, ⟨some (b4, 0), e32 t_1.toList⟩]) rfl ?_
    refine TC_loopL (id := 2) (body := (halberdref1_block256.b1)) (σ := Int × Vector (BitVec 32) 64) (Γ := Unit) (Γx := Unit) (fun s1 g1_ => [(2, ptr (some (b1, 0)) 0), (4, ptr (some (b2, 0)) 0), (5, ptr (some (b3, 0)) 0), (6, ptr (some (b4, 0)) 0), (8, vi s1.1)]) (fun s1 g1_ => [⟨some (b1, 0), e32 h.toList⟩, ⟨some (b2, 0), e32 ((Vector.replicate 8 0#32).toList)⟩, ⟨some (b3, 0), e32 m_1.toList⟩, ⟨some (b4, 0), e32 s1.2.toList⟩]) (fun t g => [(2, ptr (some (b1, 0)) 0), (4, ptr (some (b2, 0)) 0), (5, ptr (some (b3, 0)) 0), (6, ptr (some (b4, 0)) 0)]) (fun t g => [⟨some (b1, 0), e32 h.toList⟩, ⟨some (b2, 0), e32 ((Vector.replicate 8 0#32).toList)⟩, ⟨some (b3, 0), e32 m_1.toList⟩, ⟨some (b4, 0), e32 t.toList⟩]) ?_ BIG (16, t_1) () t_2 Hl ?_
    · intro s1 g1_ r1 H K hK hE
      unfold halberdref1_block256.b1 at H
      refine TC_seq ?_
      refine TC_seq ?_
      refine TC_region ?_
      refine TL_v rfl rfl rfl (V_move rfl) ?_
      refine TL_v rfl rfl rfl (V_bin rfl rfl (fun w => lssI w s1.1 64)) ?_
      refine TL_nil ?_
      refine TX_next ?_
      refine TC_cond (b := (decide (s1.1 < 64))) rfl (fun hc => ?_) (fun hc => ?_)
      · replace H := ite_t (of_decide_eq_true hc) H
        refine TC_skip ?_
        refine TX_next ?_
        refine TC_seq ?_
        refine TC_block ?_
        refine TC_seq ?_
        obtain ⟨h6, H⟩ := if_elim H
        obtain ⟨r_1, hr_1, H⟩ := bind_elim H
        obtain ⟨h7, H⟩ := if_elim H
        obtain ⟨r_2, hr_2, H⟩ := bind_elim H
        obtain ⟨h8, H⟩ := if_elim H
        obtain ⟨a_1, ha_1, H⟩ := ltt_elim H
        refine TA_begin [⟨some (b1, 0), e32 h.toList⟩, ⟨some (b2, 0), e32 ((Vector.replicate 8 0#32).toList)⟩, ⟨some (b3, 0), e32 m_1.toList⟩, ⟨some (b4, 0), e32 s1.2.toList⟩] 18 (by kernel_rfl) (N := 18) rfl ?_
        refine TA_take (i := 0) (is := [0, 0, 0, 0]) (done' := #[true, false, false, false, false, false, false, false, false, false, false, false, false, false, false, false, false, false]) rfl rfl rfl rfl (by kernel_rfl) (QP.then (QP.block (QP.then (QP.then (QP.block (QP.then QP.body)))))) (by kernel_rfl) rfl (V_move rfl) ?_
        refine TA_take (i := 1) (is := [0, 0, 0, 0]) (done' := #[true, true, false, false, false, false, false, false, false, false, false, false, false, false, false, false, false, false]) rfl rfl rfl rfl (by kernel_rfl) (QP.then (QP.block (QP.then (QP.then (QP.block (QP.then QP.body)))))) (by kernel_rfl) rfl (V_bin rfl rfl (fun w => subI w s1.1 15)) ?_
        refine TA_take (i := 2) (is := [0, 0, 0, 0]) (done' := #[true, true, true, false, false, false, false, false, false, false, false, false, false, false, false, false, false, false]) rfl rfl rfl rfl (by kernel_rfl) (QP.then (QP.block (QP.then (QP.then (QP.block (QP.then QP.body)))))) (by kernel_rfl) rfl (V_idxArr (i := w64 (s1.1 - 15)) rfl rfl Try.underlying83 TryI.inf67 rfl h6.1 h6.2 (k := (w64 (s1.1 - 15)).toNat) (k01 _)) ?_
        refine TA_take (i := 3) (is := [0, 0, 0, 0]) (done' := #[true, true, true, true, false, false, false, false, false, false, false, false, false, false, false, false, false, false]) rfl rfl rfl rfl (by kernel_rfl) (QP.then (QP.block (QP.then (QP.then (QP.block (QP.then QP.body)))))) (by kernel_rfl) rfl (V_load rfl (Src.own (j := 3) rfl) (get_vec (f := v32) (V := s1.2) (toNat_lt h6.1 h6.2)) Try.isAgg67) ?_
        refine TA_take (i := 5) (is := [0, 0, 0, 0]) (done' := #[true, true, true, true, false, true, false, false, false, false, false, false, false, false, false, false, false, false]) rfl rfl rfl rfl (by kernel_rfl) (QP.then (QP.block (QP.then (QP.then (QP.block (QP.then QP.body)))))) (by kernel_rfl) rfl (V_move rfl) ?_
        refine TA_take (i := 6) (is := [0, 0, 0, 0]) (done' := #[true, true, true, true, false, true, true, false, false, false, false, false, false, false, false, false, false, false]) rfl rfl rfl rfl (by kernel_rfl) (QP.then (QP.block (QP.then (QP.then (QP.block (QP.then QP.body)))))) (by kernel_rfl) rfl (V_bin rfl rfl (fun w => subI w s1.1 15)) ?_
        refine TA_take (i := 7) (is := [0, 0, 0, 0]) (done' := #[true, true, true, true, false, true, true, true, false, false, false, false, false, false, false, false, false, false]) rfl rfl rfl rfl (by kernel_rfl) (QP.then (QP.block (QP.then (QP.then (QP.block (QP.then QP.body)))))) (by kernel_rfl) rfl (V_idxArr (i := w64 (s1.1 - 15)) rfl rfl Try.underlying83 TryI.inf67 rfl h7.1 h7.2 (k := (w64 (s1.1 - 15)).toNat) (k01 _)) ?_
        refine TA_take (i := 8) (is := [0, 0, 0, 0]) (done' := #[true, true, true, true, false, true, true, true, true, false, false, false, false, false, false, false, false, false]) rfl rfl rfl rfl (by kernel_rfl) (QP.then (QP.block (QP.then (QP.then (QP.block (QP.then QP.body)))))) (by kernel_rfl) rfl (V_load rfl (Src.own (j := 3) rfl) (get_vec (f := v32) (V := s1.2) (toNat_lt h7.1 h7.2)) Try.isAgg67) ?_
        refine TA_take (i := 11) (is := [0, 0, 0, 0]) (done' := #[true, true, true, true, false, true, true, true, true, false, false, true, false, false, false, false, false, false]) rfl rfl rfl rfl (by kernel_rfl) (QP.then (QP.block (QP.then (QP.then (QP.block (QP.then QP.body)))))) (by kernel_rfl) rfl (V_move rfl) ?_
        refine TA_take (i := 12) (is := [0, 0, 0, 0]) (done' := #[true, true, true, true, false, true, true, true, true, false, false, true, true, false, false, false, false, false]) rfl rfl rfl rfl (by kernel_rfl) (QP.then (QP.block (QP.then (QP.then (QP.block (QP.then QP.body)))))) (by kernel_rfl) rfl (V_bin rfl rfl (fun w => subI w s1.1 15)) ?_
        refine TA_take (i := 13) (is := [0, 0, 0, 0]) (done' := #[true, true, true, true, false, true, true, true, true, false, false, true, true, true, false, false, false, false]) rfl rfl rfl rfl (by kernel_rfl) (QP.then (QP.block (QP.then (QP.then (QP.block (QP.then QP.body)))))) (by kernel_rfl) rfl (V_idxArr (i := w64 (s1.1 - 15)) rfl rfl Try.underlying83 TryI.inf67 rfl h8.1 h8.2 (k := (w64 (s1.1 - 15)).toNat) (k01 _)) ?_
        refine TA_take (i := 14) (is := [0, 0, 0, 0]) (done' := #[true, true, true, true, false, true, true, true, true, false, false, true, true, true, true, false, false, false]) rfl rfl rfl rfl (by kernel_rfl) (QP.then (QP.block (QP.then (QP.then (QP.block (QP.then QP.body)))))) (by kernel_rfl) rfl (V_load rfl (Src.own (j := 3) rfl) (get_vec (f := v32) (V := s1.2) (toNat_lt h8.1 h8.2)) Try.isAgg67) ?_
        refine TA_take (i := 15) (is := [0, 0, 0, 0]) (done' := #[true, true, true, true, false, true, true, true, true, false, false, true, true, true, true, true, false, false]) rfl rfl rfl rfl (by kernel_rfl) (QP.then (QP.block (QP.then (QP.then (QP.block (QP.then QP.body)))))) (by kernel_rfl) rfl (V_bin rfl rfl (fun w => shr32 w (vg s1.2 ((w64 (s1.1 - 15)).toNat)) .u64 3 (by decide))) ?_
        refine TA_all (rs := [4]) (by kernel_rfl) rfl ?_
        refine ⟨?_, trivial⟩
        refine TO_e (is := [0, 0, 0, 0]) (done' := #[true, true, true, true, true, true, true, true, true, false, false, true, true, true, true, true, false, false]) rfl rfl rfl rfl (by kernel_rfl) (E_call (Γ := Unit) (val := fun g => v32 r_1) (mem := fun g => []) (vs := [v32 (vg s1.2 ((w64 (s1.1 - 15)).toNat)), vi 7]) (Lin := []) (Ro := []) (is := []) rfl Try.call63 (F63_calls (vg s1.2 ((w64 (s1.1 - 15)).toNat)) 7 r_1 hr_1) rfl trivial) (fun _ _ => rfl) (fun g_1 => ?_)
        refine TA_all (rs := [9]) (by kernel_rfl) rfl ?_
        refine ⟨?_, trivial⟩
        refine TO_e (is := [0, 0, 0, 0]) (done' := #[true, true, true, true, true, true, true, true, true, true, false, true, true, true, true, true, false, false]) rfl rfl rfl rfl (by kernel_rfl) (E_call (Γ := Unit) (val := fun g => v32 r_2) (mem := fun g => []) (vs := [v32 (vg s1.2 ((w64 (s1.1 - 15)).toNat)), vi 18]) (Lin := []) (Ro := []) (is := []) rfl Try.call63 (F63_calls (vg s1.2 ((w64 (s1.1 - 15)).toNat)) 18 r_2 hr_2) rfl trivial) (fun _ _ => rfl) (fun g_2 => ?_)
        refine TA_take (i := 10) (is := [0, 0, 0, 0]) (done' := #[true, true, true, true, true, true, true, true, true, true, true, true, true, true, true, true, false, false]) rfl rfl rfl rfl (by kernel_rfl) (QP.then (QP.block (QP.then (QP.then (QP.block (QP.then QP.body)))))) (by kernel_rfl) rfl (V_bin rfl rfl (fun w => xor32 w r_1 r_2)) ?_
        refine TA_take (i := 16) (is := [0, 0, 0, 0]) (done' := #[true, true, true, true, true, true, true, true, true, true, true, true, true, true, true, true, true, false]) rfl rfl rfl rfl (by kernel_rfl) (QP.then (QP.block (QP.then (QP.then (QP.block (QP.then QP.body)))))) (by kernel_rfl) rfl (V_bin rfl rfl (fun w => xor32 w (r_1 ^^^ r_2) ((vg s1.2 ((w64 (s1.1 - 15)).toNat)) >>> 3))) ?_
        refine TA_take (i := 17) (is := [0, 0, 0, 0]) (done' := #[true, true, true, true, true, true, true, true, true, true, true, true, true, true, true, true, true, true]) rfl rfl rfl rfl (by kernel_rfl) (QP.then (QP.block (QP.then (QP.then (QP.block (QP.then QP.body)))))) (by kernel_rfl) rfl (V_assign rfl) ?_
        refine TA_re (d := 9) (v := v32 ((r_1 ^^^ r_2) ^^^ ((vg s1.2 ((w64 (s1.1 - 15)).toNat)) >>> 3))) (v' := v32 a_1) rfl (congrArg v32 ha_1) ?_
        refine TA_done (by kernel_rfl) ?_ 0
        refine TX_next ?_
        refine TC_seq ?_
        obtain ⟨h9, H⟩ := if_elim H
        obtain ⟨r_3, hr_3, H⟩ := bind_elim H
        obtain ⟨h10, H⟩ := if_elim H
        obtain ⟨r_4, hr_4, H⟩ := bind_elim H
        obtain ⟨h11, H⟩ := if_elim H
        obtain ⟨b5, hb5, H⟩ := ltt_elim H
        refine TA_begin [⟨some (b1, 0), e32 h.toList⟩, ⟨some (b2, 0), e32 ((Vector.replicate 8 0#32).toList)⟩, ⟨some (b3, 0), e32 m_1.toList⟩, ⟨some (b4, 0), e32 s1.2.toList⟩] 18 (by kernel_rfl) (N := 18) rfl ?_
        refine TA_take (i := 0) (is := [0, 0, 0, 0]) (done' := #[true, false, false, false, false, false, false, false, false, false, false, false, false, false, false, false, false, false]) rfl rfl rfl rfl (by kernel_rfl) (QP.then (QP.block (QP.then (QP.then (QP.block (QP.then QP.body)))))) (by kernel_rfl) rfl (V_move rfl) ?_
        refine TA_take (i := 1) (is := [0, 0, 0, 0]) (done' := #[true, true, false, false, false, false, false, false, false, false, false, false, false, false, false, false, false, false]) rfl rfl rfl rfl (by kernel_rfl) (QP.then (QP.block (QP.then (QP.then (QP.block (QP.then QP.body)))))) (by kernel_rfl) rfl (V_bin rfl rfl (fun w => subI w s1.1 2)) ?_
        refine TA_take (i := 2) (is := [0, 0, 0, 0]) (done' := #[true, true, true, false, false, false, false, false, false, false, false, false, false, false, false, false, false, false]) rfl rfl rfl rfl (by kernel_rfl) (QP.then (QP.block (QP.then (QP.then (QP.block (QP.then QP.body)))))) (by kernel_rfl) rfl (V_idxArr (i := w64 (s1.1 - 2)) rfl rfl Try.underlying83 TryI.inf67 rfl h9.1 h9.2 (k := (w64 (s1.1 - 2)).toNat) (k01 _)) ?_
        refine TA_take (i := 3) (is := [0, 0, 0, 0]) (done' := #[true, true, true, true, false, false, false, false, false, false, false, false, false, false, false, false, false, false]) rfl rfl rfl rfl (by kernel_rfl) (QP.then (QP.block (QP.then (QP.then (QP.block (QP.then QP.body)))))) (by kernel_rfl) rfl (V_load rfl (Src.own (j := 3) rfl) (get_vec (f := v32) (V := s1.2) (toNat_lt h9.1 h9.2)) Try.isAgg67) ?_
        refine TA_take (i := 5) (is := [0, 0, 0, 0]) (done' := #[true, true, true, true, false, true, false, false, false, false, false, false, false, false, false, false, false, false]) rfl rfl rfl rfl (by kernel_rfl) (QP.then (QP.block (QP.then (QP.then (QP.block (QP.then QP.body)))))) (by kernel_rfl) rfl (V_move rfl) ?_
        refine TA_take (i := 6) (is := [0, 0, 0, 0]) (done' := #[true, true, true, true, false, true, true, false, false, false, false, false, false, false, false, false, false, false]) rfl rfl rfl rfl (by kernel_rfl) (QP.then (QP.block (QP.then (QP.then (QP.block (QP.then QP.body)))))) (by kernel_rfl) rfl (V_bin rfl rfl (fun w => subI w s1.1 2)) ?_
        refine TA_take (i := 7) (is := [0, 0, 0, 0]) (done' := #[true, true, true, true, false, true, true, true, false, false, false, false, false, false, false, false, false, false]) rfl rfl rfl rfl (by kernel_rfl) (QP.then (QP.block (QP.then (QP.then (QP.block (QP.then QP.body)))))) (by kernel_rfl) rfl (V_idxArr (i := w64 (s1.1 - 2)) rfl rfl Try.underlying83 TryI.inf67 rfl h10.1 h10.2 (k := (w64 (s1.1 - 2)).toNat) (k01 _)) ?_
        refine TA_take (i := 8) (is := [0, 0, 0, 0]) (done' := #[true, true, true, true, false, true, true, true, true, false, false, false, false, false, false, false, false, false]) rfl rfl rfl rfl (by kernel_rfl) (QP.then (QP.block (QP.then (QP.then (QP.block (QP.then QP.body)))))) (by kernel_rfl) rfl (V_load rfl (Src.own (j := 3) rfl) (get_vec (f := v32) (V := s1.2) (toNat_lt h10.1 h10.2)) Try.isAgg67) ?_
        refine TA_take (i := 11) (is := [0, 0, 0, 0]) (done' := #[true, true, true, true, false, true, true, true, true, false, false, true, false, false, false, false, false, false]) rfl rfl rfl rfl (by kernel_rfl) (QP.then (QP.block (QP.then (QP.then (QP.block (QP.then QP.body)))))) (by kernel_rfl) rfl (V_move rfl) ?_
        refine TA_take (i := 12) (is := [0, 0, 0, 0]) (done' := #[true, true, true, true, false, true, true, true, true, false, false, true, true, false, false, false, false, false]) rfl rfl rfl rfl (by kernel_rfl) (QP.then (QP.block (QP.then (QP.then (QP.block (QP.then QP.body)))))) (by kernel_rfl) rfl (V_bin rfl rfl (fun w => subI w s1.1 2)) ?_
        refine TA_take (i := 13) (is := [0, 0, 0, 0]) (done' := #[true, true, true, true, false, true, true, true, true, false, false, true, true, true, false, false, false, false]) rfl rfl rfl rfl (by kernel_rfl) (QP.then (QP.block (QP.then (QP.then (QP.block (QP.then QP.body)))))) (by kernel_rfl) rfl (V_idxArr (i := w64 (s1.1 - 2)) rfl rfl Try.underlying83 TryI.inf67 rfl h11.1 h11.2 (k := (w64 (s1.1 - 2)).toNat) (k01 _)) ?_
        refine TA_take (i := 14) (is := [0, 0, 0, 0]) (done' := #[true, true, true, true, false, true, true, true, true, false, false, true, true, true, true, false, false, false]) rfl rfl rfl rfl (by kernel_rfl) (QP.then (QP.block (QP.then (QP.then (QP.block (QP.then QP.body)))))) (by kernel_rfl) rfl (V_load rfl (Src.own (j := 3) rfl) (get_vec (f := v32) (V := s1.2) (toNat_lt h11.1 h11.2)) Try.isAgg67) ?_
        refine TA_take (i := 15) (is := [0, 0, 0, 0]) (done' := #[true, true, true, true, false, true, true, true, true, false, false, true, true, true, true, true, false, false]) rfl rfl rfl rfl (by kernel_rfl) (QP.then (QP.block (QP.then (QP.then (QP.block (QP.then QP.body)))))) (by kernel_rfl) rfl (V_bin rfl rfl (fun w => shr32 w (vg s1.2 ((w64 (s1.1 - 2)).toNat)) .u64 10 (by decide))) ?_
        refine TA_all (rs := [4]) (by kernel_rfl) rfl ?_
        refine ⟨?_, trivial⟩
        refine TO_e (is := [0, 0, 0, 0]) (done' := #[true, true, true, true, true, true, true, true, true, false, false, true, true, true, true, true, false, false]) rfl rfl rfl rfl (by kernel_rfl) (E_call (Γ := Unit) (val := fun g => v32 r_3) (mem := fun g => []) (vs := [v32 (vg s1.2 ((w64 (s1.1 - 2)).toNat)), vi 17]) (Lin := []) (Ro := []) (is := []) rfl Try.call63 (F63_calls (vg s1.2 ((w64 (s1.1 - 2)).toNat)) 17 r_3 hr_3) rfl trivial) (fun _ _ => rfl) (fun g_3 => ?_)
        refine TA_all (rs := [9]) (by kernel_rfl) rfl ?_
        refine ⟨?_, trivial⟩
        refine TO_e (is := [0, 0, 0, 0]) (done' := #[true, true, true, true, true, true, true, true, true, true, false, true, true, true, true, true, false, false]) rfl rfl rfl rfl (by kernel_rfl) (E_call (Γ := Unit) (val := fun g => v32 r_4) (mem := fun g => []) (vs := [v32 (vg s1.2 ((w64 (s1.1 - 2)).toNat)), vi 19]) (Lin := []) (Ro := []) (is := []) rfl Try.call63 (F63_calls (vg s1.2 ((w64 (s1.1 - 2)).toNat)) 19 r_4 hr_4) rfl trivial) (fun _ _ => rfl) (fun g_4 => ?_)
        refine TA_take (i := 10) (is := [0, 0, 0, 0]) (done' := #[true, true, true, true, true, true, true, true, true, true, true, true, true, true, true, true, false, false]) rfl rfl rfl rfl (by kernel_rfl) (QP.then (QP.block (QP.then (QP.then (QP.block (QP.then QP.body)))))) (by kernel_rfl) rfl (V_bin rfl rfl (fun w => xor32 w r_3 r_4)) ?_
        refine TA_take (i := 16) (is := [0, 0, 0, 0]) (done' := #[true, true, true, true, true, true, true, true, true, true, true, true, true, true, true, true, true, false]) rfl rfl rfl rfl (by kernel_rfl) (QP.then (QP.block (QP.then (QP.then (QP.block (QP.then QP.body)))))) (by kernel_rfl) rfl (V_bin rfl rfl (fun w => xor32 w (r_3 ^^^ r_4) ((vg s1.2 ((w64 (s1.1 - 2)).toNat)) >>> 10))) ?_
        refine TA_take (i := 17) (is := [0, 0, 0, 0]) (done' := #[true, true, true, true, true, true, true, true, true, true, true, true, true, true, true, true, true, true]) rfl rfl rfl rfl (by kernel_rfl) (QP.then (QP.block (QP.then (QP.then (QP.block (QP.then QP.body)))))) (by kernel_rfl) rfl (V_assign rfl) ?_
        refine TA_re (d := 10) (v := v32 ((r_3 ^^^ r_4) ^^^ ((vg s1.2 ((w64 (s1.1 - 2)).toNat)) >>> 10))) (v' := v32 b5) rfl (congrArg v32 hb5) ?_
        refine TA_done (by kernel_rfl) ?_ 0
        refine TX_next ?_
        refine TC.sub (m' := [(2, ptr (some (b1, 0)) 0), (4, ptr (some (b2, 0)) 0), (5, ptr (some (b3, 0)) 0), (6, ptr (some (b4, 0)) 0), (8, vi s1.1), (9, v32 a_1), (10, v32 b5)]) ⟨rfl, rfl, rfl, rfl, rfl, rfl, rfl, trivial⟩ ?_
        obtain ⟨h12, H⟩ := if_elim H
        obtain ⟨h13, H⟩ := if_elim H
        obtain ⟨h14, H⟩ := if_elim H
        obtain ⟨m_3, hm_3, H⟩ := ltt_elim H
        refine TA_begin [⟨some (b1, 0), e32 h.toList⟩, ⟨some (b2, 0), e32 ((Vector.replicate 8 0#32).toList)⟩, ⟨some (b3, 0), e32 m_1.toList⟩, ⟨some (b4, 0), e32 s1.2.toList⟩] 15 (by kernel_rfl) (N := 16) rfl ?_
        refine TA_take (i := 0) (is := [0, 0, 0, 0]) (done' := #[true, false, false, false, false, false, false, false, false, false, false, false, false, false, false, false]) rfl rfl rfl rfl (by kernel_rfl) (QP.block (QP.then (QP.then (QP.block (QP.then QP.body))))) (by kernel_rfl) rfl (V_move rfl) ?_
        refine TA_take (i := 1) (is := [0, 0, 0, 0]) (done' := #[true, true, false, false, false, false, false, false, false, false, false, false, false, false, false, false]) rfl rfl rfl rfl (by kernel_rfl) (QP.block (QP.then (QP.then (QP.block (QP.then QP.body))))) (by kernel_rfl) rfl (V_move rfl) ?_
        refine TA_take (i := 2) (is := [0, 0, 0, 0]) (done' := #[true, true, true, false, false, false, false, false, false, false, false, false, false, false, false, false]) rfl rfl rfl rfl (by kernel_rfl) (QP.block (QP.then (QP.then (QP.block (QP.then QP.body))))) (by kernel_rfl) rfl (V_bin rfl rfl (fun w => subI w s1.1 16)) ?_
        refine TA_take (i := 3) (is := [0, 0, 0, 0]) (done' := #[true, true, true, true, false, false, false, false, false, false, false, false, false, false, false, false]) rfl rfl rfl rfl (by kernel_rfl) (QP.block (QP.then (QP.then (QP.block (QP.then QP.body))))) (by kernel_rfl) rfl (V_idxArr (i := w64 (s1.1 - 16)) rfl rfl Try.underlying83 TryI.inf67 rfl h12.1 h12.2 (k := (w64 (s1.1 - 16)).toNat) (k01 _)) ?_
        refine TA_take (i := 4) (is := [0, 0, 0, 0]) (done' := #[true, true, true, true, true, false, false, false, false, false, false, false, false, false, false, false]) rfl rfl rfl rfl (by kernel_rfl) (QP.block (QP.then (QP.then (QP.block (QP.then QP.body))))) (by kernel_rfl) rfl (V_load rfl (Src.own (j := 3) rfl) (get_vec (f := v32) (V := s1.2) (toNat_lt h12.1 h12.2)) Try.isAgg67) ?_
        refine TA_take (i := 5) (is := [0, 0, 0, 0]) (done' := #[true, true, true, true, true, true, false, false, false, false, false, false, false, false, false, false]) rfl rfl rfl rfl (by kernel_rfl) (QP.block (QP.then (QP.then (QP.block (QP.then QP.body))))) (by kernel_rfl) rfl (V_move rfl) ?_
        refine TA_take (i := 6) (is := [0, 0, 0, 0]) (done' := #[true, true, true, true, true, true, true, false, false, false, false, false, false, false, false, false]) rfl rfl rfl rfl (by kernel_rfl) (QP.block (QP.then (QP.then (QP.block (QP.then QP.body))))) (by kernel_rfl) rfl (V_bin rfl rfl (fun w => add32 w (vg s1.2 ((w64 (s1.1 - 16)).toNat)) a_1)) ?_
        refine TA_take (i := 7) (is := [0, 0, 0, 0]) (done' := #[true, true, true, true, true, true, true, true, false, false, false, false, false, false, false, false]) rfl rfl rfl rfl (by kernel_rfl) (QP.block (QP.then (QP.then (QP.block (QP.then QP.body))))) (by kernel_rfl) rfl (V_move rfl) ?_
        refine TA_take (i := 8) (is := [0, 0, 0, 0]) (done' := #[true, true, true, true, true, true, true, true, true, false, false, false, false, false, false, false]) rfl rfl rfl rfl (by kernel_rfl) (QP.block (QP.then (QP.then (QP.block (QP.then QP.body))))) (by kernel_rfl) rfl (V_bin rfl rfl (fun w => subI w s1.1 7)) ?_
        refine TA_take (i := 9) (is := [0, 0, 0, 0]) (done' := #[true, true, true, true, true, true, true, true, true, true, false, false, false, false, false, false]) rfl rfl rfl rfl (by kernel_rfl) (QP.block (QP.then (QP.then (QP.block (QP.then QP.body))))) (by kernel_rfl) rfl (V_idxArr (i := w64 (s1.1 - 7)) rfl rfl Try.underlying83 TryI.inf67 rfl h13.1 h13.2 (k := (w64 (s1.1 - 7)).toNat) (k01 _)) ?_
        refine TA_take (i := 10) (is := [0, 0, 0, 0]) (done' := #[true, true, true, true, true, true, true, true, true, true, true, false, false, false, false, false]) rfl rfl rfl rfl (by kernel_rfl) (QP.block (QP.then (QP.then (QP.block (QP.then QP.body))))) (by kernel_rfl) rfl (V_load rfl (Src.own (j := 3) rfl) (get_vec (f := v32) (V := s1.2) (toNat_lt h13.1 h13.2)) Try.isAgg67) ?_
        refine TA_take (i := 11) (is := [0, 0, 0, 0]) (done' := #[true, true, true, true, true, true, true, true, true, true, true, true, false, false, false, false]) rfl rfl rfl rfl (by kernel_rfl) (QP.block (QP.then (QP.then (QP.block (QP.then QP.body))))) (by kernel_rfl) rfl (V_bin rfl rfl (fun w => add32 w ((vg s1.2 ((w64 (s1.1 - 16)).toNat)) + a_1) (vg s1.2 ((w64 (s1.1 - 7)).toNat)))) ?_
        refine TA_take (i := 12) (is := [0, 0, 0, 0]) (done' := #[true, true, true, true, true, true, true, true, true, true, true, true, true, false, false, false]) rfl rfl rfl rfl (by kernel_rfl) (QP.block (QP.then (QP.then (QP.block (QP.then QP.body))))) (by kernel_rfl) rfl (V_move rfl) ?_
        refine TA_take (i := 13) (is := [0, 0, 0, 0]) (done' := #[true, true, true, true, true, true, true, true, true, true, true, true, true, true, false, false]) rfl rfl rfl rfl (by kernel_rfl) (QP.block (QP.then (QP.then (QP.block (QP.then QP.body))))) (by kernel_rfl) rfl (V_bin rfl rfl (fun w => add32 w (((vg s1.2 ((w64 (s1.1 - 16)).toNat)) + a_1) + (vg s1.2 ((w64 (s1.1 - 7)).toNat))) b5)) ?_
        refine TA_take (i := 14) (is := [0, 0, 0, 0]) (done' := #[true, true, true, true, true, true, true, true, true, true, true, true, true, true, true, false]) rfl rfl rfl rfl (by kernel_rfl) (QP.block (QP.then (QP.then (QP.block (QP.then QP.body))))) (by kernel_rfl) rfl (V_idxArr (i := s1.1) rfl rfl Try.underlying83 TryI.inf67 rfl h14.1 h14.2 (k := (s1.1).toNat) (k01 _)) ?_
        refine TA_all (rs := [15]) (by kernel_rfl) rfl ?_
        refine ⟨?_, trivial⟩
        refine TO_n (is := []) (R := fun _ => []) (done' := #[true, true, true, true, true, true, true, true, true, true, true, true, true, true, true, true]) rfl rfl rfl (by kernel_rfl) (E_store (j := 3) rfl rfl TryI.inf67 rfl rfl rfl (by simpa using (toNat_lt h14.1 h14.2)) (cs' := e32 ((vp s1.2 ((s1.1).toNat) ((((vg s1.2 ((w64 (s1.1 - 16)).toNat)) + a_1) + (vg s1.2 ((w64 (s1.1 - 7)).toNat))) + b5)).toList)) set_vec) (fun h => by cases h) (fun _ => ?_)
        refine TA_reE (j := 3) (A := some (b4, 0)) (cs := e32 ((vp s1.2 ((s1.1).toNat) ((((vg s1.2 ((w64 (s1.1 - 16)).toNat)) + a_1) + (vg s1.2 ((w64 (s1.1 - 7)).toNat))) + b5)).toList)) (cs' := e32 m_3.toList) rfl (congrArg (fun z : Vector (BitVec 32) 64 => e32 (Vector.toList z)) hm_3) ?_
        refine TA_done (by kernel_rfl) ?_ 0
        refine TX_block_normal ?_
        refine TX_next ?_
        refine TC_region ?_
        refine TL_v rfl rfl rfl (V_move rfl) ?_
        refine TL_v rfl rfl rfl (V_bin rfl rfl (fun w => addI w s1.1 1)) ?_
        refine TL_v rfl rfl rfl (V_assign rfl) ?_
        obtain ⟨i2, hi2, H⟩ := ltt_elim H
        refine TL_re (d := 8) (v := vi (w64 (s1.1 + 1))) (v' := vi i2) rfl (congrArg vi hi2) ?_
        refine TL_nil ?_
        refine TX.sub (m' := [(2, ptr (some (b1, 0)) 0), (4, ptr (some (b2, 0)) 0), (5, ptr (some (b3, 0)) 0), (6, ptr (some (b4, 0)) 0), (8, vi i2)]) ⟨rfl, rfl, rfl, rfl, rfl, trivial⟩ ?_
        refine TX.pull (is := [0, 0, 0, 0]) (L' := [⟨some (b1, 0), e32 h.toList⟩, ⟨some (b2, 0), e32 ((Vector.replicate 8 0#32).toList)⟩, ⟨some (b3, 0), e32 m_1.toList⟩, ⟨some (b4, 0), e32 m_3.toList⟩]) rfl ?_
        obtain rfl := Option.some.inj H
        exact fun a w hs => hK (i2, m_3) rfl () a w hs
      · replace H := ite_f (of_decide_eq_false hc) H
        refine TC_exit ?_
        refine TX_then_exit ?_
        refine TX_then_exit ?_
        refine TX.sub (m' := [(2, ptr (some (b1, 0)) 0), (4, ptr (some (b2, 0)) 0), (5, ptr (some (b3, 0)) 0), (6, ptr (some (b4, 0)) 0)]) ⟨rfl, rfl, rfl, rfl, trivial⟩ ?_
        refine TX.pull (is := [0, 0, 0, 0]) (L' := [⟨some (b1, 0), e32 h.toList⟩, ⟨some (b2, 0), e32 ((Vector.replicate 8 0#32).toList)⟩, ⟨some (b3, 0), e32 m_1.toList⟩, ⟨some (b4, 0), e32 s1.2.toList⟩]) rfl ?_
        obtain rfl := Option.some.inj H
        exact hE s1.2 rfl ()
    · intro g
      refine TX_block_exit ?_
      refine TX_next ?_
      refine TC_seq ?_
      refine TC_region ?_
      refine TL_v rfl rfl rfl (V_loadAgg (n := 8) rfl (by simp) (Src.own (j := 0) rfl) Try.isAgg68 TryI.inf68 rfl (lenV (f := v32) h)) ?_
      refine TL_e rfl rfl rfl (E_allocP [(8, e32 ((Vector.replicate 8 0#32).toList))] TryI.inf68 TryI.zer68 ⟨(lenV (f := v32) (Vector.replicate 8 0#32)), trivial⟩) (fun b6 => ?_)
      refine TL_n rfl rfl (E_storeAgg (n := 8) (j := 0) (vs := e32 h.toList) rfl rfl TryI.inf68 rfl (lenV (f := v32) h) (OneC.map (fun _ => rfl) _) rfl (Nat.le_of_eq (by simp)) (cs' := e32 h.toList) (splice_all (by simp))) (fun _ => ?_)
      refine TL_nil ?_
      refine TX_next ?_
      refine TC_seq ?_
      refine TC_seq ?_
      refine TC_region ?_
      refine TL_v rfl rfl rfl (V_assign rfl) ?_
      refine TL_nil ?_
      refine TX_next ?_
      refine TC_block ?_
      obtain ⟨t_3, Hl, H⟩ := bind_elim H
      refine TC.sub (m' := [(2, ptr (some (b1, 0)) 0), (4, ptr (some (b2, 0)) 0), (5, ptr (some (b3, 0)) 0), (6, ptr (some (b4, 0)) 0), (11, ptr (some (b6, 0)) 0), (12, vi 0)]) ⟨rfl, rfl, rfl, rfl, rfl, rfl, trivial⟩ ?_
      refine TC.pull (is := [1, 1, 1, 1, 0]) (L' := [⟨some (b1, 0), e32 h.toList⟩, ⟨some (b2, 0), e32 ((Vector.replicate 8 0#32).toList)⟩, ⟨some (b3, 0), e32 m_1.toList⟩, ⟨some (b4, 0), e32 t_2.toList⟩, ⟨some (b6, 0), e32 h.toList⟩]) rfl ?_
      refine TC_loopL (id := 4) (body := (halberdref1_block256.b2 m_1 t_2)) (σ := Int × Vector (BitVec 32) 8) (Γ := Unit) (Γx := Unit) (fun s2 g2_ => [(2, ptr (some (b1, 0)) 0), (4, ptr (some (b2, 0)) 0), (5, ptr (some (b3, 0)) 0), (6, ptr (some (b4, 0)) 0), (11, ptr (some (b6, 0)) 0), (12, vi s2.1)]) (fun s2 g2_ => [⟨some (b1, 0), e32 h.toList⟩, ⟨some (b2, 0), e32 ((Vector.replicate 8 0#32).toList)⟩, ⟨some (b3, 0), e32 m_1.toList⟩, ⟨some (b4, 0), e32 t_2.toList⟩, ⟨some (b6, 0), e32 s2.2.toList⟩]) (fun t g => [(2, ptr (some (b1, 0)) 0), (4, ptr (some (b2, 0)) 0), (11, ptr (some (b6, 0)) 0)]) (fun t g => [⟨some (b1, 0), e32 h.toList⟩, ⟨some (b2, 0), e32 ((Vector.replicate 8 0#32).toList)⟩, ⟨some (b6, 0), e32 t.toList⟩]) ?_ BIG (0, h) () t_3 Hl ?_
      · intro s2 g2_ r1 H K hK hE
        unfold halberdref1_block256.b2 at H
        refine TC_seq ?_
        refine TC_seq ?_
        refine TC_region ?_
        refine TL_v rfl rfl rfl (V_move rfl) ?_
        refine TL_v rfl rfl rfl (V_bin rfl rfl (fun w => lssI w s2.1 64)) ?_
        refine TL_nil ?_
        refine TX_next ?_
        refine TC_cond (b := (decide (s2.1 < 64))) rfl (fun hc => ?_) (fun hc => ?_)
        · replace H := ite_t (of_decide_eq_true hc) H
          refine TC_skip ?_
          refine TX_next ?_
          refine TC_seq ?_
          refine TC_block ?_
          refine TC_seq ?_
          obtain ⟨r_5, hr_5, H⟩ := bind_elim H
          obtain ⟨r_6, hr_6, H⟩ := bind_elim H
          obtain ⟨r_7, hr_7, H⟩ := bind_elim H
          obtain ⟨a_2, ha_2, H⟩ := ltt_elim H
          refine TA_begin [⟨some (b1, 0), e32 h.toList⟩, ⟨some (b2, 0), e32 ((Vector.replicate 8 0#32).toList)⟩, ⟨some (b3, 0), e32 m_1.toList⟩, ⟨some (b4, 0), e32 t_2.toList⟩, ⟨some (b6, 0), e32 s2.2.toList⟩] 12 (by kernel_rfl) (N := 12) rfl ?_
          refine TA_take (i := 0) (is := [0, 0, 0, 0, 0]) (done' := #[true, false, false, false, false, false, false, false, false, false, false, false]) rfl rfl rfl rfl (by kernel_rfl) (QP.then (QP.block (QP.then (QP.then (QP.block (QP.then QP.body)))))) (by kernel_rfl) rfl (V_idxArr (i := 4) rfl rfl Try.underlying68 TryI.inf67 rfl (by decide) (by decide) (k := 4) (k01 _)) ?_
          refine TA_take (i := 1) (is := [0, 0, 0, 0, 0]) (done' := #[true, true, false, false, false, false, false, false, false, false, false, false]) rfl rfl rfl rfl (by kernel_rfl) (QP.then (QP.block (QP.then (QP.then (QP.block (QP.then QP.body)))))) (by kernel_rfl) rfl (V_load rfl (Src.own (j := 4) rfl) (get_vec (f := v32) (V := s2.2) (by decide : 4 < 8)) Try.isAgg67) ?_
          refine TA_take (i := 3) (is := [0, 0, 0, 0, 0]) (done' := #[true, true, false, true, false, false, false, false, false, false, false, false]) rfl rfl rfl rfl (by kernel_rfl) (QP.then (QP.block (QP.then (QP.then (QP.block (QP.then QP.body)))))) (by kernel_rfl) rfl (V_idxArr (i := 4) rfl rfl Try.underlying68 TryI.inf67 rfl (by decide) (by decide) (k := 4) (k01 _)) ?_
          refine TA_take (i := 4) (is := [0, 0, 0, 0, 0]) (done' := #[true, true, false, true, true, false, false, false, false, false, false, false]) rfl rfl rfl rfl (by kernel_rfl) (QP.then (QP.block (QP.then (QP.then (QP.block (QP.then QP.body)))))) (by kernel_rfl) rfl (V_load rfl (Src.own (j := 4) rfl) (get_vec (f := v32) (V := s2.2) (by decide : 4 < 8)) Try.isAgg67) ?_
          refine TA_take (i := 7) (is := [0, 0, 0, 0, 0]) (done' := #[true, true, false, true, true, false, false, true, false, false, false, false]) rfl rfl rfl rfl (by kernel_rfl) (QP.then (QP.block (QP.then (QP.then (QP.block (QP.then QP.body)))))) (by kernel_rfl) rfl (V_idxArr (i := 4) rfl rfl Try.underlying68 TryI.inf67 rfl (by decide) (by decide) (k := 4) (k01 _)) ?_
          refine TA_take (i := 8) (is := [0, 0, 0, 0, 0]) (done' := #[true, true, false, true, true, false, false, true, true, false, false, false]) rfl rfl rfl rfl (by kernel_rfl) (QP.then (QP.block (QP.then (QP.then (QP.block (QP.then QP.body)))))) (by kernel_rfl) rfl (V_load rfl (Src.own (j := 4) rfl) (get_vec (f := v32) (V := s2.2) (by decide : 4 < 8)) Try.isAgg67) ?_
          refine TA_all (rs := [2]) (by kernel_rfl) rfl ?_
          refine ⟨?_, trivial⟩
          refine TO_e (is := [0, 0, 0, 0, 0]) (done' := #[true, true, true, true, true, false, false, true, true, false, false, false]) rfl rfl rfl rfl (by kernel_rfl) (E_call (Γ := Unit) (val := fun g => v32 r_5) (mem := fun g => []) (vs := [v32 (vg s2.2 4), vi 6]) (Lin := []) (Ro := []) (is := []) rfl Try.call63 (F63_calls (vg s2.2 4) 6 r_5 hr_5) rfl trivial) (fun _ _ => rfl) (fun g_5 => ?_)
          refine TA_all (rs := [5]) (by kernel_rfl) rfl ?_
          refine ⟨?_, trivial⟩
          refine TO_e (is := [0, 0, 0, 0, 0]) (done' := #[true, true, true, true, true, true, false, true, true, false, false, false]) rfl rfl rfl rfl (by kernel_rfl) (E_call (Γ := Unit) (val := fun g => v32 r_6) (mem := fun g => []) (vs := [v32 (vg s2.2 4), vi 11]) (Lin := []) (Ro := []) (is := []) rfl Try.call63 (F63_calls (vg s2.2 4) 11 r_6 hr_6) rfl trivial) (fun _ _ => rfl) (fun g_6 => ?_)
          refine TA_take (i := 6) (is := [0, 0, 0, 0, 0]) (done' := #[true, true, true, true, true, true, true, true, true, false, false, false]) rfl rfl rfl rfl (by kernel_rfl) (QP.then (QP.block (QP.then (QP.then (QP.block (QP.then QP.body)))))) (by kernel_rfl) rfl (V_bin rfl rfl (fun w => xor32 w r_5 r_6)) ?_
          refine TA_all (rs := [9]) (by kernel_rfl) rfl ?_
          refine ⟨?_, trivial⟩
          refine TO_e (is := [0, 0, 0, 0, 0]) (done' := #[true, true, true, true, true, true, true, true, true, true, false, false]) rfl rfl rfl rfl (by kernel_rfl) (E_call (Γ := Unit) (val := fun g => v32 r_7) (mem := fun g => []) (vs := [v32 (vg s2.2 4), vi 25]) (Lin := []) (Ro := []) (is := []) rfl Try.call63 (F63_calls (vg s2.2 4) 25 r_7 hr_7) rfl trivial) (fun _ _ => rfl) (fun g_7 => ?_)
          refine TA_take (i := 10) (is := [0, 0, 0, 0, 0]) (done' := #[true, true, true, true, true, true, true, true, true, true, true, false]) rfl rfl rfl rfl (by kernel_rfl) (QP.then (QP.block (QP.then (QP.then (QP.block (QP.then QP.body)))))) (by kernel_rfl) rfl (V_bin rfl rfl (fun w => xor32 w (r_5 ^^^ r_6) r_7)) ?_
          refine TA_take (i := 11) (is := [0, 0, 0, 0, 0]) (done' := #[true, true, true, true, true, true, true, true, true, true, true, true]) rfl rfl rfl rfl (by kernel_rfl) (QP.then (QP.block (QP.then (QP.then (QP.block (QP.then QP.body)))))) (by kernel_rfl) rfl (V_assign rfl) ?_
          refine TA_re (d := 13) (v := v32 ((r_5 ^^^ r_6) ^^^ r_7)) (v' := v32 a_2) rfl (congrArg v32 ha_2) ?_
          refine TA_done (by kernel_rfl) ?_ 0
          refine TX_next ?_
          refine TC_seq ?_
          obtain ⟨h15, H⟩ := if_elim H
          obtain ⟨h16, H⟩ := if_elim H
          obtain ⟨t_4, ht_4, H⟩ := ltt_elim H
          refine TA_begin [⟨some (b1, 0), e32 h.toList⟩, ⟨some (b2, 0), e32 ((Vector.replicate 8 0#32).toList)⟩, ⟨some (b3, 0), e32 m_1.toList⟩, ⟨some (b4, 0), e32 t_2.toList⟩, ⟨some (b6, 0), e32 s2.2.toList⟩] 26 (by kernel_rfl) (N := 26) rfl ?_
          refine TA_take (i := 0) (is := [0, 0, 0, 0, 0]) (done' := #[true, false, false, false, false, false, false, false, false, false, false, false, false, false, false, false, false, false, false, false, false, false, false, false, false, false]) rfl rfl rfl rfl (by kernel_rfl) (QP.then (QP.block (QP.then (QP.then (QP.block (QP.then QP.body)))))) (by kernel_rfl) rfl (V_idxArr (i := 7) rfl rfl Try.underlying68 TryI.inf67 rfl (by decide) (by decide) (k := 7) (k01 _)) ?_
          refine TA_take (i := 1) (is := [0, 0, 0, 0, 0]) (done' := #[true, true, false, false, false, false, false, false, false, false, false, false, false, false, false, false, false, false, false, false, false, false, false, false, false, false]) rfl rfl rfl rfl (by kernel_rfl) (QP.then (QP.block (QP.then (QP.then (QP.block (QP.then QP.body)))))) (by kernel_rfl) rfl (V_load rfl (Src.own (j := 4) rfl) (get_vec (f := v32) (V := s2.2) (by decide : 7 < 8)) Try.isAgg67) ?_
          refine TA_take (i := 2) (is := [0, 0, 0, 0, 0]) (done' := #[true, true, true, false, false, false, false, false, false, false, false, false, false, false, false, false, false, false, false, false, false, false, false, false, false, false]) rfl rfl rfl rfl (by kernel_rfl) (QP.then (QP.block (QP.then (QP.then (QP.block (QP.then QP.body)))))) (by kernel_rfl) rfl (V_move rfl) ?_
          refine TA_take (i := 3) (is := [0, 0, 0, 0, 0]) (done' := #[true, true, true, true, false, false, false, false, false, false, false, false, false, false, false, false, false, false, false, false, false, false, false, false, false, false]) rfl rfl rfl rfl (by kernel_rfl) (QP.then (QP.block (QP.then (QP.then (QP.block (QP.then QP.body)))))) (by kernel_rfl) rfl (V_bin rfl rfl (fun w => add32 w (vg s2.2 7) a_2)) ?_
          refine TA_take (i := 4) (is := [0, 0, 0, 0, 0]) (done' := #[true, true, true, true, true, false, false, false, false, false, false, false, false, false, false, false, false, false, false, false, false, false, false, false, false, false]) rfl rfl rfl rfl (by kernel_rfl) (QP.then (QP.block (QP.then (QP.then (QP.block (QP.then QP.body)))))) (by kernel_rfl) rfl (V_idxArr (i := 4) rfl rfl Try.underlying68 TryI.inf67 rfl (by decide) (by decide) (k := 4) (k01 _)) ?_
          refine TA_take (i := 5) (is := [0, 0, 0, 0, 0]) (done' := #[true, true, true, true, true, true, false, false, false, false, false, false, false, false, false, false, false, false, false, false, false, false, false, false, false, false]) rfl rfl rfl rfl (by kernel_rfl) (QP.then (QP.block (QP.then (QP.then (QP.block (QP.then QP.body)))))) (by kernel_rfl) rfl (V_load rfl (Src.own (j := 4) rfl) (get_vec (f := v32) (V := s2.2) (by decide : 4 < 8)) Try.isAgg67) ?_
          refine TA_take (i := 6) (is := [0, 0, 0, 0, 0]) (done' := #[true, true, true, true, true, true, true, false, false, false, false, false, false, false, false, false, false, false, false, false, false, false, false, false, false, false]) rfl rfl rfl rfl (by kernel_rfl) (QP.then (QP.block (QP.then (QP.then (QP.block (QP.then QP.body)))))) (by kernel_rfl) rfl (V_idxArr (i := 5) rfl rfl Try.underlying68 TryI.inf67 rfl (by decide) (by decide) (k := 5) (k01 _)) ?_
          refine TA_take (i := 7) (is := [0, 0, 0, 0, 0]) (done' := #[true, true, true, true, true, true, true, true, false, false, false, false, false, false, false, false, false, false, false, false, false, false, false, false, false, false]) rfl rfl rfl rfl (by kernel_rfl) (QP.then (QP.block (QP.then (QP.then (QP.block (QP.then QP.body)))))) (by kernel_rfl) rfl (V_load rfl (Src.own (j := 4) rfl) (get_vec (f := v32) (V := s2.2) (by decide : 5 < 8)) Try.isAgg67) ?_
          refine TA_take (i := 8) (is := [0, 0, 0, 0, 0]) (done' := #[true, true, true, true, true, true, true, true, true, false, false, false, false, false, false, false, false, false, false, false, false, false, false, false, false, false]) rfl rfl rfl rfl (by kernel_rfl) (QP.then (QP.block (QP.then (QP.then (QP.block (QP.then QP.body)))))) (by kernel_rfl) rfl (V_bin rfl rfl (fun w => and32 w (vg s2.2 4) (vg s2.2 5))) ?_
          refine TA_take (i := 9) (is := [0, 0, 0, 0, 0]) (done' := #[true, true, true, true, true, true, true, true, true, true, false, false, false, false, false, false, false, false, false, false, false, false, false, false, false, false]) rfl rfl rfl rfl (by kernel_rfl) (QP.then (QP.block (QP.then (QP.then (QP.block (QP.then QP.body)))))) (by kernel_rfl) rfl (V_idxArr (i := 4) rfl rfl Try.underlying68 TryI.inf67 rfl (by decide) (by decide) (k := 4) (k01 _)) ?_
          refine TA_take (i := 10) (is := [0, 0, 0, 0, 0]) (done' := #[true, true, true, true, true, true, true, true, true, true, true, false, false, false, false, false, false, false, false, false, false, false, false, false, false, false]) rfl rfl rfl rfl (by kernel_rfl) (QP.then (QP.block (QP.then (QP.then (QP.block (QP.then QP.body)))))) (by kernel_rfl) rfl (V_load rfl (Src.own (j := 4) rfl) (get_vec (f := v32) (V := s2.2) (by decide : 4 < 8)) Try.isAgg67) ?_
          refine TA_take (i := 11) (is := [0, 0, 0, 0, 0]) (done' := #[true, true, true, true, true, true, true, true, true, true, true, true, false, false, false, false, false, false, false, false, false, false, false, false, false, false]) rfl rfl rfl rfl (by kernel_rfl) (QP.then (QP.block (QP.then (QP.then (QP.block (QP.then QP.body)))))) (by kernel_rfl) rfl (V_un rfl (fun w => not32 w (vg s2.2 4))) ?_
          refine TA_take (i := 12) (is := [0, 0, 0, 0, 0]) (done' := #[true, true, true, true, true, true, true, true, true, true, true, true, true, false, false, false, false, false, false, false, false, false, false, false, false, false]) rfl rfl rfl rfl (by kernel_rfl) (QP.then (QP.block (QP.then (QP.then (QP.block (QP.then QP.body)))))) (by kernel_rfl) rfl (V_idxArr (i := 6) rfl rfl Try.underlying68 TryI.inf67 rfl (by decide) (by decide) (k := 6) (k01 _)) ?_
          refine TA_take (i := 13) (is := [0, 0, 0, 0, 0]) (done' := #[true, true, true, true, true, true, true, true, true, true, true, true, true, true, false, false, false, false, false, false, false, false, false, false, false, false]) rfl rfl rfl rfl (by kernel_rfl) (QP.then (QP.block (QP.then (QP.then (QP.block (QP.then QP.body)))))) (by kernel_rfl) rfl (V_load rfl (Src.own (j := 4) rfl) (get_vec (f := v32) (V := s2.2) (by decide : 6 < 8)) Try.isAgg67) ?_
          refine TA_take (i := 14) (is := [0, 0, 0, 0, 0]) (done' := #[true, true, true, true, true, true, true, true, true, true, true, true, true, true, true, false, false, false, false, false, false, false, false, false, false, false]) rfl rfl rfl rfl (by kernel_rfl) (QP.then (QP.block (QP.then (QP.then (QP.block (QP.then QP.body)))))) (by kernel_rfl) rfl (V_bin rfl rfl (fun w => and32 w (~~~(vg s2.2 4)) (vg s2.2 6))) ?_
          refine TA_take (i := 15) (is := [0, 0, 0, 0, 0]) (done' := #[true, true, true, true, true, true, true, true, true, true, true, true, true, true, true, true, false, false, false, false, false, false, false, false, false, false]) rfl rfl rfl rfl (by kernel_rfl) (QP.then (QP.block (QP.then (QP.then (QP.block (QP.then QP.body)))))) (by kernel_rfl) rfl (V_bin rfl rfl (fun w => xor32 w ((vg s2.2 4) &&& (vg s2.2 5)) ((~~~(vg s2.2 4)) &&& (vg s2.2 6)))) ?_
          refine TA_take (i := 16) (is := [0, 0, 0, 0, 0]) (done' := #[true, true, true, true, true, true, true, true, true, true, true, true, true, true, true, true, true, false, false, false, false, false, false, false, false, false]) rfl rfl rfl rfl (by kernel_rfl) (QP.then (QP.block (QP.then (QP.then (QP.block (QP.then QP.body)))))) (by kernel_rfl) rfl (V_bin rfl rfl (fun w => add32 w ((vg s2.2 7) + a_2) (((vg s2.2 4) &&& (vg s2.2 5)) ^^^ ((~~~(vg s2.2 4)) &&& (vg s2.2 6))))) ?_
          refine TA_take (i := 17) (is := [0, 0, 0, 0, 0]) (done' := #[true, true, true, true, true, true, true, true, true, true, true, true, true, true, true, true, true, true, false, false, false, false, false, false, false, false]) rfl rfl rfl rfl (by kernel_rfl) (QP.then (QP.block (QP.then (QP.then (QP.block (QP.then QP.body)))))) (by kernel_rfl) rfl (V_move rfl) ?_
          refine TA_take (i := 18) (is := [0, 0, 0, 0, 0]) (done' := #[true, true, true, true, true, true, true, true, true, true, true, true, true, true, true, true, true, true, true, false, false, false, false, false, false, false]) rfl rfl rfl rfl (by kernel_rfl) (QP.then (QP.block (QP.then (QP.then (QP.block (QP.then QP.body)))))) (by kernel_rfl) rfl (V_idxArr (i := s2.1) rfl rfl Try.underlying83 TryI.inf67 rfl h15.1 h15.2 (k := (s2.1).toNat) (k01 _)) ?_
          refine TA_take (i := 19) (is := [0, 0, 0, 0, 0]) (done' := #[true, true, true, true, true, true, true, true, true, true, true, true, true, true, true, true, true, true, true, true, false, false, false, false, false, false]) rfl rfl rfl rfl (by kernel_rfl) (QP.then (QP.block (QP.then (QP.then (QP.block (QP.then QP.body)))))) (by kernel_rfl) rfl (V_load rfl (Src.own (j := 2) rfl) (get_vec (f := v32) (V := m_1) (toNat_lt h15.1 h15.2)) Try.isAgg67) ?_
          refine TA_take (i := 20) (is := [0, 0, 0, 0, 0]) (done' := #[true, true, true, true, true, true, true, true, true, true, true, true, true, true, true, true, true, true, true, true, true, false, false, false, false, false]) rfl rfl rfl rfl (by kernel_rfl) (QP.then (QP.block (QP.then (QP.then (QP.block (QP.then QP.body)))))) (by kernel_rfl) rfl (V_bin rfl rfl (fun w => add32 w (((vg s2.2 7) + a_2) + (((vg s2.2 4) &&& (vg s2.2 5)) ^^^ ((~~~(vg s2.2 4)) &&& (vg s2.2 6)))) (vg m_1 ((s2.1).toNat)))) ?_
          refine TA_take (i := 21) (is := [0, 0, 0, 0, 0]) (done' := #[true, true, true, true, true, true, true, true, true, true, true, true, true, true, true, true, true, true, true, true, true, true, false, false, false, false]) rfl rfl rfl rfl (by kernel_rfl) (QP.then (QP.block (QP.then (QP.then (QP.block (QP.then QP.body)))))) (by kernel_rfl) rfl (V_move rfl) ?_
          refine TA_take (i := 22) (is := [0, 0, 0, 0, 0]) (done' := #[true, true, true, true, true, true, true, true, true, true, true, true, true, true, true, true, true, true, true, true, true, true, true, false, false, false]) rfl rfl rfl rfl (by kernel_rfl) (QP.then (QP.block (QP.then (QP.then (QP.block (QP.then QP.body)))))) (by kernel_rfl) rfl (V_idxArr (i := s2.1) rfl rfl Try.underlying83 TryI.inf67 rfl h16.1 h16.2 (k := (s2.1).toNat) (k01 _)) ?_
          refine TA_take (i := 23) (is := [0, 0, 0, 0, 0]) (done' := #[true, true, true, true, true, true, true, true, true, true, true, true, true, true, true, true, true, true, true, true, true, true, true, true, false, false]) rfl rfl rfl rfl (by kernel_rfl) (QP.then (QP.block (QP.then (QP.then (QP.block (QP.then QP.body)))))) (by kernel_rfl) rfl (V_load rfl (Src.own (j := 3) rfl) (get_vec (f := v32) (V := t_2) (toNat_lt h16.1 h16.2)) Try.isAgg67) ?_
          refine TA_take (i := 24) (is := [0, 0, 0, 0, 0]) (done' := #[true, true, true, true, true, true, true, true, true, true, true, true, true, true, true, true, true, true, true, true, true, true, true, true, true, false]) rfl rfl rfl rfl (by kernel_rfl) (QP.then (QP.block (QP.then (QP.then (QP.block (QP.then QP.body)))))) (by kernel_rfl) rfl (V_bin rfl rfl (fun w => add32 w ((((vg s2.2 7) + a_2) + (((vg s2.2 4) &&& (vg s2.2 5)) ^^^ ((~~~(vg s2.2 4)) &&& (vg s2.2 6)))) + (vg m_1 ((s2.1).toNat))) (vg t_2 ((s2.1).toNat)))) ?_
          refine TA_take (i := 25) (is := [0, 0, 0, 0, 0]) (done' := #[true, true, true, true, true, true, true, true, true, true, true, true, true, true, true, true, true, true, true, true, true, true, true, true, true, true]) rfl rfl rfl rfl (by kernel_rfl) (QP.then (QP.block (QP.then (QP.then (QP.block (QP.then QP.body)))))) (by kernel_rfl) rfl (V_assign rfl) ?_
          refine TA_re (d := 14) (v := v32 (((((vg s2.2 7) + a_2) + (((vg s2.2 4) &&& (vg s2.2 5)) ^^^ ((~~~(vg s2.2 4)) &&& (vg s2.2 6)))) + (vg m_1 ((s2.1).toNat))) + (vg t_2 ((s2.1).toNat)))) (v' := v32 t_4) rfl (congrArg v32 ht_4) ?_
          refine TA_done (by kernel_rfl) ?_ 0
          refine TX_next ?_
          refine TC.sub (m' := [(2, ptr (some (b1, 0)) 0), (4, ptr (some (b2, 0)) 0), (5, ptr (some (b3, 0)) 0), (6, ptr (some (b4, 0)) 0), (11, ptr (some (b6, 0)) 0), (12, vi s2.1), (14, v32 t_4)]) ⟨rfl, rfl, rfl, rfl, rfl, rfl, rfl, trivial⟩ ?_
          refine TC_seq ?_
          obtain ⟨r_8, hr_8, H⟩ := bind_elim H
          obtain ⟨r_9, hr_9, H⟩ := bind_elim H
          obtain ⟨r_10, hr_10, H⟩ := bind_elim H
          obtain ⟨b7, hb7, H⟩ := ltt_elim H
          refine TA_begin [⟨some (b1, 0), e32 h.toList⟩, ⟨some (b2, 0), e32 ((Vector.replicate 8 0#32).toList)⟩, ⟨some (b3, 0), e32 m_1.toList⟩, ⟨some (b4, 0), e32 t_2.toList⟩, ⟨some (b6, 0), e32 s2.2.toList⟩] 12 (by kernel_rfl) (N := 12) rfl ?_
          refine TA_take (i := 0) (is := [0, 0, 0, 0, 0]) (done' := #[true, false, false, false, false, false, false, false, false, false, false, false]) rfl rfl rfl rfl (by kernel_rfl) (QP.then (QP.block (QP.then (QP.then (QP.block (QP.then QP.body)))))) (by kernel_rfl) rfl (V_idxArr (i := 0) rfl rfl Try.underlying68 TryI.inf67 rfl (by decide) (by decide) (k := 0) (k01 _)) ?_
          refine TA_take (i := 1) (is := [0, 0, 0, 0, 0]) (done' := #[true, true, false, false, false, false, false, false, false, false, false, false]) rfl rfl rfl rfl (by kernel_rfl) (QP.then (QP.block (QP.then (QP.then (QP.block (QP.then QP.body)))))) (by kernel_rfl) rfl (V_load rfl (Src.own (j := 4) rfl) (get_vec (f := v32) (V := s2.2) (by decide : 0 < 8)) Try.isAgg67) ?_
          refine TA_take (i := 3) (is := [0, 0, 0, 0, 0]) (done' := #[true, true, false, true, false, false, false, false, false, false, false, false]) rfl rfl rfl rfl (by kernel_rfl) (QP.then (QP.block (QP.then (QP.then (QP.block (QP.then QP.body)))))) (by kernel_rfl) rfl (V_idxArr (i := 0) rfl rfl Try.underlying68 TryI.inf67 rfl (by decide) (by decide) (k := 0) (k01 _)) ?_
          refine TA_take (i := 4) (is := [0, 0, 0, 0, 0]) (done' := #[true, true, false, true, true, false, false, false, false, false, false, false]) rfl rfl rfl rfl (by kernel_rfl) (QP.then (QP.block (QP.then (QP.then (QP.block (QP.then QP.body)))))) (by kernel_rfl) rfl (V_load rfl (Src.own (j := 4) rfl) (get_vec (f := v32) (V := s2.2) (by decide : 0 < 8)) Try.isAgg67) ?_
          refine TA_take (i := 7) (is := [0, 0, 0, 0, 0]) (done' := #[true, true, false, true, true, false, false, true, false, false, false, false]) rfl rfl rfl rfl (by kernel_rfl) (QP.then (QP.block (QP.then (QP.then (QP.block (QP.then QP.body)))))) (by kernel_rfl) rfl (V_idxArr (i := 0) rfl rfl Try.underlying68 TryI.inf67 rfl (by decide) (by decide) (k := 0) (k01 _)) ?_
          refine TA_take (i := 8) (is := [0, 0, 0, 0, 0]) (done' := #[true, true, false, true, true, false, false, true, true, false, false, false]) rfl rfl rfl rfl (by kernel_rfl) (QP.then (QP.block (QP.then (QP.then (QP.block (QP.then QP.body)))))) (by kernel_rfl) rfl (V_load rfl (Src.own (j := 4) rfl) (get_vec (f := v32) (V := s2.2) (by decide : 0 < 8)) Try.isAgg67) ?_
          refine TA_all (rs := [2]) (by kernel_rfl) rfl ?_
          refine ⟨?_, trivial⟩
          refine TO_e (is := [0, 0, 0, 0, 0]) (done' := #[true, true, true, true, true, false, false, true, true, false, false, false]) rfl rfl rfl rfl (by kernel_rfl) (E_call (Γ := Unit) (val := fun g => v32 r_8) (mem := fun g => []) (vs := [v32 (vg s2.2 0), vi 2]) (Lin := []) (Ro := []) (is := []) rfl Try.call63 (F63_calls (vg s2.2 0) 2 r_8 hr_8) rfl trivial) (fun _ _ => rfl) (fun g_8 => ?_)
          refine TA_all (rs := [5]) (by kernel_rfl) rfl ?_
          refine ⟨?_, trivial⟩
          refine TO_e (is := [0, 0, 0, 0, 0]) (done' := #[true, true, true, true, true, true, false, true, true, false, false, false]) rfl rfl rfl rfl (by kernel_rfl) (E_call (Γ := Unit) (val := fun g => v32 r_9) (mem := fun g => []) (vs := [v32 (vg s2.2 0), vi 13]) (Lin := []) (Ro := []) (is := []) rfl Try.call63 (F63_calls (vg s2.2 0) 13 r_9 hr_9) rfl trivial) (fun _ _ => rfl) (fun g_9 => ?_)
          refine TA_take (i := 6) (is := [0, 0, 0, 0, 0]) (done' := #[true, true, true, true, true, true, true, true, true, false, false, false]) rfl rfl rfl rfl (by kernel_rfl) (QP.then (QP.block (QP.then (QP.then (QP.block (QP.then QP.body)))))) (by kernel_rfl) rfl (V_bin rfl rfl (fun w => xor32 w r_8 r_9)) ?_
          refine TA_all (rs := [9]) (by kernel_rfl) rfl ?_
          refine ⟨?_, trivial⟩
          refine TO_e (is := [0, 0, 0, 0, 0]) (done' := #[true, true, true, true, true, true, true, true, true, true, false, false]) rfl rfl rfl rfl (by kernel_rfl) (E_call (Γ := Unit) (val := fun g => v32 r_10) (mem := fun g => []) (vs := [v32 (vg s2.2 0), vi 22]) (Lin := []) (Ro := []) (is := []) rfl Try.call63 (F63_calls (vg s2.2 0) 22 r_10 hr_10) rfl trivial) (fun _ _ => rfl) (fun g_10 => ?_)
          refine TA_take (i := 10) (is := [0, 0, 0, 0, 0]) (done' := #[true, true, true, true, true, true, true, true, true, true, true, false]) rfl rfl rfl rfl (by kernel_rfl) (QP.then (QP.block (QP.then (QP.then (QP.block (QP.then QP.body)))))) (by kernel_rfl) rfl (V_bin rfl rfl (fun w => xor32 w (r_8 ^^^ r_9) r_10)) ?_
          refine TA_take (i := 11) (is := [0, 0, 0, 0, 0]) (done' := #[true, true, true, true, true, true, true, true, true, true, true, true]) rfl rfl rfl rfl (by kernel_rfl) (QP.then (QP.block (QP.then (QP.then (QP.block (QP.then QP.body)))))) (by kernel_rfl) rfl (V_assign rfl) ?_
          refine TA_re (d := 15) (v := v32 ((r_8 ^^^ r_9) ^^^ r_10)) (v' := v32 b7) rfl (congrArg v32 hb7) ?_
          refine TA_done (by kernel_rfl) ?_ 0
          refine TX_next ?_
          refine TC_seq ?_
          refine TC_region ?_
          refine TL_v rfl rfl rfl (V_move rfl) ?_
          refine TL_v rfl rfl rfl (V_idxArr (i := 0) rfl rfl Try.underlying68 TryI.inf67 rfl (by decide) (by decide) (k := 0) (k01 _)) ?_
          refine TL_v rfl rfl rfl (V_load rfl (Src.own (j := 4) rfl) (get_vec (f := v32) (V := s2.2) (by decide : 0 < 8)) Try.isAgg67) ?_
          refine TL_v rfl rfl rfl (V_idxArr (i := 1) rfl rfl Try.underlying68 TryI.inf67 rfl (by decide) (by decide) (k := 1) (k01 _)) ?_
          refine TL_v rfl rfl rfl (V_load rfl (Src.own (j := 4) rfl) (get_vec (f := v32) (V := s2.2) (by decide : 1 < 8)) Try.isAgg67) ?_
          refine TL_v rfl rfl rfl (V_bin rfl rfl (fun w => and32 w (vg s2.2 0) (vg s2.2 1))) ?_
          refine TL_v rfl rfl rfl (V_idxArr (i := 0) rfl rfl Try.underlying68 TryI.inf67 rfl (by decide) (by decide) (k := 0) (k01 _)) ?_
          refine TL_v rfl rfl rfl (V_load rfl (Src.own (j := 4) rfl) (get_vec (f := v32) (V := s2.2) (by decide : 0 < 8)) Try.isAgg67) ?_
          refine TL_v rfl rfl rfl (V_idxArr (i := 2) rfl rfl Try.underlying68 TryI.inf67 rfl (by decide) (by decide) (k := 2) (k01 _)) ?_
          refine TL_v rfl rfl rfl (V_load rfl (Src.own (j := 4) rfl) (get_vec (f := v32) (V := s2.2) (by decide : 2 < 8)) Try.isAgg67) ?_
          refine TL_v rfl rfl rfl (V_bin rfl rfl (fun w => and32 w (vg s2.2 0) (vg s2.2 2))) ?_
          refine TL_v rfl rfl rfl (V_bin rfl rfl (fun w => xor32 w ((vg s2.2 0) &&& (vg s2.2 1)) ((vg s2.2 0) &&& (vg s2.2 2)))) ?_
          refine TL_v rfl rfl rfl (V_idxArr (i := 1) rfl rfl Try.underlying68 TryI.inf67 rfl (by decide) (by decide) (k := 1) (k01 _)) ?_
          refine TL_v rfl rfl rfl (V_load rfl (Src.own (j := 4) rfl) (get_vec (f := v32) (V := s2.2) (by decide : 1 < 8)) Try.isAgg67) ?_
          refine TL_v rfl rfl rfl (V_idxArr (i := 2) rfl rfl Try.underlying68 TryI.inf67 rfl (by decide) (by decide) (k := 2) (k01 _)) ?_
          refine TL_v rfl rfl rfl (V_load rfl (Src.own (j := 4) rfl) (get_vec (f := v32) (V := s2.2) (by decide : 2 < 8)) Try.isAgg67) ?_
          refine TL_v rfl rfl rfl (V_bin rfl rfl (fun w => and32 w (vg s2.2 1) (vg s2.2 2))) ?_
          refine TL_v rfl rfl rfl (V_bin rfl rfl (fun w => xor32 w (((vg s2.2 0) &&& (vg s2.2 1)) ^^^ ((vg s2.2 0) &&& (vg s2.2 2))) ((vg s2.2 1) &&& (vg s2.2 2)))) ?_
          refine TL_v rfl rfl rfl (V_bin rfl rfl (fun w => add32 w b7 ((((vg s2.2 0) &&& (vg s2.2 1)) ^^^ ((vg s2.2 0) &&& (vg s2.2 2))) ^^^ ((vg s2.2 1) &&& (vg s2.2 2))))) ?_
          refine TL_v rfl rfl rfl (V_assign rfl) ?_
          obtain ⟨u1, hu1, H⟩ := ltt_elim H
          refine TL_re (d := 16) (v := v32 (b7 + ((((vg s2.2 0) &&& (vg s2.2 1)) ^^^ ((vg s2.2 0) &&& (vg s2.2 2))) ^^^ ((vg s2.2 1) &&& (vg s2.2 2))))) (v' := v32 u1) rfl (congrArg v32 hu1) ?_
          refine TL_nil ?_
          refine TX_next ?_
          refine TC.sub (m' := [(2, ptr (some (b1, 0)) 0), (4, ptr (some (b2, 0)) 0), (5, ptr (some (b3, 0)) 0), (6, ptr (some (b4, 0)) 0), (11, ptr (some (b6, 0)) 0), (12, vi s2.1), (14, v32 t_4), (16, v32 u1)]) ⟨rfl, rfl, rfl, rfl, rfl, rfl, rfl, rfl, trivial⟩ ?_
          refine TC_region ?_
          refine TL_v rfl rfl rfl (V_move rfl) ?_
          refine TL_v rfl rfl rfl (V_move rfl) ?_
          refine TL_v rfl rfl rfl (V_bin rfl rfl (fun w => add32 w t_4 u1)) ?_
          refine TL_v rfl rfl rfl (V_idxArr (i := 0) rfl rfl Try.underlying68 TryI.inf67 rfl (by decide) (by decide) (k := 0) (k01 _)) ?_
          refine TL_v rfl rfl rfl (V_load rfl (Src.own (j := 4) rfl) (get_vec (f := v32) (V := s2.2) (by decide : 0 < 8)) Try.isAgg67) ?_
          refine TL_v rfl rfl rfl (V_idxArr (i := 1) rfl rfl Try.underlying68 TryI.inf67 rfl (by decide) (by decide) (k := 1) (k01 _)) ?_
          refine TL_v rfl rfl rfl (V_load rfl (Src.own (j := 4) rfl) (get_vec (f := v32) (V := s2.2) (by decide : 1 < 8)) Try.isAgg67) ?_
          refine TL_v rfl rfl rfl (V_idxArr (i := 2) rfl rfl Try.underlying68 TryI.inf67 rfl (by decide) (by decide) (k := 2) (k01 _)) ?_
          refine TL_v rfl rfl rfl (V_load rfl (Src.own (j := 4) rfl) (get_vec (f := v32) (V := s2.2) (by decide : 2 < 8)) Try.isAgg67) ?_
          refine TL_v rfl rfl rfl (V_idxArr (i := 3) rfl rfl Try.underlying68 TryI.inf67 rfl (by decide) (by decide) (k := 3) (k01 _)) ?_
          refine TL_v rfl rfl rfl (V_load rfl (Src.own (j := 4) rfl) (get_vec (f := v32) (V := s2.2) (by decide : 3 < 8)) Try.isAgg67) ?_
          refine TL_v rfl rfl rfl (V_move rfl) ?_
          refine TL_v rfl rfl rfl (V_bin rfl rfl (fun w => add32 w (vg s2.2 3) t_4)) ?_
          refine TL_v rfl rfl rfl (V_idxArr (i := 4) rfl rfl Try.underlying68 TryI.inf67 rfl (by decide) (by decide) (k := 4) (k01 _)) ?_
          refine TL_v rfl rfl rfl (V_load rfl (Src.own (j := 4) rfl) (get_vec (f := v32) (V := s2.2) (by decide : 4 < 8)) Try.isAgg67) ?_
          refine TL_v rfl rfl rfl (V_idxArr (i := 5) rfl rfl Try.underlying68 TryI.inf67 rfl (by decide) (by decide) (k := 5) (k01 _)) ?_
          refine TL_v rfl rfl rfl (V_load rfl (Src.own (j := 4) rfl) (get_vec (f := v32) (V := s2.2) (by decide : 5 < 8)) Try.isAgg67) ?_
          refine TL_v rfl rfl rfl (V_idxArr (i := 6) rfl rfl Try.underlying68 TryI.inf67 rfl (by decide) (by decide) (k := 6) (k01 _)) ?_
          refine TL_v rfl rfl rfl (V_load rfl (Src.own (j := 4) rfl) (get_vec (f := v32) (V := s2.2) (by decide : 6 < 8)) Try.isAgg67) ?_
          refine TL_v rfl rfl rfl (V_buildArr (pv := [(0, v32 (t_4 + u1)), (1, v32 (vg s2.2 0)), (2, v32 (vg s2.2 1)), (3, v32 (vg s2.2 2)), (4, v32 ((vg s2.2 3) + t_4)), (5, v32 (vg s2.2 4)), (6, v32 (vg s2.2 5)), (7, v32 (vg s2.2 6))]) rfl rfl Try.underlying68 TryI.inf68 TryI.inf67 rfl TryI.zer68 (cs := e32 ((#v[t_4 + u1, vg s2.2 0, vg s2.2 1, vg s2.2 2, (vg s2.2 3) + t_4, vg s2.2 4, vg s2.2 5, vg s2.2 6] : Vector (BitVec 32) 8).toList)) (by kernel_rfl)) ?_
          refine TL_n rfl rfl (E_storeAgg (n := 8) (j := 4) (vs := e32 ((#v[t_4 + u1, vg s2.2 0, vg s2.2 1, vg s2.2 2, (vg s2.2 3) + t_4, vg s2.2 4, vg s2.2 5, vg s2.2 6] : Vector (BitVec 32) 8).toList)) rfl rfl TryI.inf68 rfl (lenV (f := v32) (#v[t_4 + u1, vg s2.2 0, vg s2.2 1, vg s2.2 2, (vg s2.2 3) + t_4, vg s2.2 4, vg s2.2 5, vg s2.2 6] : Vector (BitVec 32) 8)) (OneC.map (fun _ => rfl) _) rfl (Nat.le_of_eq (by simp)) (cs' := e32 ((#v[t_4 + u1, vg s2.2 0, vg s2.2 1, vg s2.2 2, (vg s2.2 3) + t_4, vg s2.2 4, vg s2.2 5, vg s2.2 6] : Vector (BitVec 32) 8).toList)) (splice_all (by simp))) (fun _ => ?_)
          obtain ⟨m_4, hm_4, H⟩ := ltt_elim H
          refine TL_reE (j := 4) (A := some (b6, 0)) (cs := e32 ((#v[t_4 + u1, vg s2.2 0, vg s2.2 1, vg s2.2 2, (vg s2.2 3) + t_4, vg s2.2 4, vg s2.2 5, vg s2.2 6] : Vector (BitVec 32) 8).toList)) (cs' := e32 m_4.toList) rfl (congrArg (fun z : Vector (BitVec 32) 8 => e32 (Vector.toList z)) hm_4) ?_
          refine TL_nil ?_
          refine TX_block_normal ?_
          refine TX_next ?_
          refine TC_region ?_
          refine TL_v rfl rfl rfl (V_move rfl) ?_
          refine TL_v rfl rfl rfl (V_bin rfl rfl (fun w => addI w s2.1 1)) ?_
          refine TL_v rfl rfl rfl (V_assign rfl) ?_
          obtain ⟨i3, hi3, H⟩ := ltt_elim H
          refine TL_re (d := 12) (v := vi (w64 (s2.1 + 1))) (v' := vi i3) rfl (congrArg vi hi3) ?_
          refine TL_nil ?_
          refine TX.sub (m' := [(2, ptr (some (b1, 0)) 0), (4, ptr (some (b2, 0)) 0), (5, ptr (some (b3, 0)) 0), (6, ptr (some (b4, 0)) 0), (11, ptr (some (b6, 0)) 0), (12, vi i3)]) ⟨rfl, rfl, rfl, rfl, rfl, rfl, trivial⟩ ?_
          refine TX.pull (is := [0, 0, 0, 0, 0]) (L' := [⟨some (b1, 0), e32 h.toList⟩, ⟨some (b2, 0), e32 ((Vector.replicate 8 0#32).toList)⟩, ⟨some (b3, 0), e32 m_1.toList⟩, ⟨some (b4, 0), e32 t_2.toList⟩, ⟨some (b6, 0), e32 m_4.toList⟩]) rfl ?_
          obtain rfl := Option.some.inj H
          exact fun a w hs => hK (i3, m_4) rfl () a w hs
        · replace H := ite_f (of_decide_eq_false hc) H
          refine TC_exit ?_
          refine TX_then_exit ?_
          refine TX_then_exit ?_
          refine TX.sub (m' := [(2, ptr (some (b1, 0)) 0), (4, ptr (some (b2, 0)) 0), (11, ptr (some (b6, 0)) 0)]) ⟨rfl, rfl, rfl, trivial⟩ ?_
          refine TX.pull (is := [0, 0, 2]) (L' := [⟨some (b1, 0), e32 h.toList⟩, ⟨some (b2, 0), e32 ((Vector.replicate 8 0#32).toList)⟩, ⟨some (b6, 0), e32 s2.2.toList⟩]) rfl ?_
          obtain rfl := Option.some.inj H
          exact hE s2.2 rfl ()
      · intro g
        refine TX_block_exit ?_
        refine TX_next ?_
        refine TC_seq ?_
        refine TC_seq ?_
        refine TC_region ?_
        refine TL_v rfl rfl rfl (V_assign rfl) ?_
        refine TL_nil ?_
        refine TX_next ?_
        refine TC_block ?_
        obtain ⟨t_5, Hl, H⟩ := bind_elim H
        refine TC.sub (m' := [(2, ptr (some (b1, 0)) 0), (4, ptr (some (b2, 0)) 0), (11, ptr (some (b6, 0)) 0), (17, vi 0)]) ⟨rfl, rfl, rfl, rfl, trivial⟩ ?_
        refine TC.pull (is := [0, 0, 0]) (L' := [⟨some (b1, 0), e32 h.toList⟩, ⟨some (b2, 0), e32 ((Vector.replicate 8 0#32).toList)⟩, ⟨some (b6, 0), e32 t_3.toList⟩]) rfl ?_
        refine TC_loopL (id := 6) (body := (halberdref1_block256.b3 t_3)) (σ := Int × Vector (BitVec 32) 8) (Γ := Unit) (Γx := Unit) (fun s3 g3_ => [(2, ptr (some (b1, 0)) 0), (4, ptr (some (b2, 0)) 0), (11, ptr (some (b6, 0)) 0), (17, vi s3.1)]) (fun s3 g3_ => [⟨some (b1, 0), e32 s3.2.toList⟩, ⟨some (b2, 0), e32 ((Vector.replicate 8 0#32).toList)⟩, ⟨some (b6, 0), e32 t_3.toList⟩]) (fun t g => [(2, ptr (some (b1, 0)) 0), (4, ptr (some (b2, 0)) 0)]) (fun t g => [⟨some (b1, 0), e32 t.toList⟩, ⟨some (b2, 0), e32 ((Vector.replicate 8 0#32).toList)⟩]) ?_ BIG (0, h) () t_5 Hl ?_
        · intro s3 g3_ r1 H K hK hE
          unfold halberdref1_block256.b3 at H
          refine TC_seq ?_
          refine TC_seq ?_
          refine TC_region ?_
          refine TL_v rfl rfl rfl (V_move rfl) ?_
          refine TL_v rfl rfl rfl (V_bin rfl rfl (fun w => lssI w s3.1 8)) ?_
          refine TL_nil ?_
          refine TX_next ?_
          refine TC_cond (b := (decide (s3.1 < 8))) rfl (fun hc => ?_) (fun hc => ?_)
          · replace H := ite_t (of_decide_eq_true hc) H
            refine TC_skip ?_
            refine TX_next ?_
            refine TC_seq ?_
            refine TC_block ?_
            obtain ⟨h17, H⟩ := if_elim H
            obtain ⟨h18, H⟩ := if_elim H
            obtain ⟨h19, H⟩ := if_elim H
            obtain ⟨m_5, hm_5, H⟩ := ltt_elim H
            refine TA_begin [⟨some (b1, 0), e32 s3.2.toList⟩, ⟨some (b2, 0), e32 ((Vector.replicate 8 0#32).toList)⟩, ⟨some (b6, 0), e32 t_3.toList⟩] 9 (by kernel_rfl) (N := 10) rfl ?_
            refine TA_take (i := 0) (is := [0, 0, 0]) (done' := #[true, false, false, false, false, false, false, false, false, false]) rfl rfl rfl rfl (by kernel_rfl) (QP.block (QP.then (QP.then (QP.block (QP.then QP.body))))) (by kernel_rfl) rfl (V_move rfl) ?_
            refine TA_take (i := 1) (is := [0, 0, 0]) (done' := #[true, true, false, false, false, false, false, false, false, false]) rfl rfl rfl rfl (by kernel_rfl) (QP.block (QP.then (QP.then (QP.block (QP.then QP.body))))) (by kernel_rfl) rfl (V_move rfl) ?_
            refine TA_take (i := 2) (is := [0, 0, 0]) (done' := #[true, true, true, false, false, false, false, false, false, false]) rfl rfl rfl rfl (by kernel_rfl) (QP.block (QP.then (QP.then (QP.block (QP.then QP.body))))) (by kernel_rfl) rfl (V_idxArr (i := s3.1) rfl rfl Try.underlying68 TryI.inf67 rfl h17.1 h17.2 (k := (s3.1).toNat) (k01 _)) ?_
            refine TA_take (i := 3) (is := [0, 0, 0]) (done' := #[true, true, true, true, false, false, false, false, false, false]) rfl rfl rfl rfl (by kernel_rfl) (QP.block (QP.then (QP.then (QP.block (QP.then QP.body))))) (by kernel_rfl) rfl (V_load rfl (Src.own (j := 0) rfl) (get_vec (f := v32) (V := s3.2) (toNat_lt h17.1 h17.2)) Try.isAgg67) ?_
            refine TA_take (i := 4) (is := [0, 0, 0]) (done' := #[true, true, true, true, true, false, false, false, false, false]) rfl rfl rfl rfl (by kernel_rfl) (QP.block (QP.then (QP.then (QP.block (QP.then QP.body))))) (by kernel_rfl) rfl (V_move rfl) ?_
            refine TA_take (i := 5) (is := [0, 0, 0]) (done' := #[true, true, true, true, true, true, false, false, false, false]) rfl rfl rfl rfl (by kernel_rfl) (QP.block (QP.then (QP.then (QP.block (QP.then QP.body))))) (by kernel_rfl) rfl (V_idxArr (i := s3.1) rfl rfl Try.underlying68 TryI.inf67 rfl h18.1 h18.2 (k := (s3.1).toNat) (k01 _)) ?_
            refine TA_take (i := 6) (is := [0, 0, 0]) (done' := #[true, true, true, true, true, true, true, false, false, false]) rfl rfl rfl rfl (by kernel_rfl) (QP.block (QP.then (QP.then (QP.block (QP.then QP.body))))) (by kernel_rfl) rfl (V_load rfl (Src.own (j := 2) rfl) (get_vec (f := v32) (V := t_3) (toNat_lt h18.1 h18.2)) Try.isAgg67) ?_
            refine TA_take (i := 7) (is := [0, 0, 0]) (done' := #[true, true, true, true, true, true, true, true, false, false]) rfl rfl rfl rfl (by kernel_rfl) (QP.block (QP.then (QP.then (QP.block (QP.then QP.body))))) (by kernel_rfl) rfl (V_bin rfl rfl (fun w => add32 w (vg s3.2 ((s3.1).toNat)) (vg t_3 ((s3.1).toNat)))) ?_
            refine TA_take (i := 8) (is := [0, 0, 0]) (done' := #[true, true, true, true, true, true, true, true, true, false]) rfl rfl rfl rfl (by kernel_rfl) (QP.block (QP.then (QP.then (QP.block (QP.then QP.body))))) (by kernel_rfl) rfl (V_idxArr (i := s3.1) rfl rfl Try.underlying68 TryI.inf67 rfl h19.1 h19.2 (k := (s3.1).toNat) (k01 _)) ?_
            refine TA_all (rs := [9]) (by kernel_rfl) rfl ?_
            refine ⟨?_, trivial⟩
            refine TO_n (is := []) (R := fun _ => []) (done' := #[true, true, true, true, true, true, true, true, true, true]) rfl rfl rfl (by kernel_rfl) (E_store (j := 0) rfl rfl TryI.inf67 rfl rfl rfl (by simpa using (toNat_lt h19.1 h19.2)) (cs' := e32 ((vp s3.2 ((s3.1).toNat) ((vg s3.2 ((s3.1).toNat)) + (vg t_3 ((s3.1).toNat)))).toList)) set_vec) (fun h => by cases h) (fun _ => ?_)
            refine TA_reE (j := 0) (A := some (b1, 0)) (cs := e32 ((vp s3.2 ((s3.1).toNat) ((vg s3.2 ((s3.1).toNat)) + (vg t_3 ((s3.1).toNat)))).toList)) (cs' := e32 m_5.toList) rfl (congrArg (fun z : Vector (BitVec 32) 8 => e32 (Vector.toList z)) hm_5) ?_
            refine TA_done (by kernel_rfl) ?_ 0
            refine TX_block_normal ?_
            refine TX_next ?_
            refine TC_region ?_
            refine TL_v rfl rfl rfl (V_move rfl) ?_
            refine TL_v rfl rfl rfl (V_bin rfl rfl (fun w => addI w s3.1 1)) ?_
            refine TL_v rfl rfl rfl (V_assign rfl) ?_
            obtain ⟨i4, hi4, H⟩ := ltt_elim H
            refine TL_re (d := 17) (v := vi (w64 (s3.1 + 1))) (v' := vi i4) rfl (congrArg vi hi4) ?_
            refine TL_nil ?_
            refine TX.sub (m' := [(2, ptr (some (b1, 0)) 0), (4, ptr (some (b2, 0)) 0), (11, ptr (some (b6, 0)) 0), (17, vi i4)]) ⟨rfl, rfl, rfl, rfl, trivial⟩ ?_
            refine TX.pull (is := [0, 0, 0]) (L' := [⟨some (b1, 0), e32 m_5.toList⟩, ⟨some (b2, 0), e32 ((Vector.replicate 8 0#32).toList)⟩, ⟨some (b6, 0), e32 t_3.toList⟩]) rfl ?_
            obtain rfl := Option.some.inj H
            exact fun a w hs => hK (i4, m_5) rfl () a w hs
          · replace H := ite_f (of_decide_eq_false hc) H
            refine TC_exit ?_
            refine TX_then_exit ?_
            refine TX_then_exit ?_
            refine TX.sub (m' := [(2, ptr (some (b1, 0)) 0), (4, ptr (some (b2, 0)) 0)]) ⟨rfl, rfl, trivial⟩ ?_
            refine TX.pull (is := [0, 0]) (L' := [⟨some (b1, 0), e32 s3.2.toList⟩, ⟨some (b2, 0), e32 ((Vector.replicate 8 0#32).toList)⟩]) rfl ?_
            obtain rfl := Option.some.inj H
            exact hE s3.2 rfl ()
        · intro g
          refine TX_block_exit ?_
          refine TX_next ?_
          refine TC_seq ?_
          refine TC_region ?_
          refine TL_v rfl rfl rfl (V_loadAgg (n := 8) rfl (by simp) (Src.own (j := 0) rfl) Try.isAgg68 TryI.inf68 rfl (lenV (f := v32) t_5)) ?_
          refine TL_n rfl rfl (E_storeAgg (n := 8) (j := 1) (vs := e32 t_5.toList) rfl rfl TryI.inf68 rfl (lenV (f := v32) t_5) (OneC.map (fun _ => rfl) _) rfl (Nat.le_of_eq (by simp)) (cs' := e32 t_5.toList) (splice_all (by simp))) (fun _ => ?_)
          refine TL_nil ?_
          refine TX_next ?_
          refine TC_ret ?_
          have hrv := Option.some.inj H
          subst hrv
          exact TX_ret (rs := [.cell 4 68]) (vs := [Value.agg (flat [(8, e32 t_5.toList)]).toArray]) rfl ⟨(Res_agg (n := 8) rfl (by simp) (Src.own (j := 1) rfl) Try.isAgg68 TryI.inf68 rfl (lenV (f := v32) t_5)), trivial⟩ (fun w' hs' => ⟨(), rfl, Step.left (Step.pulled (is := []) (A := []) hs' rfl)⟩)

end Go.Proofs
end

section
namespace Go.Proofs
open Go Go.Kx
set_option linter.unusedVariables false
set_option linter.unusedSimpArgs false
def halberdref1_block512.b1 (s_ : Str) (s0 : Int × Vector (BitVec 64) 80) (s1 : Int × Vector (BitVec 64) 80) : Option ((Int × Vector (BitVec 64) 80) ⊕ (Vector (BitVec 64) 80)) :=
  if s1.1 < 8 then (if 0 ≤ s0.1 ∧ s0.1 < (80 : Int) then (if 0 ≤ w64 ((w64 (8 * s0.1)) + s1.1) ∧ w64 ((w64 (8 * s0.1)) + s1.1) < ((s_).length : Int) then (if 0 ≤ s0.1 ∧ s0.1 < (80 : Int) then (ltt (vp s1.2 ((s0.1).toNat) (((vg s1.2 ((s0.1).toNat)) <<< 8) ||| ((sg s_ (w64 ((w64 (8 * s0.1)) + s1.1))).setWidth 64))) fun (m_2 : Vector (BitVec 64) 80) => (ltt (w64 (s1.1 + 1)) fun (j1 : Int) => (some (.inl (j1, m_2))))) else none) else none) else none) else (some (.inr s1.2))

def halberdref1_block512.b0 (s_ : Str) (s0 : Int × Vector (BitVec 64) 80) : Option ((Int × Vector (BitVec 64) 80) ⊕ (Vector (BitVec 64) 80)) :=
  if s0.1 < 16 then ((loop (halberdref1_block512.b1 s_ s0) BIG (0, s0.2)).bind fun (t_2 : Vector (BitVec 64) 80) => (ltt (w64 (s0.1 + 1)) fun (i1 : Int) => (some (.inl (i1, t_2))))) else (some (.inr s0.2))

def halberdref1_block512.b2  (s2 : Int × Vector (BitVec 64) 80) : Option ((Int × Vector (BitVec 64) 80) ⊕ (Vector (BitVec 64) 80)) :=
  if s2.1 < 80 then (if 0 ≤ w64 (s2.1 - 15) ∧ w64 (s2.1 - 15) < (80 : Int) then ((halberdref1_turn (vg s2.2 ((w64 (s2.1 - 15)).toNat)) 1).bind fun (r_1 : BitVec 64) => (if 0 ≤ w64 (s2.1 - 15) ∧ w64 (s2.1 - 15) < (80 : Int) then ((halberdref1_turn (vg s2.2 ((w64 (s2.1 - 15)).toNat)) 8).bind fun (r_2 : BitVec 64) => (if 0 ≤ w64 (s2.1 - 15) ∧ w64 (s2.1 - 15) < (80 : Int) then (ltt ((r_1 ^^^ r_2) ^^^ ((vg s2.2 ((w64 (s2.1 - 15)).toNat)) >>> 7)) fun (a_1 : BitVec 64) => (if 0 ≤ w64 (s2.1 - 2) ∧ w64 (s2.1 - 2) < (80 : Int) then ((halberdref1_turn (vg s2.2 ((w64 (s2.1 - 2)).toNat)) 19).bind fun (r_3 : BitVec 64) => (if 0 ≤ w64 (s2.1 - 2) ∧ w64 (s2.1 - 2) < (80 : Int) then ((halberdref1_turn (vg s2.2 ((w64 (s2.1 - 2)).toNat)) 61).bind fun (r_4 : BitVec 64) => (if 0 ≤ w64 (s2.1 - 2) ∧ w64 (s2.1 - 2) < (80 : Int) then (ltt ((r_3 ^^^ r_4) ^^^ ((vg s2.2 ((w64 (s2.1 - 2)).toNat)) >>> 6)) fun (b5 : BitVec 64) => (if 0 ≤ w64 (s2.1 - 16) ∧ w64 (s2.1 - 16) < (80 : Int) then (if 0 ≤ w64 (s2.1 - 7) ∧ w64 (s2.1 - 7) < (80 : Int) then (if 0 ≤ s2.1 ∧ s2.1 < (80 : Int) then (ltt (vp s2.2 ((s2.1).toNat) ((((vg s2.2 ((w64 (s2.1 - 16)).toNat)) + a_1) + (vg s2.2 ((w64 (s2.1 - 7)).toNat))) + b5)) fun (m_3 : Vector (BitVec 64) 80) => (ltt (w64 (s2.1 + 1)) fun (i2 : Int) => (some (.inl (i2, m_3))))) else none) else none) else none)) else none)) else none)) else none)) else none)) else none)) else none) else (some (.inr s2.2))

def halberdref1_block512.b3 (m_1 : Vector (BitVec 64) 80) (t_3 : Vector (BitVec 64) 80) (s3 : Int × Vector (BitVec 64) 8) : Option ((Int × Vector (BitVec 64) 8) ⊕ (Vector (BitVec 64) 8)) :=
  if s3.1 < 80 then ((halberdref1_turn (vg s3.2 4) 14).bind fun (r_5 : BitVec 64) => ((halberdref1_turn (vg s3.2 4) 18).bind fun (r_6 : BitVec 64) => ((halberdref1_turn (vg s3.2 4) 41).bind fun (r_7 : BitVec 64) => (ltt ((r_5 ^^^ r_6) ^^^ r_7) fun (a_2 : BitVec 64) => (if 0 ≤ s3.1 ∧ s3.1 < (80 : Int) then (if 0 ≤ s3.1 ∧ s3.1 < (80 : Int) then (ltt (((((vg s3.2 7) + a_2) + (((vg s3.2 4) &&& (vg s3.2 5)) ^^^ ((~~~(vg s3.2 4)) &&& (vg s3.2 6)))) + (vg m_1 ((s3.1).toNat))) + (vg t_3 ((s3.1).toNat))) fun (t_5 : BitVec 64) => ((halberdref1_turn (vg s3.2 0) 28).bind fun (r_8 : BitVec 64) => ((halberdref1_turn (vg s3.2 0) 34).bind fun (r_9 : BitVec 64) => ((halberdref1_turn (vg s3.2 0) 39).bind fun (r_10 : BitVec 64) => (ltt ((r_8 ^^^ r_9) ^^^ r_10) fun (b7 : BitVec 64) => (ltt (b7 + ((((vg s3.2 0) &&& (vg s3.2 1)) ^^^ ((vg s3.2 0) &&& (vg s3.2 2))) ^^^ ((vg s3.2 1) &&& (vg s3.2 2)))) fun (u1 : BitVec 64) => (ltt ((#v[t_5 + u1, vg s3.2 0, vg s3.2 1, vg s3.2 2, (vg s3.2 3) + t_5, vg s3.2 4, vg s3.2 5, vg s3.2 6] : Vector (BitVec 64) 8)) fun (m_4 : Vector (BitVec 64) 8) => (ltt (w64 (s3.1 + 1)) fun (i3 : Int) => (some (.inl (i3, m_4))))))))))) else none) else none))))) else (some (.inr s3.2))

def halberdref1_block512.b4 (t_4 : Vector (BitVec 64) 8) (s4 : Int × Vector (BitVec 64) 8) : Option ((Int × Vector (BitVec 64) 8) ⊕ (Vector (BitVec 64) 8)) :=
  if s4.1 < 8 then (if 0 ≤ s4.1 ∧ s4.1 < (8 : Int) then (if 0 ≤ s4.1 ∧ s4.1 < (8 : Int) then (if 0 ≤ s4.1 ∧ s4.1 < (8 : Int) then (ltt (vp s4.2 ((s4.1).toNat) ((vg s4.2 ((s4.1).toNat)) + (vg t_4 ((s4.1).toNat)))) fun (m_5 : Vector (BitVec 64) 8) => (ltt (w64 (s4.1 + 1)) fun (i4 : Int) => (some (.inl (i4, m_5))))) else none) else none) else none) else (some (.inr s4.2))

def halberdref1_block512 (h : Vector (BitVec 64) 8) (s_ : Str) : Option (Vector (BitVec 64) 8) :=
  ltt ((#v[4794697086780616226#64, 8158064640168781261#64, 13096744586834688815#64, 16840607885511220156#64, 4131703408338449720#64, 6480981068601479193#64, 10538285296894168987#64, 12329834152419229976#64, 15566598209576043074#64, 1334009975649890238#64, 2608012711638119052#64, 6128411473006802146#64, 8268148722764581231#64, 9286055187155687089#64, 11230858885718282805#64, 13951009754708518548#64, 16472876342353939154#64, 17275323862435702243#64, 1135362057144423861#64, 2597628984639134821#64, 3308224258029322869#64, 5365058923640841347#64, 6679025012923562964#64, 8573033837759648693#64, 10970295158949994411#64, 12119686244451234320#64, 12683024718118986047#64, 13788192230050041572#64, 14330467153632333762#64, 15395433587784984357#64, 489312712824947311#64, 1452737877330783856#64, 2861767655752347644#64, 3322285676063803686#64, 5560940570517711597#64, 5996557281743188959#64, 7280758554555802590#64, 8532644243296465576#64, 9350256976987008742#64, 10552545826968843579#64, 11727347734174303076#64, 12113106623233404929#64, 14000437183269869457#64, 14369950271660146224#64, 15101387698204529176#64, 15463397548674623760#64, 17586052441742319658#64, 1182934255886127544#64, 1847814050463011016#64, 2177327727835720531#64, 2830643537854262169#64, 3796741975233480872#64, 4115178125766777443#64, 5681478168544905931#64, 6601373596472566643#64, 7507060721942968483#64, 8399075790359081724#64, 8693463985226723168#64, 9568029438360202098#64, 10144078919501101548#64, 10430055236837252648#64, 11840083180663258601#64, 13761210420658862357#64, 14299343276471374635#64, 14566680578165727644#64, 15097957966210449927#64, 16922976911328602910#64, 17689382322260857208#64, 500013540394364858#64, 748580250866718886#64, 1242879168328830382#64, 1977374033974150939#64, 2944078676154940804#64, 3659926193048069267#64, 4368137639120453308#64, 4836135668995329356#64, 5532061633213252278#64, 6448918945643986474#64, 6902733635092675308#64, 7801388544844847127#64] : Vector (BitVec 64) 80)) fun (m_1 : Vector (BitVec 64) 80) => ((loop (halberdref1_block512.b0 s_) BIG (0, Vector.replicate 80 0#64)).bind fun (t_1 : Vector (BitVec 64) 80) => ((loop (halberdref1_block512.b2) BIG (16, t_1)).bind fun (t_3 : Vector (BitVec 64) 80) => ((loop (halberdref1_block512.b3 m_1 t_3) BIG (0, h)).bind fun (t_4 : Vector (BitVec 64) 8) => ((loop (halberdref1_block512.b4 t_4) BIG (0, h)).bind fun (t_6 : Vector (BitVec 64) 8) => (some t_6)))))

set_option maxHeartbeats 4000000 in
set_option maxRecDepth 20000 in
theorem F54_calls (h : Vector (BitVec 64) 8) (s_ : Str) (r : Vector (BitVec 64) 8) (H : halberdref1_block512 h s_ = some r) :
    Does Try.prog 54 [Value.agg (flat [(8, e64 h.toList)]).toArray, vs s_] [] [] (Γ := Unit) (fun g => Value.agg (flat [(8, e64 r.toList)]).toArray) (fun g => []) := by
  intro w hmem hro hd
  refine calls_of (N := 200) (m0 := [(0, Value.agg (flat [(8, e64 h.toList)]).toArray), (1, vs s_)]) Try.func54 rfl Try.ntmps54 (argM_ok [Value.agg (flat [(8, e64 h.toList)]).toArray, vs s_]) rfl hmem hro hd ?_
  unfold halberdref1_block512 at H
  refine TC_seq ?_
  refine TC_region ?_
  refine TL_e rfl rfl rfl (E_boxP [(8, e64 h.toList)] rfl rfl ⟨(lenV (f := v64) h), trivial⟩) (fun b1 => ?_)
  refine TL_e rfl rfl rfl (E_allocP [(8, e64 ((Vector.replicate 8 0#64).toList))] TryI.inf72 TryI.zer72 ⟨(lenV (f := v64) (Vector.replicate 8 0#64)), trivial⟩) (fun b2 => ?_)
  refine TL_nil ?_
  refine TX_next ?_
  refine TC_seq ?_
  refine TC_region ?_
  refine TL_v rfl rfl rfl (V_buildArr (pv := [(0, v64 4794697086780616226#64), (1, v64 8158064640168781261#64), (2, v64 13096744586834688815#64), (3, v64 16840607885511220156#64), (4, v64 4131703408338449720#64), (5, v64 6480981068601479193#64), (6, v64 10538285296894168987#64), (7, v64 12329834152419229976#64), (8, v64 15566598209576043074#64), (9, v64 1334009975649890238#64), (10, v64 2608012711638119052#64), (11, v64 6128411473006802146#64), (12, v64 8268148722764581231#64), (13, v64 9286055187155687089#64), (14, v64 11230858885718282805#64), (15, v64 13951009754708518548#64), (16, v64 16472876342353939154#64), (17, v64 17275323862435702243#64), (18, v64 1135362057144423861#64), (19, v64 2597628984639134821#64), (20, v64 3308224258029322869#64), (21, v64 5365058923640841347#64), (22, v64 6679025012923562964#64), (23, v64 8573033837759648693#64), (24, v64 10970295158949994411#64), (25, v64 12119686244451234320#64), (26, v64 12683024718118986047#64), (27, v64 13788192230050041572#64), (28, v64 14330467153632333762#64), (29, v64 15395433587784984357#64), (30, v64 489312712824947311#64), (31, v64 1452737877330783856#64), (32, v64 2861767655752347644#64), (33, v64 3322285676063803686#64), (34, v64 5560940570517711597#64), (35, v64 5996557281743188959#64), (36, v64 7280758554555802590#64), (37, v64 8532644243296465576#64), (38, v64 9350256976987008742#64), (39, v64 10552545826968843579#64), (40, v64 11727347734174303076#64), (41, v64 12113106623233404929#64), (42, v64 14000437183269869457#64), (43, v64 14369950271660146224#64), (44, v64 15101387698204529176#64), (45, v64 15463397548674623760#64), (46, v64 17586052441742319658#64), (47, v64 1182934255886127544#64), (48, v64 1847814050463011016#64), (49, v64 2177327727835720531#64), (50, v64 2830643537854262169#64), (51, v64 3796741975233480872#64), (52, v64 4115178125766777443#64), (53, v64 5681478168544905931#64), (54, v64 6601373596472566643#64), (55, v64 7507060721942968483#64), (56, v64 8399075790359081724#64), (57, v64 8693463985226723168#64), (58, v64 9568029438360202098#64), (59, v64 10144078919501101548#64), (60, v64 10430055236837252648#64), (61, v64 11840083180663258601#64), (62, v64 13761210420658862357#64), (63, v64 14299343276471374635#64), (64, v64 14566680578165727644#64), (65, v64 15097957966210449927#64), (66, v64 16922976911328602910#64), (67, v64 17689382322260857208#64), (68, v64 500013540394364858#64), (69, v64 748580250866718886#64), (70, v64 1242879168328830382#64), (71, v64 1977374033974150939#64), (72, v64 2944078676154940804#64), (73, v64 3659926193048069267#64), (74, v64 4368137639120453308#64), (75, v64 4836135668995329356#64), (76, v64 5532061633213252278#64), (77, v64 6448918945643986474#64), (78, v64 6902733635092675308#64), (79, v64 7801388544844847127#64)]) rfl rfl Try.underlying85 TryI.inf85 TryI.inf71 rfl TryI.zer85 (cs := e64 ((#v[4794697086780616226#64, 8158064640168781261#64, 13096744586834688815#64, 16840607885511220156#64, 4131703408338449720#64, 6480981068601479193#64, 10538285296894168987#64, 12329834152419229976#64, 15566598209576043074#64, 1334009975649890238#64, 2608012711638119052#64, 6128411473006802146#64, 8268148722764581231#64, 9286055187155687089#64, 11230858885718282805#64, 13951009754708518548#64, 16472876342353939154#64, 17275323862435702243#64, 1135362057144423861#64, 2597628984639134821#64, 3308224258029322869#64, 5365058923640841347#64, 6679025012923562964#64, 8573033837759648693#64, 10970295158949994411#64, 12119686244451234320#64, 12683024718118986047#64, 13788192230050041572#64, 14330467153632333762#64, 15395433587784984357#64, 489312712824947311#64, 1452737877330783856#64, 2861767655752347644#64, 3322285676063803686#64, 5560940570517711597#64, 5996557281743188959#64, 7280758554555802590#64, 8532644243296465576#64, 9350256976987008742#64, 10552545826968843579#64, 11727347734174303076#64, 12113106623233404929#64, 14000437183269869457#64, 14369950271660146224#64, 15101387698204529176#64, 15463397548674623760#64, 17586052441742319658#64, 1182934255886127544#64, 1847814050463011016#64, 2177327727835720531#64, 2830643537854262169#64, 3796741975233480872#64, 4115178125766777443#64, 5681478168544905931#64, 6601373596472566643#64, 7507060721942968483#64, 8399075790359081724#64, 8693463985226723168#64, 9568029438360202098#64, 10144078919501101548#64, 10430055236837252648#64, 11840083180663258601#64, 13761210420658862357#64, 14299343276471374635#64, 14566680578165727644#64, 15097957966210449927#64, 16922976911328602910#64, 17689382322260857208#64, 500013540394364858#64, 748580250866718886#64, 1242879168328830382#64, 1977374033974150939#64, 2944078676154940804#64, 3659926193048069267#64, 4368137639120453308#64, 4836135668995329356#64, 5532061633213252278#64, 6448918945643986474#64, 6902733635092675308#64, 7801388544844847127#64] : Vector (BitVec 64) 80).toList)) (by kernel_rfl)) ?_
  refine TL_e rfl rfl rfl (E_allocP [(80, e64 ((Vector.replicate 80 0#64).toList))] TryI.inf85 TryI.zer85 ⟨(lenV (f := v64) (Vector.replicate 80 0#64)), trivial⟩) (fun b3 => ?_)
  refine TL_n rfl rfl (E_storeAgg (n := 80) (j := 0) (vs := e64 ((#v[4794697086780616226#64, 8158064640168781261#64, 13096744586834688815#64, 16840607885511220156#64, 4131703408338449720#64, 6480981068601479193#64, 10538285296894168987#64, 12329834152419229976#64, 15566598209576043074#64, 1334009975649890238#64, 2608012711638119052#64, 6128411473006802146#64, 8268148722764581231#64, 9286055187155687089#64, 11230858885718282805#64, 13951009754708518548#64, 16472876342353939154#64, 17275323862435702243#64, 1135362057144423861#64, 2597628984639134821#64, 3308224258029322869#64, 5365058923640841347#64, 6679025012923562964#64, 8573033837759648693#64, 10970295158949994411#64, 12119686244451234320#64, 12683024718118986047#64, 13788192230050041572#64, 14330467153632333762#64, 15395433587784984357#64, 489312712824947311#64, 1452737877330783856#64, 2861767655752347644#64, 3322285676063803686#64, 5560940570517711597#64, 5996557281743188959#64, 7280758554555802590#64, 8532644243296465576#64, 9350256976987008742#64, 10552545826968843579#64, 11727347734174303076#64, 12113106623233404929#64, 14000437183269869457#64, 14369950271660146224#64, 15101387698204529176#64, 15463397548674623760#64, 17586052441742319658#64, 1182934255886127544#64, 1847814050463011016#64, 2177327727835720531#64, 2830643537854262169#64, 3796741975233480872#64, 4115178125766777443#64, 5681478168544905931#64, 6601373596472566643#64, 7507060721942968483#64, 8399075790359081724#64, 8693463985226723168#64, 9568029438360202098#64, 10144078919501101548#64, 10430055236837252648#64, 11840083180663258601#64, 13761210420658862357#64, 14299343276471374635#64, 14566680578165727644#64, 15097957966210449927#64, 16922976911328602910#64, 17689382322260857208#64, 500013540394364858#64, 748580250866718886#64, 1242879168328830382#64, 1977374033974150939#64, 2944078676154940804#64, 3659926193048069267#64, 4368137639120453308#64, 4836135668995329356#64, 5532061633213252278#64, 6448918945643986474#64, 6902733635092675308#64, 7801388544844847127#64] : Vector (BitVec 64) 80).toList)) rfl rfl TryI.inf85 rfl (lenV (f := v64) (#v[4794697086780616226#64, 8158064640168781261#64, 13096744586834688815#64, 16840607885511220156#64, 4131703408338449720#64, 6480981068601479193#64, 10538285296894168987#64, 12329834152419229976#64, 15566598209576043074#64, 1334009975649890238#64, 2608012711638119052#64, 6128411473006802146#64, 8268148722764581231#64, 9286055187155687089#64, 11230858885718282805#64, 13951009754708518548#64, 16472876342353939154#64, 17275323862435702243#64, 1135362057144423861#64, 2597628984639134821#64, 3308224258029322869#64, 5365058923640841347#64, 6679025012923562964#64, 8573033837759648693#64, 10970295158949994411#64, 12119686244451234320#64, 12683024718118986047#64, 13788192230050041572#64, 14330467153632333762#64, 15395433587784984357#64, 489312712824947311#64, 1452737877330783856#64, 2861767655752347644#64, 3322285676063803686#64, 5560940570517711597#64, 5996557281743188959#64, 7280758554555802590#64, 8532644243296465576#64, 9350256976987008742#64, 10552545826968843579#64, 11727347734174303076#64, 12113106623233404929#64, 14000437183269869457#64, 14369950271660146224#64, 15101387698204529176#64, 15463397548674623760#64, 17586052441742319658#64, 1182934255886127544#64, 1847814050463011016#64, 2177327727835720531#64, 2830643537854262169#64, 3796741975233480872#64, 4115178125766777443#64, 5681478168544905931#64, 6601373596472566643#64, 7507060721942968483#64, 8399075790359081724#64, 8693463985226723168#64, 9568029438360202098#64, 10144078919501101548#64, 10430055236837252648#64, 11840083180663258601#64, 13761210420658862357#64, 14299343276471374635#64, 14566680578165727644#64, 15097957966210449927#64, 16922976911328602910#64, 17689382322260857208#64, 500013540394364858#64, 748580250866718886#64, 1242879168328830382#64, 1977374033974150939#64, 2944078676154940804#64, 3659926193048069267#64, 4368137639120453308#64, 4836135668995329356#64, 5532061633213252278#64, 6448918945643986474#64, 6902733635092675308#64, 7801388544844847127#64] : Vector (BitVec 64) 80)) (OneC.map (fun _ => rfl) _) rfl (Nat.le_of_eq (by simp)) (cs' := e64 ((#v[4794697086780616226#64, 8158064640168781261#64, 13096744586834688815#64, 16840607885511220156#64, 4131703408338449720#64, 6480981068601479193#64, 10538285296894168987#64, 12329834152419229976#64, 15566598209576043074#64, 1334009975649890238#64, 2608012711638119052#64, 6128411473006802146#64, 8268148722764581231#64, 9286055187155687089#64, 11230858885718282805#64, 13951009754708518548#64, 16472876342353939154#64, 17275323862435702243#64, 1135362057144423861#64, 2597628984639134821#64, 3308224258029322869#64, 5365058923640841347#64, 6679025012923562964#64, 8573033837759648693#64, 10970295158949994411#64, 12119686244451234320#64, 12683024718118986047#64, 13788192230050041572#64, 14330467153632333762#64, 15395433587784984357#64, 489312712824947311#64, 1452737877330783856#64, 2861767655752347644#64, 3322285676063803686#64, 5560940570517711597#64, 5996557281743188959#64, 7280758554555802590#64, 8532644243296465576#64, 9350256976987008742#64, 10552545826968843579#64, 11727347734174303076#64, 12113106623233404929#64, 14000437183269869457#64, 14369950271660146224#64, 15101387698204529176#64, 15463397548674623760#64, 17586052441742319658#64, 1182934255886127544#64, 1847814050463011016#64, 2177327727835720531#64, 2830643537854262169#64, 3796741975233480872#64, 4115178125766777443#64, 5681478168544905931#64, 6601373596472566643#64, 7507060721942968483#64, 8399075790359081724#64, 8693463985226723168#64, 9568029438360202098#64, 10144078919501101548#64, 10430055236837252648#64, 11840083180663258601#64, 13761210420658862357#64, 14299343276471374635#64, 14566680578165727644#64, 15097957966210449927#64, 16922976911328602910#64, 17689382322260857208#64, 500013540394364858#64, 748580250866718886#64, 1242879168328830382#64, 1977374033974150939#64, 2944078676154940804#64, 3659926193048069267#64, 4368137639120453308#64, 4836135668995329356#64, 5532061633213252278#64, 6448918945643986474#64, 6902733635092675308#64, 7801388544844847127#64] : Vector (BitVec 64) 80).toList)) (splice_all (by simp))) (fun _ => ?_)
  obtain ⟨m_1, hm_1, H⟩ := ltt_elim H
  refine TL_reE (j := 0) (A := some (b3, 0)) (cs := e64 ((#v[4794697086780616226#64, 8158064640168781261#64, 13096744586834688815#64, 16840607885511220156#64, 4131703408338449720#64, 6480981068601479193#64, 10538285296894168987#64, 12329834152419229976#64, 15566598209576043074#64, 1334009975649890238#64, 2608012711638119052#64, 6128411473006802146#64, 8268148722764581231#64, 9286055187155687089#64, 11230858885718282805#64, 13951009754708518548#64, 16472876342353939154#64, 17275323862435702243#64, 1135362057144423861#64, 2597628984639134821#64, 3308224258029322869#64, 5365058923640841347#64, 6679025012923562964#64, 8573033837759648693#64, 10970295158949994411#64, 12119686244451234320#64, 12683024718118986047#64, 13788192230050041572#64, 14330467153632333762#64, 15395433587784984357#64, 489312712824947311#64, 1452737877330783856#64, 2861767655752347644#64, 3322285676063803686#64, 5560940570517711597#64, 5996557281743188959#64, 7280758554555802590#64, 8532644243296465576#64, 9350256976987008742#64, 10552545826968843579#64, 11727347734174303076#64, 12113106623233404929#64, 14000437183269869457#64, 14369950271660146224#64, 15101387698204529176#64, 15463397548674623760#64, 17586052441742319658#64, 1182934255886127544#64, 1847814050463011016#64, 2177327727835720531#64, 2830643537854262169#64, 3796741975233480872#64, 4115178125766777443#64, 5681478168544905931#64, 6601373596472566643#64, 7507060721942968483#64, 8399075790359081724#64, 8693463985226723168#64, 9568029438360202098#64, 10144078919501101548#64, 10430055236837252648#64, 11840083180663258601#64, 13761210420658862357#64, 14299343276471374635#64, 14566680578165727644#64, 15097957966210449927#64, 16922976911328602910#64, 17689382322260857208#64, 500013540394364858#64, 748580250866718886#64, 1242879168328830382#64, 1977374033974150939#64, 2944078676154940804#64, 3659926193048069267#64, 4368137639120453308#64, 4836135668995329356#64, 5532061633213252278#64, 6448918945643986474#64, 6902733635092675308#64, 7801388544844847127#64] : Vector (BitVec 64) 80).toList)) (cs' := e64 m_1.toList) rfl (congrArg (fun z : Vector (BitVec 64) 80 => e64 (Vector.toList z)) hm_1) ?_
  refine TL_nil ?_
  refine TX_next ?_
  refine TC_seq ?_
  refine TC_region ?_
  refine TL_e rfl rfl rfl (E_allocP [(80, e64 ((Vector.replicate 80 0#64).toList))] TryI.inf85 TryI.zer85 ⟨(lenV (f := v64) (Vector.replicate 80 0#64)), trivial⟩) (fun b4 => ?_)
  refine TL_nil ?_
  refine TX_next ?_
  refine TC_seq ?_
  refine TC_seq ?_
  refine TC_region ?_
  refine TL_v rfl rfl rfl (V_assign rfl) ?_
  refine TL_nil ?_
  refine TX_next ?_
  refine TC_block ?_
  obtain ⟨t_1, Hl, H⟩ := bind_elim H
  refine TC.sub (m' := [(1, vs s_), (2, ptr (some (b1, 0)) 0), (4, ptr (some (b2, 0)) 0), (5, ptr (some (b3, 0)) 0), (6, ptr (some (b4, 0)) 0), (7, vi 0)]) ⟨rfl, rfl, rfl, rfl, rfl, rfl, trivial⟩ ?_
  refine TC.pull (is := [3, 2, 1, 0]) (L' := [⟨some (b1, 0), e64 h.toList⟩, ⟨some (b2, 0), e64 ((Vector.replicate 8 0#64).toList)⟩, ⟨some (b3, 0), e64 m_1.toList⟩, ⟨some (b4, 0), e64 ((Vector.replicate 80 0#64).toList)⟩]) rfl ?_
  refine TC_loopL (id := 0) (body := (halberdref1_block512.b0 s_)) (σ := Int × Vector (BitVec 64) 80) (Γ := Unit) (Γx := Unit) (fun s0 g0_ => [(1, vs s_), (2, ptr (some (b1, 0)) 0), (4, ptr (some (b2, 0)) 0), (5, ptr (some (b3, 0)) 0), (6, ptr (some (b4, 0)) 0), (7, vi s0.1)]) (fun s0 g0_ => [⟨some (b1, 0), e64 h.toList⟩, ⟨some (b2, 0), e64 ((Vector.replicate 8 0#64).toList)⟩, ⟨some (b3, 0), e64 m_1.toList⟩, ⟨some (b4, 0), e64 s0.2.toList⟩]) (fun t g => [(2, ptr (some (b1, 0)) 0), (4, ptr (some (b2, 0)) 0), (5, ptr (some (b3, 0)) 0), (6, ptr (some (b4, 0)) 0)]) (fun t g => [⟨some (b1, 0), e64 h.toList⟩, ⟨some (b2, 0), e64 ((Vector.replicate 8 0#64).toList)⟩, ⟨some (b3, 0), e64 m_1.toList⟩, ⟨some (b4, 0), e64 t.toList⟩]) ?_ BIG (0, Vector.replicate 80 0#64) () t_1 Hl ?_
  · intro s0 g0_ r1 H K hK hE
    unfold halberdref1_block512.b0 at H
    refine TC_seq ?_
    refine TC_seq ?_
    refine TC_region ?_
    refine TL_v rfl rfl rfl (V_move rfl) ?_
    refine TL_v rfl rfl rfl (V_bin rfl rfl (fun w => lssI w s0.1 16)) ?_
    refine TL_nil ?_
    refine TX_next ?_
    refine TC_cond (b := (decide (s0.1 < 16))) rfl (fun hc => ?_) (fun hc => ?_)
    · replace H := ite_t (of_decide_eq_true hc) H
      refine TC_skip ?_
      refine TX_next ?_
      refine TC_seq ?_
      refine TC_block ?_
      refine TC_seq ?_
      refine TC_region ?_
      refine TL_v rfl rfl rfl (V_assign rfl) ?_
      refine TL_nil ?_
      refine TX_next ?_
      refine TC_block ?_
      obtain ⟨t_2, Hl, H⟩ := bind_elim H
      refine TC.sub (m' := [(1, vs s_), (2, ptr (some (b1, 0)) 0), (4, ptr (some (b2, 0)) 0), (5, ptr (some (b3, 0)) 0), (6, ptr (some (b4, 0)) 0), (7, vi s0.1), (8, vi 0)]) ⟨rfl, rfl, rfl, rfl, rfl, rfl, rfl, trivial⟩ ?_
      refine TC.pull (is := [0, 0, 0, 0]) (L' := [⟨some (b1, 0), e64 h.toList⟩, ⟨some (b2, 0), e64 ((Vector.replicate 8 0#64).toList)⟩, ⟨some (b3, 0), e64 m_1.toList⟩, ⟨some (b4, 0), e64 s0.2.toList⟩]) rfl ?_
      refine TC_loopL (id := 2) (body := (halberdref1_block512.b1 s_ s0)) (σ := Int × Vector (BitVec 64) 80) (Γ := Unit) (Γx := Unit) (fun s1 g1_ => [(1, vs s_), (2, ptr (some (b1, 0)) 0), (4, ptr (some (b2, 0)) 0), (5, ptr (some (b3, 0)) 0), (6, ptr (some (b4, 0)) 0), (7, vi s0.1), (8, vi s1.1)]) (fun s1 g1_ => [⟨some (b1, 0), e64 h.toList⟩, ⟨some (b2, 0), e64 ((Vector.replicate 8 0#64).toList)⟩, ⟨some (b3, 0), e64 m_1.toList⟩, ⟨some (b4, 0), e64 s1.2.toList⟩]) (fun t g => [(1, vs s_), (2, ptr (some (b1, 0)) 0), (4, ptr (some (b2, 0)) 0), (5, ptr (some (b3, 0)) 0), (6, ptr (some (b4, 0)) 0), (7, vi s0.1)]) (fun t g => [⟨some (b1, 0), e64 h.toList⟩, ⟨some (b2, 0), e64 ((Vector.replicate 8 0#64).toList)⟩, ⟨some (b3, 0), e64 m_1.toList⟩, ⟨some (b4, 0), e64 t.toList⟩]) ?_ BIG (0, s0.2) () t_2 Hl ?_
      · intro s1 g1_ r1 H K hK hE
        unfold halberdref1_block512.b1 at H
        refine TC_seq ?_
        refine TC_seq ?_
        refine TC_region ?_
        refine TL_v rfl rfl rfl (V_move rfl) ?_
        refine TL_v rfl rfl rfl (V_bin rfl rfl (fun w => lssI w s1.1 8)) ?_
        refine TL_nil ?_
        refine TX_next ?_
        refine TC_cond (b := (decide (s1.1 < 8))) rfl (fun hc => ?_) (fun hc => ?_)
        · replace H := ite_t (of_decide_eq_true hc) H
          refine TC_skip ?_
          refine TX_next ?_
          refine TC_seq ?_
          refine TC_block ?_
          obtain ⟨h1, H⟩ := if_elim H
          obtain ⟨h2, H⟩ := if_elim H
          obtain ⟨h3, H⟩ := if_elim H
          obtain ⟨m_2, hm_2, H⟩ := ltt_elim H
          refine TA_begin [⟨some (b1, 0), e64 h.toList⟩, ⟨some (b2, 0), e64 ((Vector.replicate 8 0#64).toList)⟩, ⟨some (b3, 0), e64 m_1.toList⟩, ⟨some (b4, 0), e64 s1.2.toList⟩] 14 (by kernel_rfl) (N := 15) rfl ?_
          refine TA_take (i := 0) (is := [0, 0, 0, 0]) (done' := #[true, false, false, false, false, false, false, false, false, false, false, false, false, false, false]) rfl rfl rfl rfl (by kernel_rfl) (QP.block (QP.then (QP.then (QP.block (QP.block (QP.then (QP.then (QP.block (QP.then QP.body))))))))) (by kernel_rfl) rfl (V_move rfl) ?_
          refine TA_take (i := 1) (is := [0, 0, 0, 0]) (done' := #[true, true, false, false, false, false, false, false, false, false, false, false, false, false, false]) rfl rfl rfl rfl (by kernel_rfl) (QP.block (QP.then (QP.then (QP.block (QP.block (QP.then (QP.then (QP.block (QP.then QP.body))))))))) (by kernel_rfl) rfl (V_move rfl) ?_
          refine TA_take (i := 2) (is := [0, 0, 0, 0]) (done' := #[true, true, true, false, false, false, false, false, false, false, false, false, false, false, false]) rfl rfl rfl rfl (by kernel_rfl) (QP.block (QP.then (QP.then (QP.block (QP.block (QP.then (QP.then (QP.block (QP.then QP.body))))))))) (by kernel_rfl) rfl (V_idxArr (i := s0.1) rfl rfl Try.underlying85 TryI.inf71 rfl h1.1 h1.2 (k := (s0.1).toNat) (k01 _)) ?_
          refine TA_take (i := 3) (is := [0, 0, 0, 0]) (done' := #[true, true, true, true, false, false, false, false, false, false, false, false, false, false, false]) rfl rfl rfl rfl (by kernel_rfl) (QP.block (QP.then (QP.then (QP.block (QP.block (QP.then (QP.then (QP.block (QP.then QP.body))))))))) (by kernel_rfl) rfl (V_load rfl (Src.own (j := 3) rfl) (get_vec (f := v64) (V := s1.2) (toNat_lt h1.1 h1.2)) Try.isAgg71) ?_
          refine TA_take (i := 4) (is := [0, 0, 0, 0]) (done' := #[true, true, true, true, true, false, false, false, false, false, false, false, false, false, false]) rfl rfl rfl rfl (by kernel_rfl) (QP.block (QP.then (QP.then (QP.block (QP.block (QP.then (QP.then (QP.block (QP.then QP.body))))))))) (by kernel_rfl) rfl (V_bin rfl rfl (fun w => shl64 w (vg s1.2 ((s0.1).toNat)) .u64 8 (by decide))) ?_
          refine TA_take (i := 5) (is := [0, 0, 0, 0]) (done' := #[true, true, true, true, true, true, false, false, false, false, false, false, false, false, false]) rfl rfl rfl rfl (by kernel_rfl) (QP.block (QP.then (QP.then (QP.block (QP.block (QP.then (QP.then (QP.block (QP.then QP.body))))))))) (by kernel_rfl) rfl (V_move rfl) ?_
          refine TA_take (i := 6) (is := [0, 0, 0, 0]) (done' := #[true, true, true, true, true, true, true, false, false, false, false, false, false, false, false]) rfl rfl rfl rfl (by kernel_rfl) (QP.block (QP.then (QP.then (QP.block (QP.block (QP.then (QP.then (QP.block (QP.then QP.body))))))))) (by kernel_rfl) rfl (V_move rfl) ?_
          refine TA_take (i := 7) (is := [0, 0, 0, 0]) (done' := #[true, true, true, true, true, true, true, true, false, false, false, false, false, false, false]) rfl rfl rfl rfl (by kernel_rfl) (QP.block (QP.then (QP.then (QP.block (QP.block (QP.then (QP.then (QP.block (QP.then QP.body))))))))) (by kernel_rfl) rfl (V_bin rfl rfl (fun w => mulI w 8 s0.1)) ?_
          refine TA_take (i := 8) (is := [0, 0, 0, 0]) (done' := #[true, true, true, true, true, true, true, true, true, false, false, false, false, false, false]) rfl rfl rfl rfl (by kernel_rfl) (QP.block (QP.then (QP.then (QP.block (QP.block (QP.then (QP.then (QP.block (QP.then QP.body))))))))) (by kernel_rfl) rfl (V_move rfl) ?_
          refine TA_take (i := 9) (is := [0, 0, 0, 0]) (done' := #[true, true, true, true, true, true, true, true, true, true, false, false, false, false, false]) rfl rfl rfl rfl (by kernel_rfl) (QP.block (QP.then (QP.then (QP.block (QP.block (QP.then (QP.then (QP.block (QP.then QP.body))))))))) (by kernel_rfl) rfl (V_bin rfl rfl (fun w => addI w (w64 (8 * s0.1)) s1.1)) ?_
          refine TA_take (i := 10) (is := [0, 0, 0, 0]) (done' := #[true, true, true, true, true, true, true, true, true, true, true, false, false, false, false]) rfl rfl rfl rfl (by kernel_rfl) (QP.block (QP.then (QP.then (QP.block (QP.block (QP.then (QP.then (QP.block (QP.then QP.body))))))))) (by kernel_rfl) rfl (V_idxStr rfl rfl (i := w64 ((w64 (8 * s0.1)) + s1.1)) Try.underlying9 h2.1 h2.2) ?_
          refine TA_take (i := 11) (is := [0, 0, 0, 0]) (done' := #[true, true, true, true, true, true, true, true, true, true, true, true, false, false, false]) rfl rfl rfl rfl (by kernel_rfl) (QP.block (QP.then (QP.then (QP.block (QP.block (QP.then (QP.then (QP.block (QP.then QP.body))))))))) (by kernel_rfl) rfl (V_conv rfl (fun w => cv8to64 w _ _ Try.underlying71 (TryI.und5) (sg s_ (w64 ((w64 (8 * s0.1)) + s1.1))))) ?_
          refine TA_take (i := 12) (is := [0, 0, 0, 0]) (done' := #[true, true, true, true, true, true, true, true, true, true, true, true, true, false, false]) rfl rfl rfl rfl (by kernel_rfl) (QP.block (QP.then (QP.then (QP.block (QP.block (QP.then (QP.then (QP.block (QP.then QP.body))))))))) (by kernel_rfl) rfl (V_bin rfl rfl (fun w => or64 w ((vg s1.2 ((s0.1).toNat)) <<< 8) ((sg s_ (w64 ((w64 (8 * s0.1)) + s1.1))).setWidth 64))) ?_
          refine TA_take (i := 13) (is := [0, 0, 0, 0]) (done' := #[true, true, true, true, true, true, true, true, true, true, true, true, true, true, false]) rfl rfl rfl rfl (by kernel_rfl) (QP.block (QP.then (QP.then (QP.block (QP.block (QP.then (QP.then (QP.block (QP.then QP.body))))))))) (by kernel_rfl) rfl (V_idxArr (i := s0.1) rfl rfl Try.underlying85 TryI.inf71 rfl h3.1 h3.2 (k := (s0.1).toNat) (k01 _)) ?_
          refine TA_all (rs := [14]) (by kernel_rfl) rfl ?_
          refine ⟨?_, trivial⟩
          refine TO_n (is := []) (R := fun _ => []) (done' := #[true, true, true, true, true, true, true, true, true, true, true, true, true, true, true]) rfl rfl rfl (by kernel_rfl) (E_store (j := 3) rfl rfl TryI.inf71 rfl rfl rfl (by simpa using (toNat_lt h3.1 h3.2)) (cs' := e64 ((vp s1.2 ((s0.1).toNat) (((vg s1.2 ((s0.1).toNat)) <<< 8) ||| ((sg s_ (w64 ((w64 (8 * s0.1)) + s1.1))).setWidth 64))).toList)) set_vec) (fun h => by cases h) (fun _ => ?_)
          refine TA_reE (j := 3) (A := some (b4, 0)) (cs := e64 ((vp s1.2 ((s0.1).toNat) (((vg s1.2 ((s0.1).toNat)) <<< 8) ||| ((sg s_ (w64 ((w64 (8 * s0.1)) + s1.1))).setWidth 64))).toList)) (cs' := e64 m_2.toList) rfl (congrArg (fun z : Vector (BitVec 64) 80 => e64 (Vector.toList z)) hm_2) ?_
          refine TA_done (by kernel_rfl) ?_ 0
          refine TX_block_normal ?_
          refine TX_next ?_
          refine TC_region ?_
          refine TL_v rfl rfl rfl (V_move rfl) ?_
          refine TL_v rfl rfl rfl (V_bin rfl rfl (fun w => addI w s1.1 1)) ?_
          refine TL_v rfl rfl rfl (V_assign rfl) ?_
          obtain ⟨j1, hj1, H⟩ := ltt_elim H
          refine TL_re (d := 8) (v := vi (w64 (s1.1 + 1))) (v' := vi j1) rfl (congrArg vi hj1) ?_
          refine TL_nil ?_
          refine TX.sub (m' := [(1, vs s_), (2, ptr (some (b1, 0)) 0), (4, ptr (some (b2, 0)) 0), (5, ptr (some (b3, 0)) 0), (6, ptr (some (b4, 0)) 0), (7, vi s0.1), (8, vi j1)]) ⟨rfl, rfl, rfl, rfl, rfl, rfl, rfl, trivial⟩ ?_
          refine TX.pull (is := [0, 0, 0, 0]) (L' := [⟨some (b1, 0), e64 h.toList⟩, ⟨some (b2, 0), e64 ((Vector.replicate 8 0#64).toList)⟩, ⟨some (b3, 0), e64 m_1.toList⟩, ⟨some (b4, 0), e64 m_2.toList⟩]) rfl ?_
          obtain rfl := Option.some.inj H
          exact fun a w hs => hK (j1, m_2) rfl () a w hs
        · replace H := ite_f (of_decide_eq_false hc) H
          refine TC_exit ?_
          refine TX_then_exit ?_
          refine TX_then_exit ?_
          refine TX.sub (m' := [(1, vs s_), (2, ptr (some (b1, 0)) 0), (4, ptr (some (b2, 0)) 0), (5, ptr (some (b3, 0)) 0), (6, ptr (some (b4, 0)) 0), (7, vi s0.1)]) ⟨rfl, rfl, rfl, rfl, rfl, rfl, trivial⟩ ?_
          refine TX.pull (is := [0, 0, 0, 0]) (L' := [⟨some (b1, 0), e64 h.toList⟩, ⟨some (b2, 0), e64 ((Vector.replicate 8 0#64).toList)⟩, ⟨some (b3, 0), e64 m_1.toList⟩, ⟨some (b4, 0), e64 s1.2.toList⟩]) rfl ?_
          obtain rfl := Option.some.inj H
          exact hE s1.2 rfl ()
      · intro g
        refine TX_block_exit ?_
        refine TX_block_normal ?_
        refine TX_next ?_
        refine TC_region ?_
        refine TL_v rfl rfl rfl (V_move rfl) ?_
        refine TL_v rfl rfl rfl (V_bin rfl rfl (fun w => addI w s0.1 1)) ?_
        refine TL_v rfl rfl rfl (V_assign rfl) ?_
        obtain ⟨i1, hi1, H⟩ := ltt_elim H
        refine TL_re (d := 7) (v := vi (w64 (s0.1 + 1))) (v' := vi i1) rfl (congrArg vi hi1) ?_
        refine TL_nil ?_
        refine TX.sub (m' := [(1, vs s_), (2, ptr (some (b1, 0)) 0), (4, ptr (some (b2, 0)) 0), (5, ptr (some (b3, 0)) 0), (6, ptr (some (b4, 0)) 0), (7, vi i1)]) ⟨rfl, rfl, rfl, rfl, rfl, rfl, trivial⟩ ?_
        refine TX.pull (is := [0, 0, 0, 0]) (L' := [⟨some (b1, 0), e64 h.toList⟩, ⟨some (b2, 0), e64 ((Vector.replicate 8 0#64).toList)⟩, ⟨some (b3, 0), e64 m_1.toList⟩, ⟨some (b4, 0), e64 t_2.toList⟩]) rfl ?_
        obtain rfl := Option.some.inj H
        exact fun a w hs => hK (i1, t_2) rfl () a w hs
    · replace H := ite_f (of_decide_eq_false hc) H
      refine TC_exit ?_
      refine TX_then_exit ?_
      refine TX_then_exit ?_
      refine TX.sub (m' := [(2, ptr (some (b1, 0)) 0), (4, ptr (some (b2, 0)) 0), (5, ptr (some (b3, 0)) 0), (6, ptr (some (b4, 0)) 0)]) ⟨rfl, rfl, rfl, rfl, trivial⟩ ?_
      refine TX.pull (is := [0, 0, 0, 0]) (L' := [⟨some (b1, 0), e64 h.toList⟩, ⟨some (b2, 0), e64 ((Vector.replicate 8 0#64).toList)⟩, ⟨some (b3, 0), e64 m_1.toList⟩, ⟨some (b4, 0), e64 s0.2.toList⟩]) rfl ?_
      obtain rfl := Option.some.inj H
      exact hE s0.2 rfl ()
  · intro g
    refine TX_block_exit ?_
    refine TX_next ?_
    refine TC_seq ?_
    refine TC_seq ?_
    refine TC_region ?_
    refine TL_v rfl rfl rfl (V_assign rfl) ?_
    refine TL_nil ?_
    refine TX_next ?_
    refine TC_block ?_
    obtain ⟨t_3, Hl, H⟩ := bind_elim H
    refine TC.sub (m' := [(2, ptr (some (b1, 0)) 0), (4, ptr (some (b2, 0)) 0), (5, ptr (some (b3, 0)) 0), (6, ptr (some (b4, 0)) 0), (9, vi 16)]) ⟨rfl, rfl, rfl, rfl, rfl, trivial⟩ ?_
    refine TC.pull (is := [0, 0, 0, 0]) (L' := [⟨some (b1, 0), e64 h.toList⟩, ⟨some (b2, 0), e64 ((Vector.replicate 8 0#64).toList)⟩, ⟨some (b3, 0), e64 m_1.toList⟩, ⟨some (b4, 0), e64 t_1.toList⟩]) rfl ?_
    refine TC_loopL (id := 4) (body := (halberdref1_block512.b2)) (σ := Int × Vector (BitVec 64) 80) (Γ := Unit) (Γx := Unit) (fun s2 g2_ => [(2, ptr (some (b1, 0)) 0), (4, ptr (some (b2, 0)) 0), (5, ptr (some (b3, 0)) 0), (6, ptr (some (b4, 0)) 0), (9, vi s2.1)]) (fun s2 g2_ => [⟨some (b1, 0), e64 h.toList⟩, ⟨some (b2, 0), e64 ((Vector.replicate 8 0#64).toList)⟩, ⟨some (b3, 0), e64 m_1.toList⟩, ⟨some (b4, 0), e64 s2.2.toList⟩]) (fun t g => [(2, ptr (some (b1, 0)) 0), (4, ptr (some (b2, 0)) 0), (5, ptr (some (b3, 0)) 0), (6, ptr (some (b4, 0)) 0)]) (fun t g => [⟨some (b1, 0), e64 h.toList⟩, ⟨some (b2, 0), e64 ((Vector.replicate 8 0#64).toList)⟩, ⟨some (b3, 0), e64 m_1.toList⟩, ⟨some (b4, 0), e64 t.toList⟩]) ?_ BIG (16, t_1) () t_3 Hl ?_
    · intro s2 g2_ r1 H K hK hE
      unfold halberdref1_block512.b2 at H
      refine TC_seq ?_
      refine TC_seq ?_
      refine TC_region ?_
      refine TL_v rfl rfl rfl (V_move rfl) ?_
      refine TL_v rfl rfl rfl (V_bin rfl rfl (fun w => lssI w s2.1 80)) ?_
      refine TL_nil ?_
      refine TX_next ?_
      refine TC_cond (b := (decide (s2.1 < 80))) rfl (fun hc => ?_) (fun hc => ?_)
      · replace H := ite_t (of_decide_eq_true hc) H
        refine TC_skip ?_
        refine TX_next ?_
        refine TC_seq ?_
        refine TC_block ?_
        refine TC_seq ?_
        obtain ⟨h4, H⟩ := if_elim H
        obtain ⟨r_1, hr_1, H⟩ := bind_elim H
        obtain ⟨h5, H⟩ := if_elim H
        obtain ⟨r_2, hr_2, H⟩ := bind_elim H
        obtain ⟨h6, H⟩ := if_elim H
        obtain ⟨a_1, ha_1, H⟩ := ltt_elim H
        refine TA_begin [⟨some (b1, 0), e64 h.toList⟩, ⟨some (b2, 0), e64 ((Vector.replicate 8 0#64).toList)⟩, ⟨some (b3, 0), e64 m_1.toList⟩, ⟨some (b4, 0), e64 s2.2.toList⟩] 18 (by kernel_rfl) (N := 18) rfl ?_
        refine TA_take (i := 0) (is := [0, 0, 0, 0]) (done' := #[true, false, false, false, false, false, false, false, false, false, false, false, false, false, false, false, false, false]) rfl rfl rfl rfl (by kernel_rfl) (QP.then (QP.block (QP.then (QP.then (QP.block (QP.then QP.body)))))) (by kernel_rfl) rfl (V_move rfl) ?_
        refine TA_take (i := 1) (is := [0, 0, 0, 0]) (done' := #[true, true, false, false, false, false, false, false, false, false, false, false, false, false, false, false, false, false]) rfl rfl rfl rfl (by kernel_rfl) (QP.then (QP.block (QP.then (QP.then (QP.block (QP.then QP.body)))))) (by kernel_rfl) rfl (V_bin rfl rfl (fun w => subI w s2.1 15)) ?_
        refine TA_take (i := 2) (is := [0, 0, 0, 0]) (done' := #[true, true, true, false, false, false, false, false, false, false, false, false, false, false, false, false, false, false]) rfl rfl rfl rfl (by kernel_rfl) (QP.then (QP.block (QP.then (QP.then (QP.block (QP.then QP.body)))))) (by kernel_rfl) rfl (V_idxArr (i := w64 (s2.1 - 15)) rfl rfl Try.underlying85 TryI.inf71 rfl h4.1 h4.2 (k := (w64 (s2.1 - 15)).toNat) (k01 _)) ?_
        refine TA_take (i := 3) (is := [0, 0, 0, 0]) (done' := #[true, true, true, true, false, false, false, false, false, false, false, false, false, false, false, false, false, false]) rfl rfl rfl rfl (by kernel_rfl) (QP.then (QP.block (QP.then (QP.then (QP.block (QP.then QP.body)))))) (by kernel_rfl) rfl (V_load rfl (Src.own (j := 3) rfl) (get_vec (f := v64) (V := s2.2) (toNat_lt h4.1 h4.2)) Try.isAgg71) ?_
        refine TA_take (i := 5) (is := [0, 0, 0, 0]) (done' := #[true, true, true, true, false, true, false, false, false, false, false, false, false, false, false, false, false, false]) rfl rfl rfl rfl (by kernel_rfl) (QP.then (QP.block (QP.then (QP.then (QP.block (QP.then QP.body)))))) (by kernel_rfl) rfl (V_move rfl) ?_
        refine TA_take (i := 6) (is := [0, 0, 0, 0]) (done' := #[true, true, true, true, false, true, true, false, false, false, false, false, false, false, false, false, false, false]) rfl rfl rfl rfl (by kernel_rfl) (QP.then (QP.block (QP.then (QP.then (QP.block (QP.then QP.body)))))) (by kernel_rfl) rfl (V_bin rfl rfl (fun w => subI w s2.1 15)) ?_
        refine TA_take (i := 7) (is := [0, 0, 0, 0]) (done' := #[true, true, true, true, false, true, true, true, false, false, false, false, false, false, false, false, false, false]) rfl rfl rfl rfl (by kernel_rfl) (QP.then (QP.block (QP.then (QP.then (QP.block (QP.then QP.body)))))) (by kernel_rfl) rfl (V_idxArr (i := w64 (s2.1 - 15)) rfl rfl Try.underlying85 TryI.inf71 rfl h5.1 h5.2 (k := (w64 (s2.1 - 15)).toNat) (k01 _)) ?_
        refine TA_take (i := 8) (is := [0, 0, 0, 0]) (done' := #[true, true, true, true, false, true, true, true, true, false, false, false, false, false, false, false, false, false]) rfl rfl rfl rfl (by kernel_rfl) (QP.then (QP.block (QP.then (QP.then (QP.block (QP.then QP.body)))))) (by kernel_rfl) rfl (V_load rfl (Src.own (j := 3) rfl) (get_vec (f := v64) (V := s2.2) (toNat_lt h5.1 h5.2)) Try.isAgg71) ?_
        refine TA_take (i := 11) (is := [0, 0, 0, 0]) (done' := #[true, true, true, true, false, true, true, true, true, false, false, true, false, false, false, false, false, false]) rfl rfl rfl rfl (by kernel_rfl) (QP.then (QP.block (QP.then (QP.then (QP.block (QP.then QP.body)))))) (by kernel_rfl) rfl (V_move rfl) ?_
        refine TA_take (i := 12) (is := [0, 0, 0, 0]) (done' := #[true, true, true, true, false, true, true, true, true, false, false, true, true, false, false, false, false, false]) rfl rfl rfl rfl (by kernel_rfl) (QP.then (QP.block (QP.then (QP.then (QP.block (QP.then QP.body)))))) (by kernel_rfl) rfl (V_bin rfl rfl (fun w => subI w s2.1 15)) ?_
        refine TA_take (i := 13) (is := [0, 0, 0, 0]) (done' := #[true, true, true, true, false, true, true, true, true, false, false, true, true, true, false, false, false, false]) rfl rfl rfl rfl (by kernel_rfl) (QP.then (QP.block (QP.then (QP.then (QP.block (QP.then QP.body)))))) (by kernel_rfl) rfl (V_idxArr (i := w64 (s2.1 - 15)) rfl rfl Try.underlying85 TryI.inf71 rfl h6.1 h6.2 (k := (w64 (s2.1 - 15)).toNat) (k01 _)) ?_
        refine TA_take (i := 14) (is := [0, 0, 0, 0]) (done' := #[true, true, true, true, false, true, true, true, true, false, false, true, true, true, true, false, false, false]) rfl rfl rfl rfl (by kernel_rfl) (QP.then (QP.block (QP.then (QP.then (QP.block (QP.then QP.body)))))) (by kernel_rfl) rfl (V_load rfl (Src.own (j := 3) rfl) (get_vec (f := v64) (V := s2.2) (toNat_lt h6.1 h6.2)) Try.isAgg71) ?_
        refine TA_take (i := 15) (is := [0, 0, 0, 0]) (done' := #[true, true, true, true, false, true, true, true, true, false, false, true, true, true, true, true, false, false]) rfl rfl rfl rfl (by kernel_rfl) (QP.then (QP.block (QP.then (QP.then (QP.block (QP.then QP.body)))))) (by kernel_rfl) rfl (V_bin rfl rfl (fun w => shr64 w (vg s2.2 ((w64 (s2.1 - 15)).toNat)) .u64 7 (by decide))) ?_
        refine TA_all (rs := [4]) (by kernel_rfl) rfl ?_
        refine ⟨?_, trivial⟩
        refine TO_e (is := [0, 0, 0, 0]) (done' := #[true, true, true, true, true, true, true, true, true, false, false, true, true, true, true, true, false, false]) rfl rfl rfl rfl (by kernel_rfl) (E_call (Γ := Unit) (val := fun g => v64 r_1) (mem := fun g => []) (vs := [v64 (vg s2.2 ((w64 (s2.1 - 15)).toNat)), vi 1]) (Lin := []) (Ro := []) (is := []) rfl Try.call64 (F64_calls (vg s2.2 ((w64 (s2.1 - 15)).toNat)) 1 r_1 hr_1) rfl trivial) (fun _ _ => rfl) (fun g_1 => ?_)
        refine TA_all (rs := [9]) (by kernel_rfl) rfl ?_
        refine ⟨?_, trivial⟩
        refine TO_e (is := [0, 0, 0, 0]) (done' := #[true, true, true, true, true, true, true, true, true, true, false, true, true, true, true, true, false, false]) rfl rfl rfl rfl (by kernel_rfl) (E_call (Γ := Unit) (val := fun g => v64 r_2) (mem := fun g => []) (vs := [v64 (vg s2.2 ((w64 (s2.1 - 15)).toNat)), vi 8]) (Lin := []) (Ro := []) (is := []) rfl Try.call64 (F64_calls (vg s2.2 ((w64 (s2.1 - 15)).toNat)) 8 r_2 hr_2) rfl trivial) (fun _ _ => rfl) (fun g_2 => ?_)
        refine TA_take (i := 10) (is := [0, 0, 0, 0]) (done' := #[true, true, true, true, true, true, true, true, true, true, true, true, true, true, true, true, false, false]) rfl rfl rfl rfl (by kernel_rfl) (QP.then (QP.block (QP.then (QP.then (QP.block (QP.then QP.body)))))) (by kernel_rfl) rfl (V_bin rfl rfl (fun w => xor64 w r_1 r_2)) ?_
        refine TA_take (i := 16) (is := [0, 0, 0, 0]) (done' := #[true, true, true, true, true, true, true, true, true, true, true, true, true, true, true, true, true, false]) rfl rfl rfl rfl (by kernel_rfl) (QP.then (QP.block (QP.then (QP.then (QP.block (QP.then QP.body)))))) (by kernel_rfl) rfl (V_bin rfl rfl (fun w => xor64 w (r_1 ^^^ r_2) ((vg s2.2 ((w64 (s2.1 - 15)).toNat)) >>> 7))) ?_
        refine TA_take (i := 17) (is := [0, 0, 0, 0]) (done' := #[true, true, true, true, true, true, true, true, true, true, true, true, true, true, true, true, true, true]) rfl rfl rfl rfl (by kernel_rfl) (QP.then (QP.block (QP.then (QP.then (QP.block (QP.then QP.body)))))) (by kernel_rfl) rfl (V_assign rfl) ?_
        refine TA_re (d := 10) (v := v64 ((r_1 ^^^ r_2) ^^^ ((vg s2.2 ((w64 (s2.1 - 15)).toNat)) >>> 7))) (v' := v64 a_1) rfl (congrArg v64 ha_1) ?_
        refine TA_done (by kernel_rfl) ?_ 0
        refine TX_next ?_
        refine TC_seq ?_
        obtain ⟨h7, H⟩ := if_elim H
        obtain ⟨r_3, hr_3, H⟩ := bind_elim H
        obtain ⟨h8, H⟩ := if_elim H
        obtain ⟨r_4, hr_4, H⟩ := bind_elim H
        obtain ⟨h9, H⟩ := if_elim H
        obtain ⟨b5, hb5, H⟩ := ltt_elim H
        refine TA_begin [⟨some (b1, 0), e64 h.toList⟩, ⟨some (b2, 0), e64 ((Vector.replicate 8 0#64).toList)⟩, ⟨some (b3, 0), e64 m_1.toList⟩, ⟨some (b4, 0), e64 s2.2.toList⟩] 18 (by kernel_rfl) (N := 18) rfl ?_
        refine TA_take (i := 0) (is := [0, 0, 0, 0]) (done' := #[true, false, false, false, false, false, false, false, false, false, false, false, false, false, false, false, false, false]) rfl rfl rfl rfl (by kernel_rfl) (QP.then (QP.block (QP.then (QP.then (QP.block (QP.then QP.body)))))) (by kernel_rfl) rfl (V_move rfl) ?_
        refine TA_take (i := 1) (is := [0, 0, 0, 0]) (done' := #[true, true, false, false, false, false, false, false, false, false, false, false, false, false, false, false, false, false]) rfl rfl rfl rfl (by kernel_rfl) (QP.then (QP.block (QP.then (QP.then (QP.block (QP.then QP.body)))))) (by kernel_rfl) rfl (V_bin rfl rfl (fun w => subI w s2.1 2)) ?_
        refine TA_take (i := 2) (is := [0, 0, 0, 0]) (done' := #[true, true, true, false, false, false, false, false, false, false, false, false, false, false, false, false, false, false]) rfl rfl rfl rfl (by kernel_rfl) (QP.then (QP.block (QP.then (QP.then (QP.block (QP.then QP.body)))))) (by kernel_rfl) rfl (V_idxArr (i := w64 (s2.1 - 2)) rfl rfl Try.underlying85 TryI.inf71 rfl h7.1 h7.2 (k := (w64 (s2.1 - 2)).toNat) (k01 _)) ?_
        refine TA_take (i := 3) (is := [0, 0, 0, 0]) (done' := #[true, true, true, true, false, false, false, false, false, false, false, false, false, false, false, false, false, false]) rfl rfl rfl rfl (by kernel_rfl) (QP.then (QP.block (QP.then (QP.then (QP.block (QP.then QP.body)))))) (by kernel_rfl) rfl (V_load rfl (Src.own (j := 3) rfl) (get_vec (f := v64) (V := s2.2) (toNat_lt h7.1 h7.2)) Try.isAgg71) ?_
        refine TA_take (i := 5) (is := [0, 0, 0, 0]) (done' := #[true, true, true, true, false, true, false, false, false, false, false, false, false, false, false, false, false, false]) rfl rfl rfl rfl (by kernel_rfl) (QP.then (QP.block (QP.then (QP.then (QP.block (QP.then QP.body)))))) (by kernel_rfl) rfl (V_move rfl) ?_
        refine TA_take (i := 6) (is := [0, 0, 0, 0]) (done' := #[true, true, true, true, false, true, true, false, false, false, false, false, false, false, false, false, false, false]) rfl rfl rfl rfl (by kernel_rfl) (QP.then (QP.block (QP.then (QP.then (QP.block (QP.then QP.body)))))) (by kernel_rfl) rfl (V_bin rfl rfl (fun w => subI w s2.1 2)) ?_
        refine TA_take (i := 7) (is := [0, 0, 0, 0]) (done' := #[true, true, true, true, false, true, true, true, false, false, false, false, false, false, false, false, false, false]) rfl rfl rfl rfl (by kernel_rfl) (QP.then (QP.block (QP.then (QP.then (QP.block (QP.then QP.body)))))) (by kernel_rfl) rfl (V_idxArr (i := w64 (s2.1 - 2)) rfl rfl Try.underlying85 TryI.inf71 rfl h8.1 h8.2 (k := (w64 (s2.1 - 2)).toNat) (k01 _)) ?_
        refine TA_take (i := 8) (is := [0, 0, 0, 0]) (done' := #[true, true, true, true, false, true, true, true, true, false, false, false, false, false, false, false, false, false]) rfl rfl rfl rfl (by kernel_rfl) (QP.then (QP.block (QP.then (QP.then (QP.block (QP.then QP.body)))))) (by kernel_rfl) rfl (V_load rfl (Src.own (j := 3) rfl) (get_vec (f := v64) (V := s2.2) (toNat_lt h8.1 h8.2)) Try.isAgg71) ?_
        refine TA_take (i := 11) (is := [0, 0, 0, 0]) (done' := #[true, true, true, true, false, true, true, true, true, false, false, true, false, false, false, false, false, false]) rfl rfl rfl rfl (by kernel_rfl) (QP.then (QP.block (QP.then (QP.then (QP.block (QP.then QP.body)))))) (by kernel_rfl) rfl (V_move rfl) ?_
        refine TA_take (i := 12) (is := [0, 0, 0, 0]) (done' := #[true, true, true, true, false, true, true, true, true, false, false, true, true, false, false, false, false, false]) rfl rfl rfl rfl (by kernel_rfl) (QP.then (QP.block (QP.then (QP.then (QP.block (QP.then QP.body)))))) (by kernel_rfl) rfl (V_bin rfl rfl (fun w => subI w s2.1 2)) ?_
        refine TA_take (i := 13) (is := [0, 0, 0, 0]) (done' := #[true, true, true, true, false, true, true, true, true, false, false, true, true, true, false, false, false, false]) rfl rfl rfl rfl (by kernel_rfl) (QP.then (QP.block (QP.then (QP.then (QP.block (QP.then QP.body)))))) (by kernel_rfl) rfl (V_idxArr (i := w64 (s2.1 - 2)) rfl rfl Try.underlying85 TryI.inf71 rfl h9.1 h9.2 (k := (w64 (s2.1 - 2)).toNat) (k01 _)) ?_
        refine TA_take (i := 14) (is := [0, 0, 0, 0]) (done' := #[true, true, true, true, false, true, true, true, true, false, false, true, true, true, true, false, false, false]) rfl rfl rfl rfl (by kernel_rfl) (QP.then (QP.block (QP.then (QP.then (QP.block (QP.then QP.body)))))) (by kernel_rfl) rfl (V_load rfl (Src.own (j := 3) rfl) (get_vec (f := v64) (V := s2.2) (toNat_lt h9.1 h9.2)) Try.isAgg71) ?_
        refine TA_take (i := 15) (is := [0, 0, 0, 0]) (done' := #[true, true, true, true, false, true, true, true, true, false, false, true, true, true, true, true, false, false]) rfl rfl rfl rfl (by kernel_rfl) (QP.then (QP.block (QP.then (QP.then (QP.block (QP.then QP.body)))))) (by kernel_rfl) rfl (V_bin rfl rfl (fun w => shr64 w (vg s2.2 ((w64 (s2.1 - 2)).toNat)) .u64 6 (by decide))) ?_
        refine TA_all (rs := [4]) (by kernel_rfl) rfl ?_
        refine ⟨?_, trivial⟩
        refine TO_e (is := [0, 0, 0, 0]) (done' := #[true, true, true, true, true, true, true, true, true, false, false, true, true, true, true, true, false, false]) rfl rfl rfl rfl (by kernel_rfl) (E_call (Γ := Unit) (val := fun g => v64 r_3) (mem := fun g => []) (vs := [v64 (vg s2.2 ((w64 (s2.1 - 2)).toNat)), vi 19]) (Lin := []) (Ro := []) (is := []) rfl Try.call64 (F64_calls (vg s2.2 ((w64 (s2.1 - 2)).toNat)) 19 r_3 hr_3) rfl trivial) (fun _ _ => rfl) (fun g_3 => ?_)
        refine TA_all (rs := [9]) (by kernel_rfl) rfl ?_
        refine ⟨?_, trivial⟩
        refine TO_e (is := [0, 0, 0, 0]) (done' := #[true, true, true, true, true, true, true, true, true, true, false, true, true, true, true, true, false, false]) rfl rfl rfl rfl (by kernel_rfl) (E_call (Γ := Unit) (val := fun g => v64 r_4) (mem := fun g => []) (vs := [v64 (vg s2.2 ((w64 (s2.1 - 2)).toNat)), vi 61]) (Lin := []) (Ro := []) (is := []) rfl Try.call64 (F64_calls (vg s2.2 ((w64 (s2.1 - 2)).toNat)) 61 r_4 hr_4) rfl trivial) (fun _ _ => rfl) (fun g_4 => ?_)
        refine TA_take (i := 10) (is := [0, 0, 0, 0]) (done' := #[true, true, true, true, true, true, true, true, true, true, true, true, true, true, true, true, false, false]) rfl rfl rfl rfl (by kernel_rfl) (QP.then (QP.block (QP.then (QP.then (QP.block (QP.then QP.body)))))) (by kernel_rfl) rfl (V_bin rfl rfl (fun w => xor64 w r_3 r_4)) ?_
        refine TA_take (i := 16) (is := [0, 0, 0, 0]) (done' := #[true, true, true, true, true, true, true, true, true, true, true, true, true, true, true, true, true, false]) rfl rfl rfl rfl (by kernel_rfl) (QP.then (QP.block (QP.then (QP.then (QP.block (QP.then QP.body)))))) (by kernel_rfl) rfl (V_bin rfl rfl (fun w => xor64 w (r_3 ^^^ r_4) ((vg s2.2 ((w64 (s2.1 - 2)).toNat)) >>> 6))) ?_
        refine TA_take (i := 17) (is := [0, 0, 0, 0]) (done' := #[true, true, true, true, true, true, true, true, true, true, true, true, true, true, true, true, true, true]) rfl rfl rfl rfl (by kernel_rfl) (QP.then (QP.block (QP.then (QP.then (QP.block (QP.then QP.body)))))) (by kernel_rfl) rfl (V_assign rfl) ?_
        refine TA_re (d := 11) (v := v64 ((r_3 ^^^ r_4) ^^^ ((vg s2.2 ((w64 (s2.1 - 2)).toNat)) >>> 6))) (v' := v64 b5) rfl (congrArg v64 hb5) ?_
        refine TA_done (by kernel_rfl) ?_ 0
        refine TX_next ?_
        refine TC.sub (m' := [(2, ptr (some (b1, 0)) 0), (4, ptr (some (b2, 0)) 0), (5, ptr (some (b3, 0)) 0), (6, ptr (some (b4, 0)) 0), (9, vi s2.1), (10, v64 a_1), (11, v64 b5)]) ⟨rfl, rfl, rfl, rfl, rfl, rfl, rfl, trivial⟩ ?_
        obtain ⟨h10, H⟩ := if_elim H
        obtain ⟨h11, H⟩ := if_elim H
        obtain ⟨h12, H⟩ := if_elim H
        obtain ⟨m_3, hm_3, H⟩ := ltt_elim H
        refine TA_begin [⟨some (b1, 0), e64 h.toList⟩, ⟨some (b2, 0), e64 ((Vector.replicate 8 0#64).toList)⟩, ⟨some (b3, 0), e64 m_1.toList⟩, ⟨some (b4, 0), e64 s2.2.toList⟩] 15 (by kernel_rfl) (N := 16) rfl ?_
        refine TA_take (i := 0) (is := [0, 0, 0, 0]) (done' := #[true, false, false, false, false, false, false, false, false, false, false, false, false, false, false, false]) rfl rfl rfl rfl (by kernel_rfl) (QP.block (QP.then (QP.then (QP.block (QP.then QP.body))))) (by kernel_rfl) rfl (V_move rfl) ?_
        refine TA_take (i := 1) (is := [0, 0, 0, 0]) (done' := #[true, true, false, false, false, false, false, false, false, false, false, false, false, false, false, false]) rfl rfl rfl rfl (by kernel_rfl) (QP.block (QP.then (QP.then (QP.block (QP.then QP.body))))) (by kernel_rfl) rfl (V_move rfl) ?_
        refine TA_take (i := 2) (is := [0, 0, 0, 0]) (done' := #[true, true, true, false, false, false, false, false, false, false, false, false, false, false, false, false]) rfl rfl rfl rfl (by kernel_rfl) (QP.block (QP.then (QP.then (QP.block (QP.then QP.body))))) (by kernel_rfl) rfl (V_bin rfl rfl (fun w => subI w s2.1 16)) ?_
        refine TA_take (i := 3) (is := [0, 0, 0, 0]) (done' := #[true, true, true, true, false, false, false, false, false, false, false, false, false, false, false, false]) rfl rfl rfl rfl (by kernel_rfl) (QP.block (QP.then (QP.then (QP.block (QP.then QP.body))))) (by kernel_rfl) rfl (V_idxArr (i := w64 (s2.1 - 16)) rfl rfl Try.underlying85 TryI.inf71 rfl h10.1 h10.2 (k := (w64 (s2.1 - 16)).toNat) (k01 _)) ?_
        refine TA_take (i := 4) (is := [0, 0, 0, 0]) (done' := #[true, true, true, true, true, false, false, false, false, false, false, false, false, false, false, false]) rfl rfl rfl rfl (by kernel_rfl) (QP.block (QP.then (QP.then (QP.block (QP.then QP.body))))) (by kernel_rfl) rfl (V_load rfl (Src.own (j := 3) rfl) (get_vec (f := v64) (V := s2.2) (toNat_lt h10.1 h10.2)) Try.isAgg71) ?_
        refine TA_take (i := 5) (is := [0, 0, 0, 0]) (done' := #[true, true, true, true, true, true, false, false, false, false, false, false, false, false, false, false]) rfl rfl rfl rfl (by kernel_rfl) (QP.block (QP.then (QP.then (QP.block (QP.then QP.body))))) (by kernel_rfl) rfl (V_move rfl) ?_
        refine TA_take (i := 6) (is := [0, 0, 0, 0]) (done' := #[true, true, true, true, true, true, true, false, false, false, false, false, false, false, false, false]) rfl rfl rfl rfl (by kernel_rfl) (QP.block (QP.then (QP.then (QP.block (QP.then QP.body))))) (by kernel_rfl) rfl (V_bin rfl rfl (fun w => add64 w (vg s2.2 ((w64 (s2.1 - 16)).toNat)) a_1)) ?_
        refine TA_take (i := 7) (is := [0, 0, 0, 0]) (done' := #[true, true, true, true, true, true, true, true, false, false, false, false, false, false, false, false]) rfl rfl rfl rfl (by kernel_rfl) (QP.block (QP.then (QP.then (QP.block (QP.then QP.body))))) (by kernel_rfl) rfl (V_move rfl) ?_
        refine TA_take (i := 8) (is := [0, 0, 0, 0]) (done' := #[true, true, true, true, true, true, true, true, true, false, false, false, false, false, false, false]) rfl rfl rfl rfl (by kernel_rfl) (QP.block (QP.then (QP.then (QP.block (QP.then QP.body))))) (by kernel_rfl) rfl (V_bin rfl rfl (fun w => subI w s2.1 7)) ?_
        refine TA_take (i := 9) (is := [0, 0, 0, 0]) (done' := #[true, true, true, true, true, true, true, true, true, true, false, false, false, false, false, false]) rfl rfl rfl rfl (by kernel_rfl) (QP.block (QP.then (QP.then (QP.block (QP.then QP.body))))) (by kernel_rfl) rfl (V_idxArr (i := w64 (s2.1 - 7)) rfl rfl Try.underlying85 TryI.inf71 rfl h11.1 h11.2 (k := (w64 (s2.1 - 7)).toNat) (k01 _)) ?_
        refine TA_take (i := 10) (is := [0, 0, 0, 0]) (done' := #[true, true, true, true, true, true, true, true, true, true, true, false, false, false, false, false]) rfl rfl rfl rfl (by kernel_rfl) (QP.block (QP.then (QP.then (QP.block (QP.then QP.body))))) (by kernel_rfl) rfl (V_load rfl (Src.own (j := 3) rfl) (get_vec (f := v64) (V := s2.2) (toNat_lt h11.1 h11.2)) Try.isAgg71) ?_
        refine TA_take (i := 11) (is := [0, 0, 0, 0]) (done' := #[true, true, true, true, true, true, true, true, true, true, true, true, false, false, false, false]) rfl rfl rfl rfl (by kernel_rfl) (QP.block (QP.then (QP.then (QP.block (QP.then QP.body))))) (by kernel_rfl) rfl (V_bin rfl rfl (fun w => add64 w ((vg s2.2 ((w64 (s2.1 - 16)).toNat)) + a_1) (vg s2.2 ((w64 (s2.1 - 7)).toNat)))) ?_
        refine TA_take (i := 12) (is := [0, 0, 0, 0]) (done' := #[true, true, true, true, true, true, true, true, true, true, true, true, true, false, false, false]) rfl rfl rfl rfl (by kernel_rfl) (QP.block (QP.then (QP.then (QP.block (QP.then QP.body))))) (by kernel_rfl) rfl (V_move rfl) ?_
        refine TA_take (i := 13) (is := [0, 0, 0, 0]) (done' := #[true, true, true, true, true, true, true, true, true, true, true, true, true, true, false, false]) rfl rfl rfl rfl (by kernel_rfl) (QP.block (QP.then (QP.then (QP.block (QP.then QP.body))))) (by kernel_rfl) rfl (V_bin rfl rfl (fun w => add64 w (((vg s2.2 ((w64 (s2.1 - 16)).toNat)) + a_1) + (vg s2.2 ((w64 (s2.1 - 7)).toNat))) b5)) ?_
        refine TA_take (i := 14) (is := [0, 0, 0, 0]) (done' := #[true, true, true, true, true, true, true, true, true, true, true, true, true, true, true, false]) rfl rfl rfl rfl (by kernel_rfl) (QP.block (QP.then (QP.then (QP.block (QP.then QP.body))))) (by kernel_rfl) rfl (V_idxArr (i := s2.1) rfl rfl Try.underlying85 TryI.inf71 rfl h12.1 h12.2 (k := (s2.1).toNat) (k01 _)) ?_
        refine TA_all (rs := [15]) (by kernel_rfl) rfl ?_
        refine ⟨?_, trivial⟩
        refine TO_n (is := []) (R := fun _ => []) (done' := #[true, true, true, true, true, true, true, true, true, true, true, true, true, true, true, true]) rfl rfl rfl (by kernel_rfl) (E_store (j := 3) rfl rfl TryI.inf71 rfl rfl rfl (by simpa using (toNat_lt h12.1 h12.2)) (cs' := e64 ((vp s2.2 ((s2.1).toNat) ((((vg s2.2 ((w64 (s2.1 - 16)).toNat)) + a_1) + (vg s2.2 ((w64 (s2.1 - 7)).toNat))) + b5)).toList)) set_vec) (fun h => by cases h) (fun _ => ?_)
        refine TA_reE (j := 3) (A := some (b4, 0)) (cs := e64 ((vp s2.2 ((s2.1).toNat) ((((vg s2.2 ((w64 (s2.1 - 16)).toNat)) + a_1) + (vg s2.2 ((w64 (s2.1 - 7)).toNat))) + b5)).toList)) (cs' := e64 m_3.toList) rfl (congrArg (fun z : Vector (BitVec 64) 80 => e64 (Vector.toList z)) hm_3) ?_
        refine TA_done (by kernel_rfl) ?_ 0
        refine TX_block_normal ?_
        refine TX_next ?_
        refine TC_region ?_
        refine TL_v rfl rfl rfl (V_move rfl) ?_
        refine TL_v rfl rfl rfl (V_bin rfl rfl (fun w => addI w s2.1 1)) ?_
        refine TL_v rfl rfl rfl (V_assign rfl) ?_
        obtain ⟨i2, hi2, H⟩ := ltt_elim H
        refine TL_re (d := 9) (v := vi (w64 (s2.1 + 1))) (v' := vi i2) rfl (congrArg vi hi2) ?_
        refine TL_nil ?_
        refine TX.sub (m' := [(2, ptr (some (b1, 0)) 0), (4, ptr (some (b2, 0)) 0), (5, ptr (some (b3, 0)) 0), (6, ptr (some (b4, 0)) 0), (9, vi i2)]) ⟨rfl, rfl, rfl, rfl, rfl, trivial⟩ ?_
        refine TX.pull (is := [0, 0, 0, 0]) (L' := [⟨some (b1, 0), e64 h.toList⟩, ⟨some (b2, 0), e64 ((Vector.replicate 8 0#64).toList)⟩, ⟨some (b3, 0), e64 m_1.toList⟩, ⟨some (b4, 0), e64 m_3.toList⟩]) rfl ?_
        obtain rfl := Option.some.inj H
        exact fun a w hs => hK (i2, m_3) rfl () a w hs
      · replace H := ite_f (of_decide_eq_false hc) H
        refine TC_exit ?_
        refine TX_then_exit ?_
        refine TX_then_exit ?_
        refine TX.sub (m' := [(2, ptr (some (b1, 0)) 0), (4, ptr (some (b2, 0)) 0), (5, ptr (some (b3, 0)) 0), (6, ptr (some (b4, 0)) 0)]) ⟨rfl, rfl, rfl, rfl, trivial⟩ ?_
        refine TX.pull (is := [0, 0, 0, 0]) (L' := [⟨some (b1, 0), e64 h.toList⟩, ⟨some (b2, 0), e64 ((Vector.replicate 8 0#64).toList)⟩, ⟨some (b3, 0), e64 m_1.toList⟩, ⟨some (b4, 0), e64 s2.2.toList⟩]) rfl ?_
        obtain rfl := Option.some.inj H
        exact hE s2.2 rfl ()
    · intro g
      refine TX_block_exit ?_
      refine TX_next ?_
      refine TC_seq ?_
      refine TC_region ?_
      refine TL_v rfl rfl rfl (V_loadAgg (n := 8) rfl (by simp) (Src.own (j := 0) rfl) Try.isAgg72 TryI.inf72 rfl (lenV (f := v64) h)) ?_
      refine TL_e rfl rfl rfl (E_allocP [(8, e64 ((Vector.replicate 8 0#64).toList))] TryI.inf72 TryI.zer72 ⟨(lenV (f := v64) (Vector.replicate 8 0#64)), trivial⟩) (fun b6 => ?_)
      refine TL_n rfl rfl (E_storeAgg (n := 8) (j := 0) (vs := e64 h.toList) rfl rfl TryI.inf72 rfl (lenV (f := v64) h) (OneC.map (fun _ => rfl) _) rfl (Nat.le_of_eq (by simp)) (cs' := e64 h.toList) (splice_all (by simp))) (fun _ => ?_)
      refine TL_nil ?_
      refine TX_next ?_
      refine TC_seq ?_
      refine TC_seq ?_
      refine TC_region ?_
      refine TL_v rfl rfl rfl (V_assign rfl) ?_
      refine TL_nil ?_
      refine TX_next ?_
      refine TC_block ?_
      obtain ⟨t_4, Hl, H⟩ := bind_elim H
      refine TC.sub (m' := [(2, ptr (some (b1, 0)) 0), (4, ptr (some (b2, 0)) 0), (5, ptr (some (b3, 0)) 0), (6, ptr (some (b4, 0)) 0), (12, ptr (some (b6, 0)) 0), (13, vi 0)]) ⟨rfl, rfl, rfl, rfl, rfl, rfl, trivial⟩ ?_
      refine TC.pull (is := [1, 1, 1, 1, 0]) (L' := [⟨some (b1, 0), e64 h.toList⟩, ⟨some (b2, 0), e64 ((Vector.replicate 8 0#64).toList)⟩, ⟨some (b3, 0), e64 m_1.toList⟩, ⟨some (b4, 0), e64 t_3.toList⟩, ⟨some (b6, 0), e64 h.toList⟩]) rfl ?_
      refine TC_loopL (id := 6) (body := (halberdref1_block512.b3 m_1 t_3)) (σ := Int × Vector (BitVec 64) 8) (Γ := Unit) (Γx := Unit) (fun s3 g3_ => [(2, ptr (some (b1, 0)) 0), (4, ptr (some (b2, 0)) 0), (5, ptr (some (b3, 0)) 0), (6, ptr (some (b4, 0)) 0), (12, ptr (some (b6, 0)) 0), (13, vi s3.1)]) (fun s3 g3_ => [⟨some (b1, 0), e64 h.toList⟩, ⟨some (b2, 0), e64 ((Vector.replicate 8 0#64).toList)⟩, ⟨some (b3, 0), e64 m_1.toList⟩, ⟨some (b4, 0), e64 t_3.toList⟩, ⟨some (b6, 0), e64 s3.2.toList⟩]) (fun t g => [(2, ptr (some (b1, 0)) 0), (4, ptr (some (b2, 0)) 0), (12, ptr (some (b6, 0)) 0)]) (fun t g => [⟨some (b1, 0), e64 h.toList⟩, ⟨some (b2, 0), e64 ((Vector.replicate 8 0#64).toList)⟩, ⟨some (b6, 0), e64 t.toList⟩]) ?_ BIG (0, h) () t_4 Hl ?_
      · intro s3 g3_ r1 H K hK hE
        unfold halberdref1_block512.b3 at H
        refine TC_seq ?_
        refine TC_seq ?_
        refine TC_region ?_
        refine TL_v rfl rfl rfl (V_move rfl) ?_
        refine TL_v rfl rfl rfl (V_bin rfl rfl (fun w => lssI w s3.1 80)) ?_
        refine TL_nil ?_
        refine TX_next ?_
        refine TC_cond (b := (decide (s3.1 < 80))) rfl (fun hc => ?_) (fun hc => ?_)
        · replace H := ite_t (of_decide_eq_true hc) H
          refine TC_skip ?_
          refine TX_next ?_
          refine TC_seq ?_
          refine TC_block ?_
          refine TC_seq ?_
          obtain ⟨r_5, hr_5, H⟩ := bind_elim H
          obtain ⟨r_6, hr_6, H⟩ := bind_elim H
          obtain ⟨r_7, hr_7, H⟩ := bind_elim H
          obtain ⟨a_2, ha_2, H⟩ := ltt_elim H
          refine TA_begin [⟨some (b1, 0), e64 h.toList⟩, ⟨some (b2, 0), e64 ((Vector.replicate 8 0#64).toList)⟩, ⟨some (b3, 0), e64 m_1.toList⟩, ⟨some (b4, 0), e64 t_3.toList⟩, ⟨some (b6, 0), e64 s3.2.toList⟩] 12 (by kernel_rfl) (N := 12) rfl ?_
          refine TA_take (i := 0) (is := [0, 0, 0, 0, 0]) (done' := #[true, false, false, false, false, false, false, false, false, false, false, false]) rfl rfl rfl rfl (by kernel_rfl) (QP.then (QP.block (QP.then (QP.then (QP.block (QP.then QP.body)))))) (by kernel_rfl) rfl (V_idxArr (i := 4) rfl rfl Try.underlying72 TryI.inf71 rfl (by decide) (by decide) (k := 4) (k01 _)) ?_
          refine TA_take (i := 1) (is := [0, 0, 0, 0, 0]) (done' := #[true, true, false, false, false, false, false, false, false, false, false, false]) rfl rfl rfl rfl (by kernel_rfl) (QP.then (QP.block (QP.then (QP.then (QP.block (QP.then QP.body)))))) (by kernel_rfl) rfl (V_load rfl (Src.own (j := 4) rfl) (get_vec (f := v64) (V := s3.2) (by decide : 4 < 8)) Try.isAgg71) ?_
          refine TA_take (i := 3) (is := [0, 0, 0, 0, 0]) (done' := #[true, true, false, true, false, false, false, false, false, false, false, false]) rfl rfl rfl rfl (by kernel_rfl) (QP.then (QP.block (QP.then (QP.then (QP.block (QP.then QP.body)))))) (by kernel_rfl) rfl (V_idxArr (i := 4) rfl rfl Try.underlying72 TryI.inf71 rfl (by decide) (by decide) (k := 4) (k01 _)) ?_
          refine TA_take (i := 4) (is := [0, 0, 0, 0, 0]) (done' := #[true, true, false, true, true, false, false, false, false, false, false, false]) rfl rfl rfl rfl (by kernel_rfl) (QP.then (QP.block (QP.then (QP.then (QP.block (QP.then QP.body)))))) (by kernel_rfl) rfl (V_load rfl (Src.own (j := 4) rfl) (get_vec (f := v64) (V := s3.2) (by decide : 4 < 8)) Try.isAgg71) ?_
          refine TA_take (i := 7) (is := [0, 0, 0, 0, 0]) (done' := #[true, true, false, true, true, false, false, true, false, false, false, false]) rfl rfl rfl rfl (by kernel_rfl) (QP.then (QP.block (QP.then (QP.then (QP.block (QP.then QP.body)))))) (by kernel_rfl) rfl (V_idxArr (i := 4) rfl rfl Try.underlying72 TryI.inf71 rfl (by decide) (by decide) (k := 4) (k01 _)) ?_
          refine TA_take (i := 8) (is := [0, 0, 0, 0, 0]) (done' := #[true, true, false, true, true, false, false, true, true, false, false, false]) rfl rfl rfl rfl (by kernel_rfl) (QP.then (QP.block (QP.then (QP.then (QP.block (QP.then QP.body)))))) (by kernel_rfl) rfl (V_load rfl (Src.own (j := 4) rfl) (get_vec (f := v64) (V := s3.2) (by decide : 4 < 8)) Try.isAgg71) ?_
          refine TA_all (rs := [2]) (by kernel_rfl) rfl ?_
          refine ⟨?_, trivial⟩
          refine TO_e (is := [0, 0, 0, 0, 0]) (done' := #[true, true, true, true, true, false, false, true, true, false, false, false]) rfl rfl rfl rfl (by kernel_rfl) (E_call (Γ := Unit) (val := fun g => v64 r_5) (mem := fun g => []) (vs := [v64 (vg s3.2 4), vi 14]) (Lin := []) (Ro := []) (is := []) rfl Try.call64 (F64_calls (vg s3.2 4) 14 r_5 hr_5) rfl trivial) (fun _ _ => rfl) (fun g_5 => ?_)
          refine TA_all (rs := [5]) (by kernel_rfl) rfl ?_
          refine ⟨?_, trivial⟩
          refine TO_e (is := [0, 0, 0, 0, 0]) (done' := #[true, true, true, true, true, true, false, true, true, false, false, false]) rfl rfl rfl rfl (by kernel_rfl) (E_call (Γ := Unit) (val := fun g => v64 r_6) (mem := fun g => []) (vs := [v64 (vg s3.2 4), vi 18]) (Lin := []) (Ro := []) (is := []) rfl Try.call64 (F64_calls (vg s3.2 4) 18 r_6 hr_6) rfl trivial) (fun _ _ => rfl) (fun g_6 => ?_)
          refine TA_take (i := 6) (is := [0, 0, 0, 0, 0]) (done' := #[true, true, true, true, true, true, true, true, true, false, false, false]) rfl rfl rfl rfl (by kernel_rfl) (QP.then (QP.block (QP.then (QP.then (QP.block (QP.then QP.body)))))) (by kernel_rfl) rfl (V_bin rfl rfl (fun w => xor64 w r_5 r_6)) ?_
          refine TA_all (rs := [9]) (by kernel_rfl) rfl ?_
          refine ⟨?_, trivial⟩
          refine TO_e (is := [0, 0, 0, 0, 0]) (done' := #[true, true, true, true, true, true, true, true, true, true, false, false]) rfl rfl rfl rfl (by kernel_rfl) (E_call (Γ := Unit) (val := fun g => v64 r_7) (mem := fun g => []) (vs := [v64 (vg s3.2 4), vi 41]) (Lin := []) (Ro := []) (is := []) rfl Try.call64 (F64_calls (vg s3.2 4) 41 r_7 hr_7) rfl trivial) (fun _ _ => rfl) (fun g_7 => ?_)
          refine TA_take (i := 10) (is := [0, 0, 0, 0, 0]) (done' := #[true, true, true, true, true, true, true, true, true, true, true, false]) rfl rfl rfl rfl (by kernel_rfl) (QP.then (QP.block (QP.then (QP.then (QP.block (QP.then QP.body)))))) (by kernel_rfl) rfl (V_bin rfl rfl (fun w => xor64 w (r_5 ^^^ r_6) r_7)) ?_
          refine TA_take (i := 11) (is := [0, 0, 0, 0, 0]) (done' := #[true, true, true, true, true, true, true, true, true, true, true, true]) rfl rfl rfl rfl (by kernel_rfl) (QP.then (QP.block (QP.then (QP.then (QP.block (QP.then QP.body)))))) (by kernel_rfl) rfl (V_assign rfl) ?_
          refine TA_re (d := 14) (v := v64 ((r_5 ^^^ r_6) ^^^ r_7)) (v' := v64 a_2) rfl (congrArg v64 ha_2) ?_
          refine TA_done (by kernel_rfl) ?_ 0
          refine TX_next ?_
          refine TC_seq ?_
          obtain ⟨h13, H⟩ := if_elim H
          obtain ⟨h14, H⟩ := if_elim H
          obtain ⟨t_5, ht_5, H⟩ := ltt_elim H
          refine TA_begin [⟨some (b1, 0), e64 h.toList⟩, ⟨some (b2, 0), e64 ((Vector.replicate 8 0#64).toList)⟩, ⟨some (b3, 0), e64 m_1.toList⟩, ⟨some (b4, 0), e64 t_3.toList⟩, ⟨some (b6, 0), e64 s3.2.toList⟩] 26 (by kernel_rfl) (N := 26) rfl ?_
          refine TA_take (i := 0) (is := [0, 0, 0, 0, 0]) (done' := #[true, false, false, false, false, false, false, false, false, false, false, false, false, false, false, false, false, false, false, false, false, false, false, false, false, false]) rfl rfl rfl rfl (by kernel_rfl) (QP.then (QP.block (QP.then (QP.then (QP.block (QP.then QP.body)))))) (by kernel_rfl) rfl (V_idxArr (i := 7) rfl rfl Try.underlying72 TryI.inf71 rfl (by decide) (by decide) (k := 7) (k01 _)) ?_
          refine TA_take (i := 1) (is := [0, 0, 0, 0, 0]) (done' := #[true, true, false, false, false, false, false, false, false, false, false, false, false, false, false, false, false, false, false, false, false, false, false, false, false, false]) rfl rfl rfl rfl (by kernel_rfl) (QP.then (QP.block (QP.then (QP.then (QP.block (QP.then QP.body)))))) (by kernel_rfl) rfl (V_load rfl (Src.own (j := 4) rfl) (get_vec (f := v64) (V := s3.2) (by decide : 7 < 8)) Try.isAgg71) ?_
          refine TA_take (i := 2) (is := [0, 0, 0, 0, 0]) (done' := #[true, true, true, false, false, false, false, false, false, false, false, false, false, false, false, false, false, false, false, false, false, false, false, false, false, false]) rfl rfl rfl rfl (by kernel_rfl) (QP.then (QP.block (QP.then (QP.then (QP.block (QP.then QP.body)))))) (by kernel_rfl) rfl (V_move rfl) ?_
          refine TA_take (i := 3) (is := [0, 0, 0, 0, 0]) (done' := #[true, true, true, true, false, false, false, false, false, false, false, false, false, false, false, false, false, false, false, false, false, false, false, false, false, false]) rfl rfl rfl rfl (by kernel_rfl) (QP.then (QP.block (QP.then (QP.then (QP.block (QP.then QP.body)))))) (by kernel_rfl) rfl (V_bin rfl rfl (fun w => add64 w (vg s3.2 7) a_2)) ?_
          refine TA_take (i := 4) (is := [0, 0, 0, 0, 0]) (done' := #[true, true, true, true, true, false, false, false, false, false, false, false, false, false, false, false, false, false, false, false, false, false, false, false, false, false]) rfl rfl rfl rfl (by kernel_rfl) (QP.then (QP.block (QP.then (QP.then (QP.block (QP.then QP.body)))))) (by kernel_rfl) rfl (V_idxArr (i := 4) rfl rfl Try.underlying72 TryI.inf71 rfl (by decide) (by decide) (k := 4) (k01 _)) ?_
          refine TA_take (i := 5) (is := [0, 0, 0, 0, 0]) (done' := #[true, true, true, true, true, true, false, false, false, false, false, false, false, false, false, false, false, false, false, false, false, false, false, false, false, false]) rfl rfl rfl rfl (by kernel_rfl) (QP.then (QP.block (QP.then (QP.then (QP.block (QP.then QP.body)))))) (by kernel_rfl) rfl (V_load rfl (Src.own (j := 4) rfl) (get_vec (f := v64) (V := s3.2) (by decide : 4 < 8)) Try.isAgg71) ?_
          refine TA_take (i := 6) (is := [0, 0, 0, 0, 0]) (done' := #[true, true, true, true, true, true, true, false, false, false, false, false, false, false, false, false, false, false, false, false, false, false, false, false, false, false]) rfl rfl rfl rfl (by kernel_rfl) (QP.then (QP.block (QP.then (QP.then (QP.block (QP.then QP.body)))))) (by kernel_rfl) rfl (V_idxArr (i := 5) rfl rfl Try.underlying72 TryI.inf71 rfl (by decide) (by decide) (k := 5) (k01 _)) ?_
          refine TA_take (i := 7) (is := [0, 0, 0, 0, 0]) (done' := #[true, true, true, true, true, true, true, true, false, false, false, false, false, false, false, false, false, false, false, false, false, false, false, false, false, false]) rfl rfl rfl rfl (by kernel_rfl) (QP.then (QP.block (QP.then (QP.then (QP.block (QP.then QP.body)))))) (by kernel_rfl) rfl (V_load rfl (Src.own (j := 4) rfl) (get_vec (f := v64) (V := s3.2) (by decide : 5 < 8)) Try.isAgg71) ?_
          refine TA_take (i := 8) (is := [0, 0, 0, 0, 0]) (done' := #[true, true, true, true, true, true, true, true, true, false, false, false, false, false, false, false, false, false, false, false, false, false, false, false, false, false]) rfl rfl rfl rfl (by kernel_rfl) (QP.then (QP.block (QP.then (QP.then (QP.block (QP.then QP.body)))))) (by kernel_rfl) rfl (V_bin rfl rfl (fun w => and64 w (vg s3.2 4) (vg s3.2 5))) ?_
          refine TA_take (i := 9) (is := [0, 0, 0, 0, 0]) (done' := #[true, true, true, true, true, true, true, true, true, true, false, false, false, false, false, false, false, false, false, false, false, false, false, false, false, false]) rfl rfl rfl rfl (by kernel_rfl) (QP.then (QP.block (QP.then (QP.then (QP.block (QP.then QP.body)))))) (by kernel_rfl) rfl (V_idxArr (i := 4) rfl rfl Try.underlying72 TryI.inf71 rfl (by decide) (by decide) (k := 4) (k01 _)) ?_
          refine TA_take (i := 10) (is := [0, 0, 0, 0, 0]) (done' := #[true, true, true, true, true, true, true, true, true, true, true, false, false, false, false, false, false, false, false, false, false, false, false, false, false, false]) rfl rfl rfl rfl (by kernel_rfl) (QP.then (QP.block (QP.then (QP.then (QP.block (QP.then QP.body)))))) (by kernel_rfl) rfl (V_load rfl (Src.own (j := 4) rfl) (get_vec (f := v64) (V := s3.2) (by decide : 4 < 8)) Try.isAgg71) ?_
          refine TA_take (i := 11) (is := [0, 0, 0, 0, 0]) (done' := #[true, true, true, true, true, true, true, true, true, true, true, true, false, false, false, false, false, false, false, false, false, false, false, false, false, false]) rfl rfl rfl rfl (by kernel_rfl) (QP.then (QP.block (QP.then (QP.then (QP.block (QP.then QP.body)))))) (by kernel_rfl) rfl (V_un rfl (fun w => not64 w (vg s3.2 4))) ?_
          refine TA_take (i := 12) (is := [0, 0, 0, 0, 0]) (done' := #[true, true, true, true, true, true, true, true, true, true, true, true, true, false, false, false, false, false, false, false, false, false, false, false, false, false]) rfl rfl rfl rfl (by kernel_rfl) (QP.then (QP.block (QP.then (QP.then (QP.block (QP.then QP.body)))))) (by kernel_rfl) rfl (V_idxArr (i := 6) rfl rfl Try.underlying72 TryI.inf71 rfl (by decide) (by decide) (k := 6) (k01 _)) ?_
          refine TA_take (i := 13) (is := [0, 0, 0, 0, 0]) (done' := #[true, true, true, true, true, true, true, true, true, true, true, true, true, true, false, false, false, false, false, false, false, false, false, false, false, false]) rfl rfl rfl rfl (by kernel_rfl) (QP.then (QP.block (QP.then (QP.then (QP.block (QP.then QP.body)))))) (by kernel_rfl) rfl (V_load rfl (Src.own (j := 4) rfl) (get_vec (f := v64) (V := s3.2) (by decide : 6 < 8)) Try.isAgg71) ?_
          refine TA_take (i := 14) (is := [0, 0, 0, 0, 0]) (done' := #[true, true, true, true, true, true, true, true, true, true, true, true, true, true, true, false, false, false, false, false, false, false, false, false, false, false]) rfl rfl rfl rfl (by kernel_rfl) (QP.then (QP.block (QP.then (QP.then (QP.block (QP.then QP.body)))))) (by kernel_rfl) rfl (V_bin rfl rfl (fun w => and64 w (~~~(vg s3.2 4)) (vg s3.2 6))) ?_
          refine TA_take (i := 15) (is := [0, 0, 0, 0, 0]) (done' := #[true, true, true, true, true, true, true, true, true, true, true, true, true, true, true, true, false, false, false, false, false, false, false, false, false, false]) rfl rfl rfl rfl (by kernel_rfl) (QP.then (QP.block (QP.then (QP.then (QP.block (QP.then QP.body)))))) (by kernel_rfl) rfl (V_bin rfl rfl (fun w => xor64 w ((vg s3.2 4) &&& (vg s3.2 5)) ((~~~(vg s3.2 4)) &&& (vg s3.2 6)))) ?_
          refine TA_take (i := 16) (is := [0, 0, 0, 0, 0]) (done' := #[true, true, true, true, true, true, true, true, true, true, true, true, true, true, true, true, true, false, false, false, false, false, false, false, false, false]) rfl rfl rfl rfl (by kernel_rfl) (QP.then (QP.block (QP.then (QP.then (QP.block (QP.then QP.body)))))) (by kernel_rfl) rfl (V_bin rfl rfl (fun w => add64 w ((vg s3.2 7) + a_2) (((vg s3.2 4) &&& (vg s3.2 5)) ^^^ ((~~~(vg s3.2 4)) &&& (vg s3.2 6))))) ?_
          refine TA_take (i := 17) (is := [0, 0, 0, 0, 0]) (done' := #[true, true, true, true, true, true, true, true, true, true, true, true, true, true, true, true, true, true, false, false, false, false, false, false, false, false]) rfl rfl rfl rfl (by kernel_rfl) (QP.then (QP.block (QP.then (QP.then (QP.block (QP.then QP.body)))))) (by kernel_rfl) rfl (V_move rfl) ?_
          refine TA_take (i := 18) (is := [0, 0, 0, 0, 0]) (done' := #[true, true, true, true, true, true, true, true, true, true, true, true, true, true, true, true, true, true, true, false, false, false, false, false, false, false]) rfl rfl rfl rfl (by kernel_rfl) (QP.then (QP.block (QP.then (QP.then (QP.block (QP.then QP.body)))))) (by kernel_rfl) rfl (V_idxArr (i := s3.1) rfl rfl Try.underlying85 TryI.inf71 rfl h13.1 h13.2 (k := (s3.1).toNat) (k01 _)) ?_
          refine TA_take (i := 19) (is := [0, 0, 0, 0, 0]) (done' := #[true, true, true, true, true, true, true, true, true, true, true, true, true, true, true, true, true, true, true, true, false, false, false, false, false, false]) rfl rfl rfl rfl (by kernel_rfl) (QP.then (QP.block (QP.then (QP.then (QP.block (QP.then QP.body)))))) (by kernel_rfl) rfl (V_load rfl (Src.own (j := 2) rfl) (get_vec (f := v64) (V := m_1) (toNat_lt h13.1 h13.2)) Try.isAgg71) ?_
          refine TA_take (i := 20) (is := [0, 0, 0, 0, 0]) (done' := #[true, true, true, true, true, true, true, true, true, true, true, true, true, true, true, true, true, true, true, true, true, false, false, false, false, false]) rfl rfl rfl rfl (by kernel_rfl) (QP.then (QP.block (QP.then (QP.then (QP.block (QP.then QP.body)))))) (by kernel_rfl) rfl (V_bin rfl rfl (fun w => add64 w (((vg s3.2 7) + a_2) + (((vg s3.2 4) &&& (vg s3.2 5)) ^^^ ((~~~(vg s3.2 4)) &&& (vg s3.2 6)))) (vg m_1 ((s3.1).toNat)))) ?_
          refine TA_take (i := 21) (is := [0, 0, 0, 0, 0]) (done' := #[true, true, true, true, true, true, true, true, true, true, true, true, true, true, true, true, true, true, true, true, true, true, false, false, false, false]) rfl rfl rfl rfl (by kernel_rfl) (QP.then (QP.block (QP.then (QP.then (QP.block (QP.then QP.body)))))) (by kernel_rfl) rfl (V_move rfl) ?_
          refine TA_take (i := 22) (is := [0, 0, 0, 0, 0]) (done' := #[true, true, true, true, true, true, true, true, true, true, true, true, true, true, true, true, true, true, true, true, true, true, true, false, false, false]) rfl rfl rfl rfl (by kernel_rfl) (QP.then (QP.block (QP.then (QP.then (QP.block (QP.then QP.body)))))) (by kernel_rfl) rfl (V_idxArr (i := s3.1) rfl rfl Try.underlying85 TryI.inf71 rfl h14.1 h14.2 (k := (s3.1).toNat) (k01 _)) ?_
          refine TA_take (i := 23) (is := [0, 0, 0, 0, 0]) (done' := #[true, true, true, true, true, true, true, true, true, true, true, true, true, true, true, true, true, true, true, true, true, true, true, true, false, false]) rfl rfl rfl rfl (by kernel_rfl) (QP.then (QP.block (QP.then (QP.then (QP.block (QP.then QP.body)))))) (by kernel_rfl) rfl (V_load rfl (Src.own (j := 3) rfl) (get_vec (f := v64) (V := t_3) (toNat_lt h14.1 h14.2)) Try.isAgg71) ?_
          refine TA_take (i := 24) (is := [0, 0, 0, 0, 0]) (done' := #[true, true, true, true, true, true, true, true, true, true, true, true, true, true, true, true, true, true, true, true, true, true, true, true, true, false]) rfl rfl rfl rfl (by kernel_rfl) (QP.then (QP.block (QP.then (QP.then (QP.block (QP.then QP.body)))))) (by kernel_rfl) rfl (V_bin rfl rfl (fun w => add64 w ((((vg s3.2 7) + a_2) + (((vg s3.2 4) &&& (vg s3.2 5)) ^^^ ((~~~(vg s3.2 4)) &&& (vg s3.2 6)))) + (vg m_1 ((s3.1).toNat))) (vg t_3 ((s3.1).toNat)))) ?_
          refine TA_take (i := 25) (is := [0, 0, 0, 0, 0]) (done' := #[true, true, true, true, true, true, true, true, true, true, true, true, true, true, true, true, true, true, true, true, true, true, true, true, true, true]) rfl rfl rfl rfl (by kernel_rfl) (QP.then (QP.block (QP.then (QP.then (QP.block (QP.then QP.body)))))) (by kernel_rfl) rfl (V_assign rfl) ?_
          refine TA_re (d := 15) (v := v64 (((((vg s3.2 7) + a_2) + (((vg s3.2 4) &&& (vg s3.2 5)) ^^^ ((~~~(vg s3.2 4)) &&& (vg s3.2 6)))) + (vg m_1 ((s3.1).toNat))) + (vg t_3 ((s3.1).toNat)))) (v' := v64 t_5) rfl (congrArg v64 ht_5) ?_
          refine TA_done (by kernel_rfl) ?_ 0
          refine TX_next ?_
          refine TC.sub (m' := [(2, ptr (some (b1, 0)) 0), (4, ptr (some (b2, 0)) 0), (5, ptr (some (b3, 0)) 0), (6, ptr (some (b4, 0)) 0), (12, ptr (some (b6, 0)) 0), (13, vi s3.1), (15, v64 t_5)]) ⟨rfl, rfl, rfl, rfl, rfl, rfl, rfl, trivial⟩ ?_
          refine TC_seq ?_
          obtain ⟨r_8, hr_8, H⟩ := bind_elim H
          obtain ⟨r_9, hr_9, H⟩ := bind_elim H
          obtain ⟨r_10, hr_10, H⟩ := bind_elim H
          obtain ⟨b7, hb7, H⟩ := ltt_elim H
          refine TA_begin [⟨some (b1, 0), e64 h.toList⟩, ⟨some (b2, 0), e64 ((Vector.replicate 8 0#64).toList)⟩, ⟨some (b3, 0), e64 m_1.toList⟩, ⟨some (b4, 0), e64 t_3.toList⟩, ⟨some (b6, 0), e64 s3.2.toList⟩] 12 (by kernel_rfl) (N := 12) rfl ?_
          refine TA_take (i := 0) (is := [0, 0, 0, 0, 0]) (done' := #[true, false, false, false, false, false, false, false, false, false, false, false]) rfl rfl rfl rfl (by kernel_rfl) (QP.then (QP.block (QP.then (QP.then (QP.block (QP.then QP.body)))))) (by kernel_rfl) rfl (V_idxArr (i := 0) rfl rfl Try.underlying72 TryI.inf71 rfl (by decide) (by decide) (k := 0) (k01 _)) ?_
          refine TA_take (i := 1) (is := [0, 0, 0, 0, 0]) (done' := #[true, true, false, false, false, false, false, false, false, false, false, false]) rfl rfl rfl rfl (by kernel_rfl) (QP.then (QP.block (QP.then (QP.then (QP.block (QP.then QP.body)))))) (by kernel_rfl) rfl (V_load rfl (Src.own (j := 4) rfl) (get_vec (f := v64) (V := s3.2) (by decide : 0 < 8)) Try.isAgg71) ?_
          refine TA_take (i := 3) (is := [0, 0, 0, 0, 0]) (done' := #[true, true, false, true, false, false, false, false, false, false, false, false]) rfl rfl rfl rfl (by kernel_rfl) (QP.then (QP.block (QP.then (QP.then (QP.block (QP.then QP.body)))))) (by kernel_rfl) rfl (V_idxArr (i := 0) rfl rfl Try.underlying72 TryI.inf71 rfl (by decide) (by decide) (k := 0) (k01 _)) ?_
          refine TA_take (i := 4) (is := [0, 0, 0, 0, 0]) (done' := #[true, true, false, true, true, false, false, false, false, false, false, false]) rfl rfl rfl rfl (by kernel_rfl) (QP.then (QP.block (QP.then (QP.then (QP.block (QP.then QP.body)))))) (by kernel_rfl) rfl (V_load rfl (Src.own (j := 4) rfl) (get_vec (f := v64) (V := s3.2) (by decide : 0 < 8)) Try.isAgg71) ?_
          refine TA_take (i := 7) (is := [0, 0, 0, 0, 0]) (done' := #[true, true, false, true, true, false, false, true, false, false, false, false]) rfl rfl rfl rfl (by kernel_rfl) (QP.then (QP.block (QP.then (QP.then (QP.block (QP.then QP.body)))))) (by kernel_rfl) rfl (V_idxArr (i := 0) rfl rfl Try.underlying72 TryI.inf71 rfl (by decide) (by decide) (k := 0) (k01 _)) ?_
          refine TA_take (i := 8) (is := [0, 0, 0, 0, 0]) (done' := #[true, true, false, true, true, false, false, true, true, false, false, false]) rfl rfl rfl rfl (by kernel_rfl) (QP.then (QP.block (QP.then (QP.then (QP.block (QP.then QP.body)))))) (by kernel_rfl) rfl (V_load rfl (Src.own (j := 4) rfl) (get_vec (f := v64) (V := s3.2) (by decide : 0 < 8)) Try.isAgg71) ?_
          refine TA_all (rs := [2]) (by kernel_rfl) rfl ?_
          refine ⟨?_, trivial⟩
          refine TO_e (is := [0, 0, 0, 0, 0]) (done' := #[true, true, true, true, true, false, false, true, true, false, false, false]) rfl rfl rfl rfl (by kernel_rfl) (E_call (Γ := Unit) (val := fun g => v64 r_8) (mem := fun g => []) (vs := [v64 (vg s3.2 0), vi 28]) (Lin := []) (Ro := []) (is := []) rfl Try.call64 (F64_calls (vg s3.2 0) 28 r_8 hr_8) rfl trivial) (fun _ _ => rfl) (fun g_8 => ?_)
          refine TA_all (rs := [5]) (by kernel_rfl) rfl ?_
          refine ⟨?_, trivial⟩
          refine TO_e (is := [0, 0, 0, 0, 0]) (done' := #[true, true, true, true, true, true, false, true, true, false, false, false]) rfl rfl rfl rfl (by kernel_rfl) (E_call (Γ := Unit) (val := fun g => v64 r_9) (mem := fun g => []) (vs := [v64 (vg s3.2 0), vi 34]) (Lin := []) (Ro := []) (is := []) rfl Try.call64 (F64_calls (vg s3.2 0) 34 r_9 hr_9) rfl trivial) (fun _ _ => rfl) (fun g_9 => ?_)
          refine TA_take (i := 6) (is := [0, 0, 0, 0, 0]) (done' := #[true, true, true, true, true, true, true, true, true, false, false, false]) rfl rfl rfl rfl (by kernel_rfl) (QP.then (QP.block (QP.then (QP.then (QP.block (QP.then QP.body)))))) (by kernel_rfl) rfl (V_bin rfl rfl (fun w => xor64 w r_8 r_9)) ?_
          refine TA_all (rs := [9]) (by kernel_rfl) rfl ?_
          refine ⟨?_, trivial⟩
          refine TO_e (is := [0, 0, 0, 0, 0]) (done' := #[true, true, true, true, true, true, true, true, true, true, false, false]) rfl rfl rfl rfl (by kernel_rfl) (E_call (Γ := Unit) (val := fun g => v64 r_10) (mem := fun g => []) (vs := [v64 (vg s3.2 0), vi 39]) (Lin := []) (Ro := []) (is := []) rfl Try.call64 (F64_calls (vg s3.2 0) 39 r_10 hr_10) rfl trivial) (fun _ _ => rfl) (fun g_10 => ?_)
          refine TA_take (i := 10) (is := [0, 0, 0, 0, 0]) (done' := #[true, true, true, true, true, true, true, true, true, true, true, false]) rfl rfl rfl rfl (by kernel_rfl) (QP.then (QP.block (QP.then (QP.then (QP.block (QP.then QP.body)))))) (by kernel_rfl) rfl (V_bin rfl rfl (fun w => xor64 w (r_8 ^^^ r_9) r_10)) ?_
          refine TA_take (i := 11) (is := [0, 0, 0, 0, 0]) (done' := #[true, true, true, true, true, true, true, true, true, true, true, true]) rfl rfl rfl rfl (by kernel_rfl) (QP.then (QP.block (QP.then (QP.then (QP.block (QP.then QP.body)))))) (by kernel_rfl) rfl (V_assign rfl) ?_
          refine TA_re (d := 16) (v := v64 ((r_8 ^^^ r_9) ^^^ r_10)) (v' := v64 b7) rfl (congrArg v64 hb7) ?_
          refine TA_done (by kernel_rfl) ?_ 0
          refine TX_next ?_
          refine TC_seq ?_
          refine TC_region ?_
          refine TL_v rfl rfl rfl (V_move rfl) ?_
          refine TL_v rfl rfl rfl (V_idxArr (i := 0) rfl rfl Try.underlying72 TryI.inf71 rfl (by decide) (by decide) (k := 0) (k01 _)) ?_
          refine TL_v rfl rfl rfl (V_load rfl (Src.own (j := 4) rfl) (get_vec (f := v64) (V := s3.2) (by decide : 0 < 8)) Try.isAgg71) ?_
          refine TL_v rfl rfl rfl (V_idxArr (i := 1) rfl rfl Try.underlying72 TryI.inf71 rfl (by decide) (by decide) (k := 1) (k01 _)) ?_
          refine TL_v rfl rfl rfl (V_load rfl (Src.own (j := 4) rfl) (get_vec (f := v64) (V := s3.2) (by decide : 1 < 8)) Try.isAgg71) ?_
          refine TL_v rfl rfl rfl (V_bin rfl rfl (fun w => and64 w (vg s3.2 0) (vg s3.2 1))) ?_
          refine TL_v rfl rfl rfl (V_idxArr (i := 0) rfl rfl Try.underlying72 TryI.inf71 rfl (by decide) (by decide) (k := 0) (k01 _)) ?_
          refine TL_v rfl rfl rfl (V_load rfl (Src.own (j := 4) rfl) (get_vec (f := v64) (V := s3.2) (by decide : 0 < 8)) Try.isAgg71) ?_
          refine TL_v rfl rfl rfl (V_idxArr (i := 2) rfl rfl Try.underlying72 TryI.inf71 rfl (by decide) (by decide) (k := 2) (k01 _)) ?_
          refine TL_v rfl rfl rfl (V_load rfl (Src.own (j := 4) rfl) (get_vec (f := v64) (V := s3.2) (by decide : 2 < 8)) Try.isAgg71) ?_
          refine TL_v rfl rfl rfl (V_bin rfl rfl (fun w => and64 w (vg s3.2 0) (vg s3.2 2))) ?_
          refine TL_v rfl rfl rfl (V_bin rfl rfl (fun w => xor64 w ((vg s3.2 0) &&& (vg s3.2 1)) ((vg s3.2 0) &&& (vg s3.2 2)))) ?_
          refine TL_v rfl rfl rfl (V_idxArr (i := 1) rfl rfl Try.underlying72 TryI.inf71 rfl (by decide) (by decide) (k := 1) (k01 _)) ?_
          refine TL_v rfl rfl rfl (V_load rfl (Src.own (j := 4) rfl) (get_vec (f := v64) (V := s3.2) (by decide : 1 < 8)) Try.isAgg71) ?_
          refine TL_v rfl rfl rfl (V_idxArr (i := 2) rfl rfl Try.underlying72 TryI.inf71 rfl (by decide) (by decide) (k := 2) (k01 _)) ?_
          refine TL_v rfl rfl rfl (V_load rfl (Src.own (j := 4) rfl) (get_vec (f := v64) (V := s3.2) (by decide : 2 < 8)) Try.isAgg71) ?_
          refine TL_v rfl rfl rfl (V_bin rfl rfl (fun w => and64 w (vg s3.2 1) (vg s3.2 2))) ?_
          refine TL_v rfl rfl rfl (V_bin rfl rfl (fun w => xor64 w (((vg s3.2 0) &&& (vg s3.2 1)) ^^^ ((vg s3.2 0) &&& (vg s3.2 2))) ((vg s3.2 1) &&& (vg s3.2 2)))) ?_
          refine TL_v rfl rfl rfl (V_bin rfl rfl (fun w => add64 w b7 ((((vg s3.2 0) &&& (vg s3.2 1)) ^^^ ((vg s3.2 0) &&& (vg s3.2 2))) ^^^ ((vg s3.2 1) &&& (vg s3.2 2))))) ?_
          refine TL_v rfl rfl rfl (V_assign rfl) ?_
          obtain ⟨u1, hu1, H⟩ := ltt_elim H
          refine TL_re (d := 17) (v := v64 (b7 + ((((vg s3.2 0) &&& (vg s3.2 1)) ^^^ ((vg s3.2 0) &&& (vg s3.2 2))) ^^^ ((vg s3.2 1) &&& (vg s3.2 2))))) (v' := v64 u1) rfl (congrArg v64 hu1) ?_
          refine TL_nil ?_
          refine TX_next ?_
          refine TC.sub (m' := [(2, ptr (some (b1, 0)) 0), (4, ptr (some (b2, 0)) 0), (5, ptr (some (b3, 0)) 0), (6, ptr (some (b4, 0)) 0), (12, ptr (some (b6, 0)) 0), (13, vi s3.1), (15, v64 t_5), (17, v64 u1)]) ⟨rfl, rfl, rfl, rfl, rfl, rfl, rfl, rfl, trivial⟩ ?_
          refine TC_region ?_
          refine TL_v rfl rfl rfl (V_move rfl) ?_
          refine TL_v rfl rfl rfl (V_move rfl) ?_
          refine TL_v rfl rfl rfl (V_bin rfl rfl (fun w => add64 w t_5 u1)) ?_
          refine TL_v rfl rfl rfl (V_idxArr (i := 0) rfl rfl Try.underlying72 TryI.inf71 rfl (by decide) (by decide) (k := 0) (k01 _)) ?_
          refine TL_v rfl rfl rfl (V_load rfl (Src.own (j := 4) rfl) (get_vec (f := v64) (V := s3.2) (by decide : 0 < 8)) Try.isAgg71) ?_
          refine TL_v rfl rfl rfl (V_idxArr (i := 1) rfl rfl Try.underlying72 TryI.inf71 rfl (by decide) (by decide) (k := 1) (k01 _)) ?_
          refine TL_v rfl rfl rfl (V_load rfl (Src.own (j := 4) rfl) (get_vec (f := v64) (V := s3.2) (by decide : 1 < 8)) Try.isAgg71) ?_
          refine TL_v rfl rfl rfl (V_idxArr (i := 2) rfl rfl Try.underlying72 TryI.inf71 rfl (by decide) (by decide) (k := 2) (k01 _)) ?_
          refine TL_v rfl rfl rfl (V_load rfl (Src.own (j := 4) rfl) (get_vec (f := v64) (V := s3.2) (by decide : 2 < 8)) Try.isAgg71) ?_
          refine TL_v rfl rfl rfl (V_idxArr (i := 3) rfl rfl Try.underlying72 TryI.inf71 rfl (by decide) (by decide) (k := 3) (k01 _)) ?_
          refine TL_v rfl rfl rfl (V_load rfl (Src.own (j := 4) rfl) (get_vec (f := v64) (V := s3.2) (by decide : 3 < 8)) Try.isAgg71) ?_
          refine TL_v rfl rfl rfl (V_move rfl) ?_
          refine TL_v rfl rfl rfl (V_bin rfl rfl (fun w => add64 w (vg s3.2 3) t_5)) ?_
          refine TL_v rfl rfl rfl (V_idxArr (i := 4) rfl rfl Try.underlying72 TryI.inf71 rfl (by decide) (by decide) (k := 4) (k01 _)) ?_
          refine TL_v rfl rfl rfl (V_load rfl (Src.own (j := 4) rfl) (get_vec (f := v64) (V := s3.2) (by decide : 4 < 8)) Try.isAgg71) ?_
          refine TL_v rfl rfl rfl (V_idxArr (i := 5) rfl rfl Try.underlying72 TryI.inf71 rfl (by decide) (by decide) (k := 5) (k01 _)) ?_
          refine TL_v rfl rfl rfl (V_load rfl (Src.own (j := 4) rfl) (get_vec (f := v64) (V := s3.2) (by decide : 5 < 8)) Try.isAgg71) ?_
          refine TL_v rfl rfl rfl (V_idxArr (i := 6) rfl rfl Try.underlying72 TryI.inf71 rfl (by decide) (by decide) (k := 6) (k01 _)) ?_
          refine TL_v rfl rfl rfl (V_load rfl (Src.own (j := 4) rfl) (get_vec (f := v64) (V := s3.2) (by decide : 6 < 8)) Try.isAgg71) ?_
          refine TL_v rfl rfl rfl (V_buildArr (pv := [(0, v64 (t_5 + u1)), (1, v64 (vg s3.2 0)), (2, v64 (vg s3.2 1)), (3, v64 (vg s3.2 2)), (4, v64 ((vg s3.2 3) + t_5)), (5, v64 (vg s3.2 4)), (6, v64 (vg s3.2 5)), (7, v64 (vg s3.2 6))]) rfl rfl Try.underlying72 TryI.inf72 TryI.inf71 rfl TryI.zer72 (cs := e64 ((#v[t_5 + u1, vg s3.2 0, vg s3.2 1, vg s3.2 2, (vg s3.2 3) + t_5, vg s3.2 4, vg s3.2 5, vg s3.2 6] : Vector (BitVec 64) 8).toList)) (by kernel_rfl)) ?_
          refine TL_n rfl rfl (E_storeAgg (n := 8) (j := 4) (vs := e64 ((#v[t_5 + u1, vg s3.2 0, vg s3.2 1, vg s3.2 2, (vg s3.2 3) + t_5, vg s3.2 4, vg s3.2 5, vg s3.2 6] : Vector (BitVec 64) 8).toList)) rfl rfl TryI.inf72 rfl (lenV (f := v64) (#v[t_5 + u1, vg s3.2 0, vg s3.2 1, vg s3.2 2, (vg s3.2 3) + t_5, vg s3.2 4, vg s3.2 5, vg s3.2 6] : Vector (BitVec 64) 8)) (OneC.map (fun _ => rfl) _) rfl (Nat.le_of_eq (by simp)) (cs' := e64 ((#v[t_5 + u1, vg s3.2 0, vg s3.2 1, vg s3.2 2, (vg s3.2 3) + t_5, vg s3.2 4, vg s3.2 5, vg s3.2 6] : Vector (BitVec 64) 8).toList)) (splice_all (by simp))) (fun _ => ?_)
          obtain ⟨m_4, hm_4, H⟩ := ltt_elim H
          refine TL_reE (j := 4) (A := some (b6, 0)) (cs := e64 ((#v[t_5 + u1, vg s3.2 0, vg s3.2 1, vg s3.2 2, (vg s3.2 3) + t_5, vg s3.2 4, vg s3.2 5, vg s3.2 6] : Vector (BitVec 64) 8).toList)) (cs' := e64 m_4.toList) rfl (congrArg (fun z : Vector (BitVec 64) 8 => e64 (Vector.toList z)) hm_4) ?_
          refine TL_nil ?_
          refine TX_block_normal ?_
          refine TX_next ?_
          refine TC_region ?_
          refine TL_v rfl rfl rfl (V_move rfl) ?_
          refine TL_v rfl rfl rfl (V_bin rfl rfl (fun w => addI w s3.1 1)) ?_
          refine TL_v rfl rfl rfl (V_assign rfl) ?_
          obtain ⟨i3, hi3, H⟩ := ltt_elim H
          refine TL_re (d := 13) (v := vi (w64 (s3.1 + 1))) (v' := vi i3) rfl (congrArg vi hi3) ?_
          refine TL_nil ?_
          refine TX.sub (m' := [(2, ptr (some (b1, 0)) 0), (4, ptr (some (b2, 0)) 0), (5, ptr (some (b3, 0)) 0), (6, ptr (some (b4, 0)) 0), (12, ptr (some (b6, 0)) 0), (13, vi i3)]) ⟨rfl, rfl, rfl, rfl, rfl, rfl, trivial⟩ ?_
          refine TX.pull (is := [0, 0, 0, 0, 0]) (L' := [⟨some (b1, 0), e64 h.toList⟩, ⟨some (b2, 0), e64 ((Vector.replicate 8 0#64).toList)⟩, ⟨some (b3, 0), e64 m_1.toList⟩, ⟨some (b4, 0), e64 t_3.toList⟩, ⟨some (b6, 0), e64 m_4.toList⟩]) rfl ?_
          obtain rfl := Option.some.inj H
          exact fun a w hs => hK (i3, m_4) rfl () a w hs
        · replace H := ite_f (of_decide_eq_false hc) H
          refine TC_exit ?_
          refine TX_then_exit ?_
          refine TX_then_exit ?_
          refine TX.sub (m' := [(2, ptr (some (b1, 0)) 0), (4, ptr (some (b2, 0)) 0), (12, ptr (some (b6, 0)) 0)]) ⟨rfl, rfl, rfl, trivial⟩ ?_
          refine TX.pull (is := [0, 0, 2]) (L' := [⟨some (b1, 0), e64 h.toList⟩, ⟨some (b2, 0), e64 ((Vector.replicate 8 0#64).toList)⟩, ⟨some (b6, 0), e64 s3.2.toList⟩]) rfl ?_
          obtain rfl := Option.some.inj H
          exact hE s3.2 rfl ()
      · intro g
        refine TX_block_exit ?_
        refine TX_next ?_
        refine TC_seq ?_
        refine TC_seq ?_
        refine TC_region ?_
        refine TL_v rfl rfl rfl (V_assign rfl) ?_
        refine TL_nil ?_
        refine TX_next ?_
        refine TC_block ?_
        obtain ⟨t_6, Hl, H⟩ := bind_elim H
        refine TC.sub (m' := [(2, ptr (some (b1, 0)) 0), (4, ptr (some (b2, 0)) 0), (12, ptr (some (b6, 0)) 0), (18, vi 0)]) ⟨rfl, rfl, rfl, rfl, trivial⟩ ?_
        refine TC.pull (is := [0, 0, 0]) (L' := [⟨some (b1, 0), e64 h.toList⟩, ⟨some (b2, 0), e64 ((Vector.replicate 8 0#64).toList)⟩, ⟨some (b6, 0), e64 t_4.toList⟩]) rfl ?_
        refine TC_loopL (id := 8) (body := (halberdref1_block512.b4 t_4)) (σ := Int × Vector (BitVec 64) 8) (Γ := Unit) (Γx := Unit) (fun s4 g4_ => [(2, ptr (some (b1, 0)) 0), (4, ptr (some (b2, 0)) 0), (12, ptr (some (b6, 0)) 0), (18, vi s4.1)]) (fun s4 g4_ => [⟨some (b1, 0), e64 s4.2.toList⟩, ⟨some (b2, 0), e64 ((Vector.replicate 8 0#64).toList)⟩, ⟨some (b6, 0), e64 t_4.toList⟩]) (fun t g => [(2, ptr (some (b1, 0)) 0), (4, ptr (some (b2, 0)) 0)]) (fun t g => [⟨some (b1, 0), e64 t.toList⟩, ⟨some (b2, 0), e64 ((Vector.replicate 8 0#64).toList)⟩]) ?_ BIG (0, h) () t_6 Hl ?_
        · intro s4 g4_ r1 H K hK hE
          unfold halberdref1_block512.b4 at H
          refine TC_seq ?_
          refine TC_seq ?_
          refine TC_region ?_
          refine TL_v rfl rfl rfl (V_move rfl) ?_
          refine TL_v rfl rfl rfl (V_bin rfl rfl (fun w => lssI w s4.1 8)) ?_
          refine TL_nil ?_
          refine TX_next ?_
          refine TC_cond (b := (decide (s4.1 < 8))) rfl (fun hc => ?_) (fun hc => ?_)
          · replace H := ite_t (of_decide_eq_true hc) H
            refine TC_skip ?_
            refine TX_next ?_
            refine TC_seq ?_
            refine TC_block ?_
            obtain ⟨h15, H⟩ := if_elim H
            obtain ⟨h16, H⟩ := if_elim H
            obtain ⟨h17, H⟩ := if_elim H
            obtain ⟨m_5, hm_5, H⟩ := ltt_elim H
            refine TA_begin [⟨some (b1, 0), e64 s4.2.toList⟩, ⟨some (b2, 0), e64 ((Vector.replicate 8 0#64).toList)⟩, ⟨some (b6, 0), e64 t_4.toList⟩] 9 (by kernel_rfl) (N := 10) rfl ?_
            refine TA_take (i := 0) (is := [0, 0, 0]) (done' := #[true, false, false, false, false, false, false, false, false, false]) rfl rfl rfl rfl (by kernel_rfl) (QP.block (QP.then (QP.then (QP.block (QP.then QP.body))))) (by kernel_rfl) rfl (V_move rfl) ?_
            refine TA_take (i := 1) (is := [0, 0, 0]) (done' := #[true, true, false, false, false, false, false, false, false, false]) rfl rfl rfl rfl (by kernel_rfl) (QP.block (QP.then (QP.then (QP.block (QP.then QP.body))))) (by kernel_rfl) rfl (V_move rfl) ?_
            refine TA_take (i := 2) (is := [0, 0, 0]) (done' := #[true, true, true, false, false, false, false, false, false, false]) rfl rfl rfl rfl (by kernel_rfl) (QP.block (QP.then (QP.then (QP.block (QP.then QP.body))))) (by kernel_rfl) rfl (V_idxArr (i := s4.1) rfl rfl Try.underlying72 TryI.inf71 rfl h15.1 h15.2 (k := (s4.1).toNat) (k01 _)) ?_
            refine TA_take (i := 3) (is := [0, 0, 0]) (done' := #[true, true, true, true, false, false, false, false, false, false]) rfl rfl rfl rfl (by kernel_rfl) (QP.block (QP.then (QP.then (QP.block (QP.then QP.body))))) (by kernel_rfl) rfl (V_load rfl (Src.own (j := 0) rfl) (get_vec (f := v64) (V := s4.2) (toNat_lt h15.1 h15.2)) Try.isAgg71) ?_
            refine TA_take (i := 4) (is := [0, 0, 0]) (done' := #[true, true, true, true, true, false, false, false, false, false]) rfl rfl rfl rfl (by kernel_rfl) (QP.block (QP.then (QP.then (QP.block (QP.then QP.body))))) (by kernel_rfl) rfl (V_move rfl) ?_
            refine TA_take (i := 5) (is := [0, 0, 0]) (done' := #[true, true, true, true, true, true, false, false, false, false]) rfl rfl rfl rfl (by kernel_rfl) (QP.block (QP.then (QP.then (QP.block (QP.then QP.body))))) (by kernel_rfl) rfl (V_idxArr (i := s4.1) rfl rfl Try.underlying72 TryI.inf71 rfl h16.1 h16.2 (k := (s4.1).toNat) (k01 _)) ?_
            refine TA_take (i := 6) (is := [0, 0, 0]) (done' := #[true, true, true, true, true, true, true, false, false, false]) rfl rfl rfl rfl (by kernel_rfl) (QP.block (QP.then (QP.then (QP.block (QP.then QP.body))))) (by kernel_rfl) rfl (V_load rfl (Src.own (j := 2) rfl) (get_vec (f := v64) (V := t_4) (toNat_lt h16.1 h16.2)) Try.isAgg71) ?_
            refine TA_take (i := 7) (is := [0, 0, 0]) (done' := #[true, true, true, true, true, true, true, true, false, false]) rfl rfl rfl rfl (by kernel_rfl) (QP.block (QP.then (QP.then (QP.block (QP.then QP.body))))) (by kernel_rfl) rfl (V_bin rfl rfl (fun w => add64 w (vg s4.2 ((s4.1).toNat)) (vg t_4 ((s4.1).toNat)))) ?_
            refine TA_take (i := 8) (is := [0, 0, 0]) (done' := #[true, true, true, true, true, true, true, true, true, false]) rfl rfl rfl rfl (by kernel_rfl) (QP.block (QP.then (QP.then (QP.block (QP.then QP.body))))) (by kernel_rfl) rfl (V_idxArr (i := s4.1) rfl rfl Try.underlying72 TryI.inf71 rfl h17.1 h17.2 (k := (s4.1).toNat) (k01 _)) ?_
            refine TA_all (rs := [9]) (by kernel_rfl) rfl ?_
            refine ⟨?_, trivial⟩
            refine TO_n (is := []) (R := fun _ => []) (done' := #[true, true, true, true, true, true, true, true, true, true]) rfl rfl rfl (by kernel_rfl) (E_store (j := 0) rfl rfl TryI.inf71 rfl rfl rfl (by simpa using (toNat_lt h17.1 h17.2)) (cs' := e64 ((vp s4.2 ((s4.1).toNat) ((vg s4.2 ((s4.1).toNat)) + (vg t_4 ((s4.1).toNat)))).toList)) set_vec) (fun h => by cases h) (fun _ => ?_)
            refine TA_reE (j := 0) (A := some (b1, 0)) (cs := e64 ((vp s4.2 ((s4.1).toNat) ((vg s4.2 ((s4.1).toNat)) + (vg t_4 ((s4.1).toNat)))).toList)) (cs' := e64 m_5.toList) rfl (congrArg (fun z : Vector (BitVec 64) 8 => e64 (Vector.toList z)) hm_5) ?_
            refine TA_done (by kernel_rfl) ?_ 0
            refine TX_block_normal ?_
            refine TX_next ?_
            refine TC_region ?_
            refine TL_v rfl rfl rfl (V_move rfl) ?_
            refine TL_v rfl rfl rfl (V_bin rfl rfl (fun w => addI w s4.1 1)) ?_
            refine TL_v rfl rfl rfl (V_assign rfl) ?_
            obtain ⟨i4, hi4, H⟩ := ltt_elim H
            refine TL_re (d := 18) (v := vi (w64 (s4.1 + 1))) (v' := vi i4) rfl (congrArg vi hi4) ?_
            refine TL_nil ?_
            refine TX.sub (m' := [(2, ptr (some (b1, 0)) 0), (4, ptr (some (b2, 0)) 0), (12, ptr (some (b6, 0)) 0), (18, vi i4)]) ⟨rfl, rfl, rfl, rfl, trivial⟩ ?_
            refine TX.pull (is := [0, 0, 0]) (L' := [⟨some (b1, 0), e64 m_5.toList⟩, ⟨some (b2, 0), e64 ((Vector.replicate 8 0#64).toList)⟩, ⟨some (b6, 0), e64 t_4.toList⟩]) rfl ?_
            obtain rfl := Option.some.inj H
            exact fun a w hs => hK (i4, m_5) rfl () a w hs
          · replace H := ite_f (of_decide_eq_false hc) H
            refine TC_exit ?_
            refine TX_then_exit ?_
            refine TX_then_exit ?_
            refine TX.sub (m' := [(2, ptr (some (b1, 0)) 0), (4, ptr (some (b2, 0)) 0)]) ⟨rfl, rfl, trivial⟩ ?_
            refine TX.pull (is := [0, 0]) (L' := [⟨some (b1, 0), e64 s4.2.toList⟩, ⟨some (b2, 0), e64 ((Vector.replicate 8 0#64).toList)⟩]) rfl ?_
            obtain rfl := Option.some.inj H
            exact hE s4.2 rfl ()
        · intro g
          refine TX_block_exit ?_
          refine TX_next ?_
          refine TC_seq ?_
          refine TC_region ?_
          refine TL_v rfl rfl rfl (V_loadAgg (n := 8) rfl (by simp) (Src.own (j := 0) rfl) Try.isAgg72 TryI.inf72 rfl (lenV (f := v64) t_6)) ?_
          refine TL_n rfl rfl (E_storeAgg (n := 8) (j := 1) (vs := e64 t_6.toList) rfl rfl TryI.inf72 rfl (lenV (f := v64) t_6) (OneC.map (fun _ => rfl) _) rfl (Nat.le_of_eq (by simp)) (cs' := e64 t_6.toList) (splice_all (by simp))) (fun _ => ?_)
          refine TL_nil ?_
          refine TX_next ?_
          refine TC_ret ?_
          have hrv := Option.some.inj H
          subst hrv
          exact TX_ret (rs := [.cell 4 72]) (vs := [Value.agg (flat [(8, e64 t_6.toList)]).toArray]) rfl ⟨(Res_agg (n := 8) rfl (by simp) (Src.own (j := 1) rfl) Try.isAgg72 TryI.inf72 rfl (lenV (f := v64) t_6)), trivial⟩ (fun w' hs' => ⟨(), rfl, Step.left (Step.pulled (is := []) (A := []) hs' rfl)⟩)

end Go.Proofs
end

section
namespace Go.Proofs
open Go Go.Kx
set_option linter.unusedVariables false
set_option linter.unusedSimpArgs false
def halberdref1_padded (s_ : Str) (block : Int) (size : Int) : Option (Str) :=
  if block ≠ 0 then (ltt (w64 (block - ((w64 ((w64 (((s_).length : Int) + 1)) + size)).tmod block))) fun (zeros1 : Int) => ((if zeros1 = block then (some 0) else (some zeros1)).bind fun (j1 : Int) => (if (s_).length + (([128#8] : Str)).length ≤ 4611686018427387904 then (if 0 ≤ w64 ((w64 (j1 + size)) - 8) ∧ w64 ((w64 (j1 + size)) - 8) ≤ 17592186044416 then (if (List.replicate ((w64 ((w64 (j1 + size)) - 8)).toNat) 0#8).length = (w64 ((w64 (j1 + size)) - 8)).toNat then (if (s_ ++ ([128#8] : Str)).length + (List.replicate ((w64 ((w64 (j1 + size)) - 8)).toNat) 0#8).length ≤ 4611686018427387904 then ((halberdref1_Be (w64 (8 * ((s_).length : Int))) 8).bind fun (r_1 : Str) => (if ((s_ ++ ([128#8] : Str)) ++ (List.replicate ((w64 ((w64 (j1 + size)) - 8)).toNat) 0#8)).length + (r_1).length ≤ 4611686018427387904 then (ltt (((s_ ++ ([128#8] : Str)) ++ (List.replicate ((w64 ((w64 (j1 + size)) - 8)).toNat) 0#8)) ++ r_1) fun (x1 : Str) => (some x1)) else none)) else none) else none) else none) else none))) else none

set_option maxHeartbeats 4000000 in
set_option maxRecDepth 20000 in
theorem F52_calls (s_ : Str) (block : Int) (size : Int) (r : Str) (H : halberdref1_padded s_ block size = some r) :
    Does Try.prog 52 [vs s_, vi block, vi size] [] [] (Γ := Unit) (fun g => vs r) (fun g => []) := by
  intro w hmem hro hd
  refine calls_of (N := 34) (m0 := [(0, vs s_), (1, vi block), (2, vi size)]) Try.func52 rfl Try.ntmps52 (argM_ok [vs s_, vi block, vi size]) rfl hmem hro hd ?_
  unfold halberdref1_padded at H
  refine TC_seq ?_
  refine TC_region ?_
  refine TL_v rfl rfl rfl (V_assign rfl) ?_
  refine TL_nil ?_
  refine TX_next ?_
  refine TC_seq ?_
  refine TC_region ?_
  refine TL_v rfl rfl rfl (V_move rfl) ?_
  refine TL_v rfl rfl rfl (V_move rfl) ?_
  refine TL_v rfl rfl rfl (V_len_str rfl Try.underlying9) ?_
  refine TL_v rfl rfl rfl (V_bin rfl rfl (fun w => addI w ((s_).length : Int) 1)) ?_
  refine TL_v rfl rfl rfl (V_move rfl) ?_
  refine TL_v rfl rfl rfl (V_bin rfl rfl (fun w => addI w (w64 (((s_).length : Int) + 1)) size)) ?_
  refine TL_v rfl rfl rfl (V_move rfl) ?_
  obtain ⟨h1, H⟩ := if_elim H
  refine TL_v rfl rfl rfl (V_bin rfl rfl (fun w => remI w (w64 ((w64 (((s_).length : Int) + 1)) + size)) block h1)) ?_
  refine TL_v rfl rfl rfl (V_bin rfl rfl (fun w => subI w block ((w64 ((w64 (((s_).length : Int) + 1)) + size)).tmod block))) ?_
  refine TL_v rfl rfl rfl (V_assign rfl) ?_
  obtain ⟨zeros1, hzeros1, H⟩ := ltt_elim H
  refine TL_re (d := 7) (v := vi (w64 (block - ((w64 ((w64 (((s_).length : Int) + 1)) + size)).tmod block)))) (v' := vi zeros1) rfl (congrArg vi hzeros1) ?_
  refine TL_nil ?_
  refine TX_next ?_
  refine TC_seq ?_
  refine TC_seq ?_
  refine TC_region ?_
  refine TL_v rfl rfl rfl (V_move rfl) ?_
  refine TL_v rfl rfl rfl (V_move rfl) ?_
  refine TL_v rfl rfl rfl (V_bin rfl rfl (fun w => eqlI w zeros1 block)) ?_
  refine TL_nil ?_
  refine TX_next ?_
  obtain ⟨j1, Hj, H⟩ := bind_elim H
  refine TC_join (Γ := Unit) (fun gj1 => [(0, vs s_), (2, vi size), (7, vi j1)]) (fun gj1 => []) ?_ ?_
  · intro gj1
    refine TX_next ?_
    refine TC_seq ?_
    obtain ⟨h2, H⟩ := if_elim H
    obtain ⟨h3, H⟩ := if_elim H
    obtain ⟨h4, H⟩ := if_elim H
    obtain ⟨h5, H⟩ := if_elim H
    obtain ⟨r_1, hr_1, H⟩ := bind_elim H
    obtain ⟨h6, H⟩ := if_elim H
    obtain ⟨x1, hx1, H⟩ := ltt_elim H
    refine TC_join (Γ := Unit) (fun gd1 => [(6, vs x1)]) (fun gd1 => []) ?_ ?_
    · intro gd1
      refine TX_next ?_
      refine TC_ret ?_
      have hrv := Option.some.inj H
      subst hrv
      exact TX_ret (rs := [.tmp 6]) (vs := [vs x1]) rfl ⟨rfl, trivial⟩ (fun w' hs' => ⟨(), rfl, Step.left (Step.pulled (is := []) (A := []) hs' rfl)⟩)
    · intro hJ
      clear H
      refine TA_begin [] 15 (by kernel_rfl) (N := 15) rfl ?_
      refine TA_take (i := 0) (is := []) (done' := #[true, false, false, false, false, false, false, false, false, false, false, false, false, false, false]) rfl rfl rfl rfl (by kernel_rfl) (QP.then QP.body) (by kernel_rfl) rfl (V_move rfl) ?_
      refine TA_take (i := 1) (is := []) (done' := #[true, true, false, false, false, false, false, false, false, false, false, false, false, false, false]) rfl rfl rfl rfl (by kernel_rfl) (QP.then QP.body) (by kernel_rfl) rfl (V_bin rfl rfl (fun w => addS w s_ ([128#8] : Str) h2)) ?_
      refine TA_take (i := 2) (is := []) (done' := #[true, true, true, false, false, false, false, false, false, false, false, false, false, false, false]) rfl rfl rfl rfl (by kernel_rfl) (QP.then QP.body) (by kernel_rfl) rfl (V_move rfl) ?_
      refine TA_take (i := 3) (is := []) (done' := #[true, true, true, true, false, false, false, false, false, false, false, false, false, false, false]) rfl rfl rfl rfl (by kernel_rfl) (QP.then QP.body) (by kernel_rfl) rfl (V_move rfl) ?_
      refine TA_take (i := 4) (is := []) (done' := #[true, true, true, true, true, false, false, false, false, false, false, false, false, false, false]) rfl rfl rfl rfl (by kernel_rfl) (QP.then QP.body) (by kernel_rfl) rfl (V_bin rfl rfl (fun w => addI w j1 size)) ?_
      refine TA_take (i := 5) (is := []) (done' := #[true, true, true, true, true, true, false, false, false, false, false, false, false, false, false]) rfl rfl rfl rfl (by kernel_rfl) (QP.then QP.body) (by kernel_rfl) rfl (V_bin rfl rfl (fun w => subI w (w64 (j1 + size)) 8)) ?_
      refine TA_take (i := 9) (is := []) (done' := #[true, true, true, true, true, true, false, false, false, true, false, false, false, false, false]) rfl rfl rfl rfl (by kernel_rfl) (QP.then QP.body) (by kernel_rfl) rfl (V_move rfl) ?_
      refine TA_take (i := 10) (is := []) (done' := #[true, true, true, true, true, true, false, false, false, true, true, false, false, false, false]) rfl rfl rfl rfl (by kernel_rfl) (QP.then QP.body) (by kernel_rfl) rfl (V_len_str rfl Try.underlying9) ?_
      refine TA_take (i := 11) (is := []) (done' := #[true, true, true, true, true, true, false, false, false, true, true, true, false, false, false]) rfl rfl rfl rfl (by kernel_rfl) (QP.then QP.body) (by kernel_rfl) rfl (V_bin rfl rfl (fun w => mulI w 8 ((s_).length : Int))) ?_
      refine TA_all (rs := [6, 12]) (by kernel_rfl) rfl ?_
      refine ⟨?_, ?_, trivial⟩
      · skip
        refine TO_e (is := []) (done' := #[true, true, true, true, true, true, true, false, false, true, true, true, false, false, false]) rfl rfl rfl rfl (by kernel_rfl) (E_mk1 rfl rfl Try.underlying49 TryI.inf5 (z := v8 0#8) rfl rfl rfl (B := 1) rfl h3.1 (Int.le_refl _) (by have := h3; omega) (by have := h3; omega) (n' := (w64 ((w64 (j1 + size)) - 8)).toNat) (c' := (w64 ((w64 (j1 + size)) - 8)).toNat) rfl rfl (cs := e8 (List.replicate ((w64 ((w64 (j1 + size)) - 8)).toNat) 0#8)) (rep_map (f := v8))) (fun _ _ => rfl) (fun b1 => ?_)
        refine TA_more (Lr2 := [⟨some (b1, 0), e8 (List.replicate ((w64 ((w64 (j1 + size)) - 8)).toNat) 0#8)⟩]) (is := []) (is2 := [0]) rfl rfl ?_
        refine TA_take (i := 7) (is := [0]) (done' := #[true, true, true, true, true, true, true, true, false, true, true, true, false, false, false]) rfl rfl rfl rfl (by kernel_rfl) (QP.then QP.body) (by kernel_rfl) rfl (V_b2s rfl Try.underlying49 Try.underlying5 Try.underlying9 (Src.own (j := 0) rfl) h4) ?_
        refine TA_take (i := 8) (is := [0]) (done' := #[true, true, true, true, true, true, true, true, true, true, true, true, false, false, false]) rfl rfl rfl rfl (by kernel_rfl) (QP.then QP.body) (by kernel_rfl) rfl (V_bin rfl rfl (fun w => addS w (s_ ++ ([128#8] : Str)) (List.replicate ((w64 ((w64 (j1 + size)) - 8)).toNat) 0#8) h5)) ?_
        refine TA_all (rs := [12]) (by kernel_rfl) rfl ?_
        refine ⟨?_, trivial⟩
        refine TO_e (is := [0]) (done' := #[true, true, true, true, true, true, true, true, true, true, true, true, true, false, false]) rfl rfl rfl rfl (by kernel_rfl) (E_call (Γ := Unit) (val := fun g => vs r_1) (mem := fun g => []) (vs := [vi (w64 (8 * ((s_).length : Int))), vi 8]) (Lin := []) (Ro := []) (is := []) rfl Try.call41 (F41_calls (w64 (8 * ((s_).length : Int))) 8 r_1 hr_1) rfl trivial) (fun _ _ => rfl) (fun g_1 => ?_)
        refine TA_take (i := 13) (is := [0]) (done' := #[true, true, true, true, true, true, true, true, true, true, true, true, true, true, false]) rfl rfl rfl rfl (by kernel_rfl) (QP.then QP.body) (by kernel_rfl) rfl (V_bin rfl rfl (fun w => addS w ((s_ ++ ([128#8] : Str)) ++ (List.replicate ((w64 ((w64 (j1 + size)) - 8)).toNat) 0#8)) r_1 h6)) ?_
        refine TA_take (i := 14) (is := [0]) (done' := #[true, true, true, true, true, true, true, true, true, true, true, true, true, true, true]) rfl rfl rfl rfl (by kernel_rfl) (QP.then QP.body) (by kernel_rfl) rfl (V_assign rfl) ?_
        refine TA_re (d := 6) (v := vs (((s_ ++ ([128#8] : Str)) ++ (List.replicate ((w64 ((w64 (j1 + size)) - 8)).toNat) 0#8)) ++ r_1)) (v' := vs x1) rfl (congrArg vs hx1) ?_
        refine TA_done (by kernel_rfl) ?_ 0
        refine TX.sub (m' := [(6, vs x1)]) ⟨rfl, trivial⟩ ?_
        refine TX.pull (is := []) (L' := []) rfl ?_
        exact hJ ()
      · skip
        refine TO_e (is := []) (done' := #[true, true, true, true, true, true, false, false, false, true, true, true, true, false, false]) rfl rfl rfl rfl (by kernel_rfl) (E_call (Γ := Unit) (val := fun g => vs r_1) (mem := fun g => []) (vs := [vi (w64 (8 * ((s_).length : Int))), vi 8]) (Lin := []) (Ro := []) (is := []) rfl Try.call41 (F41_calls (w64 (8 * ((s_).length : Int))) 8 r_1 hr_1) rfl trivial) (fun _ _ => rfl) (fun g_1 => ?_)
        refine TA_all (rs := [6]) (by kernel_rfl) rfl ?_
        refine ⟨?_, trivial⟩
        refine TO_e (is := []) (done' := #[true, true, true, true, true, true, true, false, false, true, true, true, true, false, false]) rfl rfl rfl rfl (by kernel_rfl) (E_mk1 rfl rfl Try.underlying49 TryI.inf5 (z := v8 0#8) rfl rfl rfl (B := 1) rfl h3.1 (Int.le_refl _) (by have := h3; omega) (by have := h3; omega) (n' := (w64 ((w64 (j1 + size)) - 8)).toNat) (c' := (w64 ((w64 (j1 + size)) - 8)).toNat) rfl rfl (cs := e8 (List.replicate ((w64 ((w64 (j1 + size)) - 8)).toNat) 0#8)) (rep_map (f := v8))) (fun _ _ => rfl) (fun b1 => ?_)
        refine TA_more (Lr2 := [⟨some (b1, 0), e8 (List.replicate ((w64 ((w64 (j1 + size)) - 8)).toNat) 0#8)⟩]) (is := []) (is2 := [0]) rfl rfl ?_
        refine TA_take (i := 7) (is := [0]) (done' := #[true, true, true, true, true, true, true, true, false, true, true, true, true, false, false]) rfl rfl rfl rfl (by kernel_rfl) (QP.then QP.body) (by kernel_rfl) rfl (V_b2s rfl Try.underlying49 Try.underlying5 Try.underlying9 (Src.own (j := 0) rfl) h4) ?_
        refine TA_take (i := 8) (is := [0]) (done' := #[true, true, true, true, true, true, true, true, true, true, true, true, true, false, false]) rfl rfl rfl rfl (by kernel_rfl) (QP.then QP.body) (by kernel_rfl) rfl (V_bin rfl rfl (fun w => addS w (s_ ++ ([128#8] : Str)) (List.replicate ((w64 ((w64 (j1 + size)) - 8)).toNat) 0#8) h5)) ?_
        refine TA_take (i := 13) (is := [0]) (done' := #[true, true, true, true, true, true, true, true, true, true, true, true, true, true, false]) rfl rfl rfl rfl (by kernel_rfl) (QP.then QP.body) (by kernel_rfl) rfl (V_bin rfl rfl (fun w => addS w ((s_ ++ ([128#8] : Str)) ++ (List.replicate ((w64 ((w64 (j1 + size)) - 8)).toNat) 0#8)) r_1 h6)) ?_
        refine TA_take (i := 14) (is := [0]) (done' := #[true, true, true, true, true, true, true, true, true, true, true, true, true, true, true]) rfl rfl rfl rfl (by kernel_rfl) (QP.then QP.body) (by kernel_rfl) rfl (V_assign rfl) ?_
        refine TA_re (d := 6) (v := vs (((s_ ++ ([128#8] : Str)) ++ (List.replicate ((w64 ((w64 (j1 + size)) - 8)).toNat) 0#8)) ++ r_1)) (v' := vs x1) rfl (congrArg vs hx1) ?_
        refine TA_done (by kernel_rfl) ?_ 0
        refine TX.sub (m' := [(6, vs x1)]) ⟨rfl, trivial⟩ ?_
        refine TX.pull (is := []) (L' := []) rfl ?_
        exact hJ ()
  · intro hJ
    replace H := Hj
    refine TC_cond (b := (decide (zeros1 = block))) rfl (fun hc => ?_) (fun hc => ?_)
    · replace H := ite_t (of_decide_eq_true hc) H
      refine TC_region ?_
      refine TL_v rfl rfl rfl (V_assign rfl) ?_
      refine TL_nil ?_
      refine TX.sub (m' := [(0, vs s_), (2, vi size), (7, vi 0)]) ⟨rfl, rfl, rfl, trivial⟩ ?_
      refine TX.pull (is := []) (L' := []) rfl ?_
      obtain rfl := Option.some.inj H
      exact hJ ()
    · replace H := ite_f (of_decide_eq_false hc) H
      refine TC_skip ?_
      refine TX.sub (m' := [(0, vs s_), (2, vi size), (7, vi zeros1)]) ⟨rfl, rfl, rfl, trivial⟩ ?_
      refine TX.pull (is := []) (L' := []) rfl ?_
      obtain rfl := Option.some.inj H
      exact hJ ()

end Go.Proofs
end

section
namespace Go.Proofs
open Go Go.Kx
set_option linter.unusedVariables false
set_option linter.unusedSimpArgs false
def sha_Hash_turn (h_n : Int) (h_h : Vector (BitVec 64) 8) (h_k : Vector (BitVec 64) 80) (h_rest : List (BitVec 8)) (h_all : BitVec 64) (b : List (BitVec 8)) : Option (Vector (BitVec 64) 8) :=
  if h_n = 256 then ((sha_Hash_turns256 h_n h_h h_k h_rest h_all b).bind fun (r_1 : Vector (BitVec 64) 8) => (some r_1)) else ((sha_Hash_turns384 h_n h_h h_k h_rest h_all b).bind fun (r_2 : Vector (BitVec 64) 8) => (some r_2))

set_option maxHeartbeats 4000000 in
set_option maxRecDepth 20000 in
theorem F68_calls (bh : Nat) (obh : Nat) (Ah_rest : Adr) (ch_rest : Nat) (Ab : Adr) (cb : Nat) (h_n : Int) (h_h : Vector (BitVec 64) 8) (h_k : Vector (BitVec 64) 80) (h_rest : List (BitVec 8)) (h_all : BitVec 64) (b : List (BitVec 8)) (hch_rest : (h_rest).length ≤ ch_rest) (hcb : (b).length ≤ cb) (r : Vector (BitVec 64) 8) (H : sha_Hash_turn h_n h_h h_k h_rest h_all b = some r) :
    Does Try.prog 68 [ptr (some (bh, obh)) 0, sl Ab ((b).length) cb] [⟨some (bh, obh + 1), e64 h_h.toList⟩] [⟨some (bh, obh), [vi h_n]⟩, ⟨some (bh, obh + 9), e64 h_k.toList⟩, ⟨some (bh, obh + 89), [sl Ah_rest ((h_rest).length) ch_rest]⟩, ⟨some (bh, obh + 90), [v64 h_all]⟩, ⟨Ah_rest, e8 h_rest⟩, ⟨Ab, e8 b⟩] (Γ := Unit) (fun g => Value.tuple [].toArray) (fun g => [⟨some (bh, obh + 1), e64 r.toList⟩]) := by
  intro w hmem hro hd
  refine calls_of (N := 15) (m0 := [(0, ptr (some (bh, obh)) 0), (1, sl Ab ((b).length) cb)]) Try.func68 rfl Try.ntmps68 (argM_ok [ptr (some (bh, obh)) 0, sl Ab ((b).length) cb]) rfl hmem hro hd ?_
  unfold sha_Hash_turn at H
  refine TC_seq ?_
  refine TC_region ?_
  refine TL_v rfl rfl rfl (V_move rfl) ?_
  refine TL_v rfl rfl rfl (V_nilCheck rfl) ?_
  refine TL_v rfl rfl rfl (V_fieldE rfl Try.underlying90 rfl rfl TryI.inf3 rfl (v := ptr (some (bh, obh)) 0) rfl) ?_
  refine TL_v rfl rfl rfl (V_load rfl (Src.ro (j := 0) rfl) rfl Try.isAgg3) ?_
  refine TL_v rfl rfl rfl (V_bin rfl rfl (fun w => eqlI w h_n 256)) ?_
  refine TL_nil ?_
  refine TX_next ?_
  refine TC_cond (b := (decide (h_n = 256))) rfl (fun hc => ?_) (fun hc => ?_)
  · replace H := ite_t (of_decide_eq_true hc) H
    refine TC_region ?_
    refine TL_v rfl rfl rfl (V_move rfl) ?_
    refine TL_v rfl rfl rfl (V_move rfl) ?_
    obtain ⟨r_1, hr_1, H⟩ := bind_elim H
    refine TL_e rfl rfl rfl (E_call (Γ := Unit) (val := fun g => Value.tuple [].toArray) (mem := fun g => [⟨some (bh, obh + 1), e64 r_1.toList⟩]) (vs := [ptr (some (bh, obh)) 0, sl Ab ((b).length) cb]) (Lin := [⟨some (bh, obh + 1), e64 h_h.toList⟩]) (Ro := [⟨some (bh, obh), [vi h_n]⟩, ⟨some (bh, obh + 9), e64 h_k.toList⟩, ⟨some (bh, obh + 89), [sl Ah_rest ((h_rest).length) ch_rest]⟩, ⟨some (bh, obh + 90), [v64 h_all]⟩, ⟨Ah_rest, e8 h_rest⟩, ⟨Ab, e8 b⟩]) (is := [0]) rfl Try.call69 (F69_calls bh obh Ah_rest ch_rest Ab cb h_n h_h h_k h_rest h_all b hch_rest hcb r_1 hr_1) rfl ⟨SrcD.ro (j := 0) rfl, SrcD.ro (j := 1) rfl, SrcD.ro (j := 2) rfl, SrcD.ro (j := 3) rfl, SrcD.ro (j := 4) rfl, SrcD.ro (j := 5) rfl, trivial⟩) (fun g_1 => ?_)
    refine TL_nil ?_
    have hrv := Option.some.inj H
    subst hrv
    exact TX_end (rs := []) (vs := []) rfl trivial (fun w' hs' => ⟨(), rfl, Step.left (Step.pulled (is := [0]) (A := [⟨some (bh, obh + 1), e64 r_1.toList⟩]) hs' rfl)⟩)
  · replace H := ite_f (of_decide_eq_false hc) H
    refine TC_region ?_
    refine TL_v rfl rfl rfl (V_move rfl) ?_
    refine TL_v rfl rfl rfl (V_move rfl) ?_
    obtain ⟨r_2, hr_2, H⟩ := bind_elim H
    refine TL_e rfl rfl rfl (E_call (Γ := Unit) (val := fun g => Value.tuple [].toArray) (mem := fun g => [⟨some (bh, obh + 1), e64 r_2.toList⟩]) (vs := [ptr (some (bh, obh)) 0, sl Ab ((b).length) cb]) (Lin := [⟨some (bh, obh + 1), e64 h_h.toList⟩]) (Ro := [⟨some (bh, obh), [vi h_n]⟩, ⟨some (bh, obh + 9), e64 h_k.toList⟩, ⟨some (bh, obh + 89), [sl Ah_rest ((h_rest).length) ch_rest]⟩, ⟨some (bh, obh + 90), [v64 h_all]⟩, ⟨Ah_rest, e8 h_rest⟩, ⟨Ab, e8 b⟩]) (is := [0]) rfl Try.call70 (F70_calls bh obh Ah_rest ch_rest Ab cb h_n h_h h_k h_rest h_all b hch_rest hcb r_2 hr_2) rfl ⟨SrcD.ro (j := 0) rfl, SrcD.ro (j := 1) rfl, SrcD.ro (j := 2) rfl, SrcD.ro (j := 3) rfl, SrcD.ro (j := 4) rfl, SrcD.ro (j := 5) rfl, trivial⟩) (fun g_2 => ?_)
    refine TL_nil ?_
    have hrv := Option.some.inj H
    subst hrv
    exact TX_end (rs := []) (vs := []) rfl trivial (fun w' hs' => ⟨(), rfl, Step.left (Step.pulled (is := [0]) (A := [⟨some (bh, obh + 1), e64 r_2.toList⟩]) hs' rfl)⟩)

end Go.Proofs
end

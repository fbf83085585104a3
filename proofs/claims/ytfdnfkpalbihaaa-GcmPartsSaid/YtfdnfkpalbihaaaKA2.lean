/-
  Part KA2 of the proofs of this seat: F51, F52, F53, F23, F24, F26.
-/
import Derived.Test.YtfdnfkpalbihaaaK2
import Derived.Test.YtfdnfkpalbihaaaKA1
section
namespace Go.Proofs
open Go Go.Kx
set_option linter.unusedVariables false
set_option linter.unusedSimpArgs false
def aes_Cipher_Encrypt.b0 (c_keys : List (Vector (BitVec 8) 16)) (s0 : Int × Vector (BitVec 8) 16) : Option ((Int × Vector (BitVec 8) 16) ⊕ (Vector (BitVec 8) 16)) :=
  if s0.1 < 16 then (if 0 ≤ s0.1 ∧ s0.1 < (16 : Int) then (if 0 ≤ (0 : Int) ∧ (0 : Int) < ((c_keys).length : Int) then (if 0 ≤ s0.1 ∧ s0.1 < (16 : Int) then (if 0 ≤ s0.1 ∧ s0.1 < (16 : Int) then (ltt (vp s0.2 ((s0.1).toNat) ((vg s0.2 ((s0.1).toNat)) ^^^ (vg (lg c_keys 0) ((s0.1).toNat)))) fun (m_1 : Vector (BitVec 8) 16) => (some (.inl (w64 (s0.1 + 1), m_1)))) else none) else none) else none) else none) else (some (.inr s0.2))

def aes_Cipher_Encrypt.b2 (c_table : Vector (BitVec 8) 256) (s1 : Int × Vector (BitVec 8) 16) (s2 : Int × Vector (BitVec 8) 16) : Option ((Int × Vector (BitVec 8) 16) ⊕ (Vector (BitVec 8) 16)) :=
  if s2.1 < 16 then (if 0 ≤ (w64 (s2.1 + (w64 (4 * (s2.1.tmod 4))))).tmod 16 ∧ (w64 (s2.1 + (w64 (4 * (s2.1.tmod 4))))).tmod 16 < (16 : Int) then (if 0 ≤ s2.1 ∧ s2.1 < (16 : Int) then (ltt (vp s2.2 ((s2.1).toNat) (vg c_table ((vg s1.2 (((w64 (s2.1 + (w64 (4 * (s2.1.tmod 4))))).tmod 16).toNat)).toNat))) fun (m_2 : Vector (BitVec 8) 16) => (some (.inl (w64 (s2.1 + 1), m_2)))) else none) else none) else (some (.inr s2.2))

def aes_Cipher_Encrypt.b3 (c_keys : List (Vector (BitVec 8) 16)) (s1 : Int × Vector (BitVec 8) 16) (j1 : Vector (BitVec 8) 16) (s3 : Int × Vector (BitVec 8) 16) : Option ((Int × Vector (BitVec 8) 16) ⊕ (Vector (BitVec 8) 16)) :=
  if s3.1 < 16 then (if 0 ≤ s3.1 ∧ s3.1 < (16 : Int) then (if 0 ≤ s1.1 ∧ s1.1 < ((c_keys).length : Int) then (if 0 ≤ s3.1 ∧ s3.1 < (16 : Int) then (if 0 ≤ s3.1 ∧ s3.1 < (16 : Int) then (ltt (vp s3.2 ((s3.1).toNat) ((vg j1 ((s3.1).toNat)) ^^^ (vg (lg c_keys ((s1.1).toNat)) ((s3.1).toNat)))) fun (m_3 : Vector (BitVec 8) 16) => (some (.inl (w64 (s3.1 + 1), m_3)))) else none) else none) else none) else none) else (some (.inr s3.2))

def aes_Cipher_Encrypt.b4  (s4 : Int × Vector (BitVec 8) 16) : Option ((Int × Vector (BitVec 8) 16) ⊕ (Vector (BitVec 8) 16)) :=
  if s4.1 < 16 then (if 0 ≤ s4.1 ∧ s4.1 < (16 : Int) then (if 0 ≤ w64 (s4.1 + 1) ∧ w64 (s4.1 + 1) < (16 : Int) then (if 0 ≤ w64 (s4.1 + 2) ∧ w64 (s4.1 + 2) < (16 : Int) then (if 0 ≤ w64 (s4.1 + 3) ∧ w64 (s4.1 + 3) < (16 : Int) then (ltt (vg s4.2 ((s4.1).toNat)) fun (p1 : BitVec 8) => (ltt (vg s4.2 ((w64 (s4.1 + 1)).toNat)) fun (q1 : BitVec 8) => (ltt (vg s4.2 ((w64 (s4.1 + 2)).toNat)) fun (r_1 : BitVec 8) => (ltt (vg s4.2 ((w64 (s4.1 + 3)).toNat)) fun (s_1 : BitVec 8) => (ltt (((p1 ^^^ q1) ^^^ r_1) ^^^ s_1) fun (all1 : BitVec 8) => (if 0 ≤ s4.1 ∧ s4.1 < (16 : Int) then ((aes_twice (p1 ^^^ q1)).bind fun (r_2 : BitVec 8) => (if 0 ≤ s4.1 ∧ s4.1 < (16 : Int) then (ltt (vp s4.2 ((s4.1).toNat) ((vg s4.2 ((s4.1).toNat)) ^^^ (all1 ^^^ r_2))) fun (m_4 : Vector (BitVec 8) 16) => (if 0 ≤ w64 (s4.1 + 1) ∧ w64 (s4.1 + 1) < (16 : Int) then ((aes_twice (q1 ^^^ r_1)).bind fun (r_3 : BitVec 8) => (if 0 ≤ w64 (s4.1 + 1) ∧ w64 (s4.1 + 1) < (16 : Int) then (ltt (vp m_4 ((w64 (s4.1 + 1)).toNat) ((vg m_4 ((w64 (s4.1 + 1)).toNat)) ^^^ (all1 ^^^ r_3))) fun (m_5 : Vector (BitVec 8) 16) => (if 0 ≤ w64 (s4.1 + 2) ∧ w64 (s4.1 + 2) < (16 : Int) then ((aes_twice (r_1 ^^^ s_1)).bind fun (r_4 : BitVec 8) => (if 0 ≤ w64 (s4.1 + 2) ∧ w64 (s4.1 + 2) < (16 : Int) then (ltt (vp m_5 ((w64 (s4.1 + 2)).toNat) ((vg m_5 ((w64 (s4.1 + 2)).toNat)) ^^^ (all1 ^^^ r_4))) fun (m_6 : Vector (BitVec 8) 16) => (if 0 ≤ w64 (s4.1 + 3) ∧ w64 (s4.1 + 3) < (16 : Int) then ((aes_twice (s_1 ^^^ p1)).bind fun (r_5 : BitVec 8) => (if 0 ≤ w64 (s4.1 + 3) ∧ w64 (s4.1 + 3) < (16 : Int) then (ltt (vp m_6 ((w64 (s4.1 + 3)).toNat) ((vg m_6 ((w64 (s4.1 + 3)).toNat)) ^^^ (all1 ^^^ r_5))) fun (m_7 : Vector (BitVec 8) 16) => (ltt (w64 (s4.1 + 4)) fun (i1 : Int) => (some (.inl (i1, m_7))))) else none)) else none)) else none)) else none)) else none)) else none)) else none)) else none)))))) else none) else none) else none) else none) else (some (.inr s4.2))

def aes_Cipher_Encrypt.b1 (c_table : Vector (BitVec 8) 256) (c_keys : List (Vector (BitVec 8) 16)) (s1 : Int × Vector (BitVec 8) 16) : Option ((Int × Vector (BitVec 8) 16) ⊕ (Vector (BitVec 8) 16)) :=
  if s1.1 < ((c_keys).length : Int) then ((loop (aes_Cipher_Encrypt.b2 c_table s1) BIG (0, Vector.replicate 16 0#8)).bind fun (t_3 : Vector (BitVec 8) 16) => ((if s1.1 < (w64 (((c_keys).length : Int) - 1)) then ((loop (aes_Cipher_Encrypt.b4) BIG (0, t_3)).bind fun (t_5 : Vector (BitVec 8) 16) => (some t_5)) else (some t_3)).bind fun (j1 : Vector (BitVec 8) 16) => ((loop (aes_Cipher_Encrypt.b3 c_keys s1 j1) BIG (0, s1.2)).bind fun (t_4 : Vector (BitVec 8) 16) => (ltt (w64 (s1.1 + 1)) fun (round1 : Int) => (some (.inl (round1, t_4))))))) else (some (.inr s1.2))

def aes_Cipher_Encrypt (c_table : Vector (BitVec 8) 256) (c_keys : List (Vector (BitVec 8) 16)) (b : Vector (BitVec 8) 16) : Option (Vector (BitVec 8) 16) :=
  (loop (aes_Cipher_Encrypt.b0 c_keys) BIG (0, b)).bind fun (t_1 : Vector (BitVec 8) 16) => ((loop (aes_Cipher_Encrypt.b1 c_table c_keys) BIG (1, t_1)).bind fun (t_2 : Vector (BitVec 8) 16) => (some t_2))

set_option maxHeartbeats 4000000 in
set_option maxRecDepth 20000 in
theorem F51_calls (bc : Nat) (obc : Nat) (Ac_keys : Adr) (cc_keys : Nat) (c_table : Vector (BitVec 8) 256) (c_keys : List (Vector (BitVec 8) 16)) (b : Vector (BitVec 8) 16) (hcc_keys : (c_keys).length ≤ cc_keys) (r : Vector (BitVec 8) 16) (H : aes_Cipher_Encrypt c_table c_keys b = some r) :
    Does Try.prog 51 [ptr (some (bc, obc)) 0, Value.agg (flat [(16, e8 b.toList)]).toArray] [] [⟨some (bc, obc), e8 c_table.toList⟩, ⟨some (bc, obc + 256), [sl Ac_keys ((c_keys).length) cc_keys]⟩, ⟨Ac_keys, eF (fun V : Vector (BitVec 8) 16 => e8 V.toList) c_keys⟩] (Γ := Unit) (fun g => Value.agg (flat [(16, e8 r.toList)]).toArray) (fun g => []) := by
  intro w hmem hro hd
  refine calls_of (N := 162) (m0 := [(0, ptr (some (bc, obc)) 0), (1, Value.agg (flat [(16, e8 b.toList)]).toArray)]) Try.func51 rfl Try.ntmps51 (argM_ok [ptr (some (bc, obc)) 0, Value.agg (flat [(16, e8 b.toList)]).toArray]) rfl hmem hro hd ?_
  unfold aes_Cipher_Encrypt at H
  refine TC_seq ?_
  refine TC_region ?_
  refine TL_e rfl rfl rfl (E_boxP [(16, e8 b.toList)] rfl rfl ⟨(lenV (f := v8) b), trivial⟩) (fun b1 => ?_)
  refine TL_e rfl rfl rfl (E_allocP [(16, e8 ((Vector.replicate 16 0#8).toList))] TryI.inf71 TryI.zer71 ⟨(lenV (f := v8) (Vector.replicate 16 0#8)), trivial⟩) (fun b2 => ?_)
  refine TL_nil ?_
  refine TX_next ?_
  refine TC_seq ?_
  refine TC_seq ?_
  refine TC_region ?_
  refine TL_v rfl rfl rfl (V_move rfl) ?_
  refine TL_nil ?_
  refine TX_next ?_
  refine TC_block ?_
  obtain ⟨t_1, Hl, H⟩ := bind_elim H
  refine TC.sub (m' := [(0, ptr (some (bc, obc)) 0), (3, ptr (some (b1, 0)) 0), (4, ptr (some (b2, 0)) 0), (16, vi 0)]) ⟨rfl, rfl, rfl, rfl, trivial⟩ ?_
  refine TC.pull (is := [1, 0]) (L' := [⟨some (b1, 0), e8 b.toList⟩, ⟨some (b2, 0), e8 ((Vector.replicate 16 0#8).toList)⟩]) rfl ?_
  refine TC_loopL (id := 0) (body := (aes_Cipher_Encrypt.b0 c_keys)) (σ := Int × Vector (BitVec 8) 16) (Γ := Unit) (Γx := Unit) (fun s0 g0_ => [(0, ptr (some (bc, obc)) 0), (3, ptr (some (b1, 0)) 0), (4, ptr (some (b2, 0)) 0), (16, vi s0.1)]) (fun s0 g0_ => [⟨some (b1, 0), e8 s0.2.toList⟩, ⟨some (b2, 0), e8 ((Vector.replicate 16 0#8).toList)⟩]) (fun t g => [(0, ptr (some (bc, obc)) 0), (3, ptr (some (b1, 0)) 0), (4, ptr (some (b2, 0)) 0)]) (fun t g => [⟨some (b1, 0), e8 t.toList⟩, ⟨some (b2, 0), e8 ((Vector.replicate 16 0#8).toList)⟩]) ?_ BIG (0, b) () t_1 Hl ?_
  · intro s0 g0_ r1 H K hK hE
    unfold aes_Cipher_Encrypt.b0 at H
    refine TC_seq ?_
    refine TC_region ?_
    refine TL_v rfl rfl rfl (V_bin rfl rfl (fun w => lssI w s0.1 16)) ?_
    refine TL_nil ?_
    refine TX_next ?_
    refine TC_seq ?_
    refine TC_cond (b := (decide (s0.1 < 16))) rfl (fun hc => ?_) (fun hc => ?_)
    · replace H := ite_t (of_decide_eq_true hc) H
      refine TC_skip ?_
      refine TX_next ?_
      refine TC_seq ?_
      refine TC_block ?_
      refine TC_seq ?_
      refine TC_region ?_
      refine TL_v rfl rfl rfl (V_move rfl) ?_
      refine TL_v rfl rfl rfl (V_assign rfl) ?_
      refine TL_nil ?_
      refine TX_next ?_
      obtain ⟨h1, H⟩ := if_elim H
      obtain ⟨h2, H⟩ := if_elim H
      obtain ⟨h3, H⟩ := if_elim H
      obtain ⟨h4, H⟩ := if_elim H
      obtain ⟨m_1, hm_1, H⟩ := ltt_elim H
      refine TA_begin [⟨some (b1, 0), e8 s0.2.toList⟩, ⟨some (b2, 0), e8 ((Vector.replicate 16 0#8).toList)⟩] 13 (by kernel_rfl) (N := 14) rfl ?_
      refine TA_take (i := 0) (is := [0, 0]) (done' := #[true, false, false, false, false, false, false, false, false, false, false, false, false, false]) rfl rfl rfl rfl (by kernel_rfl) (QP.block (QP.then (QP.then (QP.block (QP.then QP.body))))) (by kernel_rfl) rfl (V_move rfl) ?_
      refine TA_take (i := 1) (is := [0, 0]) (done' := #[true, true, false, false, false, false, false, false, false, false, false, false, false, false]) rfl rfl rfl rfl (by kernel_rfl) (QP.block (QP.then (QP.then (QP.block (QP.then QP.body))))) (by kernel_rfl) rfl (V_idxArr (i := s0.1) rfl rfl Try.underlying71 TryI.inf5 rfl h1.1 h1.2 (k := (s0.1).toNat) (k01 _)) ?_
      refine TA_take (i := 2) (is := [0, 0]) (done' := #[true, true, true, false, false, false, false, false, false, false, false, false, false, false]) rfl rfl rfl rfl (by kernel_rfl) (QP.block (QP.then (QP.then (QP.block (QP.then QP.body))))) (by kernel_rfl) rfl (V_load rfl (Src.own (j := 0) rfl) (get_vec (f := v8) (V := s0.2) (toNat_lt h1.1 h1.2)) Try.isAgg5) ?_
      refine TA_take (i := 3) (is := [0, 0]) (done' := #[true, true, true, true, false, false, false, false, false, false, false, false, false, false]) rfl rfl rfl rfl (by kernel_rfl) (QP.block (QP.then (QP.then (QP.block (QP.then QP.body))))) (by kernel_rfl) rfl (V_move rfl) ?_
      refine TA_take (i := 4) (is := [0, 0]) (done' := #[true, true, true, true, true, false, false, false, false, false, false, false, false, false]) rfl rfl rfl rfl (by kernel_rfl) (QP.block (QP.then (QP.then (QP.block (QP.then QP.body))))) (by kernel_rfl) rfl (V_nilCheck rfl) ?_
      refine TA_take (i := 5) (is := [0, 0]) (done' := #[true, true, true, true, true, true, false, false, false, false, false, false, false, false]) rfl rfl rfl rfl (by kernel_rfl) (QP.block (QP.then (QP.then (QP.block (QP.then QP.body))))) (by kernel_rfl) rfl (V_fieldE rfl Try.underlying124 rfl rfl TryI.inf122 rfl (v := ptr (some (bc, obc + 256)) 0) rfl) ?_
      refine TA_take (i := 6) (is := [0, 0]) (done' := #[true, true, true, true, true, true, true, false, false, false, false, false, false, false]) rfl rfl rfl rfl (by kernel_rfl) (QP.block (QP.then (QP.then (QP.block (QP.then QP.body))))) (by kernel_rfl) rfl (V_load rfl (Src.ro (j := 1) rfl) rfl Try.isAgg122) ?_
      refine TA_take (i := 7) (is := [0, 0]) (done' := #[true, true, true, true, true, true, true, true, false, false, false, false, false, false]) rfl rfl rfl rfl (by kernel_rfl) (QP.block (QP.then (QP.then (QP.block (QP.then QP.body))))) (by kernel_rfl) rfl (V_move rfl) ?_
      refine TA_take (i := 8) (is := [0, 0]) (done' := #[true, true, true, true, true, true, true, true, true, false, false, false, false, false]) rfl rfl rfl rfl (by kernel_rfl) (QP.block (QP.then (QP.then (QP.block (QP.then QP.body))))) (by kernel_rfl) rfl (V_idxSlS (i := 0) rfl rfl Try.underlying122 TryI.inf71 rfl (Src.ro (j := 2) rfl) (eF_ne2 (s := 16) (fun _ => by simp) rfl (toNat_lt h2.1 h2.2)) h2.1 h2.2 (k := 0 * 16) rfl) ?_
      refine TA_take (i := 9) (is := [0, 0]) (done' := #[true, true, true, true, true, true, true, true, true, true, false, false, false, false]) rfl rfl rfl rfl (by kernel_rfl) (QP.block (QP.then (QP.then (QP.block (QP.then QP.body))))) (by kernel_rfl) rfl (V_idxArr (i := s0.1) rfl rfl Try.underlying71 TryI.inf5 rfl h3.1 h3.2 (k := 0 * 16 + (s0.1).toNat) (k1 _ _)) ?_
      refine TA_take (i := 10) (is := [0, 0]) (done' := #[true, true, true, true, true, true, true, true, true, true, true, false, false, false]) rfl rfl rfl rfl (by kernel_rfl) (QP.block (QP.then (QP.then (QP.block (QP.then QP.body))))) (by kernel_rfl) rfl (V_load rfl (Src.ro (j := 2) rfl) ((get_eF (g := fun V : Vector (BitVec 8) 16 => e8 V.toList) (s := 16) (fun _ => by simp) c_keys 0 ((s0.1).toNat) (toNat_lt h2.1 h2.2) (toNat_lt h3.1 h3.2)).trans (get_vec (toNat_lt h3.1 h3.2))) Try.isAgg5) ?_
      refine TA_take (i := 11) (is := [0, 0]) (done' := #[true, true, true, true, true, true, true, true, true, true, true, true, false, false]) rfl rfl rfl rfl (by kernel_rfl) (QP.block (QP.then (QP.then (QP.block (QP.then QP.body))))) (by kernel_rfl) rfl (V_bin rfl rfl (fun w => xor8 w (vg s0.2 ((s0.1).toNat)) (vg (lg c_keys 0) ((s0.1).toNat)))) ?_
      refine TA_take (i := 12) (is := [0, 0]) (done' := #[true, true, true, true, true, true, true, true, true, true, true, true, true, false]) rfl rfl rfl rfl (by kernel_rfl) (QP.block (QP.then (QP.then (QP.block (QP.then QP.body))))) (by kernel_rfl) rfl (V_idxArr (i := s0.1) rfl rfl Try.underlying71 TryI.inf5 rfl h4.1 h4.2 (k := (s0.1).toNat) (k01 _)) ?_
      refine TA_all (rs := [13]) (by kernel_rfl) rfl ?_
      refine ⟨?_, trivial⟩
      refine TO_n (is := []) (R := fun _ => []) (done' := #[true, true, true, true, true, true, true, true, true, true, true, true, true, true]) rfl rfl rfl (by kernel_rfl) (E_store (j := 0) rfl rfl TryI.inf5 rfl rfl rfl (by simpa using (toNat_lt h4.1 h4.2)) (cs' := e8 ((vp s0.2 ((s0.1).toNat) ((vg s0.2 ((s0.1).toNat)) ^^^ (vg (lg c_keys 0) ((s0.1).toNat)))).toList)) set_vec) (fun h => by cases h) (fun _ => ?_)
      refine TA_reE (j := 0) (A := some (b1, 0)) (cs := e8 ((vp s0.2 ((s0.1).toNat) ((vg s0.2 ((s0.1).toNat)) ^^^ (vg (lg c_keys 0) ((s0.1).toNat)))).toList)) (cs' := e8 m_1.toList) rfl (congrArg (fun z : Vector (BitVec 8) 16 => e8 (Vector.toList z)) hm_1) ?_
      refine TA_done (by kernel_rfl) ?_ 0
      refine TX_block_normal ?_
      refine TX_next ?_
      refine TC_region ?_
      refine TL_v rfl rfl rfl (V_bin rfl rfl (fun w => addI w s0.1 1)) ?_
      refine TL_v rfl rfl rfl (V_move rfl) ?_
      refine TL_nil ?_
      refine TX.sub (m' := [(0, ptr (some (bc, obc)) 0), (3, ptr (some (b1, 0)) 0), (4, ptr (some (b2, 0)) 0), (16, vi (w64 (s0.1 + 1)))]) ⟨rfl, rfl, rfl, rfl, trivial⟩ ?_
      refine TX.pull (is := [0, 0]) (L' := [⟨some (b1, 0), e8 m_1.toList⟩, ⟨some (b2, 0), e8 ((Vector.replicate 16 0#8).toList)⟩]) rfl ?_
      obtain rfl := Option.some.inj H
      exact fun a w hs => hK (w64 (s0.1 + 1), m_1) rfl () a w hs
    · replace H := ite_f (of_decide_eq_false hc) H
      refine TC_exit ?_
      refine TX_then_exit ?_
      refine TX_then_exit ?_
      refine TX.sub (m' := [(0, ptr (some (bc, obc)) 0), (3, ptr (some (b1, 0)) 0), (4, ptr (some (b2, 0)) 0)]) ⟨rfl, rfl, rfl, trivial⟩ ?_
      refine TX.pull (is := [0, 0]) (L' := [⟨some (b1, 0), e8 s0.2.toList⟩, ⟨some (b2, 0), e8 ((Vector.replicate 16 0#8).toList)⟩]) rfl ?_
      obtain rfl := Option.some.inj H
      exact hE s0.2 rfl ()
  · intro g
    refine TX_block_exit ?_
    refine TX_next ?_
    refine TC_seq ?_
    refine TC_seq ?_
    refine TC_region ?_
    refine TL_v rfl rfl rfl (V_assign rfl) ?_
    refine TL_nil ?_
    refine TX_next ?_
    refine TC_block ?_
    obtain ⟨t_2, Hl, H⟩ := bind_elim H
    refine TC.sub (m' := [(0, ptr (some (bc, obc)) 0), (3, ptr (some (b1, 0)) 0), (4, ptr (some (b2, 0)) 0), (6, vi 1)]) ⟨rfl, rfl, rfl, rfl, trivial⟩ ?_
    refine TC.pull (is := [0, 0]) (L' := [⟨some (b1, 0), e8 t_1.toList⟩, ⟨some (b2, 0), e8 ((Vector.replicate 16 0#8).toList)⟩]) rfl ?_
    refine TC_loopL (id := 2) (body := (aes_Cipher_Encrypt.b1 c_table c_keys)) (σ := Int × Vector (BitVec 8) 16) (Γ := Unit) (Γx := Unit) (fun s1 g1_ => [(0, ptr (some (bc, obc)) 0), (3, ptr (some (b1, 0)) 0), (4, ptr (some (b2, 0)) 0), (6, vi s1.1)]) (fun s1 g1_ => [⟨some (b1, 0), e8 s1.2.toList⟩, ⟨some (b2, 0), e8 ((Vector.replicate 16 0#8).toList)⟩]) (fun t g => [(3, ptr (some (b1, 0)) 0), (4, ptr (some (b2, 0)) 0)]) (fun t g => [⟨some (b1, 0), e8 t.toList⟩, ⟨some (b2, 0), e8 ((Vector.replicate 16 0#8).toList)⟩]) ?_ BIG (1, t_1) () t_2 Hl ?_
    · intro s1 g1_ r1 H K hK hE
      unfold aes_Cipher_Encrypt.b1 at H
      refine TC_seq ?_
      refine TC_seq ?_
      refine TC_region ?_
      refine TL_v rfl rfl rfl (V_move rfl) ?_
      refine TL_v rfl rfl rfl (V_move rfl) ?_
      refine TL_v rfl rfl rfl (V_nilCheck rfl) ?_
      refine TL_v rfl rfl rfl (V_fieldE rfl Try.underlying124 rfl rfl TryI.inf122 rfl (v := ptr (some (bc, obc + 256)) 0) rfl) ?_
      refine TL_v rfl rfl rfl (V_load rfl (Src.ro (j := 1) rfl) rfl Try.isAgg122) ?_
      refine TL_v rfl rfl rfl (V_len_slice rfl Try.underlying122) ?_
      refine TL_v rfl rfl rfl (V_bin rfl rfl (fun w => lssI w s1.1 ((c_keys).length : Int))) ?_
      refine TL_nil ?_
      refine TX_next ?_
      refine TC_cond (b := (decide (s1.1 < ((c_keys).length : Int)))) rfl (fun hc => ?_) (fun hc => ?_)
      · replace H := ite_t (of_decide_eq_true hc) H
        refine TC_skip ?_
        refine TX_next ?_
        refine TC_seq ?_
        refine TC_block ?_
        refine TC_seq ?_
        refine TC_region ?_
        refine TL_e rfl rfl rfl (E_allocP [(16, e8 ((Vector.replicate 16 0#8).toList))] TryI.inf71 TryI.zer71 ⟨(lenV (f := v8) (Vector.replicate 16 0#8)), trivial⟩) (fun b3 => ?_)
        refine TL_nil ?_
        refine TX_next ?_
        refine TC_seq ?_
        refine TC_seq ?_
        refine TC_region ?_
        refine TL_v rfl rfl rfl (V_move rfl) ?_
        refine TL_nil ?_
        refine TX_next ?_
        refine TC_block ?_
        obtain ⟨t_3, Hl, H⟩ := bind_elim H
        refine TC.sub (m' := [(0, ptr (some (bc, obc)) 0), (3, ptr (some (b1, 0)) 0), (4, ptr (some (b2, 0)) 0), (6, vi s1.1), (7, ptr (some (b3, 0)) 0), (42, vi 0)]) ⟨rfl, rfl, rfl, rfl, rfl, rfl, trivial⟩ ?_
        refine TC.pull (is := [1, 1, 0]) (L' := [⟨some (b1, 0), e8 s1.2.toList⟩, ⟨some (b2, 0), e8 ((Vector.replicate 16 0#8).toList)⟩, ⟨some (b3, 0), e8 ((Vector.replicate 16 0#8).toList)⟩]) rfl ?_
        refine TC_loopL (id := 4) (body := (aes_Cipher_Encrypt.b2 c_table s1)) (σ := Int × Vector (BitVec 8) 16) (Γ := Unit) (Γx := Unit) (fun s2 g2_ => [(0, ptr (some (bc, obc)) 0), (3, ptr (some (b1, 0)) 0), (4, ptr (some (b2, 0)) 0), (6, vi s1.1), (7, ptr (some (b3, 0)) 0), (42, vi s2.1)]) (fun s2 g2_ => [⟨some (b1, 0), e8 s1.2.toList⟩, ⟨some (b2, 0), e8 ((Vector.replicate 16 0#8).toList)⟩, ⟨some (b3, 0), e8 s2.2.toList⟩]) (fun t g => [(0, ptr (some (bc, obc)) 0), (3, ptr (some (b1, 0)) 0), (4, ptr (some (b2, 0)) 0), (6, vi s1.1), (7, ptr (some (b3, 0)) 0)]) (fun t g => [⟨some (b1, 0), e8 s1.2.toList⟩, ⟨some (b2, 0), e8 ((Vector.replicate 16 0#8).toList)⟩, ⟨some (b3, 0), e8 t.toList⟩]) ?_ BIG (0, Vector.replicate 16 0#8) () t_3 Hl ?_
        · intro s2 g2_ r1 H K hK hE
          unfold aes_Cipher_Encrypt.b2 at H
          refine TC_seq ?_
          refine TC_region ?_
          refine TL_v rfl rfl rfl (V_bin rfl rfl (fun w => lssI w s2.1 16)) ?_
          refine TL_nil ?_
          refine TX_next ?_
          refine TC_seq ?_
          refine TC_cond (b := (decide (s2.1 < 16))) rfl (fun hc => ?_) (fun hc => ?_)
          · replace H := ite_t (of_decide_eq_true hc) H
            refine TC_skip ?_
            refine TX_next ?_
            refine TC_seq ?_
            refine TC_block ?_
            refine TC_seq ?_
            refine TC_region ?_
            refine TL_v rfl rfl rfl (V_move rfl) ?_
            refine TL_v rfl rfl rfl (V_assign rfl) ?_
            refine TL_nil ?_
            refine TX_next ?_
            obtain ⟨h5, H⟩ := if_elim H
            obtain ⟨h6, H⟩ := if_elim H
            obtain ⟨m_2, hm_2, H⟩ := ltt_elim H
            refine TA_begin [⟨some (b1, 0), e8 s1.2.toList⟩, ⟨some (b2, 0), e8 ((Vector.replicate 16 0#8).toList)⟩, ⟨some (b3, 0), e8 s2.2.toList⟩] 15 (by kernel_rfl) (N := 16) rfl ?_
            refine TA_take (i := 0) (is := [0, 0, 0]) (done' := #[true, false, false, false, false, false, false, false, false, false, false, false, false, false, false, false]) rfl rfl rfl rfl (by kernel_rfl) (QP.block (QP.then (QP.then (QP.block (QP.then (QP.block (QP.then (QP.then (QP.block (QP.then QP.body)))))))))) (by kernel_rfl) rfl (V_move rfl) ?_
            refine TA_take (i := 1) (is := [0, 0, 0]) (done' := #[true, true, false, false, false, false, false, false, false, false, false, false, false, false, false, false]) rfl rfl rfl rfl (by kernel_rfl) (QP.block (QP.then (QP.then (QP.block (QP.then (QP.block (QP.then (QP.then (QP.block (QP.then QP.body)))))))))) (by kernel_rfl) rfl (V_move rfl) ?_
            refine TA_take (i := 2) (is := [0, 0, 0]) (done' := #[true, true, true, false, false, false, false, false, false, false, false, false, false, false, false, false]) rfl rfl rfl rfl (by kernel_rfl) (QP.block (QP.then (QP.then (QP.block (QP.then (QP.block (QP.then (QP.then (QP.block (QP.then QP.body)))))))))) (by kernel_rfl) rfl (V_move rfl) ?_
            refine TA_take (i := 3) (is := [0, 0, 0]) (done' := #[true, true, true, true, false, false, false, false, false, false, false, false, false, false, false, false]) rfl rfl rfl rfl (by kernel_rfl) (QP.block (QP.then (QP.then (QP.block (QP.then (QP.block (QP.then (QP.then (QP.block (QP.then QP.body)))))))))) (by kernel_rfl) rfl (V_move rfl) ?_
            refine TA_take (i := 4) (is := [0, 0, 0]) (done' := #[true, true, true, true, true, false, false, false, false, false, false, false, false, false, false, false]) rfl rfl rfl rfl (by kernel_rfl) (QP.block (QP.then (QP.then (QP.block (QP.then (QP.block (QP.then (QP.then (QP.block (QP.then QP.body)))))))))) (by kernel_rfl) rfl (V_bin rfl rfl (fun w => remI w s2.1 4 (by decide))) ?_
            refine TA_take (i := 5) (is := [0, 0, 0]) (done' := #[true, true, true, true, true, true, false, false, false, false, false, false, false, false, false, false]) rfl rfl rfl rfl (by kernel_rfl) (QP.block (QP.then (QP.then (QP.block (QP.then (QP.block (QP.then (QP.then (QP.block (QP.then QP.body)))))))))) (by kernel_rfl) rfl (V_bin rfl rfl (fun w => mulI w 4 (s2.1.tmod 4))) ?_
            refine TA_take (i := 6) (is := [0, 0, 0]) (done' := #[true, true, true, true, true, true, true, false, false, false, false, false, false, false, false, false]) rfl rfl rfl rfl (by kernel_rfl) (QP.block (QP.then (QP.then (QP.block (QP.then (QP.block (QP.then (QP.then (QP.block (QP.then QP.body)))))))))) (by kernel_rfl) rfl (V_bin rfl rfl (fun w => addI w s2.1 (w64 (4 * (s2.1.tmod 4))))) ?_
            refine TA_take (i := 7) (is := [0, 0, 0]) (done' := #[true, true, true, true, true, true, true, true, false, false, false, false, false, false, false, false]) rfl rfl rfl rfl (by kernel_rfl) (QP.block (QP.then (QP.then (QP.block (QP.then (QP.block (QP.then (QP.then (QP.block (QP.then QP.body)))))))))) (by kernel_rfl) rfl (V_bin rfl rfl (fun w => remI w (w64 (s2.1 + (w64 (4 * (s2.1.tmod 4))))) 16 (by decide))) ?_
            refine TA_take (i := 8) (is := [0, 0, 0]) (done' := #[true, true, true, true, true, true, true, true, true, false, false, false, false, false, false, false]) rfl rfl rfl rfl (by kernel_rfl) (QP.block (QP.then (QP.then (QP.block (QP.then (QP.block (QP.then (QP.then (QP.block (QP.then QP.body)))))))))) (by kernel_rfl) rfl (V_idxArr (i := (w64 (s2.1 + (w64 (4 * (s2.1.tmod 4))))).tmod 16) rfl rfl Try.underlying71 TryI.inf5 rfl h5.1 h5.2 (k := ((w64 (s2.1 + (w64 (4 * (s2.1.tmod 4))))).tmod 16).toNat) (k01 _)) ?_
            refine TA_take (i := 9) (is := [0, 0, 0]) (done' := #[true, true, true, true, true, true, true, true, true, true, false, false, false, false, false, false]) rfl rfl rfl rfl (by kernel_rfl) (QP.block (QP.then (QP.then (QP.block (QP.then (QP.block (QP.then (QP.then (QP.block (QP.then QP.body)))))))))) (by kernel_rfl) rfl (V_load rfl (Src.own (j := 0) rfl) (get_vec (f := v8) (V := s1.2) (toNat_lt h5.1 h5.2)) Try.isAgg5) ?_
            refine TA_take (i := 10) (is := [0, 0, 0]) (done' := #[true, true, true, true, true, true, true, true, true, true, true, false, false, false, false, false]) rfl rfl rfl rfl (by kernel_rfl) (QP.block (QP.then (QP.then (QP.block (QP.then (QP.block (QP.then (QP.then (QP.block (QP.then QP.body)))))))))) (by kernel_rfl) rfl (V_nilCheck rfl) ?_
            refine TA_take (i := 11) (is := [0, 0, 0]) (done' := #[true, true, true, true, true, true, true, true, true, true, true, true, false, false, false, false]) rfl rfl rfl rfl (by kernel_rfl) (QP.block (QP.then (QP.then (QP.block (QP.then (QP.block (QP.then (QP.then (QP.block (QP.then QP.body)))))))))) (by kernel_rfl) rfl (V_fieldE rfl Try.underlying124 rfl rfl TryI.inf120 rfl (v := ptr (some (bc, obc)) 0) rfl) ?_
            refine TA_take (i := 12) (is := [0, 0, 0]) (done' := #[true, true, true, true, true, true, true, true, true, true, true, true, true, false, false, false]) rfl rfl rfl rfl (by kernel_rfl) (QP.block (QP.then (QP.then (QP.block (QP.then (QP.block (QP.then (QP.then (QP.block (QP.then QP.body)))))))))) (by kernel_rfl) rfl (V_idxArr (i := ((vg s1.2 (((w64 (s2.1 + (w64 (4 * (s2.1.tmod 4))))).tmod 16).toNat)).toNat : Int)) rfl rfl Try.underlying120 TryI.inf5 rfl (Int.natCast_nonneg _) (zb (n := 8) (k := 256) (vg s1.2 (((w64 (s2.1 + (w64 (4 * (s2.1.tmod 4))))).tmod 16).toNat)) (by decide)) (k := (vg s1.2 (((w64 (s2.1 + (w64 (4 * (s2.1.tmod 4))))).tmod 16).toNat)).toNat) (k01 _)) ?_
            refine TA_take (i := 13) (is := [0, 0, 0]) (done' := #[true, true, true, true, true, true, true, true, true, true, true, true, true, true, false, false]) rfl rfl rfl rfl (by kernel_rfl) (QP.block (QP.then (QP.then (QP.block (QP.then (QP.block (QP.then (QP.then (QP.block (QP.then QP.body)))))))))) (by kernel_rfl) rfl (V_load rfl (Src.ro (j := 0) rfl) (get_vec (f := v8) (V := c_table) (toNat_lt (Int.natCast_nonneg _) (zb (n := 8) (k := 256) (vg s1.2 (((w64 (s2.1 + (w64 (4 * (s2.1.tmod 4))))).tmod 16).toNat)) (by decide)))) Try.isAgg5) ?_
            refine TA_take (i := 14) (is := [0, 0, 0]) (done' := #[true, true, true, true, true, true, true, true, true, true, true, true, true, true, true, false]) rfl rfl rfl rfl (by kernel_rfl) (QP.block (QP.then (QP.then (QP.block (QP.then (QP.block (QP.then (QP.then (QP.block (QP.then QP.body)))))))))) (by kernel_rfl) rfl (V_idxArr (i := s2.1) rfl rfl Try.underlying71 TryI.inf5 rfl h6.1 h6.2 (k := (s2.1).toNat) (k01 _)) ?_
            refine TA_all (rs := [15]) (by kernel_rfl) rfl ?_
            refine ⟨?_, trivial⟩
            refine TO_n (is := []) (R := fun _ => []) (done' := #[true, true, true, true, true, true, true, true, true, true, true, true, true, true, true, true]) rfl rfl rfl (by kernel_rfl) (E_store (j := 2) rfl rfl TryI.inf5 rfl rfl rfl (by simpa using (toNat_lt h6.1 h6.2)) (cs' := e8 ((vp s2.2 ((s2.1).toNat) (vg c_table ((vg s1.2 (((w64 (s2.1 + (w64 (4 * (s2.1.tmod 4))))).tmod 16).toNat)).toNat))).toList)) set_vec) (fun h => by cases h) (fun _ => ?_)
            refine TA_reE (j := 2) (A := some (b3, 0)) (cs := e8 ((vp s2.2 ((s2.1).toNat) (vg c_table ((vg s1.2 (((w64 (s2.1 + (w64 (4 * (s2.1.tmod 4))))).tmod 16).toNat)).toNat))).toList)) (cs' := e8 m_2.toList) rfl (congrArg (fun z : Vector (BitVec 8) 16 => e8 (Vector.toList z)) hm_2) ?_
            refine TA_done (by kernel_rfl) ?_ 0
            refine TX_block_normal ?_
            refine TX_next ?_
            refine TC_region ?_
            refine TL_v rfl rfl rfl (V_bin rfl rfl (fun w => addI w s2.1 1)) ?_
            refine TL_v rfl rfl rfl (V_move rfl) ?_
            refine TL_nil ?_
            refine TX.sub (m' := [(0, ptr (some (bc, obc)) 0), (3, ptr (some (b1, 0)) 0), (4, ptr (some (b2, 0)) 0), (6, vi s1.1), (7, ptr (some (b3, 0)) 0), (42, vi (w64 (s2.1 + 1)))]) ⟨rfl, rfl, rfl, rfl, rfl, rfl, trivial⟩ ?_
            refine TX.pull (is := [0, 0, 0]) (L' := [⟨some (b1, 0), e8 s1.2.toList⟩, ⟨some (b2, 0), e8 ((Vector.replicate 16 0#8).toList)⟩, ⟨some (b3, 0), e8 m_2.toList⟩]) rfl ?_
            obtain rfl := Option.some.inj H
            exact fun a w hs => hK (w64 (s2.1 + 1), m_2) rfl () a w hs
          · replace H := ite_f (of_decide_eq_false hc) H
            refine TC_exit ?_
            refine TX_then_exit ?_
            refine TX_then_exit ?_
            refine TX.sub (m' := [(0, ptr (some (bc, obc)) 0), (3, ptr (some (b1, 0)) 0), (4, ptr (some (b2, 0)) 0), (6, vi s1.1), (7, ptr (some (b3, 0)) 0)]) ⟨rfl, rfl, rfl, rfl, rfl, trivial⟩ ?_
            refine TX.pull (is := [0, 0, 0]) (L' := [⟨some (b1, 0), e8 s1.2.toList⟩, ⟨some (b2, 0), e8 ((Vector.replicate 16 0#8).toList)⟩, ⟨some (b3, 0), e8 s2.2.toList⟩]) rfl ?_
            obtain rfl := Option.some.inj H
            exact hE s2.2 rfl ()
        · intro g
          refine TX_block_exit ?_
          refine TX_next ?_
          refine TC_seq ?_
          refine TC_seq ?_
          refine TC_region ?_
          refine TL_v rfl rfl rfl (V_move rfl) ?_
          refine TL_v rfl rfl rfl (V_move rfl) ?_
          refine TL_v rfl rfl rfl (V_nilCheck rfl) ?_
          refine TL_v rfl rfl rfl (V_fieldE rfl Try.underlying124 rfl rfl TryI.inf122 rfl (v := ptr (some (bc, obc + 256)) 0) rfl) ?_
          refine TL_v rfl rfl rfl (V_load rfl (Src.ro (j := 1) rfl) rfl Try.isAgg122) ?_
          refine TL_v rfl rfl rfl (V_len_slice rfl Try.underlying122) ?_
          refine TL_v rfl rfl rfl (V_bin rfl rfl (fun w => subI w ((c_keys).length : Int) 1)) ?_
          refine TL_v rfl rfl rfl (V_bin rfl rfl (fun w => lssI w s1.1 (w64 (((c_keys).length : Int) - 1)))) ?_
          refine TL_nil ?_
          refine TX_next ?_
          obtain ⟨j1, Hj, H⟩ := bind_elim H
          refine TC_join (Γ := Unit) (fun gj1 => [(0, ptr (some (bc, obc)) 0), (3, ptr (some (b1, 0)) 0), (4, ptr (some (b2, 0)) 0), (6, vi s1.1), (7, ptr (some (b3, 0)) 0)]) (fun gj1 => [⟨some (b1, 0), e8 s1.2.toList⟩, ⟨some (b2, 0), e8 ((Vector.replicate 16 0#8).toList)⟩, ⟨some (b3, 0), e8 j1.toList⟩]) ?_ ?_
          · intro gj1
            refine TX_next ?_
            refine TC_seq ?_
            refine TC_region ?_
            refine TL_v rfl rfl rfl (V_move rfl) ?_
            refine TL_nil ?_
            refine TX_next ?_
            refine TC_block ?_
            obtain ⟨t_4, Hl, H⟩ := bind_elim H
            refine TC.sub (m' := [(0, ptr (some (bc, obc)) 0), (3, ptr (some (b1, 0)) 0), (4, ptr (some (b2, 0)) 0), (6, vi s1.1), (7, ptr (some (b3, 0)) 0), (142, vi 0)]) ⟨rfl, rfl, rfl, rfl, rfl, rfl, trivial⟩ ?_
            refine TC.pull (is := [0, 0, 0]) (L' := [⟨some (b1, 0), e8 s1.2.toList⟩, ⟨some (b2, 0), e8 ((Vector.replicate 16 0#8).toList)⟩, ⟨some (b3, 0), e8 j1.toList⟩]) rfl ?_
            refine TC_loopL (id := 8) (body := (aes_Cipher_Encrypt.b3 c_keys s1 j1)) (σ := Int × Vector (BitVec 8) 16) (Γ := Unit) (Γx := Unit) (fun s3 g3_ => [(0, ptr (some (bc, obc)) 0), (3, ptr (some (b1, 0)) 0), (4, ptr (some (b2, 0)) 0), (6, vi s1.1), (7, ptr (some (b3, 0)) 0), (142, vi s3.1)]) (fun s3 g3_ => [⟨some (b1, 0), e8 s3.2.toList⟩, ⟨some (b2, 0), e8 ((Vector.replicate 16 0#8).toList)⟩, ⟨some (b3, 0), e8 j1.toList⟩]) (fun t g => [(0, ptr (some (bc, obc)) 0), (3, ptr (some (b1, 0)) 0), (4, ptr (some (b2, 0)) 0), (6, vi s1.1)]) (fun t g => [⟨some (b1, 0), e8 t.toList⟩, ⟨some (b2, 0), e8 ((Vector.replicate 16 0#8).toList)⟩]) ?_ BIG (0, s1.2) () t_4 Hl ?_
            · intro s3 g3_ r1 H K hK hE
              unfold aes_Cipher_Encrypt.b3 at H
              refine TC_seq ?_
              refine TC_region ?_
              refine TL_v rfl rfl rfl (V_bin rfl rfl (fun w => lssI w s3.1 16)) ?_
              refine TL_nil ?_
              refine TX_next ?_
              refine TC_seq ?_
              refine TC_cond (b := (decide (s3.1 < 16))) rfl (fun hc => ?_) (fun hc => ?_)
              · replace H := ite_t (of_decide_eq_true hc) H
                refine TC_skip ?_
                refine TX_next ?_
                refine TC_seq ?_
                refine TC_block ?_
                refine TC_seq ?_
                refine TC_region ?_
                refine TL_v rfl rfl rfl (V_move rfl) ?_
                refine TL_v rfl rfl rfl (V_assign rfl) ?_
                refine TL_nil ?_
                refine TX_next ?_
                obtain ⟨h7, H⟩ := if_elim H
                obtain ⟨h8, H⟩ := if_elim H
                obtain ⟨h9, H⟩ := if_elim H
                obtain ⟨h10, H⟩ := if_elim H
                obtain ⟨m_3, hm_3, H⟩ := ltt_elim H
                refine TA_begin [⟨some (b1, 0), e8 s3.2.toList⟩, ⟨some (b2, 0), e8 ((Vector.replicate 16 0#8).toList)⟩, ⟨some (b3, 0), e8 j1.toList⟩] 15 (by kernel_rfl) (N := 16) rfl ?_
                refine TA_take (i := 0) (is := [0, 0, 0]) (done' := #[true, false, false, false, false, false, false, false, false, false, false, false, false, false, false, false]) rfl rfl rfl rfl (by kernel_rfl) (QP.block (QP.then (QP.then (QP.block (QP.block (QP.then (QP.then (QP.block (QP.then QP.body))))))))) (by kernel_rfl) rfl (V_move rfl) ?_
                refine TA_take (i := 1) (is := [0, 0, 0]) (done' := #[true, true, false, false, false, false, false, false, false, false, false, false, false, false, false, false]) rfl rfl rfl rfl (by kernel_rfl) (QP.block (QP.then (QP.then (QP.block (QP.block (QP.then (QP.then (QP.block (QP.then QP.body))))))))) (by kernel_rfl) rfl (V_move rfl) ?_
                refine TA_take (i := 2) (is := [0, 0, 0]) (done' := #[true, true, true, false, false, false, false, false, false, false, false, false, false, false, false, false]) rfl rfl rfl rfl (by kernel_rfl) (QP.block (QP.then (QP.then (QP.block (QP.block (QP.then (QP.then (QP.block (QP.then QP.body))))))))) (by kernel_rfl) rfl (V_idxArr (i := s3.1) rfl rfl Try.underlying71 TryI.inf5 rfl h7.1 h7.2 (k := (s3.1).toNat) (k01 _)) ?_
                refine TA_take (i := 3) (is := [0, 0, 0]) (done' := #[true, true, true, true, false, false, false, false, false, false, false, false, false, false, false, false]) rfl rfl rfl rfl (by kernel_rfl) (QP.block (QP.then (QP.then (QP.block (QP.block (QP.then (QP.then (QP.block (QP.then QP.body))))))))) (by kernel_rfl) rfl (V_load rfl (Src.own (j := 2) rfl) (get_vec (f := v8) (V := j1) (toNat_lt h7.1 h7.2)) Try.isAgg5) ?_
                refine TA_take (i := 4) (is := [0, 0, 0]) (done' := #[true, true, true, true, true, false, false, false, false, false, false, false, false, false, false, false]) rfl rfl rfl rfl (by kernel_rfl) (QP.block (QP.then (QP.then (QP.block (QP.block (QP.then (QP.then (QP.block (QP.then QP.body))))))))) (by kernel_rfl) rfl (V_move rfl) ?_
                refine TA_take (i := 5) (is := [0, 0, 0]) (done' := #[true, true, true, true, true, true, false, false, false, false, false, false, false, false, false, false]) rfl rfl rfl rfl (by kernel_rfl) (QP.block (QP.then (QP.then (QP.block (QP.block (QP.then (QP.then (QP.block (QP.then QP.body))))))))) (by kernel_rfl) rfl (V_nilCheck rfl) ?_
                refine TA_take (i := 6) (is := [0, 0, 0]) (done' := #[true, true, true, true, true, true, true, false, false, false, false, false, false, false, false, false]) rfl rfl rfl rfl (by kernel_rfl) (QP.block (QP.then (QP.then (QP.block (QP.block (QP.then (QP.then (QP.block (QP.then QP.body))))))))) (by kernel_rfl) rfl (V_fieldE rfl Try.underlying124 rfl rfl TryI.inf122 rfl (v := ptr (some (bc, obc + 256)) 0) rfl) ?_
                refine TA_take (i := 7) (is := [0, 0, 0]) (done' := #[true, true, true, true, true, true, true, true, false, false, false, false, false, false, false, false]) rfl rfl rfl rfl (by kernel_rfl) (QP.block (QP.then (QP.then (QP.block (QP.block (QP.then (QP.then (QP.block (QP.then QP.body))))))))) (by kernel_rfl) rfl (V_load rfl (Src.ro (j := 1) rfl) rfl Try.isAgg122) ?_
                refine TA_take (i := 8) (is := [0, 0, 0]) (done' := #[true, true, true, true, true, true, true, true, true, false, false, false, false, false, false, false]) rfl rfl rfl rfl (by kernel_rfl) (QP.block (QP.then (QP.then (QP.block (QP.block (QP.then (QP.then (QP.block (QP.then QP.body))))))))) (by kernel_rfl) rfl (V_move rfl) ?_
                refine TA_take (i := 9) (is := [0, 0, 0]) (done' := #[true, true, true, true, true, true, true, true, true, true, false, false, false, false, false, false]) rfl rfl rfl rfl (by kernel_rfl) (QP.block (QP.then (QP.then (QP.block (QP.block (QP.then (QP.then (QP.block (QP.then QP.body))))))))) (by kernel_rfl) rfl (V_move rfl) ?_
                refine TA_take (i := 10) (is := [0, 0, 0]) (done' := #[true, true, true, true, true, true, true, true, true, true, true, false, false, false, false, false]) rfl rfl rfl rfl (by kernel_rfl) (QP.block (QP.then (QP.then (QP.block (QP.block (QP.then (QP.then (QP.block (QP.then QP.body))))))))) (by kernel_rfl) rfl (V_idxSlS (i := s1.1) rfl rfl Try.underlying122 TryI.inf71 rfl (Src.ro (j := 2) rfl) (eF_ne2 (s := 16) (fun _ => by simp) rfl (toNat_lt h8.1 h8.2)) h8.1 h8.2 (k := ((s1.1).toNat) * 16) rfl) ?_
                refine TA_take (i := 11) (is := [0, 0, 0]) (done' := #[true, true, true, true, true, true, true, true, true, true, true, true, false, false, false, false]) rfl rfl rfl rfl (by kernel_rfl) (QP.block (QP.then (QP.then (QP.block (QP.block (QP.then (QP.then (QP.block (QP.then QP.body))))))))) (by kernel_rfl) rfl (V_idxArr (i := s3.1) rfl rfl Try.underlying71 TryI.inf5 rfl h9.1 h9.2 (k := ((s1.1).toNat) * 16 + (s3.1).toNat) (k1 _ _)) ?_
                refine TA_take (i := 12) (is := [0, 0, 0]) (done' := #[true, true, true, true, true, true, true, true, true, true, true, true, true, false, false, false]) rfl rfl rfl rfl (by kernel_rfl) (QP.block (QP.then (QP.then (QP.block (QP.block (QP.then (QP.then (QP.block (QP.then QP.body))))))))) (by kernel_rfl) rfl (V_load rfl (Src.ro (j := 2) rfl) ((get_eF (g := fun V : Vector (BitVec 8) 16 => e8 V.toList) (s := 16) (fun _ => by simp) c_keys ((s1.1).toNat) ((s3.1).toNat) (toNat_lt h8.1 h8.2) (toNat_lt h9.1 h9.2)).trans (get_vec (toNat_lt h9.1 h9.2))) Try.isAgg5) ?_
                refine TA_take (i := 13) (is := [0, 0, 0]) (done' := #[true, true, true, true, true, true, true, true, true, true, true, true, true, true, false, false]) rfl rfl rfl rfl (by kernel_rfl) (QP.block (QP.then (QP.then (QP.block (QP.block (QP.then (QP.then (QP.block (QP.then QP.body))))))))) (by kernel_rfl) rfl (V_bin rfl rfl (fun w => xor8 w (vg j1 ((s3.1).toNat)) (vg (lg c_keys ((s1.1).toNat)) ((s3.1).toNat)))) ?_
                refine TA_take (i := 14) (is := [0, 0, 0]) (done' := #[true, true, true, true, true, true, true, true, true, true, true, true, true, true, true, false]) rfl rfl rfl rfl (by kernel_rfl) (QP.block (QP.then (QP.then (QP.block (QP.block (QP.then (QP.then (QP.block (QP.then QP.body))))))))) (by kernel_rfl) rfl (V_idxArr (i := s3.1) rfl rfl Try.underlying71 TryI.inf5 rfl h10.1 h10.2 (k := (s3.1).toNat) (k01 _)) ?_
                refine TA_all (rs := [15]) (by kernel_rfl) rfl ?_
                refine ⟨?_, trivial⟩
                refine TO_n (is := []) (R := fun _ => []) (done' := #[true, true, true, true, true, true, true, true, true, true, true, true, true, true, true, true]) rfl rfl rfl (by kernel_rfl) (E_store (j := 0) rfl rfl TryI.inf5 rfl rfl rfl (by simpa using (toNat_lt h10.1 h10.2)) (cs' := e8 ((vp s3.2 ((s3.1).toNat) ((vg j1 ((s3.1).toNat)) ^^^ (vg (lg c_keys ((s1.1).toNat)) ((s3.1).toNat)))).toList)) set_vec) (fun h => by cases h) (fun _ => ?_)
                refine TA_reE (j := 0) (A := some (b1, 0)) (cs := e8 ((vp s3.2 ((s3.1).toNat) ((vg j1 ((s3.1).toNat)) ^^^ (vg (lg c_keys ((s1.1).toNat)) ((s3.1).toNat)))).toList)) (cs' := e8 m_3.toList) rfl (congrArg (fun z : Vector (BitVec 8) 16 => e8 (Vector.toList z)) hm_3) ?_
                refine TA_done (by kernel_rfl) ?_ 0
                refine TX_block_normal ?_
                refine TX_next ?_
                refine TC_region ?_
                refine TL_v rfl rfl rfl (V_bin rfl rfl (fun w => addI w s3.1 1)) ?_
                refine TL_v rfl rfl rfl (V_move rfl) ?_
                refine TL_nil ?_
                refine TX.sub (m' := [(0, ptr (some (bc, obc)) 0), (3, ptr (some (b1, 0)) 0), (4, ptr (some (b2, 0)) 0), (6, vi s1.1), (7, ptr (some (b3, 0)) 0), (142, vi (w64 (s3.1 + 1)))]) ⟨rfl, rfl, rfl, rfl, rfl, rfl, trivial⟩ ?_
                refine TX.pull (is := [0, 0, 0]) (L' := [⟨some (b1, 0), e8 m_3.toList⟩, ⟨some (b2, 0), e8 ((Vector.replicate 16 0#8).toList)⟩, ⟨some (b3, 0), e8 j1.toList⟩]) rfl ?_
                obtain rfl := Option.some.inj H
                exact fun a w hs => hK (w64 (s3.1 + 1), m_3) rfl () a w hs
              · replace H := ite_f (of_decide_eq_false hc) H
                refine TC_exit ?_
                refine TX_then_exit ?_
                refine TX_then_exit ?_
                refine TX.sub (m' := [(0, ptr (some (bc, obc)) 0), (3, ptr (some (b1, 0)) 0), (4, ptr (some (b2, 0)) 0), (6, vi s1.1)]) ⟨rfl, rfl, rfl, rfl, trivial⟩ ?_
                refine TX.pull (is := [0, 0]) (L' := [⟨some (b1, 0), e8 s3.2.toList⟩, ⟨some (b2, 0), e8 ((Vector.replicate 16 0#8).toList)⟩]) rfl ?_
                obtain rfl := Option.some.inj H
                exact hE s3.2 rfl ()
            · intro g
              refine TX_block_exit ?_
              refine TX_block_normal ?_
              refine TX_next ?_
              refine TC_region ?_
              refine TL_v rfl rfl rfl (V_move rfl) ?_
              refine TL_v rfl rfl rfl (V_bin rfl rfl (fun w => addI w s1.1 1)) ?_
              refine TL_v rfl rfl rfl (V_assign rfl) ?_
              obtain ⟨round1, hround1, H⟩ := ltt_elim H
              refine TL_re (d := 6) (v := vi (w64 (s1.1 + 1))) (v' := vi round1) rfl (congrArg vi hround1) ?_
              refine TL_nil ?_
              refine TX.sub (m' := [(0, ptr (some (bc, obc)) 0), (3, ptr (some (b1, 0)) 0), (4, ptr (some (b2, 0)) 0), (6, vi round1)]) ⟨rfl, rfl, rfl, rfl, trivial⟩ ?_
              refine TX.pull (is := [0, 0]) (L' := [⟨some (b1, 0), e8 t_4.toList⟩, ⟨some (b2, 0), e8 ((Vector.replicate 16 0#8).toList)⟩]) rfl ?_
              obtain rfl := Option.some.inj H
              exact fun a w hs => hK (round1, t_4) rfl () a w hs
          · intro hJ
            replace H := Hj
            refine TC_cond (b := (decide (s1.1 < (w64 (((c_keys).length : Int) - 1))))) rfl (fun hc => ?_) (fun hc => ?_)
            · replace H := ite_t (of_decide_eq_true hc) H
              refine TC_seq ?_
              refine TC_region ?_
              refine TL_v rfl rfl rfl (V_assign rfl) ?_
              refine TL_nil ?_
              refine TX_next ?_
              refine TC_block ?_
              obtain ⟨t_5, Hl, H⟩ := bind_elim H
              refine TC.sub (m' := [(0, ptr (some (bc, obc)) 0), (3, ptr (some (b1, 0)) 0), (4, ptr (some (b2, 0)) 0), (6, vi s1.1), (7, ptr (some (b3, 0)) 0), (9, vi 0)]) ⟨rfl, rfl, rfl, rfl, rfl, rfl, trivial⟩ ?_
              refine TC.pull (is := [0, 0, 0]) (L' := [⟨some (b1, 0), e8 s1.2.toList⟩, ⟨some (b2, 0), e8 ((Vector.replicate 16 0#8).toList)⟩, ⟨some (b3, 0), e8 t_3.toList⟩]) rfl ?_
              refine TC_loopL (id := 6) (body := (aes_Cipher_Encrypt.b4)) (σ := Int × Vector (BitVec 8) 16) (Γ := Unit) (Γx := Unit) (fun s4 g4_ => [(0, ptr (some (bc, obc)) 0), (3, ptr (some (b1, 0)) 0), (4, ptr (some (b2, 0)) 0), (6, vi s1.1), (7, ptr (some (b3, 0)) 0), (9, vi s4.1)]) (fun s4 g4_ => [⟨some (b1, 0), e8 s1.2.toList⟩, ⟨some (b2, 0), e8 ((Vector.replicate 16 0#8).toList)⟩, ⟨some (b3, 0), e8 s4.2.toList⟩]) (fun t g => [(0, ptr (some (bc, obc)) 0), (3, ptr (some (b1, 0)) 0), (4, ptr (some (b2, 0)) 0), (6, vi s1.1), (7, ptr (some (b3, 0)) 0)]) (fun t g => [⟨some (b1, 0), e8 s1.2.toList⟩, ⟨some (b2, 0), e8 ((Vector.replicate 16 0#8).toList)⟩, ⟨some (b3, 0), e8 t.toList⟩]) ?_ BIG (0, t_3) () t_5 Hl ?_
              · intro s4 g4_ r1 H K hK hE
                unfold aes_Cipher_Encrypt.b4 at H
                refine TC_seq ?_
                refine TC_seq ?_
                refine TC_region ?_
                refine TL_v rfl rfl rfl (V_move rfl) ?_
                refine TL_v rfl rfl rfl (V_bin rfl rfl (fun w => lssI w s4.1 16)) ?_
                refine TL_nil ?_
                refine TX_next ?_
                refine TC_cond (b := (decide (s4.1 < 16))) rfl (fun hc => ?_) (fun hc => ?_)
                · replace H := ite_t (of_decide_eq_true hc) H
                  refine TC_skip ?_
                  refine TX_next ?_
                  refine TC_seq ?_
                  refine TC_block ?_
                  refine TC_seq ?_
                  obtain ⟨h11, H⟩ := if_elim H
                  obtain ⟨h12, H⟩ := if_elim H
                  obtain ⟨h13, H⟩ := if_elim H
                  obtain ⟨h14, H⟩ := if_elim H
                  obtain ⟨p1, hp1, H⟩ := ltt_elim H
                  obtain ⟨q1, hq1, H⟩ := ltt_elim H
                  obtain ⟨r_1, hr_1, H⟩ := ltt_elim H
                  obtain ⟨s_1, hs_1, H⟩ := ltt_elim H
                  refine TA_begin [⟨some (b1, 0), e8 s1.2.toList⟩, ⟨some (b2, 0), e8 ((Vector.replicate 16 0#8).toList)⟩, ⟨some (b3, 0), e8 s4.2.toList⟩] 19 (by kernel_rfl) (N := 19) rfl ?_
                  refine TA_take (i := 0) (is := [0, 0, 0]) (done' := #[true, false, false, false, false, false, false, false, false, false, false, false, false, false, false, false, false, false, false]) rfl rfl rfl rfl (by kernel_rfl) (QP.then (QP.block (QP.then (QP.then (QP.block (QP.then (QP.block (QP.then (QP.then (QP.block (QP.then QP.body))))))))))) (by kernel_rfl) rfl (V_move rfl) ?_
                  refine TA_take (i := 1) (is := [0, 0, 0]) (done' := #[true, true, false, false, false, false, false, false, false, false, false, false, false, false, false, false, false, false, false]) rfl rfl rfl rfl (by kernel_rfl) (QP.then (QP.block (QP.then (QP.then (QP.block (QP.then (QP.block (QP.then (QP.then (QP.block (QP.then QP.body))))))))))) (by kernel_rfl) rfl (V_idxArr (i := s4.1) rfl rfl Try.underlying71 TryI.inf5 rfl h11.1 h11.2 (k := (s4.1).toNat) (k01 _)) ?_
                  refine TA_take (i := 2) (is := [0, 0, 0]) (done' := #[true, true, true, false, false, false, false, false, false, false, false, false, false, false, false, false, false, false, false]) rfl rfl rfl rfl (by kernel_rfl) (QP.then (QP.block (QP.then (QP.then (QP.block (QP.then (QP.block (QP.then (QP.then (QP.block (QP.then QP.body))))))))))) (by kernel_rfl) rfl (V_load rfl (Src.own (j := 2) rfl) (get_vec (f := v8) (V := s4.2) (toNat_lt h11.1 h11.2)) Try.isAgg5) ?_
                  refine TA_take (i := 3) (is := [0, 0, 0]) (done' := #[true, true, true, true, false, false, false, false, false, false, false, false, false, false, false, false, false, false, false]) rfl rfl rfl rfl (by kernel_rfl) (QP.then (QP.block (QP.then (QP.then (QP.block (QP.then (QP.block (QP.then (QP.then (QP.block (QP.then QP.body))))))))))) (by kernel_rfl) rfl (V_move rfl) ?_
                  refine TA_take (i := 4) (is := [0, 0, 0]) (done' := #[true, true, true, true, true, false, false, false, false, false, false, false, false, false, false, false, false, false, false]) rfl rfl rfl rfl (by kernel_rfl) (QP.then (QP.block (QP.then (QP.then (QP.block (QP.then (QP.block (QP.then (QP.then (QP.block (QP.then QP.body))))))))))) (by kernel_rfl) rfl (V_bin rfl rfl (fun w => addI w s4.1 1)) ?_
                  refine TA_take (i := 5) (is := [0, 0, 0]) (done' := #[true, true, true, true, true, true, false, false, false, false, false, false, false, false, false, false, false, false, false]) rfl rfl rfl rfl (by kernel_rfl) (QP.then (QP.block (QP.then (QP.then (QP.block (QP.then (QP.block (QP.then (QP.then (QP.block (QP.then QP.body))))))))))) (by kernel_rfl) rfl (V_idxArr (i := w64 (s4.1 + 1)) rfl rfl Try.underlying71 TryI.inf5 rfl h12.1 h12.2 (k := (w64 (s4.1 + 1)).toNat) (k01 _)) ?_
                  refine TA_take (i := 6) (is := [0, 0, 0]) (done' := #[true, true, true, true, true, true, true, false, false, false, false, false, false, false, false, false, false, false, false]) rfl rfl rfl rfl (by kernel_rfl) (QP.then (QP.block (QP.then (QP.then (QP.block (QP.then (QP.block (QP.then (QP.then (QP.block (QP.then QP.body))))))))))) (by kernel_rfl) rfl (V_load rfl (Src.own (j := 2) rfl) (get_vec (f := v8) (V := s4.2) (toNat_lt h12.1 h12.2)) Try.isAgg5) ?_
                  refine TA_take (i := 7) (is := [0, 0, 0]) (done' := #[true, true, true, true, true, true, true, true, false, false, false, false, false, false, false, false, false, false, false]) rfl rfl rfl rfl (by kernel_rfl) (QP.then (QP.block (QP.then (QP.then (QP.block (QP.then (QP.block (QP.then (QP.then (QP.block (QP.then QP.body))))))))))) (by kernel_rfl) rfl (V_move rfl) ?_
                  refine TA_take (i := 8) (is := [0, 0, 0]) (done' := #[true, true, true, true, true, true, true, true, true, false, false, false, false, false, false, false, false, false, false]) rfl rfl rfl rfl (by kernel_rfl) (QP.then (QP.block (QP.then (QP.then (QP.block (QP.then (QP.block (QP.then (QP.then (QP.block (QP.then QP.body))))))))))) (by kernel_rfl) rfl (V_bin rfl rfl (fun w => addI w s4.1 2)) ?_
                  refine TA_take (i := 9) (is := [0, 0, 0]) (done' := #[true, true, true, true, true, true, true, true, true, true, false, false, false, false, false, false, false, false, false]) rfl rfl rfl rfl (by kernel_rfl) (QP.then (QP.block (QP.then (QP.then (QP.block (QP.then (QP.block (QP.then (QP.then (QP.block (QP.then QP.body))))))))))) (by kernel_rfl) rfl (V_idxArr (i := w64 (s4.1 + 2)) rfl rfl Try.underlying71 TryI.inf5 rfl h13.1 h13.2 (k := (w64 (s4.1 + 2)).toNat) (k01 _)) ?_
                  refine TA_take (i := 10) (is := [0, 0, 0]) (done' := #[true, true, true, true, true, true, true, true, true, true, true, false, false, false, false, false, false, false, false]) rfl rfl rfl rfl (by kernel_rfl) (QP.then (QP.block (QP.then (QP.then (QP.block (QP.then (QP.block (QP.then (QP.then (QP.block (QP.then QP.body))))))))))) (by kernel_rfl) rfl (V_load rfl (Src.own (j := 2) rfl) (get_vec (f := v8) (V := s4.2) (toNat_lt h13.1 h13.2)) Try.isAgg5) ?_
                  refine TA_take (i := 11) (is := [0, 0, 0]) (done' := #[true, true, true, true, true, true, true, true, true, true, true, true, false, false, false, false, false, false, false]) rfl rfl rfl rfl (by kernel_rfl) (QP.then (QP.block (QP.then (QP.then (QP.block (QP.then (QP.block (QP.then (QP.then (QP.block (QP.then QP.body))))))))))) (by kernel_rfl) rfl (V_move rfl) ?_
                  refine TA_take (i := 12) (is := [0, 0, 0]) (done' := #[true, true, true, true, true, true, true, true, true, true, true, true, true, false, false, false, false, false, false]) rfl rfl rfl rfl (by kernel_rfl) (QP.then (QP.block (QP.then (QP.then (QP.block (QP.then (QP.block (QP.then (QP.then (QP.block (QP.then QP.body))))))))))) (by kernel_rfl) rfl (V_bin rfl rfl (fun w => addI w s4.1 3)) ?_
                  refine TA_take (i := 13) (is := [0, 0, 0]) (done' := #[true, true, true, true, true, true, true, true, true, true, true, true, true, true, false, false, false, false, false]) rfl rfl rfl rfl (by kernel_rfl) (QP.then (QP.block (QP.then (QP.then (QP.block (QP.then (QP.block (QP.then (QP.then (QP.block (QP.then QP.body))))))))))) (by kernel_rfl) rfl (V_idxArr (i := w64 (s4.1 + 3)) rfl rfl Try.underlying71 TryI.inf5 rfl h14.1 h14.2 (k := (w64 (s4.1 + 3)).toNat) (k01 _)) ?_
                  refine TA_take (i := 14) (is := [0, 0, 0]) (done' := #[true, true, true, true, true, true, true, true, true, true, true, true, true, true, true, false, false, false, false]) rfl rfl rfl rfl (by kernel_rfl) (QP.then (QP.block (QP.then (QP.then (QP.block (QP.then (QP.block (QP.then (QP.then (QP.block (QP.then QP.body))))))))))) (by kernel_rfl) rfl (V_load rfl (Src.own (j := 2) rfl) (get_vec (f := v8) (V := s4.2) (toNat_lt h14.1 h14.2)) Try.isAgg5) ?_
                  refine TA_take (i := 15) (is := [0, 0, 0]) (done' := #[true, true, true, true, true, true, true, true, true, true, true, true, true, true, true, true, false, false, false]) rfl rfl rfl rfl (by kernel_rfl) (QP.then (QP.block (QP.then (QP.then (QP.block (QP.then (QP.block (QP.then (QP.then (QP.block (QP.then QP.body))))))))))) (by kernel_rfl) rfl (V_assign rfl) ?_
                  refine TA_re (d := 10) (v := v8 (vg s4.2 ((s4.1).toNat))) (v' := v8 p1) rfl (congrArg v8 hp1) ?_
                  refine TA_take (i := 16) (is := [0, 0, 0]) (done' := #[true, true, true, true, true, true, true, true, true, true, true, true, true, true, true, true, true, false, false]) rfl rfl rfl rfl (by kernel_rfl) (QP.then (QP.block (QP.then (QP.then (QP.block (QP.then (QP.block (QP.then (QP.then (QP.block (QP.then QP.body))))))))))) (by kernel_rfl) rfl (V_assign rfl) ?_
                  refine TA_re (d := 11) (v := v8 (vg s4.2 ((w64 (s4.1 + 1)).toNat))) (v' := v8 q1) rfl (congrArg v8 hq1) ?_
                  refine TA_take (i := 17) (is := [0, 0, 0]) (done' := #[true, true, true, true, true, true, true, true, true, true, true, true, true, true, true, true, true, true, false]) rfl rfl rfl rfl (by kernel_rfl) (QP.then (QP.block (QP.then (QP.then (QP.block (QP.then (QP.block (QP.then (QP.then (QP.block (QP.then QP.body))))))))))) (by kernel_rfl) rfl (V_assign rfl) ?_
                  refine TA_re (d := 12) (v := v8 (vg s4.2 ((w64 (s4.1 + 2)).toNat))) (v' := v8 r_1) rfl (congrArg v8 hr_1) ?_
                  refine TA_take (i := 18) (is := [0, 0, 0]) (done' := #[true, true, true, true, true, true, true, true, true, true, true, true, true, true, true, true, true, true, true]) rfl rfl rfl rfl (by kernel_rfl) (QP.then (QP.block (QP.then (QP.then (QP.block (QP.then (QP.block (QP.then (QP.then (QP.block (QP.then QP.body))))))))))) (by kernel_rfl) rfl (V_assign rfl) ?_
                  refine TA_re (d := 13) (v := v8 (vg s4.2 ((w64 (s4.1 + 3)).toNat))) (v' := v8 s_1) rfl (congrArg v8 hs_1) ?_
                  refine TA_done (by kernel_rfl) ?_ 0
                  refine TX_next ?_
                  refine TC.sub (m' := [(0, ptr (some (bc, obc)) 0), (3, ptr (some (b1, 0)) 0), (4, ptr (some (b2, 0)) 0), (6, vi s1.1), (7, ptr (some (b3, 0)) 0), (9, vi s4.1), (10, v8 p1), (11, v8 q1), (12, v8 r_1), (13, v8 s_1)]) ⟨rfl, rfl, rfl, rfl, rfl, rfl, rfl, rfl, rfl, rfl, trivial⟩ ?_
                  refine TC_seq ?_
                  refine TC_region ?_
                  refine TL_v rfl rfl rfl (V_move rfl) ?_
                  refine TL_v rfl rfl rfl (V_move rfl) ?_
                  refine TL_v rfl rfl rfl (V_bin rfl rfl (fun w => xor8 w p1 q1)) ?_
                  refine TL_v rfl rfl rfl (V_move rfl) ?_
                  refine TL_v rfl rfl rfl (V_bin rfl rfl (fun w => xor8 w (p1 ^^^ q1) r_1)) ?_
                  refine TL_v rfl rfl rfl (V_move rfl) ?_
                  refine TL_v rfl rfl rfl (V_bin rfl rfl (fun w => xor8 w ((p1 ^^^ q1) ^^^ r_1) s_1)) ?_
                  refine TL_v rfl rfl rfl (V_assign rfl) ?_
                  obtain ⟨all1, hall1, H⟩ := ltt_elim H
                  refine TL_re (d := 14) (v := v8 (((p1 ^^^ q1) ^^^ r_1) ^^^ s_1)) (v' := v8 all1) rfl (congrArg v8 hall1) ?_
                  refine TL_nil ?_
                  refine TX_next ?_
                  refine TC_seq ?_
                  obtain ⟨h15, H⟩ := if_elim H
                  obtain ⟨r_2, hr_2, H⟩ := bind_elim H
                  obtain ⟨h16, H⟩ := if_elim H
                  obtain ⟨m_4, hm_4, H⟩ := ltt_elim H
                  refine TA_begin [⟨some (b1, 0), e8 s1.2.toList⟩, ⟨some (b2, 0), e8 ((Vector.replicate 16 0#8).toList)⟩, ⟨some (b3, 0), e8 s4.2.toList⟩] 11 (by kernel_rfl) (N := 12) rfl ?_
                  refine TA_take (i := 0) (is := [0, 0, 0]) (done' := #[true, false, false, false, false, false, false, false, false, false, false, false]) rfl rfl rfl rfl (by kernel_rfl) (QP.then (QP.block (QP.then (QP.then (QP.block (QP.then (QP.block (QP.then (QP.then (QP.block (QP.then QP.body))))))))))) (by kernel_rfl) rfl (V_move rfl) ?_
                  refine TA_take (i := 1) (is := [0, 0, 0]) (done' := #[true, true, false, false, false, false, false, false, false, false, false, false]) rfl rfl rfl rfl (by kernel_rfl) (QP.then (QP.block (QP.then (QP.then (QP.block (QP.then (QP.block (QP.then (QP.then (QP.block (QP.then QP.body))))))))))) (by kernel_rfl) rfl (V_idxArr (i := s4.1) rfl rfl Try.underlying71 TryI.inf5 rfl h15.1 h15.2 (k := (s4.1).toNat) (k01 _)) ?_
                  refine TA_take (i := 2) (is := [0, 0, 0]) (done' := #[true, true, true, false, false, false, false, false, false, false, false, false]) rfl rfl rfl rfl (by kernel_rfl) (QP.then (QP.block (QP.then (QP.then (QP.block (QP.then (QP.block (QP.then (QP.then (QP.block (QP.then QP.body))))))))))) (by kernel_rfl) rfl (V_load rfl (Src.own (j := 2) rfl) (get_vec (f := v8) (V := s4.2) (toNat_lt h15.1 h15.2)) Try.isAgg5) ?_
                  refine TA_take (i := 3) (is := [0, 0, 0]) (done' := #[true, true, true, true, false, false, false, false, false, false, false, false]) rfl rfl rfl rfl (by kernel_rfl) (QP.then (QP.block (QP.then (QP.then (QP.block (QP.then (QP.block (QP.then (QP.then (QP.block (QP.then QP.body))))))))))) (by kernel_rfl) rfl (V_move rfl) ?_
                  refine TA_take (i := 4) (is := [0, 0, 0]) (done' := #[true, true, true, true, true, false, false, false, false, false, false, false]) rfl rfl rfl rfl (by kernel_rfl) (QP.then (QP.block (QP.then (QP.then (QP.block (QP.then (QP.block (QP.then (QP.then (QP.block (QP.then QP.body))))))))))) (by kernel_rfl) rfl (V_move rfl) ?_
                  refine TA_take (i := 5) (is := [0, 0, 0]) (done' := #[true, true, true, true, true, true, false, false, false, false, false, false]) rfl rfl rfl rfl (by kernel_rfl) (QP.then (QP.block (QP.then (QP.then (QP.block (QP.then (QP.block (QP.then (QP.then (QP.block (QP.then QP.body))))))))))) (by kernel_rfl) rfl (V_move rfl) ?_
                  refine TA_take (i := 6) (is := [0, 0, 0]) (done' := #[true, true, true, true, true, true, true, false, false, false, false, false]) rfl rfl rfl rfl (by kernel_rfl) (QP.then (QP.block (QP.then (QP.then (QP.block (QP.then (QP.block (QP.then (QP.then (QP.block (QP.then QP.body))))))))))) (by kernel_rfl) rfl (V_bin rfl rfl (fun w => xor8 w p1 q1)) ?_
                  refine TA_all (rs := [7]) (by kernel_rfl) rfl ?_
                  refine ⟨?_, trivial⟩
                  refine TO_e (is := [0, 0, 0]) (done' := #[true, true, true, true, true, true, true, true, false, false, false, false]) rfl rfl rfl rfl (by kernel_rfl) (E_call (Γ := Unit) (val := fun g => v8 r_2) (mem := fun g => []) (vs := [v8 (p1 ^^^ q1)]) (Lin := []) (Ro := []) (is := []) rfl Try.call82 (F82_calls (p1 ^^^ q1) r_2 hr_2) rfl trivial) (fun _ _ => rfl) (fun g_1 => ?_)
                  refine TA_take (i := 8) (is := [0, 0, 0]) (done' := #[true, true, true, true, true, true, true, true, true, false, false, false]) rfl rfl rfl rfl (by kernel_rfl) (QP.then (QP.block (QP.then (QP.then (QP.block (QP.then (QP.block (QP.then (QP.then (QP.block (QP.then QP.body))))))))))) (by kernel_rfl) rfl (V_bin rfl rfl (fun w => xor8 w all1 r_2)) ?_
                  refine TA_take (i := 9) (is := [0, 0, 0]) (done' := #[true, true, true, true, true, true, true, true, true, true, false, false]) rfl rfl rfl rfl (by kernel_rfl) (QP.then (QP.block (QP.then (QP.then (QP.block (QP.then (QP.block (QP.then (QP.then (QP.block (QP.then QP.body))))))))))) (by kernel_rfl) rfl (V_bin rfl rfl (fun w => xor8 w (vg s4.2 ((s4.1).toNat)) (all1 ^^^ r_2))) ?_
                  refine TA_take (i := 10) (is := [0, 0, 0]) (done' := #[true, true, true, true, true, true, true, true, true, true, true, false]) rfl rfl rfl rfl (by kernel_rfl) (QP.then (QP.block (QP.then (QP.then (QP.block (QP.then (QP.block (QP.then (QP.then (QP.block (QP.then QP.body))))))))))) (by kernel_rfl) rfl (V_idxArr (i := s4.1) rfl rfl Try.underlying71 TryI.inf5 rfl h16.1 h16.2 (k := (s4.1).toNat) (k01 _)) ?_
                  refine TA_all (rs := [11]) (by kernel_rfl) rfl ?_
                  refine ⟨?_, trivial⟩
                  refine TO_n (is := []) (R := fun _ => []) (done' := #[true, true, true, true, true, true, true, true, true, true, true, true]) rfl rfl rfl (by kernel_rfl) (E_store (j := 2) rfl rfl TryI.inf5 rfl rfl rfl (by simpa using (toNat_lt h16.1 h16.2)) (cs' := e8 ((vp s4.2 ((s4.1).toNat) ((vg s4.2 ((s4.1).toNat)) ^^^ (all1 ^^^ r_2))).toList)) set_vec) (fun h => by cases h) (fun _ => ?_)
                  refine TA_reE (j := 2) (A := some (b3, 0)) (cs := e8 ((vp s4.2 ((s4.1).toNat) ((vg s4.2 ((s4.1).toNat)) ^^^ (all1 ^^^ r_2))).toList)) (cs' := e8 m_4.toList) rfl (congrArg (fun z : Vector (BitVec 8) 16 => e8 (Vector.toList z)) hm_4) ?_
                  refine TA_done (by kernel_rfl) ?_ 0
                  refine TX_next ?_
                  refine TC_seq ?_
                  obtain ⟨h17, H⟩ := if_elim H
                  obtain ⟨r_3, hr_3, H⟩ := bind_elim H
                  obtain ⟨h18, H⟩ := if_elim H
                  obtain ⟨m_5, hm_5, H⟩ := ltt_elim H
                  refine TA_begin [⟨some (b1, 0), e8 s1.2.toList⟩, ⟨some (b2, 0), e8 ((Vector.replicate 16 0#8).toList)⟩, ⟨some (b3, 0), e8 m_4.toList⟩] 12 (by kernel_rfl) (N := 13) rfl ?_
                  refine TA_take (i := 0) (is := [0, 0, 0]) (done' := #[true, false, false, false, false, false, false, false, false, false, false, false, false]) rfl rfl rfl rfl (by kernel_rfl) (QP.then (QP.block (QP.then (QP.then (QP.block (QP.then (QP.block (QP.then (QP.then (QP.block (QP.then QP.body))))))))))) (by kernel_rfl) rfl (V_move rfl) ?_
                  refine TA_take (i := 1) (is := [0, 0, 0]) (done' := #[true, true, false, false, false, false, false, false, false, false, false, false, false]) rfl rfl rfl rfl (by kernel_rfl) (QP.then (QP.block (QP.then (QP.then (QP.block (QP.then (QP.block (QP.then (QP.then (QP.block (QP.then QP.body))))))))))) (by kernel_rfl) rfl (V_bin rfl rfl (fun w => addI w s4.1 1)) ?_
                  refine TA_take (i := 2) (is := [0, 0, 0]) (done' := #[true, true, true, false, false, false, false, false, false, false, false, false, false]) rfl rfl rfl rfl (by kernel_rfl) (QP.then (QP.block (QP.then (QP.then (QP.block (QP.then (QP.block (QP.then (QP.then (QP.block (QP.then QP.body))))))))))) (by kernel_rfl) rfl (V_idxArr (i := w64 (s4.1 + 1)) rfl rfl Try.underlying71 TryI.inf5 rfl h17.1 h17.2 (k := (w64 (s4.1 + 1)).toNat) (k01 _)) ?_
                  refine TA_take (i := 3) (is := [0, 0, 0]) (done' := #[true, true, true, true, false, false, false, false, false, false, false, false, false]) rfl rfl rfl rfl (by kernel_rfl) (QP.then (QP.block (QP.then (QP.then (QP.block (QP.then (QP.block (QP.then (QP.then (QP.block (QP.then QP.body))))))))))) (by kernel_rfl) rfl (V_load rfl (Src.own (j := 2) rfl) (get_vec (f := v8) (V := m_4) (toNat_lt h17.1 h17.2)) Try.isAgg5) ?_
                  refine TA_take (i := 4) (is := [0, 0, 0]) (done' := #[true, true, true, true, true, false, false, false, false, false, false, false, false]) rfl rfl rfl rfl (by kernel_rfl) (QP.then (QP.block (QP.then (QP.then (QP.block (QP.then (QP.block (QP.then (QP.then (QP.block (QP.then QP.body))))))))))) (by kernel_rfl) rfl (V_move rfl) ?_
                  refine TA_take (i := 5) (is := [0, 0, 0]) (done' := #[true, true, true, true, true, true, false, false, false, false, false, false, false]) rfl rfl rfl rfl (by kernel_rfl) (QP.then (QP.block (QP.then (QP.then (QP.block (QP.then (QP.block (QP.then (QP.then (QP.block (QP.then QP.body))))))))))) (by kernel_rfl) rfl (V_move rfl) ?_
                  refine TA_take (i := 6) (is := [0, 0, 0]) (done' := #[true, true, true, true, true, true, true, false, false, false, false, false, false]) rfl rfl rfl rfl (by kernel_rfl) (QP.then (QP.block (QP.then (QP.then (QP.block (QP.then (QP.block (QP.then (QP.then (QP.block (QP.then QP.body))))))))))) (by kernel_rfl) rfl (V_move rfl) ?_
                  refine TA_take (i := 7) (is := [0, 0, 0]) (done' := #[true, true, true, true, true, true, true, true, false, false, false, false, false]) rfl rfl rfl rfl (by kernel_rfl) (QP.then (QP.block (QP.then (QP.then (QP.block (QP.then (QP.block (QP.then (QP.then (QP.block (QP.then QP.body))))))))))) (by kernel_rfl) rfl (V_bin rfl rfl (fun w => xor8 w q1 r_1)) ?_
                  refine TA_all (rs := [8]) (by kernel_rfl) rfl ?_
                  refine ⟨?_, trivial⟩
                  refine TO_e (is := [0, 0, 0]) (done' := #[true, true, true, true, true, true, true, true, true, false, false, false, false]) rfl rfl rfl rfl (by kernel_rfl) (E_call (Γ := Unit) (val := fun g => v8 r_3) (mem := fun g => []) (vs := [v8 (q1 ^^^ r_1)]) (Lin := []) (Ro := []) (is := []) rfl Try.call82 (F82_calls (q1 ^^^ r_1) r_3 hr_3) rfl trivial) (fun _ _ => rfl) (fun g_2 => ?_)
                  refine TA_take (i := 9) (is := [0, 0, 0]) (done' := #[true, true, true, true, true, true, true, true, true, true, false, false, false]) rfl rfl rfl rfl (by kernel_rfl) (QP.then (QP.block (QP.then (QP.then (QP.block (QP.then (QP.block (QP.then (QP.then (QP.block (QP.then QP.body))))))))))) (by kernel_rfl) rfl (V_bin rfl rfl (fun w => xor8 w all1 r_3)) ?_
                  refine TA_take (i := 10) (is := [0, 0, 0]) (done' := #[true, true, true, true, true, true, true, true, true, true, true, false, false]) rfl rfl rfl rfl (by kernel_rfl) (QP.then (QP.block (QP.then (QP.then (QP.block (QP.then (QP.block (QP.then (QP.then (QP.block (QP.then QP.body))))))))))) (by kernel_rfl) rfl (V_bin rfl rfl (fun w => xor8 w (vg m_4 ((w64 (s4.1 + 1)).toNat)) (all1 ^^^ r_3))) ?_
                  refine TA_take (i := 11) (is := [0, 0, 0]) (done' := #[true, true, true, true, true, true, true, true, true, true, true, true, false]) rfl rfl rfl rfl (by kernel_rfl) (QP.then (QP.block (QP.then (QP.then (QP.block (QP.then (QP.block (QP.then (QP.then (QP.block (QP.then QP.body))))))))))) (by kernel_rfl) rfl (V_idxArr (i := w64 (s4.1 + 1)) rfl rfl Try.underlying71 TryI.inf5 rfl h18.1 h18.2 (k := (w64 (s4.1 + 1)).toNat) (k01 _)) ?_
                  refine TA_all (rs := [12]) (by kernel_rfl) rfl ?_
                  refine ⟨?_, trivial⟩
                  refine TO_n (is := []) (R := fun _ => []) (done' := #[true, true, true, true, true, true, true, true, true, true, true, true, true]) rfl rfl rfl (by kernel_rfl) (E_store (j := 2) rfl rfl TryI.inf5 rfl rfl rfl (by simpa using (toNat_lt h18.1 h18.2)) (cs' := e8 ((vp m_4 ((w64 (s4.1 + 1)).toNat) ((vg m_4 ((w64 (s4.1 + 1)).toNat)) ^^^ (all1 ^^^ r_3))).toList)) set_vec) (fun h => by cases h) (fun _ => ?_)
                  refine TA_reE (j := 2) (A := some (b3, 0)) (cs := e8 ((vp m_4 ((w64 (s4.1 + 1)).toNat) ((vg m_4 ((w64 (s4.1 + 1)).toNat)) ^^^ (all1 ^^^ r_3))).toList)) (cs' := e8 m_5.toList) rfl (congrArg (fun z : Vector (BitVec 8) 16 => e8 (Vector.toList z)) hm_5) ?_
                  refine TA_done (by kernel_rfl) ?_ 0
                  refine TX_next ?_
                  refine TC.sub (m' := [(0, ptr (some (bc, obc)) 0), (3, ptr (some (b1, 0)) 0), (4, ptr (some (b2, 0)) 0), (6, vi s1.1), (7, ptr (some (b3, 0)) 0), (9, vi s4.1), (10, v8 p1), (12, v8 r_1), (13, v8 s_1), (14, v8 all1)]) ⟨rfl, rfl, rfl, rfl, rfl, rfl, rfl, rfl, rfl, rfl, trivial⟩ ?_
                  refine TC_seq ?_
                  obtain ⟨h19, H⟩ := if_elim H
                  obtain ⟨r_4, hr_4, H⟩ := bind_elim H
                  obtain ⟨h20, H⟩ := if_elim H
                  obtain ⟨m_6, hm_6, H⟩ := ltt_elim H
                  refine TA_begin [⟨some (b1, 0), e8 s1.2.toList⟩, ⟨some (b2, 0), e8 ((Vector.replicate 16 0#8).toList)⟩, ⟨some (b3, 0), e8 m_5.toList⟩] 12 (by kernel_rfl) (N := 13) rfl ?_
                  refine TA_take (i := 0) (is := [0, 0, 0]) (done' := #[true, false, false, false, false, false, false, false, false, false, false, false, false]) rfl rfl rfl rfl (by kernel_rfl) (QP.then (QP.block (QP.then (QP.then (QP.block (QP.then (QP.block (QP.then (QP.then (QP.block (QP.then QP.body))))))))))) (by kernel_rfl) rfl (V_move rfl) ?_
                  refine TA_take (i := 1) (is := [0, 0, 0]) (done' := #[true, true, false, false, false, false, false, false, false, false, false, false, false]) rfl rfl rfl rfl (by kernel_rfl) (QP.then (QP.block (QP.then (QP.then (QP.block (QP.then (QP.block (QP.then (QP.then (QP.block (QP.then QP.body))))))))))) (by kernel_rfl) rfl (V_bin rfl rfl (fun w => addI w s4.1 2)) ?_
                  refine TA_take (i := 2) (is := [0, 0, 0]) (done' := #[true, true, true, false, false, false, false, false, false, false, false, false, false]) rfl rfl rfl rfl (by kernel_rfl) (QP.then (QP.block (QP.then (QP.then (QP.block (QP.then (QP.block (QP.then (QP.then (QP.block (QP.then QP.body))))))))))) (by kernel_rfl) rfl (V_idxArr (i := w64 (s4.1 + 2)) rfl rfl Try.underlying71 TryI.inf5 rfl h19.1 h19.2 (k := (w64 (s4.1 + 2)).toNat) (k01 _)) ?_
                  refine TA_take (i := 3) (is := [0, 0, 0]) (done' := #[true, true, true, true, false, false, false, false, false, false, false, false, false]) rfl rfl rfl rfl (by kernel_rfl) (QP.then (QP.block (QP.then (QP.then (QP.block (QP.then (QP.block (QP.then (QP.then (QP.block (QP.then QP.body))))))))))) (by kernel_rfl) rfl (V_load rfl (Src.own (j := 2) rfl) (get_vec (f := v8) (V := m_5) (toNat_lt h19.1 h19.2)) Try.isAgg5) ?_
                  refine TA_take (i := 4) (is := [0, 0, 0]) (done' := #[true, true, true, true, true, false, false, false, false, false, false, false, false]) rfl rfl rfl rfl (by kernel_rfl) (QP.then (QP.block (QP.then (QP.then (QP.block (QP.then (QP.block (QP.then (QP.then (QP.block (QP.then QP.body))))))))))) (by kernel_rfl) rfl (V_move rfl) ?_
                  refine TA_take (i := 5) (is := [0, 0, 0]) (done' := #[true, true, true, true, true, true, false, false, false, false, false, false, false]) rfl rfl rfl rfl (by kernel_rfl) (QP.then (QP.block (QP.then (QP.then (QP.block (QP.then (QP.block (QP.then (QP.then (QP.block (QP.then QP.body))))))))))) (by kernel_rfl) rfl (V_move rfl) ?_
                  refine TA_take (i := 6) (is := [0, 0, 0]) (done' := #[true, true, true, true, true, true, true, false, false, false, false, false, false]) rfl rfl rfl rfl (by kernel_rfl) (QP.then (QP.block (QP.then (QP.then (QP.block (QP.then (QP.block (QP.then (QP.then (QP.block (QP.then QP.body))))))))))) (by kernel_rfl) rfl (V_move rfl) ?_
                  refine TA_take (i := 7) (is := [0, 0, 0]) (done' := #[true, true, true, true, true, true, true, true, false, false, false, false, false]) rfl rfl rfl rfl (by kernel_rfl) (QP.then (QP.block (QP.then (QP.then (QP.block (QP.then (QP.block (QP.then (QP.then (QP.block (QP.then QP.body))))))))))) (by kernel_rfl) rfl (V_bin rfl rfl (fun w => xor8 w r_1 s_1)) ?_
                  refine TA_all (rs := [8]) (by kernel_rfl) rfl ?_
                  refine ⟨?_, trivial⟩
                  refine TO_e (is := [0, 0, 0]) (done' := #[true, true, true, true, true, true, true, true, true, false, false, false, false]) rfl rfl rfl rfl (by kernel_rfl) (E_call (Γ := Unit) (val := fun g => v8 r_4) (mem := fun g => []) (vs := [v8 (r_1 ^^^ s_1)]) (Lin := []) (Ro := []) (is := []) rfl Try.call82 (F82_calls (r_1 ^^^ s_1) r_4 hr_4) rfl trivial) (fun _ _ => rfl) (fun g_3 => ?_)
                  refine TA_take (i := 9) (is := [0, 0, 0]) (done' := #[true, true, true, true, true, true, true, true, true, true, false, false, false]) rfl rfl rfl rfl (by kernel_rfl) (QP.then (QP.block (QP.then (QP.then (QP.block (QP.then (QP.block (QP.then (QP.then (QP.block (QP.then QP.body))))))))))) (by kernel_rfl) rfl (V_bin rfl rfl (fun w => xor8 w all1 r_4)) ?_
                  refine TA_take (i := 10) (is := [0, 0, 0]) (done' := #[true, true, true, true, true, true, true, true, true, true, true, false, false]) rfl rfl rfl rfl (by kernel_rfl) (QP.then (QP.block (QP.then (QP.then (QP.block (QP.then (QP.block (QP.then (QP.then (QP.block (QP.then QP.body))))))))))) (by kernel_rfl) rfl (V_bin rfl rfl (fun w => xor8 w (vg m_5 ((w64 (s4.1 + 2)).toNat)) (all1 ^^^ r_4))) ?_
                  refine TA_take (i := 11) (is := [0, 0, 0]) (done' := #[true, true, true, true, true, true, true, true, true, true, true, true, false]) rfl rfl rfl rfl (by kernel_rfl) (QP.then (QP.block (QP.then (QP.then (QP.block (QP.then (QP.block (QP.then (QP.then (QP.block (QP.then QP.body))))))))))) (by kernel_rfl) rfl (V_idxArr (i := w64 (s4.1 + 2)) rfl rfl Try.underlying71 TryI.inf5 rfl h20.1 h20.2 (k := (w64 (s4.1 + 2)).toNat) (k01 _)) ?_
                  refine TA_all (rs := [12]) (by kernel_rfl) rfl ?_
                  refine ⟨?_, trivial⟩
                  refine TO_n (is := []) (R := fun _ => []) (done' := #[true, true, true, true, true, true, true, true, true, true, true, true, true]) rfl rfl rfl (by kernel_rfl) (E_store (j := 2) rfl rfl TryI.inf5 rfl rfl rfl (by simpa using (toNat_lt h20.1 h20.2)) (cs' := e8 ((vp m_5 ((w64 (s4.1 + 2)).toNat) ((vg m_5 ((w64 (s4.1 + 2)).toNat)) ^^^ (all1 ^^^ r_4))).toList)) set_vec) (fun h => by cases h) (fun _ => ?_)
                  refine TA_reE (j := 2) (A := some (b3, 0)) (cs := e8 ((vp m_5 ((w64 (s4.1 + 2)).toNat) ((vg m_5 ((w64 (s4.1 + 2)).toNat)) ^^^ (all1 ^^^ r_4))).toList)) (cs' := e8 m_6.toList) rfl (congrArg (fun z : Vector (BitVec 8) 16 => e8 (Vector.toList z)) hm_6) ?_
                  refine TA_done (by kernel_rfl) ?_ 0
                  refine TX_next ?_
                  obtain ⟨h21, H⟩ := if_elim H
                  obtain ⟨r_5, hr_5, H⟩ := bind_elim H
                  obtain ⟨h22, H⟩ := if_elim H
                  obtain ⟨m_7, hm_7, H⟩ := ltt_elim H
                  refine TA_begin [⟨some (b1, 0), e8 s1.2.toList⟩, ⟨some (b2, 0), e8 ((Vector.replicate 16 0#8).toList)⟩, ⟨some (b3, 0), e8 m_6.toList⟩] 12 (by kernel_rfl) (N := 13) rfl ?_
                  refine TA_take (i := 0) (is := [0, 0, 0]) (done' := #[true, false, false, false, false, false, false, false, false, false, false, false, false]) rfl rfl rfl rfl (by kernel_rfl) (QP.block (QP.then (QP.then (QP.block (QP.then (QP.block (QP.then (QP.then (QP.block (QP.then QP.body)))))))))) (by kernel_rfl) rfl (V_move rfl) ?_
                  refine TA_take (i := 1) (is := [0, 0, 0]) (done' := #[true, true, false, false, false, false, false, false, false, false, false, false, false]) rfl rfl rfl rfl (by kernel_rfl) (QP.block (QP.then (QP.then (QP.block (QP.then (QP.block (QP.then (QP.then (QP.block (QP.then QP.body)))))))))) (by kernel_rfl) rfl (V_bin rfl rfl (fun w => addI w s4.1 3)) ?_
                  refine TA_take (i := 2) (is := [0, 0, 0]) (done' := #[true, true, true, false, false, false, false, false, false, false, false, false, false]) rfl rfl rfl rfl (by kernel_rfl) (QP.block (QP.then (QP.then (QP.block (QP.then (QP.block (QP.then (QP.then (QP.block (QP.then QP.body)))))))))) (by kernel_rfl) rfl (V_idxArr (i := w64 (s4.1 + 3)) rfl rfl Try.underlying71 TryI.inf5 rfl h21.1 h21.2 (k := (w64 (s4.1 + 3)).toNat) (k01 _)) ?_
                  refine TA_take (i := 3) (is := [0, 0, 0]) (done' := #[true, true, true, true, false, false, false, false, false, false, false, false, false]) rfl rfl rfl rfl (by kernel_rfl) (QP.block (QP.then (QP.then (QP.block (QP.then (QP.block (QP.then (QP.then (QP.block (QP.then QP.body)))))))))) (by kernel_rfl) rfl (V_load rfl (Src.own (j := 2) rfl) (get_vec (f := v8) (V := m_6) (toNat_lt h21.1 h21.2)) Try.isAgg5) ?_
                  refine TA_take (i := 4) (is := [0, 0, 0]) (done' := #[true, true, true, true, true, false, false, false, false, false, false, false, false]) rfl rfl rfl rfl (by kernel_rfl) (QP.block (QP.then (QP.then (QP.block (QP.then (QP.block (QP.then (QP.then (QP.block (QP.then QP.body)))))))))) (by kernel_rfl) rfl (V_move rfl) ?_
                  refine TA_take (i := 5) (is := [0, 0, 0]) (done' := #[true, true, true, true, true, true, false, false, false, false, false, false, false]) rfl rfl rfl rfl (by kernel_rfl) (QP.block (QP.then (QP.then (QP.block (QP.then (QP.block (QP.then (QP.then (QP.block (QP.then QP.body)))))))))) (by kernel_rfl) rfl (V_move rfl) ?_
                  refine TA_take (i := 6) (is := [0, 0, 0]) (done' := #[true, true, true, true, true, true, true, false, false, false, false, false, false]) rfl rfl rfl rfl (by kernel_rfl) (QP.block (QP.then (QP.then (QP.block (QP.then (QP.block (QP.then (QP.then (QP.block (QP.then QP.body)))))))))) (by kernel_rfl) rfl (V_move rfl) ?_
                  refine TA_take (i := 7) (is := [0, 0, 0]) (done' := #[true, true, true, true, true, true, true, true, false, false, false, false, false]) rfl rfl rfl rfl (by kernel_rfl) (QP.block (QP.then (QP.then (QP.block (QP.then (QP.block (QP.then (QP.then (QP.block (QP.then QP.body)))))))))) (by kernel_rfl) rfl (V_bin rfl rfl (fun w => xor8 w s_1 p1)) ?_
                  refine TA_all (rs := [8]) (by kernel_rfl) rfl ?_
                  refine ⟨?_, trivial⟩
                  refine TO_e (is := [0, 0, 0]) (done' := #[true, true, true, true, true, true, true, true, true, false, false, false, false]) rfl rfl rfl rfl (by kernel_rfl) (E_call (Γ := Unit) (val := fun g => v8 r_5) (mem := fun g => []) (vs := [v8 (s_1 ^^^ p1)]) (Lin := []) (Ro := []) (is := []) rfl Try.call82 (F82_calls (s_1 ^^^ p1) r_5 hr_5) rfl trivial) (fun _ _ => rfl) (fun g_4 => ?_)
                  refine TA_take (i := 9) (is := [0, 0, 0]) (done' := #[true, true, true, true, true, true, true, true, true, true, false, false, false]) rfl rfl rfl rfl (by kernel_rfl) (QP.block (QP.then (QP.then (QP.block (QP.then (QP.block (QP.then (QP.then (QP.block (QP.then QP.body)))))))))) (by kernel_rfl) rfl (V_bin rfl rfl (fun w => xor8 w all1 r_5)) ?_
                  refine TA_take (i := 10) (is := [0, 0, 0]) (done' := #[true, true, true, true, true, true, true, true, true, true, true, false, false]) rfl rfl rfl rfl (by kernel_rfl) (QP.block (QP.then (QP.then (QP.block (QP.then (QP.block (QP.then (QP.then (QP.block (QP.then QP.body)))))))))) (by kernel_rfl) rfl (V_bin rfl rfl (fun w => xor8 w (vg m_6 ((w64 (s4.1 + 3)).toNat)) (all1 ^^^ r_5))) ?_
                  refine TA_take (i := 11) (is := [0, 0, 0]) (done' := #[true, true, true, true, true, true, true, true, true, true, true, true, false]) rfl rfl rfl rfl (by kernel_rfl) (QP.block (QP.then (QP.then (QP.block (QP.then (QP.block (QP.then (QP.then (QP.block (QP.then QP.body)))))))))) (by kernel_rfl) rfl (V_idxArr (i := w64 (s4.1 + 3)) rfl rfl Try.underlying71 TryI.inf5 rfl h22.1 h22.2 (k := (w64 (s4.1 + 3)).toNat) (k01 _)) ?_
                  refine TA_all (rs := [12]) (by kernel_rfl) rfl ?_
                  refine ⟨?_, trivial⟩
                  refine TO_n (is := []) (R := fun _ => []) (done' := #[true, true, true, true, true, true, true, true, true, true, true, true, true]) rfl rfl rfl (by kernel_rfl) (E_store (j := 2) rfl rfl TryI.inf5 rfl rfl rfl (by simpa using (toNat_lt h22.1 h22.2)) (cs' := e8 ((vp m_6 ((w64 (s4.1 + 3)).toNat) ((vg m_6 ((w64 (s4.1 + 3)).toNat)) ^^^ (all1 ^^^ r_5))).toList)) set_vec) (fun h => by cases h) (fun _ => ?_)
                  refine TA_reE (j := 2) (A := some (b3, 0)) (cs := e8 ((vp m_6 ((w64 (s4.1 + 3)).toNat) ((vg m_6 ((w64 (s4.1 + 3)).toNat)) ^^^ (all1 ^^^ r_5))).toList)) (cs' := e8 m_7.toList) rfl (congrArg (fun z : Vector (BitVec 8) 16 => e8 (Vector.toList z)) hm_7) ?_
                  refine TA_done (by kernel_rfl) ?_ 0
                  refine TX_block_normal ?_
                  refine TX_next ?_
                  refine TC.sub (m' := [(0, ptr (some (bc, obc)) 0), (3, ptr (some (b1, 0)) 0), (4, ptr (some (b2, 0)) 0), (6, vi s1.1), (7, ptr (some (b3, 0)) 0), (9, vi s4.1)]) ⟨rfl, rfl, rfl, rfl, rfl, rfl, trivial⟩ ?_
                  refine TC_region ?_
                  refine TL_v rfl rfl rfl (V_move rfl) ?_
                  refine TL_v rfl rfl rfl (V_bin rfl rfl (fun w => addI w s4.1 4)) ?_
                  refine TL_v rfl rfl rfl (V_assign rfl) ?_
                  obtain ⟨i1, hi1, H⟩ := ltt_elim H
                  refine TL_re (d := 9) (v := vi (w64 (s4.1 + 4))) (v' := vi i1) rfl (congrArg vi hi1) ?_
                  refine TL_nil ?_
                  refine TX.sub (m' := [(0, ptr (some (bc, obc)) 0), (3, ptr (some (b1, 0)) 0), (4, ptr (some (b2, 0)) 0), (6, vi s1.1), (7, ptr (some (b3, 0)) 0), (9, vi i1)]) ⟨rfl, rfl, rfl, rfl, rfl, rfl, trivial⟩ ?_
                  refine TX.pull (is := [0, 0, 0]) (L' := [⟨some (b1, 0), e8 s1.2.toList⟩, ⟨some (b2, 0), e8 ((Vector.replicate 16 0#8).toList)⟩, ⟨some (b3, 0), e8 m_7.toList⟩]) rfl ?_
                  obtain rfl := Option.some.inj H
                  exact fun a w hs => hK (i1, m_7) rfl () a w hs
                · replace H := ite_f (of_decide_eq_false hc) H
                  refine TC_exit ?_
                  refine TX_then_exit ?_
                  refine TX_then_exit ?_
                  refine TX.sub (m' := [(0, ptr (some (bc, obc)) 0), (3, ptr (some (b1, 0)) 0), (4, ptr (some (b2, 0)) 0), (6, vi s1.1), (7, ptr (some (b3, 0)) 0)]) ⟨rfl, rfl, rfl, rfl, rfl, trivial⟩ ?_
                  refine TX.pull (is := [0, 0, 0]) (L' := [⟨some (b1, 0), e8 s1.2.toList⟩, ⟨some (b2, 0), e8 ((Vector.replicate 16 0#8).toList)⟩, ⟨some (b3, 0), e8 s4.2.toList⟩]) rfl ?_
                  obtain rfl := Option.some.inj H
                  exact hE s4.2 rfl ()
              · intro g
                refine TX_block_exit ?_
                refine TX.sub (m' := [(0, ptr (some (bc, obc)) 0), (3, ptr (some (b1, 0)) 0), (4, ptr (some (b2, 0)) 0), (6, vi s1.1), (7, ptr (some (b3, 0)) 0)]) ⟨rfl, rfl, rfl, rfl, rfl, trivial⟩ ?_
                refine TX.pull (is := [0, 0, 0]) (L' := [⟨some (b1, 0), e8 s1.2.toList⟩, ⟨some (b2, 0), e8 ((Vector.replicate 16 0#8).toList)⟩, ⟨some (b3, 0), e8 t_5.toList⟩]) rfl ?_
                obtain rfl := Option.some.inj H
                exact hJ ()
            · replace H := ite_f (of_decide_eq_false hc) H
              refine TC_skip ?_
              refine TX.sub (m' := [(0, ptr (some (bc, obc)) 0), (3, ptr (some (b1, 0)) 0), (4, ptr (some (b2, 0)) 0), (6, vi s1.1), (7, ptr (some (b3, 0)) 0)]) ⟨rfl, rfl, rfl, rfl, rfl, trivial⟩ ?_
              refine TX.pull (is := [0, 0, 0]) (L' := [⟨some (b1, 0), e8 s1.2.toList⟩, ⟨some (b2, 0), e8 ((Vector.replicate 16 0#8).toList)⟩, ⟨some (b3, 0), e8 t_3.toList⟩]) rfl ?_
              obtain rfl := Option.some.inj H
              exact hJ ()
      · replace H := ite_f (of_decide_eq_false hc) H
        refine TC_exit ?_
        refine TX_then_exit ?_
        refine TX_then_exit ?_
        refine TX.sub (m' := [(3, ptr (some (b1, 0)) 0), (4, ptr (some (b2, 0)) 0)]) ⟨rfl, rfl, trivial⟩ ?_
        refine TX.pull (is := [0, 0]) (L' := [⟨some (b1, 0), e8 s1.2.toList⟩, ⟨some (b2, 0), e8 ((Vector.replicate 16 0#8).toList)⟩]) rfl ?_
        obtain rfl := Option.some.inj H
        exact hE s1.2 rfl ()
    · intro g
      refine TX_block_exit ?_
      refine TX_next ?_
      refine TC_seq ?_
      refine TC_region ?_
      refine TL_v rfl rfl rfl (V_loadAgg (n := 16) rfl (by simp) (Src.own (j := 0) rfl) Try.isAgg71 TryI.inf71 rfl (lenV (f := v8) t_2)) ?_
      refine TL_n rfl rfl (E_storeAgg (n := 16) (j := 1) (vs := e8 t_2.toList) rfl rfl TryI.inf71 rfl (lenV (f := v8) t_2) (OneC.map (fun _ => rfl) _) rfl (Nat.le_of_eq (by simp)) (cs' := e8 t_2.toList) (splice_all (by simp))) (fun _ => ?_)
      refine TL_nil ?_
      refine TX_next ?_
      refine TC_ret ?_
      have hrv := Option.some.inj H
      subst hrv
      exact TX_ret (rs := [.cell 4 71]) (vs := [Value.agg (flat [(16, e8 t_2.toList)]).toArray]) rfl ⟨(Res_agg (n := 16) rfl (by simp) (Src.own (j := 1) rfl) Try.isAgg71 TryI.inf71 rfl (lenV (f := v8) t_2)), trivial⟩ (fun w' hs' => ⟨(), rfl, Step.left (Step.pulled (is := []) (A := []) hs' rfl)⟩)

end Go.Proofs
end

section
namespace Go.Proofs
open Go Go.Kx
set_option linter.unusedVariables false
set_option linter.unusedSimpArgs false
def halberdref4_cipher.k1 : Str := ([99#8, 124#8, 119#8, 123#8, 242#8, 107#8, 111#8, 197#8, 48#8, 1#8, 103#8, 43#8, 254#8, 215#8, 171#8, 118#8, 202#8, 130#8, 201#8, 125#8, 250#8, 89#8, 71#8, 240#8, 173#8, 212#8, 162#8, 175#8, 156#8, 164#8, 114#8, 192#8, 183#8, 253#8, 147#8, 38#8, 54#8, 63#8, 247#8, 204#8, 52#8, 165#8, 229#8, 241#8, 113#8, 216#8, 49#8, 21#8, 4#8, 199#8, 35#8, 195#8, 24#8, 150#8, 5#8, 154#8, 7#8, 18#8, 128#8, 226#8, 235#8, 39#8, 178#8, 117#8, 9#8, 131#8, 44#8, 26#8, 27#8, 110#8, 90#8, 160#8, 82#8, 59#8, 214#8, 179#8, 41#8, 227#8, 47#8, 132#8, 83#8, 209#8, 0#8, 237#8, 32#8, 252#8, 177#8, 91#8, 106#8, 203#8, 190#8, 57#8, 74#8, 76#8, 88#8, 207#8, 208#8, 239#8, 170#8, 251#8, 67#8, 77#8, 51#8, 133#8, 69#8, 249#8, 2#8, 127#8, 80#8, 60#8, 159#8, 168#8, 81#8, 163#8, 64#8, 143#8, 146#8, 157#8, 56#8, 245#8, 188#8, 182#8, 218#8, 33#8, 16#8, 255#8, 243#8, 210#8, 205#8, 12#8, 19#8, 236#8, 95#8, 151#8, 68#8, 23#8, 196#8, 167#8, 126#8, 61#8, 100#8, 93#8, 25#8, 115#8, 96#8, 129#8, 79#8, 220#8, 34#8, 42#8, 144#8, 136#8, 70#8, 238#8, 184#8, 20#8, 222#8, 94#8, 11#8, 219#8, 224#8, 50#8, 58#8, 10#8, 73#8, 6#8, 36#8, 92#8, 194#8, 211#8, 172#8, 98#8, 145#8, 149#8, 228#8, 121#8, 231#8, 200#8, 55#8, 109#8, 141#8, 213#8, 78#8, 169#8, 108#8, 86#8, 244#8, 234#8, 101#8, 122#8, 174#8, 8#8, 186#8, 120#8, 37#8, 46#8, 28#8, 166#8, 180#8, 198#8, 232#8, 221#8, 116#8, 31#8, 75#8, 189#8, 139#8, 138#8, 112#8, 62#8, 181#8, 102#8, 72#8, 3#8, 246#8, 14#8, 97#8, 53#8, 87#8, 185#8, 134#8, 193#8, 29#8, 158#8, 225#8, 248#8, 152#8, 17#8, 105#8, 217#8, 142#8, 148#8, 155#8, 30#8, 135#8, 233#8, 206#8, 85#8, 40#8, 223#8, 140#8, 161#8, 137#8, 13#8, 191#8, 230#8, 66#8, 104#8, 65#8, 153#8, 45#8, 15#8, 176#8, 84#8, 187#8, 22#8] : Str)

def halberdref4_cipher.b0 (w_ : List (Vector (BitVec 8) 4)) (s_ : Str) (s0 : Int × Vector (BitVec 8) 16) : Option ((Int × Vector (BitVec 8) 16) ⊕ (Vector (BitVec 8) 16)) :=
  if s0.1 < 16 then (if 0 ≤ s0.1 ∧ s0.1 < ((s_).length : Int) then (if 0 ≤ w64 (s0.1.tdiv 4) ∧ w64 (s0.1.tdiv 4) < ((w_).length : Int) then (if 0 ≤ s0.1.tmod 4 ∧ s0.1.tmod 4 < (4 : Int) then (if 0 ≤ s0.1 ∧ s0.1 < (16 : Int) then (ltt (vp s0.2 ((s0.1).toNat) ((sg s_ s0.1) ^^^ (vg (lg w_ ((w64 (s0.1.tdiv 4)).toNat)) ((s0.1.tmod 4).toNat)))) fun (m_1 : Vector (BitVec 8) 16) => (ltt (w64 (s0.1 + 1)) fun (i1 : Int) => (some (.inl (i1, m_1))))) else none) else none) else none) else none) else (some (.inr s0.2))

def halberdref4_cipher.b2 (s1 : Int × Vector (BitVec 8) 16) (s2 : Int × Vector (BitVec 8) 16) : Option ((Int × Vector (BitVec 8) 16) ⊕ (Vector (BitVec 8) 16)) :=
  if s2.1 < 16 then (if 0 ≤ (w64 (s2.1 + (w64 (4 * (s2.1.tmod 4))))).tmod 16 ∧ (w64 (s2.1 + (w64 (4 * (s2.1.tmod 4))))).tmod 16 < (16 : Int) then (if 0 ≤ ((vg s1.2 (((w64 (s2.1 + (w64 (4 * (s2.1.tmod 4))))).tmod 16).toNat)).toNat : Int) ∧ ((vg s1.2 (((w64 (s2.1 + (w64 (4 * (s2.1.tmod 4))))).tmod 16).toNat)).toNat : Int) < ((halberdref4_cipher.k1).length : Int) then (if 0 ≤ s2.1 ∧ s2.1 < (16 : Int) then (ltt (vp s2.2 ((s2.1).toNat) (sg halberdref4_cipher.k1 ((vg s1.2 (((w64 (s2.1 + (w64 (4 * (s2.1.tmod 4))))).tmod 16).toNat)).toNat : Int))) fun (m_2 : Vector (BitVec 8) 16) => (ltt (w64 (s2.1 + 1)) fun (i2 : Int) => (some (.inl (i2, m_2))))) else none) else none) else none) else (some (.inr s2.2))

def halberdref4_cipher.b3 (w_ : List (Vector (BitVec 8) 4)) (s1 : Int × Vector (BitVec 8) 16) (j1 : Vector (BitVec 8) 16) (s3 : Int × Vector (BitVec 8) 16) : Option ((Int × Vector (BitVec 8) 16) ⊕ (Vector (BitVec 8) 16)) :=
  if s3.1 < 16 then (if 0 ≤ s3.1 ∧ s3.1 < (16 : Int) then (if 0 ≤ w64 ((w64 (4 * s1.1)) + (w64 (s3.1.tdiv 4))) ∧ w64 ((w64 (4 * s1.1)) + (w64 (s3.1.tdiv 4))) < ((w_).length : Int) then (if 0 ≤ s3.1.tmod 4 ∧ s3.1.tmod 4 < (4 : Int) then (if 0 ≤ s3.1 ∧ s3.1 < (16 : Int) then (ltt (vp s3.2 ((s3.1).toNat) ((vg j1 ((s3.1).toNat)) ^^^ (vg (lg w_ ((w64 ((w64 (4 * s1.1)) + (w64 (s3.1.tdiv 4)))).toNat)) ((s3.1.tmod 4).toNat)))) fun (m_3 : Vector (BitVec 8) 16) => (ltt (w64 (s3.1 + 1)) fun (i3 : Int) => (some (.inl (i3, m_3))))) else none) else none) else none) else none) else (some (.inr s3.2))

def halberdref4_cipher.b5 (s4 : Int × Vector (BitVec 8) 16) (all1 : BitVec 8) (s5 : Int × Vector (BitVec 8) 16) : Option ((Int × Vector (BitVec 8) 16) ⊕ (Vector (BitVec 8) 16)) :=
  if s5.1 < 3 then (if 0 ≤ w64 (s4.1 + s5.1) ∧ w64 (s4.1 + s5.1) < (16 : Int) then (if 0 ≤ w64 (s4.1 + s5.1) ∧ w64 (s4.1 + s5.1) < (16 : Int) then (if 0 ≤ w64 ((w64 (s4.1 + s5.1)) + 1) ∧ w64 ((w64 (s4.1 + s5.1)) + 1) < (16 : Int) then ((halberdref4_double ((vg s5.2 ((w64 (s4.1 + s5.1)).toNat)) ^^^ (vg s5.2 ((w64 ((w64 (s4.1 + s5.1)) + 1)).toNat)))).bind fun (r_2 : BitVec 8) => (if 0 ≤ w64 (s4.1 + s5.1) ∧ w64 (s4.1 + s5.1) < (16 : Int) then (ltt (vp s5.2 ((w64 (s4.1 + s5.1)).toNat) (((vg s5.2 ((w64 (s4.1 + s5.1)).toNat)) ^^^ all1) ^^^ r_2)) fun (m_4 : Vector (BitVec 8) 16) => (ltt (w64 (s5.1 + 1)) fun (i4 : Int) => (some (.inl (i4, m_4))))) else none)) else none) else none) else none) else (some (.inr s5.2))

def halberdref4_cipher.b4  (s4 : Int × Vector (BitVec 8) 16) : Option ((Int × Vector (BitVec 8) 16) ⊕ (Vector (BitVec 8) 16)) :=
  if s4.1 < 16 then (if 0 ≤ s4.1 ∧ s4.1 < (16 : Int) then (if 0 ≤ w64 (s4.1 + 1) ∧ w64 (s4.1 + 1) < (16 : Int) then (if 0 ≤ w64 (s4.1 + 2) ∧ w64 (s4.1 + 2) < (16 : Int) then (if 0 ≤ w64 (s4.1 + 3) ∧ w64 (s4.1 + 3) < (16 : Int) then (ltt ((((vg s4.2 ((s4.1).toNat)) ^^^ (vg s4.2 ((w64 (s4.1 + 1)).toNat))) ^^^ (vg s4.2 ((w64 (s4.1 + 2)).toNat))) ^^^ (vg s4.2 ((w64 (s4.1 + 3)).toNat))) fun (all1 : BitVec 8) => (if 0 ≤ s4.1 ∧ s4.1 < (16 : Int) then (ltt (vg s4.2 ((s4.1).toNat)) fun (first1 : BitVec 8) => ((loop (halberdref4_cipher.b5 s4 all1) BIG (0, s4.2)).bind fun (t_6 : Vector (BitVec 8) 16) => (if 0 ≤ w64 (s4.1 + 3) ∧ w64 (s4.1 + 3) < (16 : Int) then (if 0 ≤ w64 (s4.1 + 3) ∧ w64 (s4.1 + 3) < (16 : Int) then ((halberdref4_double ((vg t_6 ((w64 (s4.1 + 3)).toNat)) ^^^ first1)).bind fun (r_3 : BitVec 8) => (if 0 ≤ w64 (s4.1 + 3) ∧ w64 (s4.1 + 3) < (16 : Int) then (ltt (vp t_6 ((w64 (s4.1 + 3)).toNat) (((vg t_6 ((w64 (s4.1 + 3)).toNat)) ^^^ all1) ^^^ r_3)) fun (m_5 : Vector (BitVec 8) 16) => (ltt (w64 (s4.1 + 4)) fun (c1 : Int) => (some (.inl (c1, m_5))))) else none)) else none) else none))) else none)) else none) else none) else none) else none) else (some (.inr s4.2))

def halberdref4_cipher.b1 (w_ : List (Vector (BitVec 8) 4)) (rounds1 : Int) (s1 : Int × Vector (BitVec 8) 16) : Option ((Int × Vector (BitVec 8) 16) ⊕ (Vector (BitVec 8) 16)) :=
  if s1.1 ≤ rounds1 then ((loop (halberdref4_cipher.b2 s1) BIG (0, Vector.replicate 16 0#8)).bind fun (t_3 : Vector (BitVec 8) 16) => ((if s1.1 < rounds1 then ((loop (halberdref4_cipher.b4) BIG (0, t_3)).bind fun (t_5 : Vector (BitVec 8) 16) => (some t_5)) else (some t_3)).bind fun (j1 : Vector (BitVec 8) 16) => ((loop (halberdref4_cipher.b3 w_ s1 j1) BIG (0, s1.2)).bind fun (t_4 : Vector (BitVec 8) 16) => (ltt (w64 (s1.1 + 1)) fun (r_1 : Int) => (some (.inl (r_1, t_4))))))) else (some (.inr s1.2))

def halberdref4_cipher (w_ : List (Vector (BitVec 8) 4)) (s_ : Str) : Option (Str) :=
  (loop (halberdref4_cipher.b0 w_ s_) BIG (0, Vector.replicate 16 0#8)).bind fun (t_1 : Vector (BitVec 8) 16) => (ltt (w64 ((w64 (((w_).length : Int).tdiv 4)) - 1)) fun (rounds1 : Int) => ((loop (halberdref4_cipher.b1 w_ rounds1) BIG (1, t_1)).bind fun (t_2 : Vector (BitVec 8) 16) => (some t_2.toList)))

set_option maxHeartbeats 4000000 in
set_option maxRecDepth 20000 in
theorem F52_calls (Aw_ : Adr) (cw_ : Nat) (w_ : List (Vector (BitVec 8) 4)) (s_ : Str) (hcw_ : (w_).length ≤ cw_) (r : Str) (H : halberdref4_cipher w_ s_ = some r) :
    Does Try.prog 52 [sl Aw_ ((w_).length) cw_, vs s_] [] [⟨Aw_, eF (fun V : Vector (BitVec 8) 4 => e8 V.toList) w_⟩] (Γ := Unit) (fun g => vs r) (fun g => []) := by
  intro w hmem hro hd
  refine calls_of (N := 155) (m0 := [(0, sl Aw_ ((w_).length) cw_), (1, vs s_)]) Try.func52 rfl Try.ntmps52 (argM_ok [sl Aw_ ((w_).length) cw_, vs s_]) rfl hmem hro hd ?_
  unfold halberdref4_cipher at H
  refine TC_seq ?_
  refine TC_region ?_
  refine TL_v rfl rfl rfl (V_assign rfl) ?_
  refine TL_nil ?_
  refine TX_next ?_
  refine TC_seq ?_
  refine TC_region ?_
  refine TL_e rfl rfl rfl (E_allocP [(16, e8 ((Vector.replicate 16 0#8).toList))] TryI.inf71 TryI.zer71 ⟨(lenV (f := v8) (Vector.replicate 16 0#8)), trivial⟩) (fun b1 => ?_)
  refine TL_nil ?_
  refine TX_next ?_
  refine TC_seq ?_
  refine TC_seq ?_
  refine TC_region ?_
  refine TL_v rfl rfl rfl (V_assign rfl) ?_
  refine TL_nil ?_
  refine TX_next ?_
  refine TC_block ?_
  obtain ⟨t_1, Hl, H⟩ := bind_elim H
  refine TC.sub (m' := [(0, sl Aw_ ((w_).length) cw_), (1, vs s_), (5, ptr (some (b1, 0)) 0), (6, vi 0)]) ⟨rfl, rfl, rfl, rfl, trivial⟩ ?_
  refine TC.pull (is := [0]) (L' := [⟨some (b1, 0), e8 ((Vector.replicate 16 0#8).toList)⟩]) rfl ?_
  refine TC_loopL (id := 0) (body := (halberdref4_cipher.b0 w_ s_)) (σ := Int × Vector (BitVec 8) 16) (Γ := Unit) (Γx := Unit) (fun s0 g0_ => [(0, sl Aw_ ((w_).length) cw_), (1, vs s_), (5, ptr (some (b1, 0)) 0), (6, vi s0.1)]) (fun s0 g0_ => [⟨some (b1, 0), e8 s0.2.toList⟩]) (fun t g => [(0, sl Aw_ ((w_).length) cw_), (5, ptr (some (b1, 0)) 0)]) (fun t g => [⟨some (b1, 0), e8 t.toList⟩]) ?_ BIG (0, Vector.replicate 16 0#8) () t_1 Hl ?_
  · intro s0 g0_ r1 H K hK hE
    unfold halberdref4_cipher.b0 at H
    refine TC_seq ?_
    refine TC_seq ?_
    refine TC_region ?_
    refine TL_v rfl rfl rfl (V_move rfl) ?_
    refine TL_v rfl rfl rfl (V_bin rfl rfl (fun w => lssI w s0.1 16)) ?_
    refine TL_nil ?_
    refine TX_next ?_
    refine TC_cond (b := (decide (s0.1 < 16))) rfl (fun hc => ?_) (fun hc => ?_)
    · replace H := ite_t (of_decide_eq_true hc) H
      refine TC_skip ?_
      refine TX_next ?_
      refine TC_seq ?_
      refine TC_block ?_
      obtain ⟨h1, H⟩ := if_elim H
      obtain ⟨h2, H⟩ := if_elim H
      obtain ⟨h3, H⟩ := if_elim H
      obtain ⟨h4, H⟩ := if_elim H
      obtain ⟨m_1, hm_1, H⟩ := ltt_elim H
      refine TA_begin [⟨some (b1, 0), e8 s0.2.toList⟩] 14 (by kernel_rfl) (N := 15) rfl ?_
      refine TA_take (i := 0) (is := [0]) (done' := #[true, false, false, false, false, false, false, false, false, false, false, false, false, false, false]) rfl rfl rfl rfl (by kernel_rfl) (QP.block (QP.then (QP.then (QP.block (QP.then QP.body))))) (by kernel_rfl) rfl (V_move rfl) ?_
      refine TA_take (i := 1) (is := [0]) (done' := #[true, true, false, false, false, false, false, false, false, false, false, false, false, false, false]) rfl rfl rfl rfl (by kernel_rfl) (QP.block (QP.then (QP.then (QP.block (QP.then QP.body))))) (by kernel_rfl) rfl (V_move rfl) ?_
      refine TA_take (i := 2) (is := [0]) (done' := #[true, true, true, false, false, false, false, false, false, false, false, false, false, false, false]) rfl rfl rfl rfl (by kernel_rfl) (QP.block (QP.then (QP.then (QP.block (QP.then QP.body))))) (by kernel_rfl) rfl (V_move rfl) ?_
      refine TA_take (i := 3) (is := [0]) (done' := #[true, true, true, true, false, false, false, false, false, false, false, false, false, false, false]) rfl rfl rfl rfl (by kernel_rfl) (QP.block (QP.then (QP.then (QP.block (QP.then QP.body))))) (by kernel_rfl) rfl (V_idxStr rfl rfl (i := s0.1) Try.underlying9 h1.1 h1.2) ?_
      refine TA_take (i := 4) (is := [0]) (done' := #[true, true, true, true, true, false, false, false, false, false, false, false, false, false, false]) rfl rfl rfl rfl (by kernel_rfl) (QP.block (QP.then (QP.then (QP.block (QP.then QP.body))))) (by kernel_rfl) rfl (V_move rfl) ?_
      refine TA_take (i := 5) (is := [0]) (done' := #[true, true, true, true, true, true, false, false, false, false, false, false, false, false, false]) rfl rfl rfl rfl (by kernel_rfl) (QP.block (QP.then (QP.then (QP.block (QP.then QP.body))))) (by kernel_rfl) rfl (V_move rfl) ?_
      refine TA_take (i := 6) (is := [0]) (done' := #[true, true, true, true, true, true, true, false, false, false, false, false, false, false, false]) rfl rfl rfl rfl (by kernel_rfl) (QP.block (QP.then (QP.then (QP.block (QP.then QP.body))))) (by kernel_rfl) rfl (V_bin rfl rfl (fun w => quoI w s0.1 4 (by decide))) ?_
      refine TA_take (i := 7) (is := [0]) (done' := #[true, true, true, true, true, true, true, true, false, false, false, false, false, false, false]) rfl rfl rfl rfl (by kernel_rfl) (QP.block (QP.then (QP.then (QP.block (QP.then QP.body))))) (by kernel_rfl) rfl (V_move rfl) ?_
      refine TA_take (i := 8) (is := [0]) (done' := #[true, true, true, true, true, true, true, true, true, false, false, false, false, false, false]) rfl rfl rfl rfl (by kernel_rfl) (QP.block (QP.then (QP.then (QP.block (QP.then QP.body))))) (by kernel_rfl) rfl (V_bin rfl rfl (fun w => remI w s0.1 4 (by decide))) ?_
      refine TA_take (i := 9) (is := [0]) (done' := #[true, true, true, true, true, true, true, true, true, true, false, false, false, false, false]) rfl rfl rfl rfl (by kernel_rfl) (QP.block (QP.then (QP.then (QP.block (QP.then QP.body))))) (by kernel_rfl) rfl (V_idxSlS (i := w64 (s0.1.tdiv 4)) rfl rfl Try.underlying74 TryI.inf125 rfl (Src.ro (j := 0) rfl) (eF_ne2 (s := 4) (fun _ => by simp) rfl (toNat_lt h2.1 h2.2)) h2.1 h2.2 (k := ((w64 (s0.1.tdiv 4)).toNat) * 4) rfl) ?_
      refine TA_take (i := 10) (is := [0]) (done' := #[true, true, true, true, true, true, true, true, true, true, true, false, false, false, false]) rfl rfl rfl rfl (by kernel_rfl) (QP.block (QP.then (QP.then (QP.block (QP.then QP.body))))) (by kernel_rfl) rfl (V_idxArr (i := s0.1.tmod 4) rfl rfl Try.underlying125 TryI.inf5 rfl h3.1 h3.2 (k := ((w64 (s0.1.tdiv 4)).toNat) * 4 + (s0.1.tmod 4).toNat) (k1 _ _)) ?_
      refine TA_take (i := 11) (is := [0]) (done' := #[true, true, true, true, true, true, true, true, true, true, true, true, false, false, false]) rfl rfl rfl rfl (by kernel_rfl) (QP.block (QP.then (QP.then (QP.block (QP.then QP.body))))) (by kernel_rfl) rfl (V_load rfl (Src.ro (j := 0) rfl) ((get_eF (g := fun V : Vector (BitVec 8) 4 => e8 V.toList) (s := 4) (fun _ => by simp) w_ ((w64 (s0.1.tdiv 4)).toNat) ((s0.1.tmod 4).toNat) (toNat_lt h2.1 h2.2) (toNat_lt h3.1 h3.2)).trans (get_vec (toNat_lt h3.1 h3.2))) Try.isAgg5) ?_
      refine TA_take (i := 12) (is := [0]) (done' := #[true, true, true, true, true, true, true, true, true, true, true, true, true, false, false]) rfl rfl rfl rfl (by kernel_rfl) (QP.block (QP.then (QP.then (QP.block (QP.then QP.body))))) (by kernel_rfl) rfl (V_bin rfl rfl (fun w => xor8 w (sg s_ s0.1) (vg (lg w_ ((w64 (s0.1.tdiv 4)).toNat)) ((s0.1.tmod 4).toNat)))) ?_
      refine TA_take (i := 13) (is := [0]) (done' := #[true, true, true, true, true, true, true, true, true, true, true, true, true, true, false]) rfl rfl rfl rfl (by kernel_rfl) (QP.block (QP.then (QP.then (QP.block (QP.then QP.body))))) (by kernel_rfl) rfl (V_idxArr (i := s0.1) rfl rfl Try.underlying71 TryI.inf5 rfl h4.1 h4.2 (k := (s0.1).toNat) (k01 _)) ?_
      refine TA_all (rs := [14]) (by kernel_rfl) rfl ?_
      refine ⟨?_, trivial⟩
      refine TO_n (is := []) (R := fun _ => []) (done' := #[true, true, true, true, true, true, true, true, true, true, true, true, true, true, true]) rfl rfl rfl (by kernel_rfl) (E_store (j := 0) rfl rfl TryI.inf5 rfl rfl rfl (by simpa using (toNat_lt h4.1 h4.2)) (cs' := e8 ((vp s0.2 ((s0.1).toNat) ((sg s_ s0.1) ^^^ (vg (lg w_ ((w64 (s0.1.tdiv 4)).toNat)) ((s0.1.tmod 4).toNat)))).toList)) set_vec) (fun h => by cases h) (fun _ => ?_)
      refine TA_reE (j := 0) (A := some (b1, 0)) (cs := e8 ((vp s0.2 ((s0.1).toNat) ((sg s_ s0.1) ^^^ (vg (lg w_ ((w64 (s0.1.tdiv 4)).toNat)) ((s0.1.tmod 4).toNat)))).toList)) (cs' := e8 m_1.toList) rfl (congrArg (fun z : Vector (BitVec 8) 16 => e8 (Vector.toList z)) hm_1) ?_
      refine TA_done (by kernel_rfl) ?_ 0
      refine TX_block_normal ?_
      refine TX_next ?_
      refine TC_region ?_
      refine TL_v rfl rfl rfl (V_move rfl) ?_
      refine TL_v rfl rfl rfl (V_bin rfl rfl (fun w => addI w s0.1 1)) ?_
      refine TL_v rfl rfl rfl (V_assign rfl) ?_
      obtain ⟨i1, hi1, H⟩ := ltt_elim H
      refine TL_re (d := 6) (v := vi (w64 (s0.1 + 1))) (v' := vi i1) rfl (congrArg vi hi1) ?_
      refine TL_nil ?_
      refine TX.sub (m' := [(0, sl Aw_ ((w_).length) cw_), (1, vs s_), (5, ptr (some (b1, 0)) 0), (6, vi i1)]) ⟨rfl, rfl, rfl, rfl, trivial⟩ ?_
      refine TX.pull (is := [0]) (L' := [⟨some (b1, 0), e8 m_1.toList⟩]) rfl ?_
      obtain rfl := Option.some.inj H
      exact fun a w hs => hK (i1, m_1) rfl () a w hs
    · replace H := ite_f (of_decide_eq_false hc) H
      refine TC_exit ?_
      refine TX_then_exit ?_
      refine TX_then_exit ?_
      refine TX.sub (m' := [(0, sl Aw_ ((w_).length) cw_), (5, ptr (some (b1, 0)) 0)]) ⟨rfl, rfl, trivial⟩ ?_
      refine TX.pull (is := [0]) (L' := [⟨some (b1, 0), e8 s0.2.toList⟩]) rfl ?_
      obtain rfl := Option.some.inj H
      exact hE s0.2 rfl ()
  · intro g
    refine TX_block_exit ?_
    refine TX_next ?_
    refine TC_seq ?_
    refine TC_region ?_
    refine TL_v rfl rfl rfl (V_move rfl) ?_
    refine TL_v rfl rfl rfl (V_len_slice rfl Try.underlying74) ?_
    refine TL_v rfl rfl rfl (V_bin rfl rfl (fun w => quoI w ((w_).length : Int) 4 (by decide))) ?_
    refine TL_v rfl rfl rfl (V_bin rfl rfl (fun w => subI w (w64 (((w_).length : Int).tdiv 4)) 1)) ?_
    refine TL_v rfl rfl rfl (V_assign rfl) ?_
    obtain ⟨rounds1, hrounds1, H⟩ := ltt_elim H
    refine TL_re (d := 7) (v := vi (w64 ((w64 (((w_).length : Int).tdiv 4)) - 1))) (v' := vi rounds1) rfl (congrArg vi hrounds1) ?_
    refine TL_nil ?_
    refine TX_next ?_
    refine TC_seq ?_
    refine TC_seq ?_
    refine TC_region ?_
    refine TL_v rfl rfl rfl (V_assign rfl) ?_
    refine TL_nil ?_
    refine TX_next ?_
    refine TC_block ?_
    obtain ⟨t_2, Hl, H⟩ := bind_elim H
    refine TC.sub (m' := [(0, sl Aw_ ((w_).length) cw_), (5, ptr (some (b1, 0)) 0), (7, vi rounds1), (8, vi 1)]) ⟨rfl, rfl, rfl, rfl, trivial⟩ ?_
    refine TC.pull (is := [0]) (L' := [⟨some (b1, 0), e8 t_1.toList⟩]) rfl ?_
    refine TC_loopL (id := 2) (body := (halberdref4_cipher.b1 w_ rounds1)) (σ := Int × Vector (BitVec 8) 16) (Γ := Unit) (Γx := Unit) (fun s1 g1_ => [(0, sl Aw_ ((w_).length) cw_), (5, ptr (some (b1, 0)) 0), (7, vi rounds1), (8, vi s1.1)]) (fun s1 g1_ => [⟨some (b1, 0), e8 s1.2.toList⟩]) (fun t g => [(5, ptr (some (b1, 0)) 0)]) (fun t g => [⟨some (b1, 0), e8 t.toList⟩]) ?_ BIG (1, t_1) () t_2 Hl ?_
    · intro s1 g1_ r1 H K hK hE
      unfold halberdref4_cipher.b1 at H
      refine TC_seq ?_
      refine TC_seq ?_
      refine TC_region ?_
      refine TL_v rfl rfl rfl (V_move rfl) ?_
      refine TL_v rfl rfl rfl (V_move rfl) ?_
      refine TL_v rfl rfl rfl (V_bin rfl rfl (fun w => leqI w s1.1 rounds1)) ?_
      refine TL_nil ?_
      refine TX_next ?_
      refine TC_cond (b := (decide (s1.1 ≤ rounds1))) rfl (fun hc => ?_) (fun hc => ?_)
      · replace H := ite_t (of_decide_eq_true hc) H
        refine TC_skip ?_
        refine TX_next ?_
        refine TC_seq ?_
        refine TC_block ?_
        refine TC_seq ?_
        refine TC_region ?_
        refine TL_e rfl rfl rfl (E_allocP [(16, e8 ((Vector.replicate 16 0#8).toList))] TryI.inf71 TryI.zer71 ⟨(lenV (f := v8) (Vector.replicate 16 0#8)), trivial⟩) (fun b2 => ?_)
        refine TL_nil ?_
        refine TX_next ?_
        refine TC_seq ?_
        refine TC_seq ?_
        refine TC_region ?_
        refine TL_v rfl rfl rfl (V_assign rfl) ?_
        refine TL_nil ?_
        refine TX_next ?_
        refine TC_block ?_
        obtain ⟨t_3, Hl, H⟩ := bind_elim H
        refine TC.sub (m' := [(0, sl Aw_ ((w_).length) cw_), (5, ptr (some (b1, 0)) 0), (7, vi rounds1), (8, vi s1.1), (9, ptr (some (b2, 0)) 0), (10, vi 0)]) ⟨rfl, rfl, rfl, rfl, rfl, rfl, trivial⟩ ?_
        refine TC.pull (is := [1, 0]) (L' := [⟨some (b1, 0), e8 s1.2.toList⟩, ⟨some (b2, 0), e8 ((Vector.replicate 16 0#8).toList)⟩]) rfl ?_
        refine TC_loopL (id := 4) (body := (halberdref4_cipher.b2 s1)) (σ := Int × Vector (BitVec 8) 16) (Γ := Unit) (Γx := Unit) (fun s2 g2_ => [(0, sl Aw_ ((w_).length) cw_), (5, ptr (some (b1, 0)) 0), (7, vi rounds1), (8, vi s1.1), (9, ptr (some (b2, 0)) 0), (10, vi s2.1)]) (fun s2 g2_ => [⟨some (b1, 0), e8 s1.2.toList⟩, ⟨some (b2, 0), e8 s2.2.toList⟩]) (fun t g => [(0, sl Aw_ ((w_).length) cw_), (5, ptr (some (b1, 0)) 0), (7, vi rounds1), (8, vi s1.1), (9, ptr (some (b2, 0)) 0)]) (fun t g => [⟨some (b1, 0), e8 s1.2.toList⟩, ⟨some (b2, 0), e8 t.toList⟩]) ?_ BIG (0, Vector.replicate 16 0#8) () t_3 Hl ?_
        · intro s2 g2_ r1 H K hK hE
          unfold halberdref4_cipher.b2 at H
          refine TC_seq ?_
          refine TC_seq ?_
          refine TC_region ?_
          refine TL_v rfl rfl rfl (V_move rfl) ?_
          refine TL_v rfl rfl rfl (V_bin rfl rfl (fun w => lssI w s2.1 16)) ?_
          refine TL_nil ?_
          refine TX_next ?_
          refine TC_cond (b := (decide (s2.1 < 16))) rfl (fun hc => ?_) (fun hc => ?_)
          · replace H := ite_t (of_decide_eq_true hc) H
            refine TC_skip ?_
            refine TX_next ?_
            refine TC_seq ?_
            refine TC_block ?_
            refine TC_region ?_
            refine TL_v rfl rfl rfl (V_move rfl) ?_
            refine TL_v rfl rfl rfl (V_move rfl) ?_
            refine TL_v rfl rfl rfl (V_move rfl) ?_
            refine TL_v rfl rfl rfl (V_bin rfl rfl (fun w => remI w s2.1 4 (by decide))) ?_
            refine TL_v rfl rfl rfl (V_bin rfl rfl (fun w => mulI w 4 (s2.1.tmod 4))) ?_
            refine TL_v rfl rfl rfl (V_bin rfl rfl (fun w => addI w s2.1 (w64 (4 * (s2.1.tmod 4))))) ?_
            refine TL_v rfl rfl rfl (V_bin rfl rfl (fun w => remI w (w64 (s2.1 + (w64 (4 * (s2.1.tmod 4))))) 16 (by decide))) ?_
            obtain ⟨h5, H⟩ := if_elim H
            refine TL_v rfl rfl rfl (V_idxArr (i := (w64 (s2.1 + (w64 (4 * (s2.1.tmod 4))))).tmod 16) rfl rfl Try.underlying71 TryI.inf5 rfl h5.1 h5.2 (k := ((w64 (s2.1 + (w64 (4 * (s2.1.tmod 4))))).tmod 16).toNat) (k01 _)) ?_
            refine TL_v rfl rfl rfl (V_load rfl (Src.own (j := 0) rfl) (get_vec (f := v8) (V := s1.2) (toNat_lt h5.1 h5.2)) Try.isAgg5) ?_
            obtain ⟨h6, H⟩ := if_elim H
            refine TL_v rfl rfl rfl (V_idxStr rfl rfl (i := ((vg s1.2 (((w64 (s2.1 + (w64 (4 * (s2.1.tmod 4))))).tmod 16).toNat)).toNat : Int)) Try.underlying9 h6.1 h6.2) ?_
            obtain ⟨h7, H⟩ := if_elim H
            refine TL_v rfl rfl rfl (V_idxArr (i := s2.1) rfl rfl Try.underlying71 TryI.inf5 rfl h7.1 h7.2 (k := (s2.1).toNat) (k01 _)) ?_
            refine TL_n rfl rfl (E_store (j := 1) rfl rfl TryI.inf5 rfl rfl rfl (by simpa using (toNat_lt h7.1 h7.2)) (cs' := e8 ((vp s2.2 ((s2.1).toNat) (sg halberdref4_cipher.k1 ((vg s1.2 (((w64 (s2.1 + (w64 (4 * (s2.1.tmod 4))))).tmod 16).toNat)).toNat : Int))).toList)) set_vec) (fun _ => ?_)
            obtain ⟨m_2, hm_2, H⟩ := ltt_elim H
            refine TL_reE (j := 1) (A := some (b2, 0)) (cs := e8 ((vp s2.2 ((s2.1).toNat) (sg halberdref4_cipher.k1 ((vg s1.2 (((w64 (s2.1 + (w64 (4 * (s2.1.tmod 4))))).tmod 16).toNat)).toNat : Int))).toList)) (cs' := e8 m_2.toList) rfl (congrArg (fun z : Vector (BitVec 8) 16 => e8 (Vector.toList z)) hm_2) ?_
            refine TL_nil ?_
            refine TX_block_normal ?_
            refine TX_next ?_
            refine TC_region ?_
            refine TL_v rfl rfl rfl (V_move rfl) ?_
            refine TL_v rfl rfl rfl (V_bin rfl rfl (fun w => addI w s2.1 1)) ?_
            refine TL_v rfl rfl rfl (V_assign rfl) ?_
            obtain ⟨i2, hi2, H⟩ := ltt_elim H
            refine TL_re (d := 10) (v := vi (w64 (s2.1 + 1))) (v' := vi i2) rfl (congrArg vi hi2) ?_
            refine TL_nil ?_
            refine TX.sub (m' := [(0, sl Aw_ ((w_).length) cw_), (5, ptr (some (b1, 0)) 0), (7, vi rounds1), (8, vi s1.1), (9, ptr (some (b2, 0)) 0), (10, vi i2)]) ⟨rfl, rfl, rfl, rfl, rfl, rfl, trivial⟩ ?_
            refine TX.pull (is := [0, 0]) (L' := [⟨some (b1, 0), e8 s1.2.toList⟩, ⟨some (b2, 0), e8 m_2.toList⟩]) rfl ?_
            obtain rfl := Option.some.inj H
            exact fun a w hs => hK (i2, m_2) rfl () a w hs
          · replace H := ite_f (of_decide_eq_false hc) H
            refine TC_exit ?_
            refine TX_then_exit ?_
            refine TX_then_exit ?_
            refine TX.sub (m' := [(0, sl Aw_ ((w_).length) cw_), (5, ptr (some (b1, 0)) 0), (7, vi rounds1), (8, vi s1.1), (9, ptr (some (b2, 0)) 0)]) ⟨rfl, rfl, rfl, rfl, rfl, trivial⟩ ?_
            refine TX.pull (is := [0, 0]) (L' := [⟨some (b1, 0), e8 s1.2.toList⟩, ⟨some (b2, 0), e8 s2.2.toList⟩]) rfl ?_
            obtain rfl := Option.some.inj H
            exact hE s2.2 rfl ()
        · intro g
          refine TX_block_exit ?_
          refine TX_next ?_
          refine TC_seq ?_
          refine TC_seq ?_
          refine TC_region ?_
          refine TL_v rfl rfl rfl (V_move rfl) ?_
          refine TL_v rfl rfl rfl (V_move rfl) ?_
          refine TL_v rfl rfl rfl (V_bin rfl rfl (fun w => lssI w s1.1 rounds1)) ?_
          refine TL_nil ?_
          refine TX_next ?_
          obtain ⟨j1, Hj, H⟩ := bind_elim H
          refine TC_join (Γ := Unit) (fun gj1 => [(0, sl Aw_ ((w_).length) cw_), (5, ptr (some (b1, 0)) 0), (7, vi rounds1), (8, vi s1.1), (9, ptr (some (b2, 0)) 0)]) (fun gj1 => [⟨some (b1, 0), e8 s1.2.toList⟩, ⟨some (b2, 0), e8 j1.toList⟩]) ?_ ?_
          · intro gj1
            refine TX_next ?_
            refine TC_seq ?_
            refine TC_region ?_
            refine TL_v rfl rfl rfl (V_assign rfl) ?_
            refine TL_nil ?_
            refine TX_next ?_
            refine TC_block ?_
            obtain ⟨t_4, Hl, H⟩ := bind_elim H
            refine TC.sub (m' := [(0, sl Aw_ ((w_).length) cw_), (5, ptr (some (b1, 0)) 0), (7, vi rounds1), (8, vi s1.1), (9, ptr (some (b2, 0)) 0), (15, vi 0)]) ⟨rfl, rfl, rfl, rfl, rfl, rfl, trivial⟩ ?_
            refine TC.pull (is := [0, 0]) (L' := [⟨some (b1, 0), e8 s1.2.toList⟩, ⟨some (b2, 0), e8 j1.toList⟩]) rfl ?_
            refine TC_loopL (id := 10) (body := (halberdref4_cipher.b3 w_ s1 j1)) (σ := Int × Vector (BitVec 8) 16) (Γ := Unit) (Γx := Unit) (fun s3 g3_ => [(0, sl Aw_ ((w_).length) cw_), (5, ptr (some (b1, 0)) 0), (7, vi rounds1), (8, vi s1.1), (9, ptr (some (b2, 0)) 0), (15, vi s3.1)]) (fun s3 g3_ => [⟨some (b1, 0), e8 s3.2.toList⟩, ⟨some (b2, 0), e8 j1.toList⟩]) (fun t g => [(0, sl Aw_ ((w_).length) cw_), (5, ptr (some (b1, 0)) 0), (7, vi rounds1), (8, vi s1.1)]) (fun t g => [⟨some (b1, 0), e8 t.toList⟩]) ?_ BIG (0, s1.2) () t_4 Hl ?_
            · intro s3 g3_ r1 H K hK hE
              unfold halberdref4_cipher.b3 at H
              refine TC_seq ?_
              refine TC_seq ?_
              refine TC_region ?_
              refine TL_v rfl rfl rfl (V_move rfl) ?_
              refine TL_v rfl rfl rfl (V_bin rfl rfl (fun w => lssI w s3.1 16)) ?_
              refine TL_nil ?_
              refine TX_next ?_
              refine TC_cond (b := (decide (s3.1 < 16))) rfl (fun hc => ?_) (fun hc => ?_)
              · replace H := ite_t (of_decide_eq_true hc) H
                refine TC_skip ?_
                refine TX_next ?_
                refine TC_seq ?_
                refine TC_block ?_
                obtain ⟨h8, H⟩ := if_elim H
                obtain ⟨h9, H⟩ := if_elim H
                obtain ⟨h10, H⟩ := if_elim H
                obtain ⟨h11, H⟩ := if_elim H
                obtain ⟨m_3, hm_3, H⟩ := ltt_elim H
                refine TA_begin [⟨some (b1, 0), e8 s3.2.toList⟩, ⟨some (b2, 0), e8 j1.toList⟩] 17 (by kernel_rfl) (N := 18) rfl ?_
                refine TA_take (i := 0) (is := [0, 0]) (done' := #[true, false, false, false, false, false, false, false, false, false, false, false, false, false, false, false, false, false]) rfl rfl rfl rfl (by kernel_rfl) (QP.block (QP.then (QP.then (QP.block (QP.block (QP.then (QP.then (QP.block (QP.then QP.body))))))))) (by kernel_rfl) rfl (V_move rfl) ?_
                refine TA_take (i := 1) (is := [0, 0]) (done' := #[true, true, false, false, false, false, false, false, false, false, false, false, false, false, false, false, false, false]) rfl rfl rfl rfl (by kernel_rfl) (QP.block (QP.then (QP.then (QP.block (QP.block (QP.then (QP.then (QP.block (QP.then QP.body))))))))) (by kernel_rfl) rfl (V_move rfl) ?_
                refine TA_take (i := 2) (is := [0, 0]) (done' := #[true, true, true, false, false, false, false, false, false, false, false, false, false, false, false, false, false, false]) rfl rfl rfl rfl (by kernel_rfl) (QP.block (QP.then (QP.then (QP.block (QP.block (QP.then (QP.then (QP.block (QP.then QP.body))))))))) (by kernel_rfl) rfl (V_idxArr (i := s3.1) rfl rfl Try.underlying71 TryI.inf5 rfl h8.1 h8.2 (k := (s3.1).toNat) (k01 _)) ?_
                refine TA_take (i := 3) (is := [0, 0]) (done' := #[true, true, true, true, false, false, false, false, false, false, false, false, false, false, false, false, false, false]) rfl rfl rfl rfl (by kernel_rfl) (QP.block (QP.then (QP.then (QP.block (QP.block (QP.then (QP.then (QP.block (QP.then QP.body))))))))) (by kernel_rfl) rfl (V_load rfl (Src.own (j := 1) rfl) (get_vec (f := v8) (V := j1) (toNat_lt h8.1 h8.2)) Try.isAgg5) ?_
                refine TA_take (i := 4) (is := [0, 0]) (done' := #[true, true, true, true, true, false, false, false, false, false, false, false, false, false, false, false, false, false]) rfl rfl rfl rfl (by kernel_rfl) (QP.block (QP.then (QP.then (QP.block (QP.block (QP.then (QP.then (QP.block (QP.then QP.body))))))))) (by kernel_rfl) rfl (V_move rfl) ?_
                refine TA_take (i := 5) (is := [0, 0]) (done' := #[true, true, true, true, true, true, false, false, false, false, false, false, false, false, false, false, false, false]) rfl rfl rfl rfl (by kernel_rfl) (QP.block (QP.then (QP.then (QP.block (QP.block (QP.then (QP.then (QP.block (QP.then QP.body))))))))) (by kernel_rfl) rfl (V_move rfl) ?_
                refine TA_take (i := 6) (is := [0, 0]) (done' := #[true, true, true, true, true, true, true, false, false, false, false, false, false, false, false, false, false, false]) rfl rfl rfl rfl (by kernel_rfl) (QP.block (QP.then (QP.then (QP.block (QP.block (QP.then (QP.then (QP.block (QP.then QP.body))))))))) (by kernel_rfl) rfl (V_bin rfl rfl (fun w => mulI w 4 s1.1)) ?_
                refine TA_take (i := 7) (is := [0, 0]) (done' := #[true, true, true, true, true, true, true, true, false, false, false, false, false, false, false, false, false, false]) rfl rfl rfl rfl (by kernel_rfl) (QP.block (QP.then (QP.then (QP.block (QP.block (QP.then (QP.then (QP.block (QP.then QP.body))))))))) (by kernel_rfl) rfl (V_move rfl) ?_
                refine TA_take (i := 8) (is := [0, 0]) (done' := #[true, true, true, true, true, true, true, true, true, false, false, false, false, false, false, false, false, false]) rfl rfl rfl rfl (by kernel_rfl) (QP.block (QP.then (QP.then (QP.block (QP.block (QP.then (QP.then (QP.block (QP.then QP.body))))))))) (by kernel_rfl) rfl (V_bin rfl rfl (fun w => quoI w s3.1 4 (by decide))) ?_
                refine TA_take (i := 9) (is := [0, 0]) (done' := #[true, true, true, true, true, true, true, true, true, true, false, false, false, false, false, false, false, false]) rfl rfl rfl rfl (by kernel_rfl) (QP.block (QP.then (QP.then (QP.block (QP.block (QP.then (QP.then (QP.block (QP.then QP.body))))))))) (by kernel_rfl) rfl (V_bin rfl rfl (fun w => addI w (w64 (4 * s1.1)) (w64 (s3.1.tdiv 4)))) ?_
                refine TA_take (i := 10) (is := [0, 0]) (done' := #[true, true, true, true, true, true, true, true, true, true, true, false, false, false, false, false, false, false]) rfl rfl rfl rfl (by kernel_rfl) (QP.block (QP.then (QP.then (QP.block (QP.block (QP.then (QP.then (QP.block (QP.then QP.body))))))))) (by kernel_rfl) rfl (V_move rfl) ?_
                refine TA_take (i := 11) (is := [0, 0]) (done' := #[true, true, true, true, true, true, true, true, true, true, true, true, false, false, false, false, false, false]) rfl rfl rfl rfl (by kernel_rfl) (QP.block (QP.then (QP.then (QP.block (QP.block (QP.then (QP.then (QP.block (QP.then QP.body))))))))) (by kernel_rfl) rfl (V_bin rfl rfl (fun w => remI w s3.1 4 (by decide))) ?_
                refine TA_take (i := 12) (is := [0, 0]) (done' := #[true, true, true, true, true, true, true, true, true, true, true, true, true, false, false, false, false, false]) rfl rfl rfl rfl (by kernel_rfl) (QP.block (QP.then (QP.then (QP.block (QP.block (QP.then (QP.then (QP.block (QP.then QP.body))))))))) (by kernel_rfl) rfl (V_idxSlS (i := w64 ((w64 (4 * s1.1)) + (w64 (s3.1.tdiv 4)))) rfl rfl Try.underlying74 TryI.inf125 rfl (Src.ro (j := 0) rfl) (eF_ne2 (s := 4) (fun _ => by simp) rfl (toNat_lt h9.1 h9.2)) h9.1 h9.2 (k := ((w64 ((w64 (4 * s1.1)) + (w64 (s3.1.tdiv 4)))).toNat) * 4) rfl) ?_
                refine TA_take (i := 13) (is := [0, 0]) (done' := #[true, true, true, true, true, true, true, true, true, true, true, true, true, true, false, false, false, false]) rfl rfl rfl rfl (by kernel_rfl) (QP.block (QP.then (QP.then (QP.block (QP.block (QP.then (QP.then (QP.block (QP.then QP.body))))))))) (by kernel_rfl) rfl (V_idxArr (i := s3.1.tmod 4) rfl rfl Try.underlying125 TryI.inf5 rfl h10.1 h10.2 (k := ((w64 ((w64 (4 * s1.1)) + (w64 (s3.1.tdiv 4)))).toNat) * 4 + (s3.1.tmod 4).toNat) (k1 _ _)) ?_
                refine TA_take (i := 14) (is := [0, 0]) (done' := #[true, true, true, true, true, true, true, true, true, true, true, true, true, true, true, false, false, false]) rfl rfl rfl rfl (by kernel_rfl) (QP.block (QP.then (QP.then (QP.block (QP.block (QP.then (QP.then (QP.block (QP.then QP.body))))))))) (by kernel_rfl) rfl (V_load rfl (Src.ro (j := 0) rfl) ((get_eF (g := fun V : Vector (BitVec 8) 4 => e8 V.toList) (s := 4) (fun _ => by simp) w_ ((w64 ((w64 (4 * s1.1)) + (w64 (s3.1.tdiv 4)))).toNat) ((s3.1.tmod 4).toNat) (toNat_lt h9.1 h9.2) (toNat_lt h10.1 h10.2)).trans (get_vec (toNat_lt h10.1 h10.2))) Try.isAgg5) ?_
                refine TA_take (i := 15) (is := [0, 0]) (done' := #[true, true, true, true, true, true, true, true, true, true, true, true, true, true, true, true, false, false]) rfl rfl rfl rfl (by kernel_rfl) (QP.block (QP.then (QP.then (QP.block (QP.block (QP.then (QP.then (QP.block (QP.then QP.body))))))))) (by kernel_rfl) rfl (V_bin rfl rfl (fun w => xor8 w (vg j1 ((s3.1).toNat)) (vg (lg w_ ((w64 ((w64 (4 * s1.1)) + (w64 (s3.1.tdiv 4)))).toNat)) ((s3.1.tmod 4).toNat)))) ?_
                refine TA_take (i := 16) (is := [0, 0]) (done' := #[true, true, true, true, true, true, true, true, true, true, true, true, true, true, true, true, true, false]) rfl rfl rfl rfl (by kernel_rfl) (QP.block (QP.then (QP.then (QP.block (QP.block (QP.then (QP.then (QP.block (QP.then QP.body))))))))) (by kernel_rfl) rfl (V_idxArr (i := s3.1) rfl rfl Try.underlying71 TryI.inf5 rfl h11.1 h11.2 (k := (s3.1).toNat) (k01 _)) ?_
                refine TA_all (rs := [17]) (by kernel_rfl) rfl ?_
                refine ⟨?_, trivial⟩
                refine TO_n (is := []) (R := fun _ => []) (done' := #[true, true, true, true, true, true, true, true, true, true, true, true, true, true, true, true, true, true]) rfl rfl rfl (by kernel_rfl) (E_store (j := 0) rfl rfl TryI.inf5 rfl rfl rfl (by simpa using (toNat_lt h11.1 h11.2)) (cs' := e8 ((vp s3.2 ((s3.1).toNat) ((vg j1 ((s3.1).toNat)) ^^^ (vg (lg w_ ((w64 ((w64 (4 * s1.1)) + (w64 (s3.1.tdiv 4)))).toNat)) ((s3.1.tmod 4).toNat)))).toList)) set_vec) (fun h => by cases h) (fun _ => ?_)
                refine TA_reE (j := 0) (A := some (b1, 0)) (cs := e8 ((vp s3.2 ((s3.1).toNat) ((vg j1 ((s3.1).toNat)) ^^^ (vg (lg w_ ((w64 ((w64 (4 * s1.1)) + (w64 (s3.1.tdiv 4)))).toNat)) ((s3.1.tmod 4).toNat)))).toList)) (cs' := e8 m_3.toList) rfl (congrArg (fun z : Vector (BitVec 8) 16 => e8 (Vector.toList z)) hm_3) ?_
                refine TA_done (by kernel_rfl) ?_ 0
                refine TX_block_normal ?_
                refine TX_next ?_
                refine TC_region ?_
                refine TL_v rfl rfl rfl (V_move rfl) ?_
                refine TL_v rfl rfl rfl (V_bin rfl rfl (fun w => addI w s3.1 1)) ?_
                refine TL_v rfl rfl rfl (V_assign rfl) ?_
                obtain ⟨i3, hi3, H⟩ := ltt_elim H
                refine TL_re (d := 15) (v := vi (w64 (s3.1 + 1))) (v' := vi i3) rfl (congrArg vi hi3) ?_
                refine TL_nil ?_
                refine TX.sub (m' := [(0, sl Aw_ ((w_).length) cw_), (5, ptr (some (b1, 0)) 0), (7, vi rounds1), (8, vi s1.1), (9, ptr (some (b2, 0)) 0), (15, vi i3)]) ⟨rfl, rfl, rfl, rfl, rfl, rfl, trivial⟩ ?_
                refine TX.pull (is := [0, 0]) (L' := [⟨some (b1, 0), e8 m_3.toList⟩, ⟨some (b2, 0), e8 j1.toList⟩]) rfl ?_
                obtain rfl := Option.some.inj H
                exact fun a w hs => hK (i3, m_3) rfl () a w hs
              · replace H := ite_f (of_decide_eq_false hc) H
                refine TC_exit ?_
                refine TX_then_exit ?_
                refine TX_then_exit ?_
                refine TX.sub (m' := [(0, sl Aw_ ((w_).length) cw_), (5, ptr (some (b1, 0)) 0), (7, vi rounds1), (8, vi s1.1)]) ⟨rfl, rfl, rfl, rfl, trivial⟩ ?_
                refine TX.pull (is := [0]) (L' := [⟨some (b1, 0), e8 s3.2.toList⟩]) rfl ?_
                obtain rfl := Option.some.inj H
                exact hE s3.2 rfl ()
            · intro g
              refine TX_block_exit ?_
              refine TX_block_normal ?_
              refine TX_next ?_
              refine TC_region ?_
              refine TL_v rfl rfl rfl (V_move rfl) ?_
              refine TL_v rfl rfl rfl (V_bin rfl rfl (fun w => addI w s1.1 1)) ?_
              refine TL_v rfl rfl rfl (V_assign rfl) ?_
              obtain ⟨r_1, hr_1, H⟩ := ltt_elim H
              refine TL_re (d := 8) (v := vi (w64 (s1.1 + 1))) (v' := vi r_1) rfl (congrArg vi hr_1) ?_
              refine TL_nil ?_
              refine TX.sub (m' := [(0, sl Aw_ ((w_).length) cw_), (5, ptr (some (b1, 0)) 0), (7, vi rounds1), (8, vi r_1)]) ⟨rfl, rfl, rfl, rfl, trivial⟩ ?_
              refine TX.pull (is := [0]) (L' := [⟨some (b1, 0), e8 t_4.toList⟩]) rfl ?_
              obtain rfl := Option.some.inj H
              exact fun a w hs => hK (r_1, t_4) rfl () a w hs
          · intro hJ
            replace H := Hj
            refine TC_cond (b := (decide (s1.1 < rounds1))) rfl (fun hc => ?_) (fun hc => ?_)
            · replace H := ite_t (of_decide_eq_true hc) H
              refine TC_seq ?_
              refine TC_region ?_
              refine TL_v rfl rfl rfl (V_assign rfl) ?_
              refine TL_nil ?_
              refine TX_next ?_
              refine TC_block ?_
              obtain ⟨t_5, Hl, H⟩ := bind_elim H
              refine TC.sub (m' := [(0, sl Aw_ ((w_).length) cw_), (5, ptr (some (b1, 0)) 0), (7, vi rounds1), (8, vi s1.1), (9, ptr (some (b2, 0)) 0), (11, vi 0)]) ⟨rfl, rfl, rfl, rfl, rfl, rfl, trivial⟩ ?_
              refine TC.pull (is := [0, 0]) (L' := [⟨some (b1, 0), e8 s1.2.toList⟩, ⟨some (b2, 0), e8 t_3.toList⟩]) rfl ?_
              refine TC_loopL (id := 6) (body := (halberdref4_cipher.b4)) (σ := Int × Vector (BitVec 8) 16) (Γ := Unit) (Γx := Unit) (fun s4 g4_ => [(0, sl Aw_ ((w_).length) cw_), (5, ptr (some (b1, 0)) 0), (7, vi rounds1), (8, vi s1.1), (9, ptr (some (b2, 0)) 0), (11, vi s4.1)]) (fun s4 g4_ => [⟨some (b1, 0), e8 s1.2.toList⟩, ⟨some (b2, 0), e8 s4.2.toList⟩]) (fun t g => [(0, sl Aw_ ((w_).length) cw_), (5, ptr (some (b1, 0)) 0), (7, vi rounds1), (8, vi s1.1), (9, ptr (some (b2, 0)) 0)]) (fun t g => [⟨some (b1, 0), e8 s1.2.toList⟩, ⟨some (b2, 0), e8 t.toList⟩]) ?_ BIG (0, t_3) () t_5 Hl ?_
              · intro s4 g4_ r1 H K hK hE
                unfold halberdref4_cipher.b4 at H
                refine TC_seq ?_
                refine TC_seq ?_
                refine TC_region ?_
                refine TL_v rfl rfl rfl (V_move rfl) ?_
                refine TL_v rfl rfl rfl (V_bin rfl rfl (fun w => lssI w s4.1 16)) ?_
                refine TL_nil ?_
                refine TX_next ?_
                refine TC_cond (b := (decide (s4.1 < 16))) rfl (fun hc => ?_) (fun hc => ?_)
                · replace H := ite_t (of_decide_eq_true hc) H
                  refine TC_skip ?_
                  refine TX_next ?_
                  refine TC_seq ?_
                  refine TC_block ?_
                  refine TC_seq ?_
                  obtain ⟨h12, H⟩ := if_elim H
                  obtain ⟨h13, H⟩ := if_elim H
                  obtain ⟨h14, H⟩ := if_elim H
                  obtain ⟨h15, H⟩ := if_elim H
                  obtain ⟨all1, hall1, H⟩ := ltt_elim H
                  refine TA_begin [⟨some (b1, 0), e8 s1.2.toList⟩, ⟨some (b2, 0), e8 s4.2.toList⟩] 19 (by kernel_rfl) (N := 19) rfl ?_
                  refine TA_take (i := 0) (is := [0, 0]) (done' := #[true, false, false, false, false, false, false, false, false, false, false, false, false, false, false, false, false, false, false]) rfl rfl rfl rfl (by kernel_rfl) (QP.then (QP.block (QP.then (QP.then (QP.block (QP.then (QP.block (QP.then (QP.then (QP.block (QP.then QP.body))))))))))) (by kernel_rfl) rfl (V_move rfl) ?_
                  refine TA_take (i := 1) (is := [0, 0]) (done' := #[true, true, false, false, false, false, false, false, false, false, false, false, false, false, false, false, false, false, false]) rfl rfl rfl rfl (by kernel_rfl) (QP.then (QP.block (QP.then (QP.then (QP.block (QP.then (QP.block (QP.then (QP.then (QP.block (QP.then QP.body))))))))))) (by kernel_rfl) rfl (V_idxArr (i := s4.1) rfl rfl Try.underlying71 TryI.inf5 rfl h12.1 h12.2 (k := (s4.1).toNat) (k01 _)) ?_
                  refine TA_take (i := 2) (is := [0, 0]) (done' := #[true, true, true, false, false, false, false, false, false, false, false, false, false, false, false, false, false, false, false]) rfl rfl rfl rfl (by kernel_rfl) (QP.then (QP.block (QP.then (QP.then (QP.block (QP.then (QP.block (QP.then (QP.then (QP.block (QP.then QP.body))))))))))) (by kernel_rfl) rfl (V_load rfl (Src.own (j := 1) rfl) (get_vec (f := v8) (V := s4.2) (toNat_lt h12.1 h12.2)) Try.isAgg5) ?_
                  refine TA_take (i := 3) (is := [0, 0]) (done' := #[true, true, true, true, false, false, false, false, false, false, false, false, false, false, false, false, false, false, false]) rfl rfl rfl rfl (by kernel_rfl) (QP.then (QP.block (QP.then (QP.then (QP.block (QP.then (QP.block (QP.then (QP.then (QP.block (QP.then QP.body))))))))))) (by kernel_rfl) rfl (V_move rfl) ?_
                  refine TA_take (i := 4) (is := [0, 0]) (done' := #[true, true, true, true, true, false, false, false, false, false, false, false, false, false, false, false, false, false, false]) rfl rfl rfl rfl (by kernel_rfl) (QP.then (QP.block (QP.then (QP.then (QP.block (QP.then (QP.block (QP.then (QP.then (QP.block (QP.then QP.body))))))))))) (by kernel_rfl) rfl (V_bin rfl rfl (fun w => addI w s4.1 1)) ?_
                  refine TA_take (i := 5) (is := [0, 0]) (done' := #[true, true, true, true, true, true, false, false, false, false, false, false, false, false, false, false, false, false, false]) rfl rfl rfl rfl (by kernel_rfl) (QP.then (QP.block (QP.then (QP.then (QP.block (QP.then (QP.block (QP.then (QP.then (QP.block (QP.then QP.body))))))))))) (by kernel_rfl) rfl (V_idxArr (i := w64 (s4.1 + 1)) rfl rfl Try.underlying71 TryI.inf5 rfl h13.1 h13.2 (k := (w64 (s4.1 + 1)).toNat) (k01 _)) ?_
                  refine TA_take (i := 6) (is := [0, 0]) (done' := #[true, true, true, true, true, true, true, false, false, false, false, false, false, false, false, false, false, false, false]) rfl rfl rfl rfl (by kernel_rfl) (QP.then (QP.block (QP.then (QP.then (QP.block (QP.then (QP.block (QP.then (QP.then (QP.block (QP.then QP.body))))))))))) (by kernel_rfl) rfl (V_load rfl (Src.own (j := 1) rfl) (get_vec (f := v8) (V := s4.2) (toNat_lt h13.1 h13.2)) Try.isAgg5) ?_
                  refine TA_take (i := 7) (is := [0, 0]) (done' := #[true, true, true, true, true, true, true, true, false, false, false, false, false, false, false, false, false, false, false]) rfl rfl rfl rfl (by kernel_rfl) (QP.then (QP.block (QP.then (QP.then (QP.block (QP.then (QP.block (QP.then (QP.then (QP.block (QP.then QP.body))))))))))) (by kernel_rfl) rfl (V_bin rfl rfl (fun w => xor8 w (vg s4.2 ((s4.1).toNat)) (vg s4.2 ((w64 (s4.1 + 1)).toNat)))) ?_
                  refine TA_take (i := 8) (is := [0, 0]) (done' := #[true, true, true, true, true, true, true, true, true, false, false, false, false, false, false, false, false, false, false]) rfl rfl rfl rfl (by kernel_rfl) (QP.then (QP.block (QP.then (QP.then (QP.block (QP.then (QP.block (QP.then (QP.then (QP.block (QP.then QP.body))))))))))) (by kernel_rfl) rfl (V_move rfl) ?_
                  refine TA_take (i := 9) (is := [0, 0]) (done' := #[true, true, true, true, true, true, true, true, true, true, false, false, false, false, false, false, false, false, false]) rfl rfl rfl rfl (by kernel_rfl) (QP.then (QP.block (QP.then (QP.then (QP.block (QP.then (QP.block (QP.then (QP.then (QP.block (QP.then QP.body))))))))))) (by kernel_rfl) rfl (V_bin rfl rfl (fun w => addI w s4.1 2)) ?_
                  refine TA_take (i := 10) (is := [0, 0]) (done' := #[true, true, true, true, true, true, true, true, true, true, true, false, false, false, false, false, false, false, false]) rfl rfl rfl rfl (by kernel_rfl) (QP.then (QP.block (QP.then (QP.then (QP.block (QP.then (QP.block (QP.then (QP.then (QP.block (QP.then QP.body))))))))))) (by kernel_rfl) rfl (V_idxArr (i := w64 (s4.1 + 2)) rfl rfl Try.underlying71 TryI.inf5 rfl h14.1 h14.2 (k := (w64 (s4.1 + 2)).toNat) (k01 _)) ?_
                  refine TA_take (i := 11) (is := [0, 0]) (done' := #[true, true, true, true, true, true, true, true, true, true, true, true, false, false, false, false, false, false, false]) rfl rfl rfl rfl (by kernel_rfl) (QP.then (QP.block (QP.then (QP.then (QP.block (QP.then (QP.block (QP.then (QP.then (QP.block (QP.then QP.body))))))))))) (by kernel_rfl) rfl (V_load rfl (Src.own (j := 1) rfl) (get_vec (f := v8) (V := s4.2) (toNat_lt h14.1 h14.2)) Try.isAgg5) ?_
                  refine TA_take (i := 12) (is := [0, 0]) (done' := #[true, true, true, true, true, true, true, true, true, true, true, true, true, false, false, false, false, false, false]) rfl rfl rfl rfl (by kernel_rfl) (QP.then (QP.block (QP.then (QP.then (QP.block (QP.then (QP.block (QP.then (QP.then (QP.block (QP.then QP.body))))))))))) (by kernel_rfl) rfl (V_bin rfl rfl (fun w => xor8 w ((vg s4.2 ((s4.1).toNat)) ^^^ (vg s4.2 ((w64 (s4.1 + 1)).toNat))) (vg s4.2 ((w64 (s4.1 + 2)).toNat)))) ?_
                  refine TA_take (i := 13) (is := [0, 0]) (done' := #[true, true, true, true, true, true, true, true, true, true, true, true, true, true, false, false, false, false, false]) rfl rfl rfl rfl (by kernel_rfl) (QP.then (QP.block (QP.then (QP.then (QP.block (QP.then (QP.block (QP.then (QP.then (QP.block (QP.then QP.body))))))))))) (by kernel_rfl) rfl (V_move rfl) ?_
                  refine TA_take (i := 14) (is := [0, 0]) (done' := #[true, true, true, true, true, true, true, true, true, true, true, true, true, true, true, false, false, false, false]) rfl rfl rfl rfl (by kernel_rfl) (QP.then (QP.block (QP.then (QP.then (QP.block (QP.then (QP.block (QP.then (QP.then (QP.block (QP.then QP.body))))))))))) (by kernel_rfl) rfl (V_bin rfl rfl (fun w => addI w s4.1 3)) ?_
                  refine TA_take (i := 15) (is := [0, 0]) (done' := #[true, true, true, true, true, true, true, true, true, true, true, true, true, true, true, true, false, false, false]) rfl rfl rfl rfl (by kernel_rfl) (QP.then (QP.block (QP.then (QP.then (QP.block (QP.then (QP.block (QP.then (QP.then (QP.block (QP.then QP.body))))))))))) (by kernel_rfl) rfl (V_idxArr (i := w64 (s4.1 + 3)) rfl rfl Try.underlying71 TryI.inf5 rfl h15.1 h15.2 (k := (w64 (s4.1 + 3)).toNat) (k01 _)) ?_
                  refine TA_take (i := 16) (is := [0, 0]) (done' := #[true, true, true, true, true, true, true, true, true, true, true, true, true, true, true, true, true, false, false]) rfl rfl rfl rfl (by kernel_rfl) (QP.then (QP.block (QP.then (QP.then (QP.block (QP.then (QP.block (QP.then (QP.then (QP.block (QP.then QP.body))))))))))) (by kernel_rfl) rfl (V_load rfl (Src.own (j := 1) rfl) (get_vec (f := v8) (V := s4.2) (toNat_lt h15.1 h15.2)) Try.isAgg5) ?_
                  refine TA_take (i := 17) (is := [0, 0]) (done' := #[true, true, true, true, true, true, true, true, true, true, true, true, true, true, true, true, true, true, false]) rfl rfl rfl rfl (by kernel_rfl) (QP.then (QP.block (QP.then (QP.then (QP.block (QP.then (QP.block (QP.then (QP.then (QP.block (QP.then QP.body))))))))))) (by kernel_rfl) rfl (V_bin rfl rfl (fun w => xor8 w (((vg s4.2 ((s4.1).toNat)) ^^^ (vg s4.2 ((w64 (s4.1 + 1)).toNat))) ^^^ (vg s4.2 ((w64 (s4.1 + 2)).toNat))) (vg s4.2 ((w64 (s4.1 + 3)).toNat)))) ?_
                  refine TA_take (i := 18) (is := [0, 0]) (done' := #[true, true, true, true, true, true, true, true, true, true, true, true, true, true, true, true, true, true, true]) rfl rfl rfl rfl (by kernel_rfl) (QP.then (QP.block (QP.then (QP.then (QP.block (QP.then (QP.block (QP.then (QP.then (QP.block (QP.then QP.body))))))))))) (by kernel_rfl) rfl (V_assign rfl) ?_
                  refine TA_re (d := 12) (v := v8 ((((vg s4.2 ((s4.1).toNat)) ^^^ (vg s4.2 ((w64 (s4.1 + 1)).toNat))) ^^^ (vg s4.2 ((w64 (s4.1 + 2)).toNat))) ^^^ (vg s4.2 ((w64 (s4.1 + 3)).toNat)))) (v' := v8 all1) rfl (congrArg v8 hall1) ?_
                  refine TA_done (by kernel_rfl) ?_ 0
                  refine TX_next ?_
                  refine TC_seq ?_
                  refine TC_region ?_
                  refine TL_v rfl rfl rfl (V_move rfl) ?_
                  obtain ⟨h16, H⟩ := if_elim H
                  refine TL_v rfl rfl rfl (V_idxArr (i := s4.1) rfl rfl Try.underlying71 TryI.inf5 rfl h16.1 h16.2 (k := (s4.1).toNat) (k01 _)) ?_
                  refine TL_v rfl rfl rfl (V_load rfl (Src.own (j := 1) rfl) (get_vec (f := v8) (V := s4.2) (toNat_lt h16.1 h16.2)) Try.isAgg5) ?_
                  refine TL_v rfl rfl rfl (V_assign rfl) ?_
                  obtain ⟨first1, hfirst1, H⟩ := ltt_elim H
                  refine TL_re (d := 13) (v := v8 (vg s4.2 ((s4.1).toNat))) (v' := v8 first1) rfl (congrArg v8 hfirst1) ?_
                  refine TL_nil ?_
                  refine TX_next ?_
                  refine TC.sub (m' := [(0, sl Aw_ ((w_).length) cw_), (5, ptr (some (b1, 0)) 0), (7, vi rounds1), (8, vi s1.1), (9, ptr (some (b2, 0)) 0), (11, vi s4.1), (12, v8 all1), (13, v8 first1)]) ⟨rfl, rfl, rfl, rfl, rfl, rfl, rfl, rfl, trivial⟩ ?_
                  refine TC_seq ?_
                  refine TC_seq ?_
                  refine TC_region ?_
                  refine TL_v rfl rfl rfl (V_assign rfl) ?_
                  refine TL_nil ?_
                  refine TX_next ?_
                  refine TC_block ?_
                  obtain ⟨t_6, Hl, H⟩ := bind_elim H
                  refine TC.sub (m' := [(0, sl Aw_ ((w_).length) cw_), (5, ptr (some (b1, 0)) 0), (7, vi rounds1), (8, vi s1.1), (9, ptr (some (b2, 0)) 0), (11, vi s4.1), (12, v8 all1), (13, v8 first1), (14, vi 0)]) ⟨rfl, rfl, rfl, rfl, rfl, rfl, rfl, rfl, rfl, trivial⟩ ?_
                  refine TC.pull (is := [0, 0]) (L' := [⟨some (b1, 0), e8 s1.2.toList⟩, ⟨some (b2, 0), e8 s4.2.toList⟩]) rfl ?_
                  refine TC_loopL (id := 8) (body := (halberdref4_cipher.b5 s4 all1)) (σ := Int × Vector (BitVec 8) 16) (Γ := Unit) (Γx := Unit) (fun s5 g5_ => [(0, sl Aw_ ((w_).length) cw_), (5, ptr (some (b1, 0)) 0), (7, vi rounds1), (8, vi s1.1), (9, ptr (some (b2, 0)) 0), (11, vi s4.1), (12, v8 all1), (13, v8 first1), (14, vi s5.1)]) (fun s5 g5_ => [⟨some (b1, 0), e8 s1.2.toList⟩, ⟨some (b2, 0), e8 s5.2.toList⟩]) (fun t g => [(0, sl Aw_ ((w_).length) cw_), (5, ptr (some (b1, 0)) 0), (7, vi rounds1), (8, vi s1.1), (9, ptr (some (b2, 0)) 0), (11, vi s4.1), (12, v8 all1), (13, v8 first1)]) (fun t g => [⟨some (b1, 0), e8 s1.2.toList⟩, ⟨some (b2, 0), e8 t.toList⟩]) ?_ BIG (0, s4.2) () t_6 Hl ?_
                  · intro s5 g5_ r1 H K hK hE
                    unfold halberdref4_cipher.b5 at H
                    refine TC_seq ?_
                    refine TC_seq ?_
                    refine TC_region ?_
                    refine TL_v rfl rfl rfl (V_move rfl) ?_
                    refine TL_v rfl rfl rfl (V_bin rfl rfl (fun w => lssI w s5.1 3)) ?_
                    refine TL_nil ?_
                    refine TX_next ?_
                    refine TC_cond (b := (decide (s5.1 < 3))) rfl (fun hc => ?_) (fun hc => ?_)
                    · replace H := ite_t (of_decide_eq_true hc) H
                      refine TC_skip ?_
                      refine TX_next ?_
                      refine TC_seq ?_
                      refine TC_block ?_
                      obtain ⟨h17, H⟩ := if_elim H
                      obtain ⟨h18, H⟩ := if_elim H
                      obtain ⟨h19, H⟩ := if_elim H
                      obtain ⟨r_2, hr_2, H⟩ := bind_elim H
                      obtain ⟨h20, H⟩ := if_elim H
                      obtain ⟨m_4, hm_4, H⟩ := ltt_elim H
                      refine TA_begin [⟨some (b1, 0), e8 s1.2.toList⟩, ⟨some (b2, 0), e8 s5.2.toList⟩] 25 (by kernel_rfl) (N := 26) rfl ?_
                      refine TA_take (i := 0) (is := [0, 0]) (done' := #[true, false, false, false, false, false, false, false, false, false, false, false, false, false, false, false, false, false, false, false, false, false, false, false, false, false]) rfl rfl rfl rfl (by kernel_rfl) (QP.block (QP.then (QP.then (QP.block (QP.then (QP.block (QP.then (QP.then (QP.block (QP.then (QP.block (QP.then (QP.then (QP.block (QP.then QP.body))))))))))))))) (by kernel_rfl) rfl (V_move rfl) ?_
                      refine TA_take (i := 1) (is := [0, 0]) (done' := #[true, true, false, false, false, false, false, false, false, false, false, false, false, false, false, false, false, false, false, false, false, false, false, false, false, false]) rfl rfl rfl rfl (by kernel_rfl) (QP.block (QP.then (QP.then (QP.block (QP.then (QP.block (QP.then (QP.then (QP.block (QP.then (QP.block (QP.then (QP.then (QP.block (QP.then QP.body))))))))))))))) (by kernel_rfl) rfl (V_move rfl) ?_
                      refine TA_take (i := 2) (is := [0, 0]) (done' := #[true, true, true, false, false, false, false, false, false, false, false, false, false, false, false, false, false, false, false, false, false, false, false, false, false, false]) rfl rfl rfl rfl (by kernel_rfl) (QP.block (QP.then (QP.then (QP.block (QP.then (QP.block (QP.then (QP.then (QP.block (QP.then (QP.block (QP.then (QP.then (QP.block (QP.then QP.body))))))))))))))) (by kernel_rfl) rfl (V_bin rfl rfl (fun w => addI w s4.1 s5.1)) ?_
                      refine TA_take (i := 3) (is := [0, 0]) (done' := #[true, true, true, true, false, false, false, false, false, false, false, false, false, false, false, false, false, false, false, false, false, false, false, false, false, false]) rfl rfl rfl rfl (by kernel_rfl) (QP.block (QP.then (QP.then (QP.block (QP.then (QP.block (QP.then (QP.then (QP.block (QP.then (QP.block (QP.then (QP.then (QP.block (QP.then QP.body))))))))))))))) (by kernel_rfl) rfl (V_move rfl) ?_
                      refine TA_take (i := 4) (is := [0, 0]) (done' := #[true, true, true, true, true, false, false, false, false, false, false, false, false, false, false, false, false, false, false, false, false, false, false, false, false, false]) rfl rfl rfl rfl (by kernel_rfl) (QP.block (QP.then (QP.then (QP.block (QP.then (QP.block (QP.then (QP.then (QP.block (QP.then (QP.block (QP.then (QP.then (QP.block (QP.then QP.body))))))))))))))) (by kernel_rfl) rfl (V_move rfl) ?_
                      refine TA_take (i := 5) (is := [0, 0]) (done' := #[true, true, true, true, true, true, false, false, false, false, false, false, false, false, false, false, false, false, false, false, false, false, false, false, false, false]) rfl rfl rfl rfl (by kernel_rfl) (QP.block (QP.then (QP.then (QP.block (QP.then (QP.block (QP.then (QP.then (QP.block (QP.then (QP.block (QP.then (QP.then (QP.block (QP.then QP.body))))))))))))))) (by kernel_rfl) rfl (V_bin rfl rfl (fun w => addI w s4.1 s5.1)) ?_
                      refine TA_take (i := 6) (is := [0, 0]) (done' := #[true, true, true, true, true, true, true, false, false, false, false, false, false, false, false, false, false, false, false, false, false, false, false, false, false, false]) rfl rfl rfl rfl (by kernel_rfl) (QP.block (QP.then (QP.then (QP.block (QP.then (QP.block (QP.then (QP.then (QP.block (QP.then (QP.block (QP.then (QP.then (QP.block (QP.then QP.body))))))))))))))) (by kernel_rfl) rfl (V_idxArr (i := w64 (s4.1 + s5.1)) rfl rfl Try.underlying71 TryI.inf5 rfl h17.1 h17.2 (k := (w64 (s4.1 + s5.1)).toNat) (k01 _)) ?_
                      refine TA_take (i := 7) (is := [0, 0]) (done' := #[true, true, true, true, true, true, true, true, false, false, false, false, false, false, false, false, false, false, false, false, false, false, false, false, false, false]) rfl rfl rfl rfl (by kernel_rfl) (QP.block (QP.then (QP.then (QP.block (QP.then (QP.block (QP.then (QP.then (QP.block (QP.then (QP.block (QP.then (QP.then (QP.block (QP.then QP.body))))))))))))))) (by kernel_rfl) rfl (V_load rfl (Src.own (j := 1) rfl) (get_vec (f := v8) (V := s5.2) (toNat_lt h17.1 h17.2)) Try.isAgg5) ?_
                      refine TA_take (i := 8) (is := [0, 0]) (done' := #[true, true, true, true, true, true, true, true, true, false, false, false, false, false, false, false, false, false, false, false, false, false, false, false, false, false]) rfl rfl rfl rfl (by kernel_rfl) (QP.block (QP.then (QP.then (QP.block (QP.then (QP.block (QP.then (QP.then (QP.block (QP.then (QP.block (QP.then (QP.then (QP.block (QP.then QP.body))))))))))))))) (by kernel_rfl) rfl (V_move rfl) ?_
                      refine TA_take (i := 9) (is := [0, 0]) (done' := #[true, true, true, true, true, true, true, true, true, true, false, false, false, false, false, false, false, false, false, false, false, false, false, false, false, false]) rfl rfl rfl rfl (by kernel_rfl) (QP.block (QP.then (QP.then (QP.block (QP.then (QP.block (QP.then (QP.then (QP.block (QP.then (QP.block (QP.then (QP.then (QP.block (QP.then QP.body))))))))))))))) (by kernel_rfl) rfl (V_bin rfl rfl (fun w => xor8 w (vg s5.2 ((w64 (s4.1 + s5.1)).toNat)) all1)) ?_
                      refine TA_take (i := 10) (is := [0, 0]) (done' := #[true, true, true, true, true, true, true, true, true, true, true, false, false, false, false, false, false, false, false, false, false, false, false, false, false, false]) rfl rfl rfl rfl (by kernel_rfl) (QP.block (QP.then (QP.then (QP.block (QP.then (QP.block (QP.then (QP.then (QP.block (QP.then (QP.block (QP.then (QP.then (QP.block (QP.then QP.body))))))))))))))) (by kernel_rfl) rfl (V_move rfl) ?_
                      refine TA_take (i := 11) (is := [0, 0]) (done' := #[true, true, true, true, true, true, true, true, true, true, true, true, false, false, false, false, false, false, false, false, false, false, false, false, false, false]) rfl rfl rfl rfl (by kernel_rfl) (QP.block (QP.then (QP.then (QP.block (QP.then (QP.block (QP.then (QP.then (QP.block (QP.then (QP.block (QP.then (QP.then (QP.block (QP.then QP.body))))))))))))))) (by kernel_rfl) rfl (V_move rfl) ?_
                      refine TA_take (i := 12) (is := [0, 0]) (done' := #[true, true, true, true, true, true, true, true, true, true, true, true, true, false, false, false, false, false, false, false, false, false, false, false, false, false]) rfl rfl rfl rfl (by kernel_rfl) (QP.block (QP.then (QP.then (QP.block (QP.then (QP.block (QP.then (QP.then (QP.block (QP.then (QP.block (QP.then (QP.then (QP.block (QP.then QP.body))))))))))))))) (by kernel_rfl) rfl (V_bin rfl rfl (fun w => addI w s4.1 s5.1)) ?_
                      refine TA_take (i := 13) (is := [0, 0]) (done' := #[true, true, true, true, true, true, true, true, true, true, true, true, true, true, false, false, false, false, false, false, false, false, false, false, false, false]) rfl rfl rfl rfl (by kernel_rfl) (QP.block (QP.then (QP.then (QP.block (QP.then (QP.block (QP.then (QP.then (QP.block (QP.then (QP.block (QP.then (QP.then (QP.block (QP.then QP.body))))))))))))))) (by kernel_rfl) rfl (V_idxArr (i := w64 (s4.1 + s5.1)) rfl rfl Try.underlying71 TryI.inf5 rfl h18.1 h18.2 (k := (w64 (s4.1 + s5.1)).toNat) (k01 _)) ?_
                      refine TA_take (i := 14) (is := [0, 0]) (done' := #[true, true, true, true, true, true, true, true, true, true, true, true, true, true, true, false, false, false, false, false, false, false, false, false, false, false]) rfl rfl rfl rfl (by kernel_rfl) (QP.block (QP.then (QP.then (QP.block (QP.then (QP.block (QP.then (QP.then (QP.block (QP.then (QP.block (QP.then (QP.then (QP.block (QP.then QP.body))))))))))))))) (by kernel_rfl) rfl (V_load rfl (Src.own (j := 1) rfl) (get_vec (f := v8) (V := s5.2) (toNat_lt h18.1 h18.2)) Try.isAgg5) ?_
                      refine TA_take (i := 15) (is := [0, 0]) (done' := #[true, true, true, true, true, true, true, true, true, true, true, true, true, true, true, true, false, false, false, false, false, false, false, false, false, false]) rfl rfl rfl rfl (by kernel_rfl) (QP.block (QP.then (QP.then (QP.block (QP.then (QP.block (QP.then (QP.then (QP.block (QP.then (QP.block (QP.then (QP.then (QP.block (QP.then QP.body))))))))))))))) (by kernel_rfl) rfl (V_move rfl) ?_
                      refine TA_take (i := 16) (is := [0, 0]) (done' := #[true, true, true, true, true, true, true, true, true, true, true, true, true, true, true, true, true, false, false, false, false, false, false, false, false, false]) rfl rfl rfl rfl (by kernel_rfl) (QP.block (QP.then (QP.then (QP.block (QP.then (QP.block (QP.then (QP.then (QP.block (QP.then (QP.block (QP.then (QP.then (QP.block (QP.then QP.body))))))))))))))) (by kernel_rfl) rfl (V_move rfl) ?_
                      refine TA_take (i := 17) (is := [0, 0]) (done' := #[true, true, true, true, true, true, true, true, true, true, true, true, true, true, true, true, true, true, false, false, false, false, false, false, false, false]) rfl rfl rfl rfl (by kernel_rfl) (QP.block (QP.then (QP.then (QP.block (QP.then (QP.block (QP.then (QP.then (QP.block (QP.then (QP.block (QP.then (QP.then (QP.block (QP.then QP.body))))))))))))))) (by kernel_rfl) rfl (V_bin rfl rfl (fun w => addI w s4.1 s5.1)) ?_
                      refine TA_take (i := 18) (is := [0, 0]) (done' := #[true, true, true, true, true, true, true, true, true, true, true, true, true, true, true, true, true, true, true, false, false, false, false, false, false, false]) rfl rfl rfl rfl (by kernel_rfl) (QP.block (QP.then (QP.then (QP.block (QP.then (QP.block (QP.then (QP.then (QP.block (QP.then (QP.block (QP.then (QP.then (QP.block (QP.then QP.body))))))))))))))) (by kernel_rfl) rfl (V_bin rfl rfl (fun w => addI w (w64 (s4.1 + s5.1)) 1)) ?_
                      refine TA_take (i := 19) (is := [0, 0]) (done' := #[true, true, true, true, true, true, true, true, true, true, true, true, true, true, true, true, true, true, true, true, false, false, false, false, false, false]) rfl rfl rfl rfl (by kernel_rfl) (QP.block (QP.then (QP.then (QP.block (QP.then (QP.block (QP.then (QP.then (QP.block (QP.then (QP.block (QP.then (QP.then (QP.block (QP.then QP.body))))))))))))))) (by kernel_rfl) rfl (V_idxArr (i := w64 ((w64 (s4.1 + s5.1)) + 1)) rfl rfl Try.underlying71 TryI.inf5 rfl h19.1 h19.2 (k := (w64 ((w64 (s4.1 + s5.1)) + 1)).toNat) (k01 _)) ?_
                      refine TA_take (i := 20) (is := [0, 0]) (done' := #[true, true, true, true, true, true, true, true, true, true, true, true, true, true, true, true, true, true, true, true, true, false, false, false, false, false]) rfl rfl rfl rfl (by kernel_rfl) (QP.block (QP.then (QP.then (QP.block (QP.then (QP.block (QP.then (QP.then (QP.block (QP.then (QP.block (QP.then (QP.then (QP.block (QP.then QP.body))))))))))))))) (by kernel_rfl) rfl (V_load rfl (Src.own (j := 1) rfl) (get_vec (f := v8) (V := s5.2) (toNat_lt h19.1 h19.2)) Try.isAgg5) ?_
                      refine TA_take (i := 21) (is := [0, 0]) (done' := #[true, true, true, true, true, true, true, true, true, true, true, true, true, true, true, true, true, true, true, true, true, true, false, false, false, false]) rfl rfl rfl rfl (by kernel_rfl) (QP.block (QP.then (QP.then (QP.block (QP.then (QP.block (QP.then (QP.then (QP.block (QP.then (QP.block (QP.then (QP.then (QP.block (QP.then QP.body))))))))))))))) (by kernel_rfl) rfl (V_bin rfl rfl (fun w => xor8 w (vg s5.2 ((w64 (s4.1 + s5.1)).toNat)) (vg s5.2 ((w64 ((w64 (s4.1 + s5.1)) + 1)).toNat)))) ?_
                      refine TA_all (rs := [22]) (by kernel_rfl) rfl ?_
                      refine ⟨?_, trivial⟩
                      refine TO_e (is := [0, 0]) (done' := #[true, true, true, true, true, true, true, true, true, true, true, true, true, true, true, true, true, true, true, true, true, true, true, false, false, false]) rfl rfl rfl rfl (by kernel_rfl) (E_call (Γ := Unit) (val := fun g => v8 r_2) (mem := fun g => []) (vs := [v8 ((vg s5.2 ((w64 (s4.1 + s5.1)).toNat)) ^^^ (vg s5.2 ((w64 ((w64 (s4.1 + s5.1)) + 1)).toNat)))]) (Lin := []) (Ro := []) (is := []) rfl Try.call83 (F83_calls ((vg s5.2 ((w64 (s4.1 + s5.1)).toNat)) ^^^ (vg s5.2 ((w64 ((w64 (s4.1 + s5.1)) + 1)).toNat))) r_2 hr_2) rfl trivial) (fun _ _ => rfl) (fun g_1 => ?_)
                      refine TA_take (i := 23) (is := [0, 0]) (done' := #[true, true, true, true, true, true, true, true, true, true, true, true, true, true, true, true, true, true, true, true, true, true, true, true, false, false]) rfl rfl rfl rfl (by kernel_rfl) (QP.block (QP.then (QP.then (QP.block (QP.then (QP.block (QP.then (QP.then (QP.block (QP.then (QP.block (QP.then (QP.then (QP.block (QP.then QP.body))))))))))))))) (by kernel_rfl) rfl (V_bin rfl rfl (fun w => xor8 w ((vg s5.2 ((w64 (s4.1 + s5.1)).toNat)) ^^^ all1) r_2)) ?_
                      refine TA_take (i := 24) (is := [0, 0]) (done' := #[true, true, true, true, true, true, true, true, true, true, true, true, true, true, true, true, true, true, true, true, true, true, true, true, true, false]) rfl rfl rfl rfl (by kernel_rfl) (QP.block (QP.then (QP.then (QP.block (QP.then (QP.block (QP.then (QP.then (QP.block (QP.then (QP.block (QP.then (QP.then (QP.block (QP.then QP.body))))))))))))))) (by kernel_rfl) rfl (V_idxArr (i := w64 (s4.1 + s5.1)) rfl rfl Try.underlying71 TryI.inf5 rfl h20.1 h20.2 (k := (w64 (s4.1 + s5.1)).toNat) (k01 _)) ?_
                      refine TA_all (rs := [25]) (by kernel_rfl) rfl ?_
                      refine ⟨?_, trivial⟩
                      refine TO_n (is := []) (R := fun _ => []) (done' := #[true, true, true, true, true, true, true, true, true, true, true, true, true, true, true, true, true, true, true, true, true, true, true, true, true, true]) rfl rfl rfl (by kernel_rfl) (E_store (j := 1) rfl rfl TryI.inf5 rfl rfl rfl (by simpa using (toNat_lt h20.1 h20.2)) (cs' := e8 ((vp s5.2 ((w64 (s4.1 + s5.1)).toNat) (((vg s5.2 ((w64 (s4.1 + s5.1)).toNat)) ^^^ all1) ^^^ r_2)).toList)) set_vec) (fun h => by cases h) (fun _ => ?_)
                      refine TA_reE (j := 1) (A := some (b2, 0)) (cs := e8 ((vp s5.2 ((w64 (s4.1 + s5.1)).toNat) (((vg s5.2 ((w64 (s4.1 + s5.1)).toNat)) ^^^ all1) ^^^ r_2)).toList)) (cs' := e8 m_4.toList) rfl (congrArg (fun z : Vector (BitVec 8) 16 => e8 (Vector.toList z)) hm_4) ?_
                      refine TA_done (by kernel_rfl) ?_ 0
                      refine TX_block_normal ?_
                      refine TX_next ?_
                      refine TC.sub (m' := [(0, sl Aw_ ((w_).length) cw_), (5, ptr (some (b1, 0)) 0), (7, vi rounds1), (8, vi s1.1), (9, ptr (some (b2, 0)) 0), (11, vi s4.1), (12, v8 all1), (13, v8 first1), (14, vi s5.1)]) ⟨rfl, rfl, rfl, rfl, rfl, rfl, rfl, rfl, rfl, trivial⟩ ?_
                      refine TC_region ?_
                      refine TL_v rfl rfl rfl (V_move rfl) ?_
                      refine TL_v rfl rfl rfl (V_bin rfl rfl (fun w => addI w s5.1 1)) ?_
                      refine TL_v rfl rfl rfl (V_assign rfl) ?_
                      obtain ⟨i4, hi4, H⟩ := ltt_elim H
                      refine TL_re (d := 14) (v := vi (w64 (s5.1 + 1))) (v' := vi i4) rfl (congrArg vi hi4) ?_
                      refine TL_nil ?_
                      refine TX.sub (m' := [(0, sl Aw_ ((w_).length) cw_), (5, ptr (some (b1, 0)) 0), (7, vi rounds1), (8, vi s1.1), (9, ptr (some (b2, 0)) 0), (11, vi s4.1), (12, v8 all1), (13, v8 first1), (14, vi i4)]) ⟨rfl, rfl, rfl, rfl, rfl, rfl, rfl, rfl, rfl, trivial⟩ ?_
                      refine TX.pull (is := [0, 0]) (L' := [⟨some (b1, 0), e8 s1.2.toList⟩, ⟨some (b2, 0), e8 m_4.toList⟩]) rfl ?_
                      obtain rfl := Option.some.inj H
                      exact fun a w hs => hK (i4, m_4) rfl () a w hs
                    · replace H := ite_f (of_decide_eq_false hc) H
                      refine TC_exit ?_
                      refine TX_then_exit ?_
                      refine TX_then_exit ?_
                      refine TX.sub (m' := [(0, sl Aw_ ((w_).length) cw_), (5, ptr (some (b1, 0)) 0), (7, vi rounds1), (8, vi s1.1), (9, ptr (some (b2, 0)) 0), (11, vi s4.1), (12, v8 all1), (13, v8 first1)]) ⟨rfl, rfl, rfl, rfl, rfl, rfl, rfl, rfl, trivial⟩ ?_
                      refine TX.pull (is := [0, 0]) (L' := [⟨some (b1, 0), e8 s1.2.toList⟩, ⟨some (b2, 0), e8 s5.2.toList⟩]) rfl ?_
                      obtain rfl := Option.some.inj H
                      exact hE s5.2 rfl ()
                  · intro g
                    refine TX_block_exit ?_
                    refine TX_next ?_
                    obtain ⟨h21, H⟩ := if_elim H
                    obtain ⟨h22, H⟩ := if_elim H
                    obtain ⟨r_3, hr_3, H⟩ := bind_elim H
                    obtain ⟨h23, H⟩ := if_elim H
                    obtain ⟨m_5, hm_5, H⟩ := ltt_elim H
                    refine TA_begin [⟨some (b1, 0), e8 s1.2.toList⟩, ⟨some (b2, 0), e8 t_6.toList⟩] 17 (by kernel_rfl) (N := 18) rfl ?_
                    refine TA_take (i := 0) (is := [0, 0]) (done' := #[true, false, false, false, false, false, false, false, false, false, false, false, false, false, false, false, false, false]) rfl rfl rfl rfl (by kernel_rfl) (QP.block (QP.then (QP.then (QP.block (QP.then (QP.block (QP.then (QP.then (QP.block (QP.then QP.body)))))))))) (by kernel_rfl) rfl (V_move rfl) ?_
                    refine TA_take (i := 1) (is := [0, 0]) (done' := #[true, true, false, false, false, false, false, false, false, false, false, false, false, false, false, false, false, false]) rfl rfl rfl rfl (by kernel_rfl) (QP.block (QP.then (QP.then (QP.block (QP.then (QP.block (QP.then (QP.then (QP.block (QP.then QP.body)))))))))) (by kernel_rfl) rfl (V_bin rfl rfl (fun w => addI w s4.1 3)) ?_
                    refine TA_take (i := 2) (is := [0, 0]) (done' := #[true, true, true, false, false, false, false, false, false, false, false, false, false, false, false, false, false, false]) rfl rfl rfl rfl (by kernel_rfl) (QP.block (QP.then (QP.then (QP.block (QP.then (QP.block (QP.then (QP.then (QP.block (QP.then QP.body)))))))))) (by kernel_rfl) rfl (V_move rfl) ?_
                    refine TA_take (i := 3) (is := [0, 0]) (done' := #[true, true, true, true, false, false, false, false, false, false, false, false, false, false, false, false, false, false]) rfl rfl rfl rfl (by kernel_rfl) (QP.block (QP.then (QP.then (QP.block (QP.then (QP.block (QP.then (QP.then (QP.block (QP.then QP.body)))))))))) (by kernel_rfl) rfl (V_bin rfl rfl (fun w => addI w s4.1 3)) ?_
                    refine TA_take (i := 4) (is := [0, 0]) (done' := #[true, true, true, true, true, false, false, false, false, false, false, false, false, false, false, false, false, false]) rfl rfl rfl rfl (by kernel_rfl) (QP.block (QP.then (QP.then (QP.block (QP.then (QP.block (QP.then (QP.then (QP.block (QP.then QP.body)))))))))) (by kernel_rfl) rfl (V_idxArr (i := w64 (s4.1 + 3)) rfl rfl Try.underlying71 TryI.inf5 rfl h21.1 h21.2 (k := (w64 (s4.1 + 3)).toNat) (k01 _)) ?_
                    refine TA_take (i := 5) (is := [0, 0]) (done' := #[true, true, true, true, true, true, false, false, false, false, false, false, false, false, false, false, false, false]) rfl rfl rfl rfl (by kernel_rfl) (QP.block (QP.then (QP.then (QP.block (QP.then (QP.block (QP.then (QP.then (QP.block (QP.then QP.body)))))))))) (by kernel_rfl) rfl (V_load rfl (Src.own (j := 1) rfl) (get_vec (f := v8) (V := t_6) (toNat_lt h21.1 h21.2)) Try.isAgg5) ?_
                    refine TA_take (i := 6) (is := [0, 0]) (done' := #[true, true, true, true, true, true, true, false, false, false, false, false, false, false, false, false, false, false]) rfl rfl rfl rfl (by kernel_rfl) (QP.block (QP.then (QP.then (QP.block (QP.then (QP.block (QP.then (QP.then (QP.block (QP.then QP.body)))))))))) (by kernel_rfl) rfl (V_move rfl) ?_
                    refine TA_take (i := 7) (is := [0, 0]) (done' := #[true, true, true, true, true, true, true, true, false, false, false, false, false, false, false, false, false, false]) rfl rfl rfl rfl (by kernel_rfl) (QP.block (QP.then (QP.then (QP.block (QP.then (QP.block (QP.then (QP.then (QP.block (QP.then QP.body)))))))))) (by kernel_rfl) rfl (V_bin rfl rfl (fun w => xor8 w (vg t_6 ((w64 (s4.1 + 3)).toNat)) all1)) ?_
                    refine TA_take (i := 8) (is := [0, 0]) (done' := #[true, true, true, true, true, true, true, true, true, false, false, false, false, false, false, false, false, false]) rfl rfl rfl rfl (by kernel_rfl) (QP.block (QP.then (QP.then (QP.block (QP.then (QP.block (QP.then (QP.then (QP.block (QP.then QP.body)))))))))) (by kernel_rfl) rfl (V_move rfl) ?_
                    refine TA_take (i := 9) (is := [0, 0]) (done' := #[true, true, true, true, true, true, true, true, true, true, false, false, false, false, false, false, false, false]) rfl rfl rfl rfl (by kernel_rfl) (QP.block (QP.then (QP.then (QP.block (QP.then (QP.block (QP.then (QP.then (QP.block (QP.then QP.body)))))))))) (by kernel_rfl) rfl (V_bin rfl rfl (fun w => addI w s4.1 3)) ?_
                    refine TA_take (i := 10) (is := [0, 0]) (done' := #[true, true, true, true, true, true, true, true, true, true, true, false, false, false, false, false, false, false]) rfl rfl rfl rfl (by kernel_rfl) (QP.block (QP.then (QP.then (QP.block (QP.then (QP.block (QP.then (QP.then (QP.block (QP.then QP.body)))))))))) (by kernel_rfl) rfl (V_idxArr (i := w64 (s4.1 + 3)) rfl rfl Try.underlying71 TryI.inf5 rfl h22.1 h22.2 (k := (w64 (s4.1 + 3)).toNat) (k01 _)) ?_
                    refine TA_take (i := 11) (is := [0, 0]) (done' := #[true, true, true, true, true, true, true, true, true, true, true, true, false, false, false, false, false, false]) rfl rfl rfl rfl (by kernel_rfl) (QP.block (QP.then (QP.then (QP.block (QP.then (QP.block (QP.then (QP.then (QP.block (QP.then QP.body)))))))))) (by kernel_rfl) rfl (V_load rfl (Src.own (j := 1) rfl) (get_vec (f := v8) (V := t_6) (toNat_lt h22.1 h22.2)) Try.isAgg5) ?_
                    refine TA_take (i := 12) (is := [0, 0]) (done' := #[true, true, true, true, true, true, true, true, true, true, true, true, true, false, false, false, false, false]) rfl rfl rfl rfl (by kernel_rfl) (QP.block (QP.then (QP.then (QP.block (QP.then (QP.block (QP.then (QP.then (QP.block (QP.then QP.body)))))))))) (by kernel_rfl) rfl (V_move rfl) ?_
                    refine TA_take (i := 13) (is := [0, 0]) (done' := #[true, true, true, true, true, true, true, true, true, true, true, true, true, true, false, false, false, false]) rfl rfl rfl rfl (by kernel_rfl) (QP.block (QP.then (QP.then (QP.block (QP.then (QP.block (QP.then (QP.then (QP.block (QP.then QP.body)))))))))) (by kernel_rfl) rfl (V_bin rfl rfl (fun w => xor8 w (vg t_6 ((w64 (s4.1 + 3)).toNat)) first1)) ?_
                    refine TA_all (rs := [14]) (by kernel_rfl) rfl ?_
                    refine ⟨?_, trivial⟩
                    refine TO_e (is := [0, 0]) (done' := #[true, true, true, true, true, true, true, true, true, true, true, true, true, true, true, false, false, false]) rfl rfl rfl rfl (by kernel_rfl) (E_call (Γ := Unit) (val := fun g => v8 r_3) (mem := fun g => []) (vs := [v8 ((vg t_6 ((w64 (s4.1 + 3)).toNat)) ^^^ first1)]) (Lin := []) (Ro := []) (is := []) rfl Try.call83 (F83_calls ((vg t_6 ((w64 (s4.1 + 3)).toNat)) ^^^ first1) r_3 hr_3) rfl trivial) (fun _ _ => rfl) (fun g_2 => ?_)
                    refine TA_take (i := 15) (is := [0, 0]) (done' := #[true, true, true, true, true, true, true, true, true, true, true, true, true, true, true, true, false, false]) rfl rfl rfl rfl (by kernel_rfl) (QP.block (QP.then (QP.then (QP.block (QP.then (QP.block (QP.then (QP.then (QP.block (QP.then QP.body)))))))))) (by kernel_rfl) rfl (V_bin rfl rfl (fun w => xor8 w ((vg t_6 ((w64 (s4.1 + 3)).toNat)) ^^^ all1) r_3)) ?_
                    refine TA_take (i := 16) (is := [0, 0]) (done' := #[true, true, true, true, true, true, true, true, true, true, true, true, true, true, true, true, true, false]) rfl rfl rfl rfl (by kernel_rfl) (QP.block (QP.then (QP.then (QP.block (QP.then (QP.block (QP.then (QP.then (QP.block (QP.then QP.body)))))))))) (by kernel_rfl) rfl (V_idxArr (i := w64 (s4.1 + 3)) rfl rfl Try.underlying71 TryI.inf5 rfl h23.1 h23.2 (k := (w64 (s4.1 + 3)).toNat) (k01 _)) ?_
                    refine TA_all (rs := [17]) (by kernel_rfl) rfl ?_
                    refine ⟨?_, trivial⟩
                    refine TO_n (is := []) (R := fun _ => []) (done' := #[true, true, true, true, true, true, true, true, true, true, true, true, true, true, true, true, true, true]) rfl rfl rfl (by kernel_rfl) (E_store (j := 1) rfl rfl TryI.inf5 rfl rfl rfl (by simpa using (toNat_lt h23.1 h23.2)) (cs' := e8 ((vp t_6 ((w64 (s4.1 + 3)).toNat) (((vg t_6 ((w64 (s4.1 + 3)).toNat)) ^^^ all1) ^^^ r_3)).toList)) set_vec) (fun h => by cases h) (fun _ => ?_)
                    refine TA_reE (j := 1) (A := some (b2, 0)) (cs := e8 ((vp t_6 ((w64 (s4.1 + 3)).toNat) (((vg t_6 ((w64 (s4.1 + 3)).toNat)) ^^^ all1) ^^^ r_3)).toList)) (cs' := e8 m_5.toList) rfl (congrArg (fun z : Vector (BitVec 8) 16 => e8 (Vector.toList z)) hm_5) ?_
                    refine TA_done (by kernel_rfl) ?_ 0
                    refine TX_block_normal ?_
                    refine TX_next ?_
                    refine TC_region ?_
                    refine TL_v rfl rfl rfl (V_move rfl) ?_
                    refine TL_v rfl rfl rfl (V_bin rfl rfl (fun w => addI w s4.1 4)) ?_
                    refine TL_v rfl rfl rfl (V_assign rfl) ?_
                    obtain ⟨c1, hc1, H⟩ := ltt_elim H
                    refine TL_re (d := 11) (v := vi (w64 (s4.1 + 4))) (v' := vi c1) rfl (congrArg vi hc1) ?_
                    refine TL_nil ?_
                    refine TX.sub (m' := [(0, sl Aw_ ((w_).length) cw_), (5, ptr (some (b1, 0)) 0), (7, vi rounds1), (8, vi s1.1), (9, ptr (some (b2, 0)) 0), (11, vi c1)]) ⟨rfl, rfl, rfl, rfl, rfl, rfl, trivial⟩ ?_
                    refine TX.pull (is := [0, 0]) (L' := [⟨some (b1, 0), e8 s1.2.toList⟩, ⟨some (b2, 0), e8 m_5.toList⟩]) rfl ?_
                    obtain rfl := Option.some.inj H
                    exact fun a w hs => hK (c1, m_5) rfl () a w hs
                · replace H := ite_f (of_decide_eq_false hc) H
                  refine TC_exit ?_
                  refine TX_then_exit ?_
                  refine TX_then_exit ?_
                  refine TX.sub (m' := [(0, sl Aw_ ((w_).length) cw_), (5, ptr (some (b1, 0)) 0), (7, vi rounds1), (8, vi s1.1), (9, ptr (some (b2, 0)) 0)]) ⟨rfl, rfl, rfl, rfl, rfl, trivial⟩ ?_
                  refine TX.pull (is := [0, 0]) (L' := [⟨some (b1, 0), e8 s1.2.toList⟩, ⟨some (b2, 0), e8 s4.2.toList⟩]) rfl ?_
                  obtain rfl := Option.some.inj H
                  exact hE s4.2 rfl ()
              · intro g
                refine TX_block_exit ?_
                refine TX.sub (m' := [(0, sl Aw_ ((w_).length) cw_), (5, ptr (some (b1, 0)) 0), (7, vi rounds1), (8, vi s1.1), (9, ptr (some (b2, 0)) 0)]) ⟨rfl, rfl, rfl, rfl, rfl, trivial⟩ ?_
                refine TX.pull (is := [0, 0]) (L' := [⟨some (b1, 0), e8 s1.2.toList⟩, ⟨some (b2, 0), e8 t_5.toList⟩]) rfl ?_
                obtain rfl := Option.some.inj H
                exact hJ ()
            · replace H := ite_f (of_decide_eq_false hc) H
              refine TC_skip ?_
              refine TX.sub (m' := [(0, sl Aw_ ((w_).length) cw_), (5, ptr (some (b1, 0)) 0), (7, vi rounds1), (8, vi s1.1), (9, ptr (some (b2, 0)) 0)]) ⟨rfl, rfl, rfl, rfl, rfl, trivial⟩ ?_
              refine TX.pull (is := [0, 0]) (L' := [⟨some (b1, 0), e8 s1.2.toList⟩, ⟨some (b2, 0), e8 t_3.toList⟩]) rfl ?_
              obtain rfl := Option.some.inj H
              exact hJ ()
      · replace H := ite_f (of_decide_eq_false hc) H
        refine TC_exit ?_
        refine TX_then_exit ?_
        refine TX_then_exit ?_
        refine TX.sub (m' := [(5, ptr (some (b1, 0)) 0)]) ⟨rfl, trivial⟩ ?_
        refine TX.pull (is := [0]) (L' := [⟨some (b1, 0), e8 s1.2.toList⟩]) rfl ?_
        obtain rfl := Option.some.inj H
        exact hE s1.2 rfl ()
    · intro g
      refine TX_block_exit ?_
      refine TX_next ?_
      refine TC_seq ?_
      refine TC_region ?_
      refine TL_v rfl rfl rfl (V_sliceArr0 rfl (by simp) Try.underlying71 TryI.inf5 rfl) ?_
      refine TL_v rfl rfl rfl (V_b2s rfl Try.underlying30 Try.underlying5 Try.underlying9 (Src.own (j := 0) rfl) (by simp)) ?_
      refine TL_v rfl rfl rfl (V_assign rfl) ?_
      refine TL_nil ?_
      refine TX_next ?_
      refine TC_ret ?_
      have hrv := Option.some.inj H
      subst hrv
      exact TX_ret (rs := [.tmp 4]) (vs := [vs t_2.toList]) rfl ⟨rfl, trivial⟩ (fun w' hs' => ⟨(), rfl, Step.left (Step.pulled (is := []) (A := []) hs' rfl)⟩)

end Go.Proofs
end

section
namespace Go.Proofs
open Go Go.Kx
set_option linter.unusedVariables false
set_option linter.unusedSimpArgs false
def halberdref4_schedule.k1 : Str := ([99#8, 124#8, 119#8, 123#8, 242#8, 107#8, 111#8, 197#8, 48#8, 1#8, 103#8, 43#8, 254#8, 215#8, 171#8, 118#8, 202#8, 130#8, 201#8, 125#8, 250#8, 89#8, 71#8, 240#8, 173#8, 212#8, 162#8, 175#8, 156#8, 164#8, 114#8, 192#8, 183#8, 253#8, 147#8, 38#8, 54#8, 63#8, 247#8, 204#8, 52#8, 165#8, 229#8, 241#8, 113#8, 216#8, 49#8, 21#8, 4#8, 199#8, 35#8, 195#8, 24#8, 150#8, 5#8, 154#8, 7#8, 18#8, 128#8, 226#8, 235#8, 39#8, 178#8, 117#8, 9#8, 131#8, 44#8, 26#8, 27#8, 110#8, 90#8, 160#8, 82#8, 59#8, 214#8, 179#8, 41#8, 227#8, 47#8, 132#8, 83#8, 209#8, 0#8, 237#8, 32#8, 252#8, 177#8, 91#8, 106#8, 203#8, 190#8, 57#8, 74#8, 76#8, 88#8, 207#8, 208#8, 239#8, 170#8, 251#8, 67#8, 77#8, 51#8, 133#8, 69#8, 249#8, 2#8, 127#8, 80#8, 60#8, 159#8, 168#8, 81#8, 163#8, 64#8, 143#8, 146#8, 157#8, 56#8, 245#8, 188#8, 182#8, 218#8, 33#8, 16#8, 255#8, 243#8, 210#8, 205#8, 12#8, 19#8, 236#8, 95#8, 151#8, 68#8, 23#8, 196#8, 167#8, 126#8, 61#8, 100#8, 93#8, 25#8, 115#8, 96#8, 129#8, 79#8, 220#8, 34#8, 42#8, 144#8, 136#8, 70#8, 238#8, 184#8, 20#8, 222#8, 94#8, 11#8, 219#8, 224#8, 50#8, 58#8, 10#8, 73#8, 6#8, 36#8, 92#8, 194#8, 211#8, 172#8, 98#8, 145#8, 149#8, 228#8, 121#8, 231#8, 200#8, 55#8, 109#8, 141#8, 213#8, 78#8, 169#8, 108#8, 86#8, 244#8, 234#8, 101#8, 122#8, 174#8, 8#8, 186#8, 120#8, 37#8, 46#8, 28#8, 166#8, 180#8, 198#8, 232#8, 221#8, 116#8, 31#8, 75#8, 189#8, 139#8, 138#8, 112#8, 62#8, 181#8, 102#8, 72#8, 3#8, 246#8, 14#8, 97#8, 53#8, 87#8, 185#8, 134#8, 193#8, 29#8, 158#8, 225#8, 248#8, 152#8, 17#8, 105#8, 217#8, 142#8, 148#8, 155#8, 30#8, 135#8, 233#8, 206#8, 85#8, 40#8, 223#8, 140#8, 161#8, 137#8, 13#8, 191#8, 230#8, 66#8, 104#8, 65#8, 153#8, 45#8, 15#8, 176#8, 84#8, 187#8, 22#8] : Str)

def halberdref4_schedule.b0 (key : Str) (k_1 : Int) (s0 : Int × List (Vector (BitVec 8) 4)) : Option ((Int × List (Vector (BitVec 8) 4)) ⊕ (List (Vector (BitVec 8) 4))) :=
  if s0.1 < k_1 then (if 0 ≤ w64 (4 * s0.1) ∧ w64 (4 * s0.1) < ((key).length : Int) then (if 0 ≤ w64 ((w64 (4 * s0.1)) + 1) ∧ w64 ((w64 (4 * s0.1)) + 1) < ((key).length : Int) then (if 0 ≤ w64 ((w64 (4 * s0.1)) + 2) ∧ w64 ((w64 (4 * s0.1)) + 2) < ((key).length : Int) then (if 0 ≤ w64 ((w64 (4 * s0.1)) + 3) ∧ w64 ((w64 (4 * s0.1)) + 3) < ((key).length : Int) then (if (s0.2).length + (([(#v[sg key (w64 (4 * s0.1)), sg key (w64 ((w64 (4 * s0.1)) + 1)), sg key (w64 ((w64 (4 * s0.1)) + 2)), sg key (w64 ((w64 (4 * s0.1)) + 3))] : Vector (BitVec 8) 4)] : List (Vector (BitVec 8) 4))).length ≤ 35184372088832 then (ltt (s0.2 ++ ([(#v[sg key (w64 (4 * s0.1)), sg key (w64 ((w64 (4 * s0.1)) + 1)), sg key (w64 ((w64 (4 * s0.1)) + 2)), sg key (w64 ((w64 (4 * s0.1)) + 3))] : Vector (BitVec 8) 4)] : List (Vector (BitVec 8) 4))) fun (l1 : List (Vector (BitVec 8) 4)) => (ltt (w64 (s0.1 + 1)) fun (i1 : Int) => (some (.inl (i1, l1))))) else none) else none) else none) else none) else none) else (some (.inr s0.2))

def halberdref4_schedule.b2 (k_1 : Int) (s1 : BitVec 8 × Int × List (Vector (BitVec 8) 4)) (s2 : Int × Vector (BitVec 8) 4) : Option ((Int × Vector (BitVec 8) 4) ⊕ (Vector (BitVec 8) 4)) :=
  if s2.1 < 4 then (if 0 ≤ s2.1 ∧ s2.1 < (4 : Int) then (if 0 ≤ w64 (s1.2.1 - k_1) ∧ w64 (s1.2.1 - k_1) < ((s1.2.2).length : Int) then (if 0 ≤ s2.1 ∧ s2.1 < (4 : Int) then (if 0 ≤ s2.1 ∧ s2.1 < (4 : Int) then (ltt (vp s2.2 ((s2.1).toNat) ((vg s2.2 ((s2.1).toNat)) ^^^ (vg (lg s1.2.2 ((w64 (s1.2.1 - k_1)).toNat)) ((s2.1).toNat)))) fun (m_2 : Vector (BitVec 8) 4) => (ltt (w64 (s2.1 + 1)) fun (j2 : Int) => (some (.inl (j2, m_2))))) else none) else none) else none) else none) else (some (.inr s2.2))

def halberdref4_schedule.b1 (k_1 : Int) (s1 : BitVec 8 × Int × List (Vector (BitVec 8) 4)) : Option ((BitVec 8 × Int × List (Vector (BitVec 8) 4)) ⊕ (List (Vector (BitVec 8) 4))) :=
  if s1.2.1 < (w64 (4 * (w64 (k_1 + 7)))) then (if 0 ≤ w64 (s1.2.1 - 1) ∧ w64 (s1.2.1 - 1) < ((s1.2.2).length : Int) then (ltt (lg s1.2.2 ((w64 (s1.2.1 - 1)).toNat)) fun (m_1 : Vector (BitVec 8) 4) => (if k_1 ≠ 0 then (ltt (decide ((s1.2.1.tmod k_1) = 0)) fun (x1 : Bool) => ((if x1 = true then (if 0 ≤ ((vg m_1 1).toNat : Int) ∧ ((vg m_1 1).toNat : Int) < ((halberdref4_schedule.k1).length : Int) then (if 0 ≤ ((vg m_1 2).toNat : Int) ∧ ((vg m_1 2).toNat : Int) < ((halberdref4_schedule.k1).length : Int) then (if 0 ≤ ((vg m_1 3).toNat : Int) ∧ ((vg m_1 3).toNat : Int) < ((halberdref4_schedule.k1).length : Int) then (if 0 ≤ ((vg m_1 0).toNat : Int) ∧ ((vg m_1 0).toNat : Int) < ((halberdref4_schedule.k1).length : Int) then (ltt ((#v[(sg halberdref4_schedule.k1 ((vg m_1 1).toNat : Int)) ^^^ s1.1, sg halberdref4_schedule.k1 ((vg m_1 2).toNat : Int), sg halberdref4_schedule.k1 ((vg m_1 3).toNat : Int), sg halberdref4_schedule.k1 ((vg m_1 0).toNat : Int)] : Vector (BitVec 8) 4)) fun (m_3 : Vector (BitVec 8) 4) => ((halberdref4_double s1.1).bind fun (r_1 : BitVec 8) => (some (r_1, m_3)))) else none) else none) else none) else none) else (if 6 < k_1 then (if k_1 ≠ 0 then (ltt (decide ((s1.2.1.tmod k_1) = 4)) fun (x2 : Bool) => (if x2 = true then (if 0 ≤ ((vg m_1 0).toNat : Int) ∧ ((vg m_1 0).toNat : Int) < ((halberdref4_schedule.k1).length : Int) then (if 0 ≤ ((vg m_1 1).toNat : Int) ∧ ((vg m_1 1).toNat : Int) < ((halberdref4_schedule.k1).length : Int) then (if 0 ≤ ((vg m_1 2).toNat : Int) ∧ ((vg m_1 2).toNat : Int) < ((halberdref4_schedule.k1).length : Int) then (if 0 ≤ ((vg m_1 3).toNat : Int) ∧ ((vg m_1 3).toNat : Int) < ((halberdref4_schedule.k1).length : Int) then (ltt ((#v[sg halberdref4_schedule.k1 ((vg m_1 0).toNat : Int), sg halberdref4_schedule.k1 ((vg m_1 1).toNat : Int), sg halberdref4_schedule.k1 ((vg m_1 2).toNat : Int), sg halberdref4_schedule.k1 ((vg m_1 3).toNat : Int)] : Vector (BitVec 8) 4)) fun (m_4 : Vector (BitVec 8) 4) => (some (s1.1, m_4))) else none) else none) else none) else none) else (some (s1.1, m_1)))) else none) else (some (s1.1, m_1)))).bind fun (j1 : BitVec 8 × Vector (BitVec 8) 4) => ((loop (halberdref4_schedule.b2 k_1 s1) BIG (0, j1.2)).bind fun (t_3 : Vector (BitVec 8) 4) => (if (s1.2.2).length + (([t_3] : List (Vector (BitVec 8) 4))).length ≤ 35184372088832 then (ltt (s1.2.2 ++ ([t_3] : List (Vector (BitVec 8) 4))) fun (l2 : List (Vector (BitVec 8) 4)) => (ltt (w64 (s1.2.1 + 1)) fun (i2 : Int) => (some (.inl (j1.1, i2, l2))))) else none)))) else none)) else none) else (some (.inr s1.2.2))

def halberdref4_schedule (key : Str) : Option (List (Vector (BitVec 8) 4)) :=
  ltt (w64 (((key).length : Int).tdiv 4)) fun (k_1 : Int) => ((loop (halberdref4_schedule.b0 key k_1) BIG (0, ([] : List (Vector (BitVec 8) 4)))).bind fun (t_1 : List (Vector (BitVec 8) 4)) => ((loop (halberdref4_schedule.b1 k_1) BIG (1#8, k_1, t_1)).bind fun (t_2 : List (Vector (BitVec 8) 4)) => (some t_2)))

set_option maxHeartbeats 4000000 in
set_option maxRecDepth 20000 in
theorem F53_calls (key : Str) (r : List (Vector (BitVec 8) 4)) (H : halberdref4_schedule key = some r) :
    Does Try.prog 53 [vs key] [] [] (Γ := Adr × List (Vector (BitVec 8) 4)) (fun g => sl g.1 ((r).length) ((r ++ g.2).length)) (fun g => [⟨g.1, eF (fun V : Vector (BitVec 8) 4 => e8 V.toList) (r ++ g.2)⟩]) := by
  intro w hmem hro hd
  refine calls_of (N := 121) (m0 := [(0, vs key)]) Try.func53 rfl Try.ntmps53 (argM_ok [vs key]) rfl hmem hro hd ?_
  unfold halberdref4_schedule at H
  refine TC_seq ?_
  refine TC_region ?_
  refine TL_e rfl rfl rfl (E_nilS rfl (z := eF (fun V : Vector (BitVec 8) 4 => e8 V.toList) (([] : List (Vector (BitVec 8) 4)) ++ ([] : List (Vector (BitVec 8) 4)))) rfl) (fun A1 => ?_)
  refine TL_nil ?_
  refine TX_next ?_
  refine TC_seq ?_
  refine TC_region ?_
  refine TL_v rfl rfl rfl (V_move rfl) ?_
  refine TL_v rfl rfl rfl (V_len_str rfl Try.underlying9) ?_
  refine TL_v rfl rfl rfl (V_bin rfl rfl (fun w => quoI w ((key).length : Int) 4 (by decide))) ?_
  refine TL_v rfl rfl rfl (V_assign rfl) ?_
  obtain ⟨k_1, hk_1, H⟩ := ltt_elim H
  refine TL_re (d := 3) (v := vi (w64 (((key).length : Int).tdiv 4))) (v' := vi k_1) rfl (congrArg vi hk_1) ?_
  refine TL_nil ?_
  refine TX_next ?_
  refine TC_seq ?_
  refine TC_region ?_
  refine TL_e rfl rfl rfl (E_nilS rfl (z := eF (fun V : Vector (BitVec 8) 4 => e8 V.toList) (([] : List (Vector (BitVec 8) 4)) ++ ([] : List (Vector (BitVec 8) 4)))) rfl) (fun A2 => ?_)
  refine TL_nil ?_
  refine TX_next ?_
  refine TC_seq ?_
  refine TC_seq ?_
  refine TC_region ?_
  refine TL_v rfl rfl rfl (V_assign rfl) ?_
  refine TL_nil ?_
  refine TX_next ?_
  refine TC_block ?_
  obtain ⟨t_1, Hl, H⟩ := bind_elim H
  refine TC.sub (m' := [(0, vs key), (3, vi k_1), (4, sl A2 ((([] : List (Vector (BitVec 8) 4))).length) ((([] : List (Vector (BitVec 8) 4)) ++ ([] : List (Vector (BitVec 8) 4))).length)), (5, vi 0)]) ⟨rfl, rfl, rfl, rfl, trivial⟩ ?_
  refine TC.pull (is := [0]) (L' := [⟨A2, eF (fun V : Vector (BitVec 8) 4 => e8 V.toList) (([] : List (Vector (BitVec 8) 4)) ++ ([] : List (Vector (BitVec 8) 4)))⟩]) rfl ?_
  refine TC_loopL (id := 0) (body := (halberdref4_schedule.b0 key k_1)) (σ := Int × List (Vector (BitVec 8) 4)) (Γ := Adr × List (Vector (BitVec 8) 4)) (Γx := Adr × List (Vector (BitVec 8) 4)) (fun s0 g0_ => [(0, vs key), (3, vi k_1), (4, sl g0_.1 ((s0.2).length) ((s0.2 ++ g0_.2).length)), (5, vi s0.1)]) (fun s0 g0_ => [⟨g0_.1, eF (fun V : Vector (BitVec 8) 4 => e8 V.toList) (s0.2 ++ g0_.2)⟩]) (fun t g => [(3, vi k_1), (4, sl g.1 ((t).length) ((t ++ g.2).length))]) (fun t g => [⟨g.1, eF (fun V : Vector (BitVec 8) 4 => e8 V.toList) (t ++ g.2)⟩]) ?_ BIG (0, ([] : List (Vector (BitVec 8) 4))) (A2, ([] : List (Vector (BitVec 8) 4))) t_1 Hl ?_
  · intro s0 g0_ r1 H K hK hE
    unfold halberdref4_schedule.b0 at H
    refine TC_seq ?_
    refine TC_seq ?_
    refine TC_region ?_
    refine TL_v rfl rfl rfl (V_move rfl) ?_
    refine TL_v rfl rfl rfl (V_move rfl) ?_
    refine TL_v rfl rfl rfl (V_bin rfl rfl (fun w => lssI w s0.1 k_1)) ?_
    refine TL_nil ?_
    refine TX_next ?_
    refine TC_cond (b := (decide (s0.1 < k_1))) rfl (fun hc => ?_) (fun hc => ?_)
    · replace H := ite_t (of_decide_eq_true hc) H
      refine TC_skip ?_
      refine TX_next ?_
      refine TC_seq ?_
      refine TC_block ?_
      obtain ⟨h1, H⟩ := if_elim H
      obtain ⟨h2, H⟩ := if_elim H
      obtain ⟨h3, H⟩ := if_elim H
      obtain ⟨h4, H⟩ := if_elim H
      obtain ⟨h5, H⟩ := if_elim H
      obtain ⟨l1, hl1, H⟩ := ltt_elim H
      refine TA_begin [] 23 (by kernel_rfl) (N := 24) rfl ?_
      refine TA_take (i := 0) (is := []) (done' := #[true, false, false, false, false, false, false, false, false, false, false, false, false, false, false, false, false, false, false, false, false, false, false, false]) rfl rfl rfl rfl (by kernel_rfl) (QP.block (QP.then (QP.then (QP.block (QP.then QP.body))))) (by kernel_rfl) rfl (V_move rfl) ?_
      refine TA_take (i := 1) (is := []) (done' := #[true, true, false, false, false, false, false, false, false, false, false, false, false, false, false, false, false, false, false, false, false, false, false, false]) rfl rfl rfl rfl (by kernel_rfl) (QP.block (QP.then (QP.then (QP.block (QP.then QP.body))))) (by kernel_rfl) rfl (V_move rfl) ?_
      refine TA_take (i := 2) (is := []) (done' := #[true, true, true, false, false, false, false, false, false, false, false, false, false, false, false, false, false, false, false, false, false, false, false, false]) rfl rfl rfl rfl (by kernel_rfl) (QP.block (QP.then (QP.then (QP.block (QP.then QP.body))))) (by kernel_rfl) rfl (V_move rfl) ?_
      refine TA_take (i := 3) (is := []) (done' := #[true, true, true, true, false, false, false, false, false, false, false, false, false, false, false, false, false, false, false, false, false, false, false, false]) rfl rfl rfl rfl (by kernel_rfl) (QP.block (QP.then (QP.then (QP.block (QP.then QP.body))))) (by kernel_rfl) rfl (V_bin rfl rfl (fun w => mulI w 4 s0.1)) ?_
      refine TA_take (i := 4) (is := []) (done' := #[true, true, true, true, true, false, false, false, false, false, false, false, false, false, false, false, false, false, false, false, false, false, false, false]) rfl rfl rfl rfl (by kernel_rfl) (QP.block (QP.then (QP.then (QP.block (QP.then QP.body))))) (by kernel_rfl) rfl (V_idxStr rfl rfl (i := w64 (4 * s0.1)) Try.underlying9 h1.1 h1.2) ?_
      refine TA_take (i := 5) (is := []) (done' := #[true, true, true, true, true, true, false, false, false, false, false, false, false, false, false, false, false, false, false, false, false, false, false, false]) rfl rfl rfl rfl (by kernel_rfl) (QP.block (QP.then (QP.then (QP.block (QP.then QP.body))))) (by kernel_rfl) rfl (V_move rfl) ?_
      refine TA_take (i := 6) (is := []) (done' := #[true, true, true, true, true, true, true, false, false, false, false, false, false, false, false, false, false, false, false, false, false, false, false, false]) rfl rfl rfl rfl (by kernel_rfl) (QP.block (QP.then (QP.then (QP.block (QP.then QP.body))))) (by kernel_rfl) rfl (V_move rfl) ?_
      refine TA_take (i := 7) (is := []) (done' := #[true, true, true, true, true, true, true, true, false, false, false, false, false, false, false, false, false, false, false, false, false, false, false, false]) rfl rfl rfl rfl (by kernel_rfl) (QP.block (QP.then (QP.then (QP.block (QP.then QP.body))))) (by kernel_rfl) rfl (V_bin rfl rfl (fun w => mulI w 4 s0.1)) ?_
      refine TA_take (i := 8) (is := []) (done' := #[true, true, true, true, true, true, true, true, true, false, false, false, false, false, false, false, false, false, false, false, false, false, false, false]) rfl rfl rfl rfl (by kernel_rfl) (QP.block (QP.then (QP.then (QP.block (QP.then QP.body))))) (by kernel_rfl) rfl (V_bin rfl rfl (fun w => addI w (w64 (4 * s0.1)) 1)) ?_
      refine TA_take (i := 9) (is := []) (done' := #[true, true, true, true, true, true, true, true, true, true, false, false, false, false, false, false, false, false, false, false, false, false, false, false]) rfl rfl rfl rfl (by kernel_rfl) (QP.block (QP.then (QP.then (QP.block (QP.then QP.body))))) (by kernel_rfl) rfl (V_idxStr rfl rfl (i := w64 ((w64 (4 * s0.1)) + 1)) Try.underlying9 h2.1 h2.2) ?_
      refine TA_take (i := 10) (is := []) (done' := #[true, true, true, true, true, true, true, true, true, true, true, false, false, false, false, false, false, false, false, false, false, false, false, false]) rfl rfl rfl rfl (by kernel_rfl) (QP.block (QP.then (QP.then (QP.block (QP.then QP.body))))) (by kernel_rfl) rfl (V_move rfl) ?_
      refine TA_take (i := 11) (is := []) (done' := #[true, true, true, true, true, true, true, true, true, true, true, true, false, false, false, false, false, false, false, false, false, false, false, false]) rfl rfl rfl rfl (by kernel_rfl) (QP.block (QP.then (QP.then (QP.block (QP.then QP.body))))) (by kernel_rfl) rfl (V_move rfl) ?_
      refine TA_take (i := 12) (is := []) (done' := #[true, true, true, true, true, true, true, true, true, true, true, true, true, false, false, false, false, false, false, false, false, false, false, false]) rfl rfl rfl rfl (by kernel_rfl) (QP.block (QP.then (QP.then (QP.block (QP.then QP.body))))) (by kernel_rfl) rfl (V_bin rfl rfl (fun w => mulI w 4 s0.1)) ?_
      refine TA_take (i := 13) (is := []) (done' := #[true, true, true, true, true, true, true, true, true, true, true, true, true, true, false, false, false, false, false, false, false, false, false, false]) rfl rfl rfl rfl (by kernel_rfl) (QP.block (QP.then (QP.then (QP.block (QP.then QP.body))))) (by kernel_rfl) rfl (V_bin rfl rfl (fun w => addI w (w64 (4 * s0.1)) 2)) ?_
      refine TA_take (i := 14) (is := []) (done' := #[true, true, true, true, true, true, true, true, true, true, true, true, true, true, true, false, false, false, false, false, false, false, false, false]) rfl rfl rfl rfl (by kernel_rfl) (QP.block (QP.then (QP.then (QP.block (QP.then QP.body))))) (by kernel_rfl) rfl (V_idxStr rfl rfl (i := w64 ((w64 (4 * s0.1)) + 2)) Try.underlying9 h3.1 h3.2) ?_
      refine TA_take (i := 15) (is := []) (done' := #[true, true, true, true, true, true, true, true, true, true, true, true, true, true, true, true, false, false, false, false, false, false, false, false]) rfl rfl rfl rfl (by kernel_rfl) (QP.block (QP.then (QP.then (QP.block (QP.then QP.body))))) (by kernel_rfl) rfl (V_move rfl) ?_
      refine TA_take (i := 16) (is := []) (done' := #[true, true, true, true, true, true, true, true, true, true, true, true, true, true, true, true, true, false, false, false, false, false, false, false]) rfl rfl rfl rfl (by kernel_rfl) (QP.block (QP.then (QP.then (QP.block (QP.then QP.body))))) (by kernel_rfl) rfl (V_move rfl) ?_
      refine TA_take (i := 17) (is := []) (done' := #[true, true, true, true, true, true, true, true, true, true, true, true, true, true, true, true, true, true, false, false, false, false, false, false]) rfl rfl rfl rfl (by kernel_rfl) (QP.block (QP.then (QP.then (QP.block (QP.then QP.body))))) (by kernel_rfl) rfl (V_bin rfl rfl (fun w => mulI w 4 s0.1)) ?_
      refine TA_take (i := 18) (is := []) (done' := #[true, true, true, true, true, true, true, true, true, true, true, true, true, true, true, true, true, true, true, false, false, false, false, false]) rfl rfl rfl rfl (by kernel_rfl) (QP.block (QP.then (QP.then (QP.block (QP.then QP.body))))) (by kernel_rfl) rfl (V_bin rfl rfl (fun w => addI w (w64 (4 * s0.1)) 3)) ?_
      refine TA_take (i := 19) (is := []) (done' := #[true, true, true, true, true, true, true, true, true, true, true, true, true, true, true, true, true, true, true, true, false, false, false, false]) rfl rfl rfl rfl (by kernel_rfl) (QP.block (QP.then (QP.then (QP.block (QP.then QP.body))))) (by kernel_rfl) rfl (V_idxStr rfl rfl (i := w64 ((w64 (4 * s0.1)) + 3)) Try.underlying9 h4.1 h4.2) ?_
      refine TA_take (i := 20) (is := []) (done' := #[true, true, true, true, true, true, true, true, true, true, true, true, true, true, true, true, true, true, true, true, true, false, false, false]) rfl rfl rfl rfl (by kernel_rfl) (QP.block (QP.then (QP.then (QP.block (QP.then QP.body))))) (by kernel_rfl) rfl (V_buildArr (pv := [(0, v8 (sg key (w64 (4 * s0.1)))), (1, v8 (sg key (w64 ((w64 (4 * s0.1)) + 1)))), (2, v8 (sg key (w64 ((w64 (4 * s0.1)) + 2)))), (3, v8 (sg key (w64 ((w64 (4 * s0.1)) + 3))))]) rfl rfl Try.underlying125 TryI.inf125 TryI.inf5 rfl TryI.zer125 (cs := e8 ((#v[sg key (w64 (4 * s0.1)), sg key (w64 ((w64 (4 * s0.1)) + 1)), sg key (w64 ((w64 (4 * s0.1)) + 2)), sg key (w64 ((w64 (4 * s0.1)) + 3))] : Vector (BitVec 8) 4).toList)) (by kernel_rfl)) ?_
      refine TA_all (rs := [21]) (by kernel_rfl) rfl ?_
      refine ⟨?_, trivial⟩
      refine TO_e (is := []) (done' := #[true, true, true, true, true, true, true, true, true, true, true, true, true, true, true, true, true, true, true, true, true, true, false, false]) rfl rfl rfl rfl (by kernel_rfl) (E_buildSlice (pv := [(0, Value.agg (flat [(4, e8 ((#v[sg key (w64 (4 * s0.1)), sg key (w64 ((w64 (4 * s0.1)) + 1)), sg key (w64 ((w64 (4 * s0.1)) + 2)), sg key (w64 ((w64 (4 * s0.1)) + 3))] : Vector (BitVec 8) 4).toList))]).toArray)]) rfl rfl Try.underlying74 TryI.inf125 (s := 4) rfl TryI.zer125 (by kernel_rfl) rfl rfl (cs := eF (fun V : Vector (BitVec 8) 4 => e8 V.toList) ([(#v[sg key (w64 (4 * s0.1)), sg key (w64 ((w64 (4 * s0.1)) + 1)), sg key (w64 ((w64 (4 * s0.1)) + 2)), sg key (w64 ((w64 (4 * s0.1)) + 3))] : Vector (BitVec 8) 4)] : List (Vector (BitVec 8) 4))) (fill_sl (g := fun V : Vector (BitVec 8) 4 => e8 V.toList) 4 (fill_part [] [] rfl rfl trivial rfl (by kernel_rfl) (lenV (f := v8) (#v[sg key (w64 (4 * s0.1)), sg key (w64 ((w64 (4 * s0.1)) + 1)), sg key (w64 ((w64 (4 * s0.1)) + 2)), sg key (w64 ((w64 (4 * s0.1)) + 3))] : Vector (BitVec 8) 4)) fill_end))) (fun _ _ => rfl) (fun b1 => ?_)
      refine TA_more (Lr2 := [⟨some (b1, 0), eF (fun V : Vector (BitVec 8) 4 => e8 V.toList) ([(#v[sg key (w64 (4 * s0.1)), sg key (w64 ((w64 (4 * s0.1)) + 1)), sg key (w64 ((w64 (4 * s0.1)) + 2)), sg key (w64 ((w64 (4 * s0.1)) + 3))] : Vector (BitVec 8) 4)] : List (Vector (BitVec 8) 4))⟩]) (is := []) (is2 := [0]) rfl rfl ?_
      refine TA_all (rs := [22]) (by kernel_rfl) rfl ?_
      refine ⟨?_, trivial⟩
      refine TO_re (d := 39) (v := sl (some (b1, 0)) 1 1) (v' := sl (some (b1, 0)) ((([(#v[sg key (w64 (4 * s0.1)), sg key (w64 ((w64 (4 * s0.1)) + 1)), sg key (w64 ((w64 (4 * s0.1)) + 2)), sg key (w64 ((w64 (4 * s0.1)) + 3))] : Vector (BitVec 8) 4)] : List (Vector (BitVec 8) 4))).length) 1) rfl (congrArg (fun n => sl (some (b1, 0)) n 1) rfl) ?_
      refine TO_e (is := [0]) (done' := #[true, true, true, true, true, true, true, true, true, true, true, true, true, true, true, true, true, true, true, true, true, true, true, false]) rfl rfl rfl rfl (by kernel_rfl) (E_appSl (g := fun V : Vector (BitVec 8) 4 => e8 V.toList) (s := 4) (j := 1) (l := s0.2) (sp := g0_.2) (ds := ([(#v[sg key (w64 (4 * s0.1)), sg key (w64 ((w64 (4 * s0.1)) + 1)), sg key (w64 ((w64 (4 * s0.1)) + 2)), sg key (w64 ((w64 (4 * s0.1)) + 3))] : Vector (BitVec 8) 4)] : List (Vector (BitVec 8) 4))) (Vector.replicate 4 0#8) rfl rfl rfl (fun _ => by simp) rfl (fun _ => OneC.map (fun _ => rfl) _) (Src.own (j := 0) rfl) Try.underlying74 Try.underlying74 TryI.inf125 rfl (TryI.zer125.trans rfl) (bytes := 4) rfl (by have := h5; omega) (by have := h5; omega) hl1) (fun _ _ => rfl) (fun q1 => ?_)
      refine TA_more (Lr2 := [⟨some (b1, 0), eF (fun V : Vector (BitVec 8) 4 => e8 V.toList) ([(#v[sg key (w64 (4 * s0.1)), sg key (w64 ((w64 (4 * s0.1)) + 1)), sg key (w64 ((w64 (4 * s0.1)) + 2)), sg key (w64 ((w64 (4 * s0.1)) + 3))] : Vector (BitVec 8) 4)] : List (Vector (BitVec 8) 4))⟩, ⟨q1.1, eF (fun V : Vector (BitVec 8) 4 => e8 V.toList) (l1 ++ q1.2)⟩]) (is := [0]) (is2 := [0, 0]) rfl rfl ?_
      refine TA_all (rs := [23]) (by kernel_rfl) rfl ?_
      refine ⟨?_, trivial⟩
      refine TO_v (is := [0, 0]) (done' := #[true, true, true, true, true, true, true, true, true, true, true, true, true, true, true, true, true, true, true, true, true, true, true, true]) rfl rfl rfl rfl (by kernel_rfl) (V_assign rfl) (fun _ => rfl) ?_
      refine TA_done (by kernel_rfl) ?_ 0
      refine TX_block_normal ?_
      refine TX_next ?_
      refine TC.sub (m' := [(0, vs key), (3, vi k_1), (4, sl q1.1 ((l1).length) ((l1 ++ q1.2).length)), (5, vi s0.1)]) ⟨rfl, rfl, rfl, rfl, trivial⟩ ?_
      refine TC_region ?_
      refine TL_v rfl rfl rfl (V_move rfl) ?_
      refine TL_v rfl rfl rfl (V_bin rfl rfl (fun w => addI w s0.1 1)) ?_
      refine TL_v rfl rfl rfl (V_assign rfl) ?_
      obtain ⟨i1, hi1, H⟩ := ltt_elim H
      refine TL_re (d := 5) (v := vi (w64 (s0.1 + 1))) (v' := vi i1) rfl (congrArg vi hi1) ?_
      refine TL_nil ?_
      refine TX.sub (m' := [(0, vs key), (3, vi k_1), (4, sl q1.1 ((l1).length) ((l1 ++ q1.2).length)), (5, vi i1)]) ⟨rfl, rfl, rfl, rfl, trivial⟩ ?_
      refine TX.pull (is := [1]) (L' := [⟨q1.1, eF (fun V : Vector (BitVec 8) 4 => e8 V.toList) (l1 ++ q1.2)⟩]) rfl ?_
      obtain rfl := Option.some.inj H
      exact fun a w hs => hK (i1, l1) rfl (q1.1, q1.2) a w hs
    · replace H := ite_f (of_decide_eq_false hc) H
      refine TC_exit ?_
      refine TX_then_exit ?_
      refine TX_then_exit ?_
      refine TX.sub (m' := [(3, vi k_1), (4, sl g0_.1 ((s0.2).length) ((s0.2 ++ g0_.2).length))]) ⟨rfl, rfl, trivial⟩ ?_
      refine TX.pull (is := [0]) (L' := [⟨g0_.1, eF (fun V : Vector (BitVec 8) 4 => e8 V.toList) (s0.2 ++ g0_.2)⟩]) rfl ?_
      obtain rfl := Option.some.inj H
      exact hE s0.2 rfl (g0_.1, g0_.2)
  · intro g
    obtain ⟨gx1, hgx⟩ : ∃ z, z = g := ⟨g, rfl⟩; subst hgx
    refine TX_block_exit ?_
    refine TX_next ?_
    refine TC_seq ?_
    refine TC_region ?_
    refine TL_v rfl rfl rfl (V_assign rfl) ?_
    refine TL_nil ?_
    refine TX_next ?_
    refine TC_seq ?_
    refine TC_seq ?_
    refine TC_region ?_
    refine TL_v rfl rfl rfl (V_move rfl) ?_
    refine TL_v rfl rfl rfl (V_assign rfl) ?_
    refine TL_nil ?_
    refine TX_next ?_
    refine TC_block ?_
    obtain ⟨t_2, Hl, H⟩ := bind_elim H
    refine TC.sub (m' := [(3, vi k_1), (4, sl gx1.1 ((t_1).length) ((t_1 ++ gx1.2).length)), (6, v8 1#8), (7, vi k_1)]) ⟨rfl, rfl, rfl, rfl, trivial⟩ ?_
    refine TC.pull (is := [0]) (L' := [⟨gx1.1, eF (fun V : Vector (BitVec 8) 4 => e8 V.toList) (t_1 ++ gx1.2)⟩]) rfl ?_
    refine TC_loopL (id := 2) (body := (halberdref4_schedule.b1 k_1)) (σ := BitVec 8 × Int × List (Vector (BitVec 8) 4)) (Γ := Adr × List (Vector (BitVec 8) 4)) (Γx := Adr × List (Vector (BitVec 8) 4)) (fun s1 g1_ => [(3, vi k_1), (4, sl g1_.1 ((s1.2.2).length) ((s1.2.2 ++ g1_.2).length)), (6, v8 s1.1), (7, vi s1.2.1)]) (fun s1 g1_ => [⟨g1_.1, eF (fun V : Vector (BitVec 8) 4 => e8 V.toList) (s1.2.2 ++ g1_.2)⟩]) (fun t g => [(4, sl g.1 ((t).length) ((t ++ g.2).length))]) (fun t g => [⟨g.1, eF (fun V : Vector (BitVec 8) 4 => e8 V.toList) (t ++ g.2)⟩]) ?_ BIG (1#8, k_1, t_1) (gx1.1, gx1.2) t_2 Hl ?_
    · intro s1 g1_ r1 H K hK hE
      unfold halberdref4_schedule.b1 at H
      refine TC_seq ?_
      refine TC_seq ?_
      refine TC_region ?_
      refine TL_v rfl rfl rfl (V_move rfl) ?_
      refine TL_v rfl rfl rfl (V_move rfl) ?_
      refine TL_v rfl rfl rfl (V_bin rfl rfl (fun w => addI w k_1 7)) ?_
      refine TL_v rfl rfl rfl (V_bin rfl rfl (fun w => mulI w 4 (w64 (k_1 + 7)))) ?_
      refine TL_v rfl rfl rfl (V_bin rfl rfl (fun w => lssI w s1.2.1 (w64 (4 * (w64 (k_1 + 7)))))) ?_
      refine TL_nil ?_
      refine TX_next ?_
      refine TC_cond (b := (decide (s1.2.1 < (w64 (4 * (w64 (k_1 + 7))))))) rfl (fun hc => ?_) (fun hc => ?_)
      · replace H := ite_t (of_decide_eq_true hc) H
        refine TC_skip ?_
        refine TX_next ?_
        refine TC_seq ?_
        refine TC_block ?_
        refine TC_seq ?_
        refine TC_region ?_
        refine TL_v rfl rfl rfl (V_move rfl) ?_
        refine TL_v rfl rfl rfl (V_move rfl) ?_
        refine TL_v rfl rfl rfl (V_bin rfl rfl (fun w => subI w s1.2.1 1)) ?_
        obtain ⟨h6, H⟩ := if_elim H
        refine TL_v rfl rfl rfl (V_idxSlS (i := w64 (s1.2.1 - 1)) rfl rfl Try.underlying74 TryI.inf125 rfl (Src.own (j := 0) rfl) (eF_ne2 (s := 4) (fun _ => by simp) rfl (lt_app (toNat_lt h6.1 h6.2))) h6.1 h6.2 (k := ((w64 (s1.2.1 - 1)).toNat) * 4) rfl) ?_
        refine TL_v rfl rfl rfl (V_loadPart (n := 4) (ds := e8 ((lg s1.2.2 ((w64 (s1.2.1 - 1)).toNat)).toList)) rfl (Src.own (j := 0) rfl) ((part_eF (g := fun V : Vector (BitVec 8) 4 => e8 V.toList) (s := 4) (fun _ => by simp) (s1.2.2 ++ g1_.2) ((w64 (s1.2.1 - 1)).toNat) (lt_app (toNat_lt h6.1 h6.2))).trans (congrArg (fun V : Vector (BitVec 8) 4 => e8 V.toList) (lg_app (toNat_lt h6.1 h6.2)))) (by simp) rfl Try.isAgg125 TryI.inf125 rfl) ?_
        refine TL_e rfl rfl rfl (E_allocP [(4, e8 ((Vector.replicate 4 0#8).toList))] TryI.inf125 TryI.zer125 ⟨(lenV (f := v8) (Vector.replicate 4 0#8)), trivial⟩) (fun b2 => ?_)
        refine TL_n rfl rfl (E_storeAgg (n := 4) (j := 0) (vs := e8 ((lg s1.2.2 ((w64 (s1.2.1 - 1)).toNat)).toList)) rfl rfl TryI.inf125 rfl (lenV (f := v8) (lg s1.2.2 ((w64 (s1.2.1 - 1)).toNat))) (OneC.map (fun _ => rfl) _) rfl (Nat.le_of_eq (by simp)) (cs' := e8 ((lg s1.2.2 ((w64 (s1.2.1 - 1)).toNat)).toList)) (splice_all (by simp))) (fun _ => ?_)
        obtain ⟨m_1, hm_1, H⟩ := ltt_elim H
        refine TL_reE (j := 0) (A := some (b2, 0)) (cs := e8 ((lg s1.2.2 ((w64 (s1.2.1 - 1)).toNat)).toList)) (cs' := e8 m_1.toList) rfl (congrArg (fun z : Vector (BitVec 8) 4 => e8 (Vector.toList z)) hm_1) ?_
        refine TL_nil ?_
        refine TX_next ?_
        refine TC_seq ?_
        refine TC_block ?_
        refine TC_seq ?_
        refine TC_region ?_
        refine TL_v rfl rfl rfl (V_move rfl) ?_
        refine TL_v rfl rfl rfl (V_move rfl) ?_
        obtain ⟨h7, H⟩ := if_elim H
        refine TL_v rfl rfl rfl (V_bin rfl rfl (fun w => remI w s1.2.1 k_1 h7)) ?_
        refine TL_v rfl rfl rfl (V_bin rfl rfl (fun w => eqlI w (s1.2.1.tmod k_1) 0)) ?_
        refine TL_v rfl rfl rfl (V_assign rfl) ?_
        obtain ⟨x1, hx1, H⟩ := ltt_elim H
        refine TL_re (d := 54) (v := vb (decide ((s1.2.1.tmod k_1) = 0))) (v' := vb x1) rfl (congrArg vb hx1) ?_
        refine TL_nil ?_
        refine TX_next ?_
        obtain ⟨j1, Hj, H⟩ := bind_elim H
        refine TC_join (Γ := Unit) (fun gj1 => [(3, vi k_1), (4, sl g1_.1 ((s1.2.2).length) ((s1.2.2 ++ g1_.2).length)), (6, v8 j1.1), (7, vi s1.2.1), (8, ptr (some (b2, 0)) 0)]) (fun gj1 => [⟨g1_.1, eF (fun V : Vector (BitVec 8) 4 => e8 V.toList) (s1.2.2 ++ g1_.2)⟩, ⟨some (b2, 0), e8 j1.2.toList⟩]) ?_ ?_
        · intro gj1
          refine TX_block_normal ?_
          refine TX_next ?_
          refine TC_seq ?_
          refine TC_seq ?_
          refine TC_region ?_
          refine TL_v rfl rfl rfl (V_assign rfl) ?_
          refine TL_nil ?_
          refine TX_next ?_
          refine TC_block ?_
          obtain ⟨t_3, Hl, H⟩ := bind_elim H
          refine TC.sub (m' := [(3, vi k_1), (4, sl g1_.1 ((s1.2.2).length) ((s1.2.2 ++ g1_.2).length)), (6, v8 j1.1), (7, vi s1.2.1), (8, ptr (some (b2, 0)) 0), (9, vi 0)]) ⟨rfl, rfl, rfl, rfl, rfl, rfl, trivial⟩ ?_
          refine TC.pull (is := [0, 0]) (L' := [⟨g1_.1, eF (fun V : Vector (BitVec 8) 4 => e8 V.toList) (s1.2.2 ++ g1_.2)⟩, ⟨some (b2, 0), e8 j1.2.toList⟩]) rfl ?_
          refine TC_loopL (id := 5) (body := (halberdref4_schedule.b2 k_1 s1)) (σ := Int × Vector (BitVec 8) 4) (Γ := Unit) (Γx := Unit) (fun s2 g2_ => [(3, vi k_1), (4, sl g1_.1 ((s1.2.2).length) ((s1.2.2 ++ g1_.2).length)), (6, v8 j1.1), (7, vi s1.2.1), (8, ptr (some (b2, 0)) 0), (9, vi s2.1)]) (fun s2 g2_ => [⟨g1_.1, eF (fun V : Vector (BitVec 8) 4 => e8 V.toList) (s1.2.2 ++ g1_.2)⟩, ⟨some (b2, 0), e8 s2.2.toList⟩]) (fun t g => [(3, vi k_1), (4, sl g1_.1 ((s1.2.2).length) ((s1.2.2 ++ g1_.2).length)), (6, v8 j1.1), (7, vi s1.2.1), (8, ptr (some (b2, 0)) 0)]) (fun t g => [⟨g1_.1, eF (fun V : Vector (BitVec 8) 4 => e8 V.toList) (s1.2.2 ++ g1_.2)⟩, ⟨some (b2, 0), e8 t.toList⟩]) ?_ BIG (0, j1.2) () t_3 Hl ?_
          · intro s2 g2_ r1 H K hK hE
            unfold halberdref4_schedule.b2 at H
            refine TC_seq ?_
            refine TC_seq ?_
            refine TC_region ?_
            refine TL_v rfl rfl rfl (V_move rfl) ?_
            refine TL_v rfl rfl rfl (V_bin rfl rfl (fun w => lssI w s2.1 4)) ?_
            refine TL_nil ?_
            refine TX_next ?_
            refine TC_cond (b := (decide (s2.1 < 4))) rfl (fun hc => ?_) (fun hc => ?_)
            · replace H := ite_t (of_decide_eq_true hc) H
              refine TC_skip ?_
              refine TX_next ?_
              refine TC_seq ?_
              refine TC_block ?_
              obtain ⟨h8, H⟩ := if_elim H
              obtain ⟨h9, H⟩ := if_elim H
              obtain ⟨h10, H⟩ := if_elim H
              obtain ⟨h11, H⟩ := if_elim H
              obtain ⟨m_2, hm_2, H⟩ := ltt_elim H
              refine TA_begin [⟨g1_.1, eF (fun V : Vector (BitVec 8) 4 => e8 V.toList) (s1.2.2 ++ g1_.2)⟩, ⟨some (b2, 0), e8 s2.2.toList⟩] 14 (by kernel_rfl) (N := 15) rfl ?_
              refine TA_take (i := 0) (is := [0, 0]) (done' := #[true, false, false, false, false, false, false, false, false, false, false, false, false, false, false]) rfl rfl rfl rfl (by kernel_rfl) (QP.block (QP.then (QP.then (QP.block (QP.then (QP.block (QP.then (QP.then (QP.block (QP.then QP.body)))))))))) (by kernel_rfl) rfl (V_move rfl) ?_
              refine TA_take (i := 1) (is := [0, 0]) (done' := #[true, true, false, false, false, false, false, false, false, false, false, false, false, false, false]) rfl rfl rfl rfl (by kernel_rfl) (QP.block (QP.then (QP.then (QP.block (QP.then (QP.block (QP.then (QP.then (QP.block (QP.then QP.body)))))))))) (by kernel_rfl) rfl (V_move rfl) ?_
              refine TA_take (i := 2) (is := [0, 0]) (done' := #[true, true, true, false, false, false, false, false, false, false, false, false, false, false, false]) rfl rfl rfl rfl (by kernel_rfl) (QP.block (QP.then (QP.then (QP.block (QP.then (QP.block (QP.then (QP.then (QP.block (QP.then QP.body)))))))))) (by kernel_rfl) rfl (V_idxArr (i := s2.1) rfl rfl Try.underlying125 TryI.inf5 rfl h8.1 h8.2 (k := (s2.1).toNat) (k01 _)) ?_
              refine TA_take (i := 3) (is := [0, 0]) (done' := #[true, true, true, true, false, false, false, false, false, false, false, false, false, false, false]) rfl rfl rfl rfl (by kernel_rfl) (QP.block (QP.then (QP.then (QP.block (QP.then (QP.block (QP.then (QP.then (QP.block (QP.then QP.body)))))))))) (by kernel_rfl) rfl (V_load rfl (Src.own (j := 1) rfl) (get_vec (f := v8) (V := s2.2) (toNat_lt h8.1 h8.2)) Try.isAgg5) ?_
              refine TA_take (i := 4) (is := [0, 0]) (done' := #[true, true, true, true, true, false, false, false, false, false, false, false, false, false, false]) rfl rfl rfl rfl (by kernel_rfl) (QP.block (QP.then (QP.then (QP.block (QP.then (QP.block (QP.then (QP.then (QP.block (QP.then QP.body)))))))))) (by kernel_rfl) rfl (V_move rfl) ?_
              refine TA_take (i := 5) (is := [0, 0]) (done' := #[true, true, true, true, true, true, false, false, false, false, false, false, false, false, false]) rfl rfl rfl rfl (by kernel_rfl) (QP.block (QP.then (QP.then (QP.block (QP.then (QP.block (QP.then (QP.then (QP.block (QP.then QP.body)))))))))) (by kernel_rfl) rfl (V_move rfl) ?_
              refine TA_take (i := 6) (is := [0, 0]) (done' := #[true, true, true, true, true, true, true, false, false, false, false, false, false, false, false]) rfl rfl rfl rfl (by kernel_rfl) (QP.block (QP.then (QP.then (QP.block (QP.then (QP.block (QP.then (QP.then (QP.block (QP.then QP.body)))))))))) (by kernel_rfl) rfl (V_move rfl) ?_
              refine TA_take (i := 7) (is := [0, 0]) (done' := #[true, true, true, true, true, true, true, true, false, false, false, false, false, false, false]) rfl rfl rfl rfl (by kernel_rfl) (QP.block (QP.then (QP.then (QP.block (QP.then (QP.block (QP.then (QP.then (QP.block (QP.then QP.body)))))))))) (by kernel_rfl) rfl (V_bin rfl rfl (fun w => subI w s1.2.1 k_1)) ?_
              refine TA_take (i := 8) (is := [0, 0]) (done' := #[true, true, true, true, true, true, true, true, true, false, false, false, false, false, false]) rfl rfl rfl rfl (by kernel_rfl) (QP.block (QP.then (QP.then (QP.block (QP.then (QP.block (QP.then (QP.then (QP.block (QP.then QP.body)))))))))) (by kernel_rfl) rfl (V_move rfl) ?_
              refine TA_take (i := 9) (is := [0, 0]) (done' := #[true, true, true, true, true, true, true, true, true, true, false, false, false, false, false]) rfl rfl rfl rfl (by kernel_rfl) (QP.block (QP.then (QP.then (QP.block (QP.then (QP.block (QP.then (QP.then (QP.block (QP.then QP.body)))))))))) (by kernel_rfl) rfl (V_idxSlS (i := w64 (s1.2.1 - k_1)) rfl rfl Try.underlying74 TryI.inf125 rfl (Src.own (j := 0) rfl) (eF_ne2 (s := 4) (fun _ => by simp) rfl (lt_app (toNat_lt h9.1 h9.2))) h9.1 h9.2 (k := ((w64 (s1.2.1 - k_1)).toNat) * 4) rfl) ?_
              refine TA_take (i := 10) (is := [0, 0]) (done' := #[true, true, true, true, true, true, true, true, true, true, true, false, false, false, false]) rfl rfl rfl rfl (by kernel_rfl) (QP.block (QP.then (QP.then (QP.block (QP.then (QP.block (QP.then (QP.then (QP.block (QP.then QP.body)))))))))) (by kernel_rfl) rfl (V_idxArr (i := s2.1) rfl rfl Try.underlying125 TryI.inf5 rfl h10.1 h10.2 (k := ((w64 (s1.2.1 - k_1)).toNat) * 4 + (s2.1).toNat) (k1 _ _)) ?_
              refine TA_take (i := 11) (is := [0, 0]) (done' := #[true, true, true, true, true, true, true, true, true, true, true, true, false, false, false]) rfl rfl rfl rfl (by kernel_rfl) (QP.block (QP.then (QP.then (QP.block (QP.then (QP.block (QP.then (QP.then (QP.block (QP.then QP.body)))))))))) (by kernel_rfl) rfl (V_load rfl (Src.own (j := 0) rfl) (((get_eF (g := fun V : Vector (BitVec 8) 4 => e8 V.toList) (s := 4) (fun _ => by simp) (s1.2.2 ++ g1_.2) ((w64 (s1.2.1 - k_1)).toNat) ((s2.1).toNat) (lt_app (toNat_lt h9.1 h9.2)) (toNat_lt h10.1 h10.2)).trans (congrArg (fun z => ((fun V : Vector (BitVec 8) 4 => e8 V.toList) z)[(s2.1).toNat]?) (lg_app (toNat_lt h9.1 h9.2)))).trans (get_vec (toNat_lt h10.1 h10.2))) Try.isAgg5) ?_
              refine TA_take (i := 12) (is := [0, 0]) (done' := #[true, true, true, true, true, true, true, true, true, true, true, true, true, false, false]) rfl rfl rfl rfl (by kernel_rfl) (QP.block (QP.then (QP.then (QP.block (QP.then (QP.block (QP.then (QP.then (QP.block (QP.then QP.body)))))))))) (by kernel_rfl) rfl (V_bin rfl rfl (fun w => xor8 w (vg s2.2 ((s2.1).toNat)) (vg (lg s1.2.2 ((w64 (s1.2.1 - k_1)).toNat)) ((s2.1).toNat)))) ?_
              refine TA_take (i := 13) (is := [0, 0]) (done' := #[true, true, true, true, true, true, true, true, true, true, true, true, true, true, false]) rfl rfl rfl rfl (by kernel_rfl) (QP.block (QP.then (QP.then (QP.block (QP.then (QP.block (QP.then (QP.then (QP.block (QP.then QP.body)))))))))) (by kernel_rfl) rfl (V_idxArr (i := s2.1) rfl rfl Try.underlying125 TryI.inf5 rfl h11.1 h11.2 (k := (s2.1).toNat) (k01 _)) ?_
              refine TA_all (rs := [14]) (by kernel_rfl) rfl ?_
              refine ⟨?_, trivial⟩
              refine TO_n (is := []) (R := fun _ => []) (done' := #[true, true, true, true, true, true, true, true, true, true, true, true, true, true, true]) rfl rfl rfl (by kernel_rfl) (E_store (j := 1) rfl rfl TryI.inf5 rfl rfl rfl (by simpa using (toNat_lt h11.1 h11.2)) (cs' := e8 ((vp s2.2 ((s2.1).toNat) ((vg s2.2 ((s2.1).toNat)) ^^^ (vg (lg s1.2.2 ((w64 (s1.2.1 - k_1)).toNat)) ((s2.1).toNat)))).toList)) set_vec) (fun h => by cases h) (fun _ => ?_)
              refine TA_reE (j := 1) (A := some (b2, 0)) (cs := e8 ((vp s2.2 ((s2.1).toNat) ((vg s2.2 ((s2.1).toNat)) ^^^ (vg (lg s1.2.2 ((w64 (s1.2.1 - k_1)).toNat)) ((s2.1).toNat)))).toList)) (cs' := e8 m_2.toList) rfl (congrArg (fun z : Vector (BitVec 8) 4 => e8 (Vector.toList z)) hm_2) ?_
              refine TA_done (by kernel_rfl) ?_ 0
              refine TX_block_normal ?_
              refine TX_next ?_
              refine TC_region ?_
              refine TL_v rfl rfl rfl (V_move rfl) ?_
              refine TL_v rfl rfl rfl (V_bin rfl rfl (fun w => addI w s2.1 1)) ?_
              refine TL_v rfl rfl rfl (V_assign rfl) ?_
              obtain ⟨j2, hj2, H⟩ := ltt_elim H
              refine TL_re (d := 9) (v := vi (w64 (s2.1 + 1))) (v' := vi j2) rfl (congrArg vi hj2) ?_
              refine TL_nil ?_
              refine TX.sub (m' := [(3, vi k_1), (4, sl g1_.1 ((s1.2.2).length) ((s1.2.2 ++ g1_.2).length)), (6, v8 j1.1), (7, vi s1.2.1), (8, ptr (some (b2, 0)) 0), (9, vi j2)]) ⟨rfl, rfl, rfl, rfl, rfl, rfl, trivial⟩ ?_
              refine TX.pull (is := [0, 0]) (L' := [⟨g1_.1, eF (fun V : Vector (BitVec 8) 4 => e8 V.toList) (s1.2.2 ++ g1_.2)⟩, ⟨some (b2, 0), e8 m_2.toList⟩]) rfl ?_
              obtain rfl := Option.some.inj H
              exact fun a w hs => hK (j2, m_2) rfl () a w hs
            · replace H := ite_f (of_decide_eq_false hc) H
              refine TC_exit ?_
              refine TX_then_exit ?_
              refine TX_then_exit ?_
              refine TX.sub (m' := [(3, vi k_1), (4, sl g1_.1 ((s1.2.2).length) ((s1.2.2 ++ g1_.2).length)), (6, v8 j1.1), (7, vi s1.2.1), (8, ptr (some (b2, 0)) 0)]) ⟨rfl, rfl, rfl, rfl, rfl, trivial⟩ ?_
              refine TX.pull (is := [0, 0]) (L' := [⟨g1_.1, eF (fun V : Vector (BitVec 8) 4 => e8 V.toList) (s1.2.2 ++ g1_.2)⟩, ⟨some (b2, 0), e8 s2.2.toList⟩]) rfl ?_
              obtain rfl := Option.some.inj H
              exact hE s2.2 rfl ()
          · intro g
            refine TX_block_exit ?_
            refine TX_next ?_
            refine TC_region ?_
            refine TL_v rfl rfl rfl (V_move rfl) ?_
            refine TL_v rfl rfl rfl (V_loadAgg (n := 4) rfl (by simp) (Src.own (j := 1) rfl) Try.isAgg125 TryI.inf125 rfl (lenV (f := v8) t_3)) ?_
            refine TL_e rfl rfl rfl (E_buildSlice (pv := [(0, Value.agg (flat [(4, e8 t_3.toList)]).toArray)]) rfl rfl Try.underlying74 TryI.inf125 (s := 4) rfl TryI.zer125 (by kernel_rfl) rfl rfl (cs := eF (fun V : Vector (BitVec 8) 4 => e8 V.toList) ([t_3] : List (Vector (BitVec 8) 4))) (fill_sl (g := fun V : Vector (BitVec 8) 4 => e8 V.toList) 4 (fill_part [] [] rfl rfl trivial rfl (by kernel_rfl) (lenV (f := v8) t_3) fill_end))) (fun b3 => ?_)
            refine TL_re (d := 118) (v := sl (some (b3, 0)) 1 1) (v' := sl (some (b3, 0)) ((([t_3] : List (Vector (BitVec 8) 4))).length) 1) rfl (congrArg (fun n => sl (some (b3, 0)) n 1) rfl) ?_
            obtain ⟨h12, H⟩ := if_elim H
            obtain ⟨l2, hl2, H⟩ := ltt_elim H
            refine TL_e rfl rfl rfl (E_appSl (g := fun V : Vector (BitVec 8) 4 => e8 V.toList) (s := 4) (j := 1) (l := s1.2.2) (sp := g1_.2) (ds := ([t_3] : List (Vector (BitVec 8) 4))) (Vector.replicate 4 0#8) rfl rfl rfl (fun _ => by simp) rfl (fun _ => OneC.map (fun _ => rfl) _) (Src.own (j := 0) rfl) Try.underlying74 Try.underlying74 TryI.inf125 rfl (TryI.zer125.trans rfl) (bytes := 4) rfl (by have := h12; omega) (by have := h12; omega) hl2) (fun q2 => ?_)
            refine TL_v rfl rfl rfl (V_assign rfl) ?_
            refine TL_nil ?_
            refine TX_block_normal ?_
            refine TX_next ?_
            refine TC_region ?_
            refine TL_v rfl rfl rfl (V_move rfl) ?_
            refine TL_v rfl rfl rfl (V_bin rfl rfl (fun w => addI w s1.2.1 1)) ?_
            refine TL_v rfl rfl rfl (V_assign rfl) ?_
            obtain ⟨i2, hi2, H⟩ := ltt_elim H
            refine TL_re (d := 7) (v := vi (w64 (s1.2.1 + 1))) (v' := vi i2) rfl (congrArg vi hi2) ?_
            refine TL_nil ?_
            refine TX.sub (m' := [(3, vi k_1), (4, sl q2.1 ((l2).length) ((l2 ++ q2.2).length)), (6, v8 j1.1), (7, vi i2)]) ⟨rfl, rfl, rfl, rfl, trivial⟩ ?_
            refine TX.pull (is := [1]) (L' := [⟨q2.1, eF (fun V : Vector (BitVec 8) 4 => e8 V.toList) (l2 ++ q2.2)⟩]) rfl ?_
            obtain rfl := Option.some.inj H
            exact fun a w hs => hK (j1.1, i2, l2) rfl (q2.1, q2.2) a w hs
        · intro hJ
          replace H := Hj
          refine TC_cond (b := x1) rfl (fun hc => ?_) (fun hc => ?_)
          · replace H := ite_t hc H
            refine TC_seq ?_
            obtain ⟨h13, H⟩ := if_elim H
            obtain ⟨h14, H⟩ := if_elim H
            obtain ⟨h15, H⟩ := if_elim H
            obtain ⟨h16, H⟩ := if_elim H
            obtain ⟨m_3, hm_3, H⟩ := ltt_elim H
            refine TA_begin [⟨some (b2, 0), e8 m_1.toList⟩, ⟨g1_.1, eF (fun V : Vector (BitVec 8) 4 => e8 V.toList) (s1.2.2 ++ g1_.2)⟩] 15 (by kernel_rfl) (N := 16) rfl ?_
            refine TA_take (i := 0) (is := [0, 0]) (done' := #[true, false, false, false, false, false, false, false, false, false, false, false, false, false, false, false]) rfl rfl rfl rfl (by kernel_rfl) (QP.then (QP.block (QP.then (QP.block (QP.then (QP.then (QP.block (QP.then QP.body)))))))) (by kernel_rfl) rfl (V_idxArr (i := 1) rfl rfl Try.underlying125 TryI.inf5 rfl (by decide) (by decide) (k := 1) (k01 _)) ?_
            refine TA_take (i := 1) (is := [0, 0]) (done' := #[true, true, false, false, false, false, false, false, false, false, false, false, false, false, false, false]) rfl rfl rfl rfl (by kernel_rfl) (QP.then (QP.block (QP.then (QP.block (QP.then (QP.then (QP.block (QP.then QP.body)))))))) (by kernel_rfl) rfl (V_load rfl (Src.own (j := 0) rfl) (get_vec (f := v8) (V := m_1) (by decide : 1 < 4)) Try.isAgg5) ?_
            refine TA_take (i := 2) (is := [0, 0]) (done' := #[true, true, true, false, false, false, false, false, false, false, false, false, false, false, false, false]) rfl rfl rfl rfl (by kernel_rfl) (QP.then (QP.block (QP.then (QP.block (QP.then (QP.then (QP.block (QP.then QP.body)))))))) (by kernel_rfl) rfl (V_idxStr rfl rfl (i := ((vg m_1 1).toNat : Int)) Try.underlying9 h13.1 h13.2) ?_
            refine TA_take (i := 3) (is := [0, 0]) (done' := #[true, true, true, true, false, false, false, false, false, false, false, false, false, false, false, false]) rfl rfl rfl rfl (by kernel_rfl) (QP.then (QP.block (QP.then (QP.block (QP.then (QP.then (QP.block (QP.then QP.body)))))))) (by kernel_rfl) rfl (V_move rfl) ?_
            refine TA_take (i := 4) (is := [0, 0]) (done' := #[true, true, true, true, true, false, false, false, false, false, false, false, false, false, false, false]) rfl rfl rfl rfl (by kernel_rfl) (QP.then (QP.block (QP.then (QP.block (QP.then (QP.then (QP.block (QP.then QP.body)))))))) (by kernel_rfl) rfl (V_bin rfl rfl (fun w => xor8 w (sg halberdref4_schedule.k1 ((vg m_1 1).toNat : Int)) s1.1)) ?_
            refine TA_take (i := 5) (is := [0, 0]) (done' := #[true, true, true, true, true, true, false, false, false, false, false, false, false, false, false, false]) rfl rfl rfl rfl (by kernel_rfl) (QP.then (QP.block (QP.then (QP.block (QP.then (QP.then (QP.block (QP.then QP.body)))))))) (by kernel_rfl) rfl (V_idxArr (i := 2) rfl rfl Try.underlying125 TryI.inf5 rfl (by decide) (by decide) (k := 2) (k01 _)) ?_
            refine TA_take (i := 6) (is := [0, 0]) (done' := #[true, true, true, true, true, true, true, false, false, false, false, false, false, false, false, false]) rfl rfl rfl rfl (by kernel_rfl) (QP.then (QP.block (QP.then (QP.block (QP.then (QP.then (QP.block (QP.then QP.body)))))))) (by kernel_rfl) rfl (V_load rfl (Src.own (j := 0) rfl) (get_vec (f := v8) (V := m_1) (by decide : 2 < 4)) Try.isAgg5) ?_
            refine TA_take (i := 7) (is := [0, 0]) (done' := #[true, true, true, true, true, true, true, true, false, false, false, false, false, false, false, false]) rfl rfl rfl rfl (by kernel_rfl) (QP.then (QP.block (QP.then (QP.block (QP.then (QP.then (QP.block (QP.then QP.body)))))))) (by kernel_rfl) rfl (V_idxStr rfl rfl (i := ((vg m_1 2).toNat : Int)) Try.underlying9 h14.1 h14.2) ?_
            refine TA_take (i := 8) (is := [0, 0]) (done' := #[true, true, true, true, true, true, true, true, true, false, false, false, false, false, false, false]) rfl rfl rfl rfl (by kernel_rfl) (QP.then (QP.block (QP.then (QP.block (QP.then (QP.then (QP.block (QP.then QP.body)))))))) (by kernel_rfl) rfl (V_idxArr (i := 3) rfl rfl Try.underlying125 TryI.inf5 rfl (by decide) (by decide) (k := 3) (k01 _)) ?_
            refine TA_take (i := 9) (is := [0, 0]) (done' := #[true, true, true, true, true, true, true, true, true, true, false, false, false, false, false, false]) rfl rfl rfl rfl (by kernel_rfl) (QP.then (QP.block (QP.then (QP.block (QP.then (QP.then (QP.block (QP.then QP.body)))))))) (by kernel_rfl) rfl (V_load rfl (Src.own (j := 0) rfl) (get_vec (f := v8) (V := m_1) (by decide : 3 < 4)) Try.isAgg5) ?_
            refine TA_take (i := 10) (is := [0, 0]) (done' := #[true, true, true, true, true, true, true, true, true, true, true, false, false, false, false, false]) rfl rfl rfl rfl (by kernel_rfl) (QP.then (QP.block (QP.then (QP.block (QP.then (QP.then (QP.block (QP.then QP.body)))))))) (by kernel_rfl) rfl (V_idxStr rfl rfl (i := ((vg m_1 3).toNat : Int)) Try.underlying9 h15.1 h15.2) ?_
            refine TA_take (i := 11) (is := [0, 0]) (done' := #[true, true, true, true, true, true, true, true, true, true, true, true, false, false, false, false]) rfl rfl rfl rfl (by kernel_rfl) (QP.then (QP.block (QP.then (QP.block (QP.then (QP.then (QP.block (QP.then QP.body)))))))) (by kernel_rfl) rfl (V_idxArr (i := 0) rfl rfl Try.underlying125 TryI.inf5 rfl (by decide) (by decide) (k := 0) (k01 _)) ?_
            refine TA_take (i := 12) (is := [0, 0]) (done' := #[true, true, true, true, true, true, true, true, true, true, true, true, true, false, false, false]) rfl rfl rfl rfl (by kernel_rfl) (QP.then (QP.block (QP.then (QP.block (QP.then (QP.then (QP.block (QP.then QP.body)))))))) (by kernel_rfl) rfl (V_load rfl (Src.own (j := 0) rfl) (get_vec (f := v8) (V := m_1) (by decide : 0 < 4)) Try.isAgg5) ?_
            refine TA_take (i := 13) (is := [0, 0]) (done' := #[true, true, true, true, true, true, true, true, true, true, true, true, true, true, false, false]) rfl rfl rfl rfl (by kernel_rfl) (QP.then (QP.block (QP.then (QP.block (QP.then (QP.then (QP.block (QP.then QP.body)))))))) (by kernel_rfl) rfl (V_idxStr rfl rfl (i := ((vg m_1 0).toNat : Int)) Try.underlying9 h16.1 h16.2) ?_
            refine TA_take (i := 14) (is := [0, 0]) (done' := #[true, true, true, true, true, true, true, true, true, true, true, true, true, true, true, false]) rfl rfl rfl rfl (by kernel_rfl) (QP.then (QP.block (QP.then (QP.block (QP.then (QP.then (QP.block (QP.then QP.body)))))))) (by kernel_rfl) rfl (V_buildArr (pv := [(0, v8 ((sg halberdref4_schedule.k1 ((vg m_1 1).toNat : Int)) ^^^ s1.1)), (1, v8 (sg halberdref4_schedule.k1 ((vg m_1 2).toNat : Int))), (2, v8 (sg halberdref4_schedule.k1 ((vg m_1 3).toNat : Int))), (3, v8 (sg halberdref4_schedule.k1 ((vg m_1 0).toNat : Int)))]) rfl rfl Try.underlying125 TryI.inf125 TryI.inf5 rfl TryI.zer125 (cs := e8 ((#v[(sg halberdref4_schedule.k1 ((vg m_1 1).toNat : Int)) ^^^ s1.1, sg halberdref4_schedule.k1 ((vg m_1 2).toNat : Int), sg halberdref4_schedule.k1 ((vg m_1 3).toNat : Int), sg halberdref4_schedule.k1 ((vg m_1 0).toNat : Int)] : Vector (BitVec 8) 4).toList)) (by kernel_rfl)) ?_
            refine TA_all (rs := [15]) (by kernel_rfl) rfl ?_
            refine ⟨?_, trivial⟩
            refine TO_n (is := []) (R := fun _ => []) (done' := #[true, true, true, true, true, true, true, true, true, true, true, true, true, true, true, true]) rfl rfl rfl (by kernel_rfl) (E_storeAgg (n := 4) (j := 0) (vs := e8 ((#v[(sg halberdref4_schedule.k1 ((vg m_1 1).toNat : Int)) ^^^ s1.1, sg halberdref4_schedule.k1 ((vg m_1 2).toNat : Int), sg halberdref4_schedule.k1 ((vg m_1 3).toNat : Int), sg halberdref4_schedule.k1 ((vg m_1 0).toNat : Int)] : Vector (BitVec 8) 4).toList)) rfl rfl TryI.inf125 rfl (lenV (f := v8) (#v[(sg halberdref4_schedule.k1 ((vg m_1 1).toNat : Int)) ^^^ s1.1, sg halberdref4_schedule.k1 ((vg m_1 2).toNat : Int), sg halberdref4_schedule.k1 ((vg m_1 3).toNat : Int), sg halberdref4_schedule.k1 ((vg m_1 0).toNat : Int)] : Vector (BitVec 8) 4)) (OneC.map (fun _ => rfl) _) rfl (Nat.le_of_eq (by simp)) (cs' := e8 ((#v[(sg halberdref4_schedule.k1 ((vg m_1 1).toNat : Int)) ^^^ s1.1, sg halberdref4_schedule.k1 ((vg m_1 2).toNat : Int), sg halberdref4_schedule.k1 ((vg m_1 3).toNat : Int), sg halberdref4_schedule.k1 ((vg m_1 0).toNat : Int)] : Vector (BitVec 8) 4).toList)) (splice_all (by simp))) (fun h => by cases h) (fun _ => ?_)
            refine TA_reE (j := 0) (A := some (b2, 0)) (cs := e8 ((#v[(sg halberdref4_schedule.k1 ((vg m_1 1).toNat : Int)) ^^^ s1.1, sg halberdref4_schedule.k1 ((vg m_1 2).toNat : Int), sg halberdref4_schedule.k1 ((vg m_1 3).toNat : Int), sg halberdref4_schedule.k1 ((vg m_1 0).toNat : Int)] : Vector (BitVec 8) 4).toList)) (cs' := e8 m_3.toList) rfl (congrArg (fun z : Vector (BitVec 8) 4 => e8 (Vector.toList z)) hm_3) ?_
            refine TA_done (by kernel_rfl) ?_ 0
            refine TX_next ?_
            refine TC.sub (m' := [(3, vi k_1), (4, sl g1_.1 ((s1.2.2).length) ((s1.2.2 ++ g1_.2).length)), (6, v8 s1.1), (7, vi s1.2.1), (8, ptr (some (b2, 0)) 0)]) ⟨rfl, rfl, rfl, rfl, rfl, trivial⟩ ?_
            refine TC_region ?_
            refine TL_v rfl rfl rfl (V_move rfl) ?_
            obtain ⟨r_1, hr_1, H⟩ := bind_elim H
            refine TL_e rfl rfl rfl (E_call (Γ := Unit) (val := fun g => v8 r_1) (mem := fun g => []) (vs := [v8 s1.1]) (Lin := []) (Ro := []) (is := []) rfl Try.call83 (F83_calls s1.1 r_1 hr_1) rfl trivial) (fun g_1 => ?_)
            refine TL_v rfl rfl rfl (V_assign rfl) ?_
            refine TL_nil ?_
            refine TX.sub (m' := [(3, vi k_1), (4, sl g1_.1 ((s1.2.2).length) ((s1.2.2 ++ g1_.2).length)), (6, v8 r_1), (7, vi s1.2.1), (8, ptr (some (b2, 0)) 0)]) ⟨rfl, rfl, rfl, rfl, rfl, trivial⟩ ?_
            refine TX.pull (is := [1, 0]) (L' := [⟨g1_.1, eF (fun V : Vector (BitVec 8) 4 => e8 V.toList) (s1.2.2 ++ g1_.2)⟩, ⟨some (b2, 0), e8 m_3.toList⟩]) rfl ?_
            obtain rfl := Option.some.inj H
            exact hJ ()
          · replace H := ite_f (Bool.eq_false_iff.1 hc) H
            refine TC_seq ?_
            refine TC_region ?_
            refine TL_v rfl rfl rfl (V_move rfl) ?_
            refine TL_v rfl rfl rfl (V_bin rfl rfl (fun w => gtrI w k_1 6)) ?_
            refine TL_v rfl rfl rfl (V_move rfl) ?_
            refine TL_fork (d := 79) (b := (decide (6 < k_1))) rfl (fun hc => ?_) (fun hc => ?_)
            · replace H := ite_t (of_decide_eq_true hc) H
              refine TL_want rfl rfl rfl rfl rfl rfl (V_move rfl) ?_
              refine TL_want rfl rfl rfl rfl rfl rfl (V_move rfl) ?_
              obtain ⟨h17, H⟩ := if_elim H
              refine TL_want rfl rfl rfl rfl rfl rfl (V_bin rfl rfl (fun w => remI w s1.2.1 k_1 h17)) ?_
              refine TL_want rfl rfl rfl rfl rfl rfl (V_bin rfl rfl (fun w => eqlI w (s1.2.1.tmod k_1) 4)) ?_
              refine TL_v rfl rfl rfl (V_pick (b := true) rfl rfl) ?_
              refine TL_v rfl rfl rfl (V_assign rfl) ?_
              obtain ⟨x2, hx2, H⟩ := ltt_elim H
              refine TL_re (d := 76) (v := vb (decide ((s1.2.1.tmod k_1) = 4))) (v' := vb x2) rfl (congrArg vb hx2) ?_
              refine TL_nil ?_
              refine TX_next ?_
              refine TC.sub (m' := [(3, vi k_1), (4, sl g1_.1 ((s1.2.2).length) ((s1.2.2 ++ g1_.2).length)), (6, v8 s1.1), (7, vi s1.2.1), (8, ptr (some (b2, 0)) 0), (76, vb x2)]) ⟨rfl, rfl, rfl, rfl, rfl, rfl, trivial⟩ ?_
              refine TC_cond (b := x2) rfl (fun hc => ?_) (fun hc => ?_)
              · replace H := ite_t hc H
                obtain ⟨h18, H⟩ := if_elim H
                obtain ⟨h19, H⟩ := if_elim H
                obtain ⟨h20, H⟩ := if_elim H
                obtain ⟨h21, H⟩ := if_elim H
                obtain ⟨m_4, hm_4, H⟩ := ltt_elim H
                refine TA_begin [⟨some (b2, 0), e8 m_1.toList⟩, ⟨g1_.1, eF (fun V : Vector (BitVec 8) 4 => e8 V.toList) (s1.2.2 ++ g1_.2)⟩] 13 (by kernel_rfl) (N := 14) rfl ?_
                refine TA_take (i := 0) (is := [0, 0]) (done' := #[true, false, false, false, false, false, false, false, false, false, false, false, false, false]) rfl rfl rfl rfl (by kernel_rfl) (QP.block (QP.then (QP.block (QP.then (QP.then (QP.block (QP.then QP.body))))))) (by kernel_rfl) rfl (V_idxArr (i := 0) rfl rfl Try.underlying125 TryI.inf5 rfl (by decide) (by decide) (k := 0) (k01 _)) ?_
                refine TA_take (i := 1) (is := [0, 0]) (done' := #[true, true, false, false, false, false, false, false, false, false, false, false, false, false]) rfl rfl rfl rfl (by kernel_rfl) (QP.block (QP.then (QP.block (QP.then (QP.then (QP.block (QP.then QP.body))))))) (by kernel_rfl) rfl (V_load rfl (Src.own (j := 0) rfl) (get_vec (f := v8) (V := m_1) (by decide : 0 < 4)) Try.isAgg5) ?_
                refine TA_take (i := 2) (is := [0, 0]) (done' := #[true, true, true, false, false, false, false, false, false, false, false, false, false, false]) rfl rfl rfl rfl (by kernel_rfl) (QP.block (QP.then (QP.block (QP.then (QP.then (QP.block (QP.then QP.body))))))) (by kernel_rfl) rfl (V_idxStr rfl rfl (i := ((vg m_1 0).toNat : Int)) Try.underlying9 h18.1 h18.2) ?_
                refine TA_take (i := 3) (is := [0, 0]) (done' := #[true, true, true, true, false, false, false, false, false, false, false, false, false, false]) rfl rfl rfl rfl (by kernel_rfl) (QP.block (QP.then (QP.block (QP.then (QP.then (QP.block (QP.then QP.body))))))) (by kernel_rfl) rfl (V_idxArr (i := 1) rfl rfl Try.underlying125 TryI.inf5 rfl (by decide) (by decide) (k := 1) (k01 _)) ?_
                refine TA_take (i := 4) (is := [0, 0]) (done' := #[true, true, true, true, true, false, false, false, false, false, false, false, false, false]) rfl rfl rfl rfl (by kernel_rfl) (QP.block (QP.then (QP.block (QP.then (QP.then (QP.block (QP.then QP.body))))))) (by kernel_rfl) rfl (V_load rfl (Src.own (j := 0) rfl) (get_vec (f := v8) (V := m_1) (by decide : 1 < 4)) Try.isAgg5) ?_
                refine TA_take (i := 5) (is := [0, 0]) (done' := #[true, true, true, true, true, true, false, false, false, false, false, false, false, false]) rfl rfl rfl rfl (by kernel_rfl) (QP.block (QP.then (QP.block (QP.then (QP.then (QP.block (QP.then QP.body))))))) (by kernel_rfl) rfl (V_idxStr rfl rfl (i := ((vg m_1 1).toNat : Int)) Try.underlying9 h19.1 h19.2) ?_
                refine TA_take (i := 6) (is := [0, 0]) (done' := #[true, true, true, true, true, true, true, false, false, false, false, false, false, false]) rfl rfl rfl rfl (by kernel_rfl) (QP.block (QP.then (QP.block (QP.then (QP.then (QP.block (QP.then QP.body))))))) (by kernel_rfl) rfl (V_idxArr (i := 2) rfl rfl Try.underlying125 TryI.inf5 rfl (by decide) (by decide) (k := 2) (k01 _)) ?_
                refine TA_take (i := 7) (is := [0, 0]) (done' := #[true, true, true, true, true, true, true, true, false, false, false, false, false, false]) rfl rfl rfl rfl (by kernel_rfl) (QP.block (QP.then (QP.block (QP.then (QP.then (QP.block (QP.then QP.body))))))) (by kernel_rfl) rfl (V_load rfl (Src.own (j := 0) rfl) (get_vec (f := v8) (V := m_1) (by decide : 2 < 4)) Try.isAgg5) ?_
                refine TA_take (i := 8) (is := [0, 0]) (done' := #[true, true, true, true, true, true, true, true, true, false, false, false, false, false]) rfl rfl rfl rfl (by kernel_rfl) (QP.block (QP.then (QP.block (QP.then (QP.then (QP.block (QP.then QP.body))))))) (by kernel_rfl) rfl (V_idxStr rfl rfl (i := ((vg m_1 2).toNat : Int)) Try.underlying9 h20.1 h20.2) ?_
                refine TA_take (i := 9) (is := [0, 0]) (done' := #[true, true, true, true, true, true, true, true, true, true, false, false, false, false]) rfl rfl rfl rfl (by kernel_rfl) (QP.block (QP.then (QP.block (QP.then (QP.then (QP.block (QP.then QP.body))))))) (by kernel_rfl) rfl (V_idxArr (i := 3) rfl rfl Try.underlying125 TryI.inf5 rfl (by decide) (by decide) (k := 3) (k01 _)) ?_
                refine TA_take (i := 10) (is := [0, 0]) (done' := #[true, true, true, true, true, true, true, true, true, true, true, false, false, false]) rfl rfl rfl rfl (by kernel_rfl) (QP.block (QP.then (QP.block (QP.then (QP.then (QP.block (QP.then QP.body))))))) (by kernel_rfl) rfl (V_load rfl (Src.own (j := 0) rfl) (get_vec (f := v8) (V := m_1) (by decide : 3 < 4)) Try.isAgg5) ?_
                refine TA_take (i := 11) (is := [0, 0]) (done' := #[true, true, true, true, true, true, true, true, true, true, true, true, false, false]) rfl rfl rfl rfl (by kernel_rfl) (QP.block (QP.then (QP.block (QP.then (QP.then (QP.block (QP.then QP.body))))))) (by kernel_rfl) rfl (V_idxStr rfl rfl (i := ((vg m_1 3).toNat : Int)) Try.underlying9 h21.1 h21.2) ?_
                refine TA_take (i := 12) (is := [0, 0]) (done' := #[true, true, true, true, true, true, true, true, true, true, true, true, true, false]) rfl rfl rfl rfl (by kernel_rfl) (QP.block (QP.then (QP.block (QP.then (QP.then (QP.block (QP.then QP.body))))))) (by kernel_rfl) rfl (V_buildArr (pv := [(0, v8 (sg halberdref4_schedule.k1 ((vg m_1 0).toNat : Int))), (1, v8 (sg halberdref4_schedule.k1 ((vg m_1 1).toNat : Int))), (2, v8 (sg halberdref4_schedule.k1 ((vg m_1 2).toNat : Int))), (3, v8 (sg halberdref4_schedule.k1 ((vg m_1 3).toNat : Int)))]) rfl rfl Try.underlying125 TryI.inf125 TryI.inf5 rfl TryI.zer125 (cs := e8 ((#v[sg halberdref4_schedule.k1 ((vg m_1 0).toNat : Int), sg halberdref4_schedule.k1 ((vg m_1 1).toNat : Int), sg halberdref4_schedule.k1 ((vg m_1 2).toNat : Int), sg halberdref4_schedule.k1 ((vg m_1 3).toNat : Int)] : Vector (BitVec 8) 4).toList)) (by kernel_rfl)) ?_
                refine TA_all (rs := [13]) (by kernel_rfl) rfl ?_
                refine ⟨?_, trivial⟩
                refine TO_n (is := []) (R := fun _ => []) (done' := #[true, true, true, true, true, true, true, true, true, true, true, true, true, true]) rfl rfl rfl (by kernel_rfl) (E_storeAgg (n := 4) (j := 0) (vs := e8 ((#v[sg halberdref4_schedule.k1 ((vg m_1 0).toNat : Int), sg halberdref4_schedule.k1 ((vg m_1 1).toNat : Int), sg halberdref4_schedule.k1 ((vg m_1 2).toNat : Int), sg halberdref4_schedule.k1 ((vg m_1 3).toNat : Int)] : Vector (BitVec 8) 4).toList)) rfl rfl TryI.inf125 rfl (lenV (f := v8) (#v[sg halberdref4_schedule.k1 ((vg m_1 0).toNat : Int), sg halberdref4_schedule.k1 ((vg m_1 1).toNat : Int), sg halberdref4_schedule.k1 ((vg m_1 2).toNat : Int), sg halberdref4_schedule.k1 ((vg m_1 3).toNat : Int)] : Vector (BitVec 8) 4)) (OneC.map (fun _ => rfl) _) rfl (Nat.le_of_eq (by simp)) (cs' := e8 ((#v[sg halberdref4_schedule.k1 ((vg m_1 0).toNat : Int), sg halberdref4_schedule.k1 ((vg m_1 1).toNat : Int), sg halberdref4_schedule.k1 ((vg m_1 2).toNat : Int), sg halberdref4_schedule.k1 ((vg m_1 3).toNat : Int)] : Vector (BitVec 8) 4).toList)) (splice_all (by simp))) (fun h => by cases h) (fun _ => ?_)
                refine TA_reE (j := 0) (A := some (b2, 0)) (cs := e8 ((#v[sg halberdref4_schedule.k1 ((vg m_1 0).toNat : Int), sg halberdref4_schedule.k1 ((vg m_1 1).toNat : Int), sg halberdref4_schedule.k1 ((vg m_1 2).toNat : Int), sg halberdref4_schedule.k1 ((vg m_1 3).toNat : Int)] : Vector (BitVec 8) 4).toList)) (cs' := e8 m_4.toList) rfl (congrArg (fun z : Vector (BitVec 8) 4 => e8 (Vector.toList z)) hm_4) ?_
                refine TA_done (by kernel_rfl) ?_ 0
                refine TX.sub (m' := [(3, vi k_1), (4, sl g1_.1 ((s1.2.2).length) ((s1.2.2 ++ g1_.2).length)), (6, v8 s1.1), (7, vi s1.2.1), (8, ptr (some (b2, 0)) 0)]) ⟨rfl, rfl, rfl, rfl, rfl, trivial⟩ ?_
                refine TX.pull (is := [1, 0]) (L' := [⟨g1_.1, eF (fun V : Vector (BitVec 8) 4 => e8 V.toList) (s1.2.2 ++ g1_.2)⟩, ⟨some (b2, 0), e8 m_4.toList⟩]) rfl ?_
                obtain rfl := Option.some.inj H
                exact hJ ()
              · replace H := ite_f (Bool.eq_false_iff.1 hc) H
                refine TC_skip ?_
                refine TX.sub (m' := [(3, vi k_1), (4, sl g1_.1 ((s1.2.2).length) ((s1.2.2 ++ g1_.2).length)), (6, v8 s1.1), (7, vi s1.2.1), (8, ptr (some (b2, 0)) 0)]) ⟨rfl, rfl, rfl, rfl, rfl, trivial⟩ ?_
                refine TX.pull (is := [1, 0]) (L' := [⟨g1_.1, eF (fun V : Vector (BitVec 8) 4 => e8 V.toList) (s1.2.2 ++ g1_.2)⟩, ⟨some (b2, 0), e8 m_1.toList⟩]) rfl ?_
                obtain rfl := Option.some.inj H
                exact hJ ()
            · replace H := ite_f (of_decide_eq_false hc) H
              refine TL_skip rfl rfl rfl rfl rfl rfl rfl ?_
              refine TL_skip rfl rfl rfl rfl rfl rfl rfl ?_
              refine TL_skip rfl rfl rfl rfl rfl rfl rfl ?_
              refine TL_skip rfl rfl rfl rfl rfl rfl rfl ?_
              refine TL_v rfl rfl rfl (V_pick (b := false) rfl rfl) ?_
              refine TL_v rfl rfl rfl (V_assign rfl) ?_
              refine TL_nil ?_
              refine TX_next ?_
              refine TC.sub (m' := [(3, vi k_1), (4, sl g1_.1 ((s1.2.2).length) ((s1.2.2 ++ g1_.2).length)), (6, v8 s1.1), (7, vi s1.2.1), (8, ptr (some (b2, 0)) 0), (76, vb false)]) ⟨rfl, rfl, rfl, rfl, rfl, rfl, trivial⟩ ?_
              refine TC_cond_f rfl ?_
              refine TC_skip ?_
              refine TX.sub (m' := [(3, vi k_1), (4, sl g1_.1 ((s1.2.2).length) ((s1.2.2 ++ g1_.2).length)), (6, v8 s1.1), (7, vi s1.2.1), (8, ptr (some (b2, 0)) 0)]) ⟨rfl, rfl, rfl, rfl, rfl, trivial⟩ ?_
              refine TX.pull (is := [1, 0]) (L' := [⟨g1_.1, eF (fun V : Vector (BitVec 8) 4 => e8 V.toList) (s1.2.2 ++ g1_.2)⟩, ⟨some (b2, 0), e8 m_1.toList⟩]) rfl ?_
              obtain rfl := Option.some.inj H
              exact hJ ()
      · replace H := ite_f (of_decide_eq_false hc) H
        refine TC_exit ?_
        refine TX_then_exit ?_
        refine TX_then_exit ?_
        refine TX.sub (m' := [(4, sl g1_.1 ((s1.2.2).length) ((s1.2.2 ++ g1_.2).length))]) ⟨rfl, trivial⟩ ?_
        refine TX.pull (is := [0]) (L' := [⟨g1_.1, eF (fun V : Vector (BitVec 8) 4 => e8 V.toList) (s1.2.2 ++ g1_.2)⟩]) rfl ?_
        obtain rfl := Option.some.inj H
        exact hE s1.2.2 rfl (g1_.1, g1_.2)
    · intro g
      obtain ⟨gx3, hgx⟩ : ∃ z, z = g := ⟨g, rfl⟩; subst hgx
      refine TX_block_exit ?_
      refine TX_next ?_
      refine TC_seq ?_
      refine TC_region ?_
      refine TL_v rfl rfl rfl (V_move rfl) ?_
      refine TL_v rfl rfl rfl (V_assign rfl) ?_
      refine TL_nil ?_
      refine TX_next ?_
      refine TC_ret ?_
      have hrv := Option.some.inj H
      subst hrv
      exact TX_ret (rs := [.tmp 2]) (vs := [sl gx3.1 ((t_2).length) ((t_2 ++ gx3.2).length)]) rfl ⟨rfl, trivial⟩ (fun w' hs' => ⟨(gx3.1, gx3.2), rfl, Step.left (Step.pulled (is := [0]) (A := [⟨gx3.1, eF (fun V : Vector (BitVec 8) 4 => e8 V.toList) (t_2 ++ gx3.2)⟩]) hs' rfl)⟩)

end Go.Proofs
end

section
namespace Go.Proofs
open Go Go.Kx
set_option linter.unusedVariables false
set_option linter.unusedSimpArgs false
def aes_Block (key : Str) (s_ : Str) : Option (Str × Int) :=
  (aes_New key).bind fun (r_1 : (Unit) ⊕ (Vector (BitVec 8) 256 × Nat × List (Vector (BitVec 8) 16))) => (match r_1 with | .inl r_1 => (some (([] : Str), 400)) | .inr r_1 => (if ((s_).length : Int) ≠ 16 then (some (([] : Str), 400)) else (ltt (vsp (Vector.replicate 16 0#8) 0 (s_.take (min ((s_).length) 16))) fun (m_1 : Vector (BitVec 8) 16) => (if r_1.2.1 = (r_1.2.2).length then ((aes_Cipher_Encrypt r_1.1 r_1.2.2 m_1).bind fun (r_2 : Vector (BitVec 8) 16) => (some (r_2.toList, 0))) else none))))

set_option maxHeartbeats 4000000 in
set_option maxRecDepth 20000 in
theorem F23_calls (key : Str) (s_ : Str) (r : Str × Int) (H : aes_Block key s_ = some r) :
    Does Try.prog 23 [vs key, vs s_] [] [] (Γ := Unit) (fun g => Value.tuple [vs r.1, vi r.2].toArray) (fun g => []) := by
  intro w hmem hro hd
  refine calls_of (N := 30) (m0 := [(0, vs key), (1, vs s_)]) Try.func23 rfl Try.ntmps23 (argM_ok [vs key, vs s_]) rfl hmem hro hd ?_
  unfold aes_Block at H
  refine TC_seq ?_
  refine TC_region ?_
  refine TL_v rfl rfl rfl (V_assign rfl) ?_
  refine TL_v rfl rfl rfl (V_assign rfl) ?_
  refine TL_nil ?_
  refine TX_next ?_
  refine TC_seq ?_
  refine TC_region ?_
  refine TL_v rfl rfl rfl (V_move rfl) ?_
  obtain ⟨r_1, hr_1, H⟩ := bind_elim H
  rcases r_1 with r_1 | r_1
  · dsimp only at H
    refine TL_e rfl rfl rfl (E_call (Γ := Unit × (Nat × Nat)) (val := fun g => Value.tuple [Value.pointer none, vb false].toArray) (mem := fun g => []) (vs := [vs key]) (Lin := []) (Ro := []) (is := []) rfl Try.call50 (F50_calls key (.inl r_1) hr_1) rfl trivial) (fun g_1 => ?_)
    refine TL_v rfl rfl rfl (V_move rfl) ?_
    refine TL_v rfl rfl rfl (V_extract (vs := [Value.pointer none, vb false]) rfl rfl) ?_
    refine TL_v rfl rfl rfl (V_extract (vs := [Value.pointer none, vb false]) rfl rfl) ?_
    refine TL_v rfl rfl rfl (V_assign rfl) ?_
    refine TL_v rfl rfl rfl (V_assign rfl) ?_
    refine TL_nil ?_
    refine TX_next ?_
    refine TC_seq ?_
    refine TC_seq ?_
    refine TC_region ?_
    refine TL_v rfl rfl rfl (V_move rfl) ?_
    refine TL_v rfl rfl rfl (V_un rfl (fun w => notB w false)) ?_
    refine TL_v rfl rfl rfl (V_move rfl) ?_
    refine TL_skip rfl rfl rfl rfl rfl rfl rfl ?_
    refine TL_skip rfl rfl rfl rfl rfl rfl rfl ?_
    refine TL_skip rfl rfl rfl rfl rfl rfl rfl ?_
    refine TL_v rfl rfl rfl (V_pick (b := true) rfl rfl) ?_
    refine TL_nil ?_
    refine TX_next ?_
    refine TC_cond_t rfl ?_
    refine TC_seq ?_
    refine TC_region ?_
    refine TL_v rfl rfl rfl (V_assign rfl) ?_
    refine TL_v rfl rfl rfl (V_assign rfl) ?_
    refine TL_nil ?_
    refine TX_next ?_
    refine TC_ret ?_
    refine TX_then_ret ?_
    have hrv := Option.some.inj H
    subst hrv
    exact TX_ret (rs := [.tmp 4, .tmp 5]) (vs := [vs ([] : Str), vi 400]) rfl ⟨rfl, rfl, trivial⟩ (fun w' hs' => ⟨(), rfl, Step.left (Step.pulled (is := []) (A := []) hs' rfl)⟩)
  · dsimp only at H
    refine TL_e rfl rfl rfl (E_call (Γ := Unit × (Nat × Nat)) (val := fun g => Value.tuple [ptr (some (g.2.1, 0)) 0, vb true].toArray) (mem := fun g => [⟨some (g.2.1, 0), e8 r_1.1.toList⟩, ⟨some (g.2.1, 256), [sl (some (g.2.2, 0)) r_1.2.1 r_1.2.1]⟩, ⟨some (g.2.2, 0), eF (fun V : Vector (BitVec 8) 16 => e8 V.toList) r_1.2.2⟩]) (vs := [vs key]) (Lin := []) (Ro := []) (is := []) rfl Try.call50 (F50_calls key (.inr r_1) hr_1) rfl trivial) (fun g_2 => ?_)
    refine TL_v rfl rfl rfl (V_move rfl) ?_
    refine TL_v rfl rfl rfl (V_extract (vs := [ptr (some (g_2.2.1, 0)) 0, vb true]) rfl rfl) ?_
    refine TL_v rfl rfl rfl (V_extract (vs := [ptr (some (g_2.2.1, 0)) 0, vb true]) rfl rfl) ?_
    refine TL_v rfl rfl rfl (V_assign rfl) ?_
    refine TL_v rfl rfl rfl (V_assign rfl) ?_
    refine TL_nil ?_
    refine TX_next ?_
    refine TC_seq ?_
    refine TC_seq ?_
    refine TC_region ?_
    refine TL_v rfl rfl rfl (V_move rfl) ?_
    refine TL_v rfl rfl rfl (V_un rfl (fun w => notB w true)) ?_
    refine TL_v rfl rfl rfl (V_move rfl) ?_
    refine TL_want rfl rfl rfl rfl rfl rfl (V_move rfl) ?_
    refine TL_want rfl rfl rfl rfl rfl rfl (V_len_str rfl Try.underlying9) ?_
    refine TL_want rfl rfl rfl rfl rfl rfl (V_bin rfl rfl (fun w => neqI w ((s_).length : Int) 16)) ?_
    refine TL_v rfl rfl rfl (V_pick (b := false) rfl rfl) ?_
    refine TL_nil ?_
    refine TX_next ?_
    refine TC_cond (b := (decide (((s_).length : Int) ≠ 16))) rfl (fun hc => ?_) (fun hc => ?_)
    · replace H := ite_t (of_decide_eq_true hc) H
      refine TC_seq ?_
      refine TC_region ?_
      refine TL_v rfl rfl rfl (V_assign rfl) ?_
      refine TL_v rfl rfl rfl (V_assign rfl) ?_
      refine TL_nil ?_
      refine TX_next ?_
      refine TC_ret ?_
      refine TX_then_ret ?_
      have hrv := Option.some.inj H
      subst hrv
      exact TX_ret (rs := [.tmp 4, .tmp 5]) (vs := [vs ([] : Str), vi 400]) rfl ⟨rfl, rfl, trivial⟩ (fun w' hs' => ⟨(), rfl, Step.left (Step.pulled (is := []) (A := []) hs' rfl)⟩)
    · replace H := ite_f (of_decide_eq_false hc) H
      refine TC_skip ?_
      refine TX_next ?_
      refine TC_seq ?_
      refine TC_region ?_
      refine TL_e rfl rfl rfl (E_allocP [(16, e8 ((Vector.replicate 16 0#8).toList))] TryI.inf71 TryI.zer71 ⟨(lenV (f := v8) (Vector.replicate 16 0#8)), trivial⟩) (fun b1 => ?_)
      refine TL_nil ?_
      refine TX_next ?_
      refine TC_seq ?_
      refine TC_region ?_
      refine TL_v rfl rfl rfl (V_sliceArr0 rfl (by simp) Try.underlying71 TryI.inf5 rfl) ?_
      refine TL_v rfl rfl rfl (V_move rfl) ?_
      refine TL_e rfl rfl rfl (E_copyStr (o := 0) (j := 0) (copyA rfl) rfl (by simp) Try.underlying30 TryI.inf5 rfl rfl (copy_vec (l := 0) (d := 16) (by omega)) (cs' := e8 ((vsp (Vector.replicate 16 0#8) 0 (s_.take (min ((s_).length) 16))).toList)) (splice_vec (take_room (n := 16) (l := 0) (d := 16) (by omega)))) (fun _ => ?_)
      obtain ⟨m_1, hm_1, H⟩ := ltt_elim H
      refine TL_reE (j := 0) (A := some (b1, 0)) (cs := e8 ((vsp (Vector.replicate 16 0#8) 0 (s_.take (min ((s_).length) 16))).toList)) (cs' := e8 m_1.toList) rfl (congrArg (fun z : Vector (BitVec 8) 16 => e8 (Vector.toList z)) hm_1) ?_
      refine TL_nil ?_
      refine TX_next ?_
      refine TC_seq ?_
      refine TC_region ?_
      refine TL_v rfl rfl rfl (V_move rfl) ?_
      refine TL_v rfl rfl rfl (V_loadAgg (n := 16) rfl (by simp) (Src.own (j := 0) rfl) Try.isAgg71 TryI.inf71 rfl (lenV (f := v8) m_1)) ?_
      obtain ⟨h1, H⟩ := if_elim H
      refine TL_reE (j := 2) (A := some (g_2.2.1, 256)) (cs := [sl (some (g_2.2.2, 0)) r_1.2.1 r_1.2.1]) (cs' := [sl (some (g_2.2.2, 0)) ((r_1.2.2).length) ((r_1.2.2).length)]) rfl (congrArg (fun n => [sl (some (g_2.2.2, 0)) n n]) h1) ?_
      obtain ⟨r_2, hr_2, H⟩ := bind_elim H
      refine TL_e rfl rfl rfl (E_call (Γ := Unit) (val := fun g => Value.agg (flat [(16, e8 r_2.toList)]).toArray) (mem := fun g => []) (vs := [ptr (some (g_2.2.1, 0)) 0, Value.agg (flat [(16, e8 m_1.toList)]).toArray]) (Lin := []) (Ro := [⟨some (g_2.2.1, 0), e8 r_1.1.toList⟩, ⟨some (g_2.2.1, 256), [sl (some (g_2.2.2, 0)) ((r_1.2.2).length) ((r_1.2.2).length)]⟩, ⟨some (g_2.2.2, 0), eF (fun V : Vector (BitVec 8) 16 => e8 V.toList) r_1.2.2⟩]) (is := []) rfl Try.call51 (F51_calls g_2.2.1 0 (some (g_2.2.2, 0)) ((r_1.2.2).length) r_1.1 r_1.2.2 m_1 (Nat.le_refl _) r_2 hr_2) rfl ⟨SrcD.own (j := 1) rfl, SrcD.own (j := 2) rfl, SrcD.own (j := 3) rfl, trivial⟩) (fun g_3 => ?_)
      refine TL_e rfl rfl rfl (E_allocP [(16, e8 ((Vector.replicate 16 0#8).toList))] TryI.inf71 TryI.zer71 ⟨(lenV (f := v8) (Vector.replicate 16 0#8)), trivial⟩) (fun b2 => ?_)
      refine TL_n rfl rfl (E_storeAgg (n := 16) (j := 0) (vs := e8 r_2.toList) rfl rfl TryI.inf71 rfl (lenV (f := v8) r_2) (OneC.map (fun _ => rfl) _) rfl (Nat.le_of_eq (by simp)) (cs' := e8 r_2.toList) (splice_all (by simp))) (fun _ => ?_)
      refine TL_nil ?_
      refine TX_next ?_
      refine TC_seq ?_
      refine TC_region ?_
      refine TL_v rfl rfl rfl (V_sliceArr0 rfl (by simp) Try.underlying71 TryI.inf5 rfl) ?_
      refine TL_v rfl rfl rfl (V_b2s rfl Try.underlying30 Try.underlying5 Try.underlying9 (Src.own (j := 0) rfl) (by simp)) ?_
      refine TL_v rfl rfl rfl (V_assign rfl) ?_
      refine TL_v rfl rfl rfl (V_assign rfl) ?_
      refine TL_nil ?_
      refine TX_next ?_
      refine TC_ret ?_
      have hrv := Option.some.inj H
      subst hrv
      exact TX_ret (rs := [.tmp 4, .tmp 5]) (vs := [vs r_2.toList, vi 0]) rfl ⟨rfl, rfl, trivial⟩ (fun w' hs' => ⟨(), rfl, Step.left (Step.pulled (is := []) (A := []) hs' rfl)⟩)

end Go.Proofs
end

section
namespace Go.Proofs
open Go Go.Kx
set_option linter.unusedVariables false
set_option linter.unusedSimpArgs false
def halberdref4_Block (key : Str) (s_ : Str) : Option (Str × Int) :=
  if ((key).length : Int) ≠ 16 then (if ((key).length : Int) ≠ 32 then (some (([] : Str), 400)) else (if ((s_).length : Int) ≠ 16 then (some (([] : Str), 400)) else ((halberdref4_schedule key).bind fun (r_1 : List (Vector (BitVec 8) 4)) => ((halberdref4_cipher r_1 s_).bind fun (r_2 : Str) => (some (r_2, 0)))))) else (if ((s_).length : Int) ≠ 16 then (some (([] : Str), 400)) else ((halberdref4_schedule key).bind fun (r_3 : List (Vector (BitVec 8) 4)) => ((halberdref4_cipher r_3 s_).bind fun (r_4 : Str) => (some (r_4, 0)))))

set_option maxHeartbeats 4000000 in
set_option maxRecDepth 20000 in
theorem F24_calls (key : Str) (s_ : Str) (r : Str × Int) (H : halberdref4_Block key s_ = some r) :
    Does Try.prog 24 [vs key, vs s_] [] [] (Γ := Unit) (fun g => Value.tuple [vs r.1, vi r.2].toArray) (fun g => []) := by
  intro w hmem hro hd
  refine calls_of (N := 23) (m0 := [(0, vs key), (1, vs s_)]) Try.func24 rfl Try.ntmps24 (argM_ok [vs key, vs s_]) rfl hmem hro hd ?_
  unfold halberdref4_Block at H
  refine TC_seq ?_
  refine TC_region ?_
  refine TL_v rfl rfl rfl (V_assign rfl) ?_
  refine TL_v rfl rfl rfl (V_assign rfl) ?_
  refine TL_nil ?_
  refine TX_next ?_
  refine TC_seq ?_
  refine TC_seq ?_
  refine TC_region ?_
  refine TL_v rfl rfl rfl (V_move rfl) ?_
  refine TL_v rfl rfl rfl (V_len_str rfl Try.underlying9) ?_
  refine TL_v rfl rfl rfl (V_bin rfl rfl (fun w => neqI w ((key).length : Int) 16)) ?_
  refine TL_v rfl rfl rfl (V_move rfl) ?_
  refine TL_fork (d := 9) (b := (decide (((key).length : Int) ≠ 16))) rfl (fun hc => ?_) (fun hc => ?_)
  · replace H := ite_t (of_decide_eq_true hc) H
    refine TL_want rfl rfl rfl rfl rfl rfl (V_move rfl) ?_
    refine TL_want rfl rfl rfl rfl rfl rfl (V_len_str rfl Try.underlying9) ?_
    refine TL_want rfl rfl rfl rfl rfl rfl (V_bin rfl rfl (fun w => neqI w ((key).length : Int) 32)) ?_
    refine TL_v rfl rfl rfl (V_pick (b := true) rfl rfl) ?_
    refine TL_v rfl rfl rfl (V_move rfl) ?_
    refine TL_fork (d := 14) (b := (decide (((key).length : Int) ≠ 32))) rfl (fun hc => ?_) (fun hc => ?_)
    · replace H := ite_t (of_decide_eq_true hc) H
      refine TL_skip rfl rfl rfl rfl rfl rfl rfl ?_
      refine TL_skip rfl rfl rfl rfl rfl rfl rfl ?_
      refine TL_skip rfl rfl rfl rfl rfl rfl rfl ?_
      refine TL_v rfl rfl rfl (V_pick (b := true) rfl rfl) ?_
      refine TL_nil ?_
      refine TX_next ?_
      refine TC_cond_t rfl ?_
      refine TC_seq ?_
      refine TC_region ?_
      refine TL_v rfl rfl rfl (V_assign rfl) ?_
      refine TL_v rfl rfl rfl (V_assign rfl) ?_
      refine TL_nil ?_
      refine TX_next ?_
      refine TC_ret ?_
      refine TX_then_ret ?_
      have hrv := Option.some.inj H
      subst hrv
      exact TX_ret (rs := [.tmp 4, .tmp 5]) (vs := [vs ([] : Str), vi 400]) rfl ⟨rfl, rfl, trivial⟩ (fun w' hs' => ⟨(), rfl, Step.left (Step.pulled (is := []) (A := []) hs' rfl)⟩)
    · replace H := ite_f (of_decide_eq_false hc) H
      refine TL_want rfl rfl rfl rfl rfl rfl (V_move rfl) ?_
      refine TL_want rfl rfl rfl rfl rfl rfl (V_len_str rfl Try.underlying9) ?_
      refine TL_want rfl rfl rfl rfl rfl rfl (V_bin rfl rfl (fun w => neqI w ((s_).length : Int) 16)) ?_
      refine TL_v rfl rfl rfl (V_pick (b := false) rfl rfl) ?_
      refine TL_nil ?_
      refine TX_next ?_
      refine TC_cond (b := (decide (((s_).length : Int) ≠ 16))) rfl (fun hc => ?_) (fun hc => ?_)
      · replace H := ite_t (of_decide_eq_true hc) H
        refine TC_seq ?_
        refine TC_region ?_
        refine TL_v rfl rfl rfl (V_assign rfl) ?_
        refine TL_v rfl rfl rfl (V_assign rfl) ?_
        refine TL_nil ?_
        refine TX_next ?_
        refine TC_ret ?_
        refine TX_then_ret ?_
        have hrv := Option.some.inj H
        subst hrv
        exact TX_ret (rs := [.tmp 4, .tmp 5]) (vs := [vs ([] : Str), vi 400]) rfl ⟨rfl, rfl, trivial⟩ (fun w' hs' => ⟨(), rfl, Step.left (Step.pulled (is := []) (A := []) hs' rfl)⟩)
      · replace H := ite_f (of_decide_eq_false hc) H
        refine TC_skip ?_
        refine TX_next ?_
        refine TC_seq ?_
        refine TC_region ?_
        refine TL_v rfl rfl rfl (V_move rfl) ?_
        obtain ⟨r_1, hr_1, H⟩ := bind_elim H
        refine TL_e rfl rfl rfl (E_call (Γ := Adr × List (Vector (BitVec 8) 4)) (val := fun g => sl g.1 ((r_1).length) ((r_1 ++ g.2).length)) (mem := fun g => [⟨g.1, eF (fun V : Vector (BitVec 8) 4 => e8 V.toList) (r_1 ++ g.2)⟩]) (vs := [vs key]) (Lin := []) (Ro := []) (is := []) rfl Try.call53 (F53_calls key r_1 hr_1) rfl trivial) (fun g_1 => ?_)
        refine TL_v rfl rfl rfl (V_move rfl) ?_
        obtain ⟨r_2, hr_2, H⟩ := bind_elim H
        refine TL_e rfl rfl rfl (E_call (Γ := Unit) (val := fun g => vs r_2) (mem := fun g => []) (vs := [sl g_1.1 ((r_1).length) ((r_1 ++ g_1.2).length), vs s_]) (Lin := []) (Ro := [⟨g_1.1, eF (fun V : Vector (BitVec 8) 4 => e8 V.toList) r_1⟩]) (is := []) rfl Try.call52 (F52_calls g_1.1 ((r_1 ++ g_1.2).length) r_1 s_ (row_le _ _) r_2 hr_2) rfl ⟨(srcdRowF (s := 4) (fun _ => by simp) (SrcD.own (j := 0) rfl)), trivial⟩) (fun g_2 => ?_)
        refine TL_v rfl rfl rfl (V_assign rfl) ?_
        refine TL_v rfl rfl rfl (V_assign rfl) ?_
        refine TL_nil ?_
        refine TX_next ?_
        refine TC_ret ?_
        have hrv := Option.some.inj H
        subst hrv
        exact TX_ret (rs := [.tmp 4, .tmp 5]) (vs := [vs r_2, vi 0]) rfl ⟨rfl, rfl, trivial⟩ (fun w' hs' => ⟨(), rfl, Step.left (Step.pulled (is := []) (A := []) hs' rfl)⟩)
  · replace H := ite_f (of_decide_eq_false hc) H
    refine TL_skip rfl rfl rfl rfl rfl rfl rfl ?_
    refine TL_skip rfl rfl rfl rfl rfl rfl rfl ?_
    refine TL_skip rfl rfl rfl rfl rfl rfl rfl ?_
    refine TL_v rfl rfl rfl (V_pick (b := false) rfl rfl) ?_
    refine TL_v rfl rfl rfl (V_move rfl) ?_
    refine TL_want rfl rfl rfl rfl rfl rfl (V_move rfl) ?_
    refine TL_want rfl rfl rfl rfl rfl rfl (V_len_str rfl Try.underlying9) ?_
    refine TL_want rfl rfl rfl rfl rfl rfl (V_bin rfl rfl (fun w => neqI w ((s_).length : Int) 16)) ?_
    refine TL_v rfl rfl rfl (V_pick (b := false) rfl rfl) ?_
    refine TL_nil ?_
    refine TX_next ?_
    refine TC_cond (b := (decide (((s_).length : Int) ≠ 16))) rfl (fun hc => ?_) (fun hc => ?_)
    · replace H := ite_t (of_decide_eq_true hc) H
      refine TC_seq ?_
      refine TC_region ?_
      refine TL_v rfl rfl rfl (V_assign rfl) ?_
      refine TL_v rfl rfl rfl (V_assign rfl) ?_
      refine TL_nil ?_
      refine TX_next ?_
      refine TC_ret ?_
      refine TX_then_ret ?_
      have hrv := Option.some.inj H
      subst hrv
      exact TX_ret (rs := [.tmp 4, .tmp 5]) (vs := [vs ([] : Str), vi 400]) rfl ⟨rfl, rfl, trivial⟩ (fun w' hs' => ⟨(), rfl, Step.left (Step.pulled (is := []) (A := []) hs' rfl)⟩)
    · replace H := ite_f (of_decide_eq_false hc) H
      refine TC_skip ?_
      refine TX_next ?_
      refine TC_seq ?_
      refine TC_region ?_
      refine TL_v rfl rfl rfl (V_move rfl) ?_
      obtain ⟨r_3, hr_3, H⟩ := bind_elim H
      refine TL_e rfl rfl rfl (E_call (Γ := Adr × List (Vector (BitVec 8) 4)) (val := fun g => sl g.1 ((r_3).length) ((r_3 ++ g.2).length)) (mem := fun g => [⟨g.1, eF (fun V : Vector (BitVec 8) 4 => e8 V.toList) (r_3 ++ g.2)⟩]) (vs := [vs key]) (Lin := []) (Ro := []) (is := []) rfl Try.call53 (F53_calls key r_3 hr_3) rfl trivial) (fun g_3 => ?_)
      refine TL_v rfl rfl rfl (V_move rfl) ?_
      obtain ⟨r_4, hr_4, H⟩ := bind_elim H
      refine TL_e rfl rfl rfl (E_call (Γ := Unit) (val := fun g => vs r_4) (mem := fun g => []) (vs := [sl g_3.1 ((r_3).length) ((r_3 ++ g_3.2).length), vs s_]) (Lin := []) (Ro := [⟨g_3.1, eF (fun V : Vector (BitVec 8) 4 => e8 V.toList) r_3⟩]) (is := []) rfl Try.call52 (F52_calls g_3.1 ((r_3 ++ g_3.2).length) r_3 s_ (row_le _ _) r_4 hr_4) rfl ⟨(srcdRowF (s := 4) (fun _ => by simp) (SrcD.own (j := 0) rfl)), trivial⟩) (fun g_4 => ?_)
      refine TL_v rfl rfl rfl (V_assign rfl) ?_
      refine TL_v rfl rfl rfl (V_assign rfl) ?_
      refine TL_nil ?_
      refine TX_next ?_
      refine TC_ret ?_
      have hrv := Option.some.inj H
      subst hrv
      exact TX_ret (rs := [.tmp 4, .tmp 5]) (vs := [vs r_4, vi 0]) rfl ⟨rfl, rfl, trivial⟩ (fun w' hs' => ⟨(), rfl, Step.left (Step.pulled (is := []) (A := []) hs' rfl)⟩)

end Go.Proofs
end

section
namespace Go.Proofs
open Go Go.Kx
set_option linter.unusedVariables false
set_option linter.unusedSimpArgs false
def halberdlaw4_awake : Option (Bool) :=
  (aes_Block ([0#8, 1#8, 2#8, 3#8, 4#8, 5#8, 6#8, 7#8, 8#8, 9#8, 10#8, 11#8, 12#8, 13#8, 14#8, 15#8] : Str) ([0#8, 17#8, 34#8, 51#8, 68#8, 85#8, 102#8, 119#8, 136#8, 153#8, 170#8, 187#8, 204#8, 221#8, 238#8, 255#8] : Str)).bind fun (r_1 : Str × Int) => ((aes_Block ([107#8] : Str) ([] : Str)).bind fun (r_2 : Str × Int) => (if r_1.1 = ([105#8, 196#8, 224#8, 216#8, 106#8, 123#8, 4#8, 48#8, 216#8, 205#8, 183#8, 128#8, 112#8, 180#8, 197#8, 90#8] : Str) then ((halberdlaw0_Num r_1.2).bind fun (r_3 : Int) => (if r_3 = 0 then ((halberdlaw0_Num r_2.2).bind fun (r_4 : Int) => (ltt (decide (r_4 = 400)) fun (x1 : Bool) => (some x1))) else (some false))) else (some false)))

set_option maxHeartbeats 4000000 in
set_option maxRecDepth 20000 in
theorem F26_calls (r : Bool) (H : halberdlaw4_awake = some r) :
    Does Try.prog 26 [] [] [] (Γ := Unit) (fun g => vb r) (fun g => []) := by
  intro w hmem hro hd
  refine calls_of (N := 25) (m0 := []) Try.func26 rfl Try.ntmps26 (argM_ok []) rfl hmem hro hd ?_
  unfold halberdlaw4_awake at H
  refine TC_seq ?_
  refine TC_region ?_
  refine TL_v rfl rfl rfl (V_assign rfl) ?_
  refine TL_nil ?_
  refine TX_next ?_
  refine TC_seq ?_
  refine TC_region ?_
  obtain ⟨r_1, hr_1, H⟩ := bind_elim H
  refine TL_e rfl rfl rfl (E_call (Γ := Unit) (val := fun g => Value.tuple [vs r_1.1, vi r_1.2].toArray) (mem := fun g => []) (vs := [vs ([0#8, 1#8, 2#8, 3#8, 4#8, 5#8, 6#8, 7#8, 8#8, 9#8, 10#8, 11#8, 12#8, 13#8, 14#8, 15#8] : Str), vs ([0#8, 17#8, 34#8, 51#8, 68#8, 85#8, 102#8, 119#8, 136#8, 153#8, 170#8, 187#8, 204#8, 221#8, 238#8, 255#8] : Str)]) (Lin := []) (Ro := []) (is := []) rfl Try.call23 (F23_calls ([0#8, 1#8, 2#8, 3#8, 4#8, 5#8, 6#8, 7#8, 8#8, 9#8, 10#8, 11#8, 12#8, 13#8, 14#8, 15#8] : Str) ([0#8, 17#8, 34#8, 51#8, 68#8, 85#8, 102#8, 119#8, 136#8, 153#8, 170#8, 187#8, 204#8, 221#8, 238#8, 255#8] : Str) r_1 hr_1) rfl trivial) (fun g_1 => ?_)
  refine TL_v rfl rfl rfl (V_move rfl) ?_
  refine TL_v rfl rfl rfl (V_extract (vs := [vs r_1.1, vi r_1.2]) rfl rfl) ?_
  refine TL_v rfl rfl rfl (V_extract (vs := [vs r_1.1, vi r_1.2]) rfl rfl) ?_
  refine TL_v rfl rfl rfl (V_assign rfl) ?_
  refine TL_v rfl rfl rfl (V_assign rfl) ?_
  refine TL_nil ?_
  refine TX_next ?_
  refine TC_seq ?_
  refine TC_region ?_
  obtain ⟨r_2, hr_2, H⟩ := bind_elim H
  refine TL_e rfl rfl rfl (E_call (Γ := Unit) (val := fun g => Value.tuple [vs r_2.1, vi r_2.2].toArray) (mem := fun g => []) (vs := [vs ([107#8] : Str), vs ([] : Str)]) (Lin := []) (Ro := []) (is := []) rfl Try.call23 (F23_calls ([107#8] : Str) ([] : Str) r_2 hr_2) rfl trivial) (fun g_2 => ?_)
  refine TL_v rfl rfl rfl (V_move rfl) ?_
  refine TL_v rfl rfl rfl (V_extract (vs := [vs r_2.1, vi r_2.2]) rfl rfl) ?_
  refine TL_v rfl rfl rfl (V_extract (vs := [vs r_2.1, vi r_2.2]) rfl rfl) ?_
  refine TL_v rfl rfl rfl (V_assign rfl) ?_
  refine TL_v rfl rfl rfl (V_assign rfl) ?_
  refine TL_nil ?_
  refine TX_next ?_
  refine TC_seq ?_
  refine TC_region ?_
  refine TL_v rfl rfl rfl (V_move rfl) ?_
  refine TL_v rfl rfl rfl (V_bin rfl rfl (fun w => eqlS w r_1.1 ([105#8, 196#8, 224#8, 216#8, 106#8, 123#8, 4#8, 48#8, 216#8, 205#8, 183#8, 128#8, 112#8, 180#8, 197#8, 90#8] : Str))) ?_
  refine TL_v rfl rfl rfl (V_move rfl) ?_
  refine TL_fork (d := 15) (b := (decide (r_1.1 = ([105#8, 196#8, 224#8, 216#8, 106#8, 123#8, 4#8, 48#8, 216#8, 205#8, 183#8, 128#8, 112#8, 180#8, 197#8, 90#8] : Str)))) rfl (fun hc => ?_) (fun hc => ?_)
  · replace H := ite_t (of_decide_eq_true hc) H
    refine TL_want rfl rfl rfl rfl rfl rfl (V_move rfl) ?_
    obtain ⟨r_3, hr_3, H⟩ := bind_elim H
    refine TL_wantE rfl rfl rfl rfl rfl rfl (E_call (Γ := Unit) (val := fun g => vi r_3) (mem := fun g => []) (vs := [vi r_1.2]) (Lin := []) (Ro := []) (is := []) rfl Try.call25 (F25_calls r_1.2 r_3 hr_3) rfl trivial) (fun g_3 => ?_)
    refine TL_want rfl rfl rfl rfl rfl rfl (V_bin rfl rfl (fun w => eqlI w r_3 0)) ?_
    refine TL_v rfl rfl rfl (V_pick (b := true) rfl rfl) ?_
    refine TL_v rfl rfl rfl (V_move rfl) ?_
    refine TL_fork (d := 20) (b := (decide (r_3 = 0))) rfl (fun hc => ?_) (fun hc => ?_)
    · replace H := ite_t (of_decide_eq_true hc) H
      refine TL_want rfl rfl rfl rfl rfl rfl (V_move rfl) ?_
      obtain ⟨r_4, hr_4, H⟩ := bind_elim H
      refine TL_wantE rfl rfl rfl rfl rfl rfl (E_call (Γ := Unit) (val := fun g => vi r_4) (mem := fun g => []) (vs := [vi r_2.2]) (Lin := []) (Ro := []) (is := []) rfl Try.call25 (F25_calls r_2.2 r_4 hr_4) rfl trivial) (fun g_4 => ?_)
      refine TL_want rfl rfl rfl rfl rfl rfl (V_bin rfl rfl (fun w => eqlI w r_4 400)) ?_
      refine TL_v rfl rfl rfl (V_pick (b := true) rfl rfl) ?_
      refine TL_v rfl rfl rfl (V_assign rfl) ?_
      obtain ⟨x1, hx1, H⟩ := ltt_elim H
      refine TL_re (d := 0) (v := vb (decide (r_4 = 400))) (v' := vb x1) rfl (congrArg vb hx1) ?_
      refine TL_nil ?_
      refine TX_next ?_
      refine TC_ret ?_
      have hrv := Option.some.inj H
      subst hrv
      exact TX_ret (rs := [.tmp 0]) (vs := [vb x1]) rfl ⟨rfl, trivial⟩ (fun w' hs' => ⟨(), rfl, Step.left (Step.pulled (is := []) (A := []) hs' rfl)⟩)
    · replace H := ite_f (of_decide_eq_false hc) H
      refine TL_skip rfl rfl rfl rfl rfl rfl rfl ?_
      refine TL_skip rfl rfl rfl rfl rfl rfl rfl ?_
      refine TL_skip rfl rfl rfl rfl rfl rfl rfl ?_
      refine TL_v rfl rfl rfl (V_pick (b := false) rfl rfl) ?_
      refine TL_v rfl rfl rfl (V_assign rfl) ?_
      refine TL_nil ?_
      refine TX_next ?_
      refine TC_ret ?_
      have hrv := Option.some.inj H
      subst hrv
      exact TX_ret (rs := [.tmp 0]) (vs := [vb false]) rfl ⟨rfl, trivial⟩ (fun w' hs' => ⟨(), rfl, Step.left (Step.pulled (is := []) (A := []) hs' rfl)⟩)
  · replace H := ite_f (of_decide_eq_false hc) H
    refine TL_skip rfl rfl rfl rfl rfl rfl rfl ?_
    refine TL_skip rfl rfl rfl rfl rfl rfl rfl ?_
    refine TL_skip rfl rfl rfl rfl rfl rfl rfl ?_
    refine TL_v rfl rfl rfl (V_pick (b := false) rfl rfl) ?_
    refine TL_v rfl rfl rfl (V_move rfl) ?_
    refine TL_skip rfl rfl rfl rfl rfl rfl rfl ?_
    refine TL_skip rfl rfl rfl rfl rfl rfl rfl ?_
    refine TL_skip rfl rfl rfl rfl rfl rfl rfl ?_
    refine TL_v rfl rfl rfl (V_pick (b := false) rfl rfl) ?_
    refine TL_v rfl rfl rfl (V_assign rfl) ?_
    refine TL_nil ?_
    refine TX_next ?_
    refine TC_ret ?_
    have hrv := Option.some.inj H
    subst hrv
    exact TX_ret (rs := [.tmp 0]) (vs := [vb false]) rfl ⟨rfl, trivial⟩ (fun w' hs' => ⟨(), rfl, Step.left (Step.pulled (is := []) (A := []) hs' rfl)⟩)

end Go.Proofs
end

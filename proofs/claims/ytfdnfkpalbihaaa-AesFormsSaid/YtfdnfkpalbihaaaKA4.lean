/-
  Part KA4 of the proofs of this seat: F4, F5, AesL.
-/
import Derived.Test.YtfdnfkpalbihaaaK2
import Derived.Test.YtfdnfkpalbihaaaKA2
import Derived.Test.YtfdnfkpalbihaaaKA3
section
namespace Go.Proofs
open Go Go.Kx
set_option linter.unusedVariables false
set_option linter.unusedSimpArgs false
def halberdlaw4_BlockBits.b0 (seed : Str) (j1 : Int) (s0 : Int × List (BitVec 8)) : Option ((Int × List (BitVec 8)) ⊕ (List (BitVec 8))) :=
  if s0.1 < ((w64 (j1 + 16)).toNat : Int) then (if s0.1 < ((seed).length : Int) then (if 0 ≤ s0.1 ∧ s0.1 < ((seed).length : Int) then (if 0 ≤ s0.1 ∧ s0.1 < ((w64 (j1 + 16)).toNat : Int) then (if (s0.1).toNat < (s0.2).length then (ltt (s0.2.set ((s0.1).toNat) (sg seed s0.1)) fun (m_1 : List (BitVec 8)) => (ltt (w64 (s0.1 + 1)) fun (i1 : Int) => (some (.inl (i1, m_1))))) else none) else none) else none) else (some (.inr s0.2))) else (some (.inr s0.2))

def halberdlaw4_BlockBits.b1 (at_ : Int) (j1 : Int) (s1 : Int × List (BitVec 8)) : Option ((Int × List (BitVec 8)) ⊕ ((Unit) ⊕ (Bool))) :=
  if s1.1 < 8 then (if (BitVec.ofInt 64 ((w64 (j1 + 16)).toNat : Int)) ≠ 0#64 then (ltt (w64 ((w64 ((w64 ((((BitVec.ofInt 64 at_) / 8#64) % (BitVec.ofInt 64 ((w64 (j1 + 16)).toNat : Int))).toNat : Int)) * 8)) + s1.1)) fun (k_1 : Int) => (if 0 ≤ w64 (k_1.tdiv 8) ∧ w64 (k_1.tdiv 8) < ((w64 (j1 + 16)).toNat : Int) then (if (w64 (k_1.tdiv 8)).toNat < (s1.2).length then (if 0 ≤ k_1.tmod 8 then (if 0 ≤ w64 (k_1.tdiv 8) ∧ w64 (k_1.tdiv 8) < ((w64 (j1 + 16)).toNat : Int) then (if (w64 (k_1.tdiv 8)).toNat < (s1.2).length then (ltt (s1.2.set ((w64 (k_1.tdiv 8)).toNat) ((lg s1.2 ((w64 (k_1.tdiv 8)).toNat)) ^^^ (1#8 <<< (k_1.tmod 8).toNat))) fun (m_2 : List (BitVec 8)) => (if 0 ≤ j1 then (if (j1).toNat ≤ (w64 (j1 + 16)).toNat then (if (j1).toNat ≤ (m_2).length then (if 0 ≤ j1 then (if (j1).toNat ≤ (w64 (j1 + 16)).toNat then (if (w64 (j1 + 16)).toNat ≤ (m_2).length then ((aes_Block (sub m_2 0 ((j1).toNat)) (sub m_2 ((j1).toNat) ((w64 (j1 + 16)).toNat))).bind fun (r_2 : Str × Int) => (if 0 ≤ j1 then (if (j1).toNat ≤ (w64 (j1 + 16)).toNat then (if (j1).toNat ≤ (m_2).length then (if 0 ≤ j1 then (if (j1).toNat ≤ (w64 (j1 + 16)).toNat then (if (w64 (j1 + 16)).toNat ≤ (m_2).length then ((halberdref4_Block (sub m_2 0 ((j1).toNat)) (sub m_2 ((j1).toNat) ((w64 (j1 + 16)).toNat))).bind fun (r_3 : Str × Int) => ((halberdlaw0_Num r_2.2).bind fun (r_4 : Int) => (if r_4 ≠ 0 then (some (.inr (.inr false))) else (if r_2.1 ≠ r_3.1 then (some (.inr (.inr false))) else (if ((r_2.1).length : Int) ≠ 16 then (some (.inr (.inr false))) else (ltt (w64 (s1.1 + 1)) fun (i2 : Int) => (some (.inl (i2, m_2))))))))) else none) else none) else none) else none) else none) else none)) else none) else none) else none) else none) else none) else none)) else none) else none) else none) else none) else none)) else none) else (some (.inr (.inl ())))

def halberdlaw4_BlockBits (seed : Str) (wide : Bool) (at_ : Int) : Option (Bool) :=
  (halberdlaw4_awake).bind fun (r_1 : Bool) => (if (!r_1) = true then (some false) else ((if wide = true then (some 32) else (some 16)).bind fun (j1 : Int) => (if 0 ≤ w64 (j1 + 16) ∧ w64 (j1 + 16) ≤ 17592186044416 then ((loop (halberdlaw4_BlockBits.b0 seed j1) BIG (0, List.replicate ((w64 (j1 + 16)).toNat) 0#8)).bind fun (t_1 : List (BitVec 8)) => ((loop (halberdlaw4_BlockBits.b1 at_ j1) BIG (0, t_1)).bind fun (t_2 : (Unit) ⊕ (Bool)) => (match t_2 with | .inl t_2 => (some true) | .inr rv => some rv))) else none)))

set_option maxHeartbeats 4000000 in
set_option maxRecDepth 20000 in
theorem F4_calls (seed : Str) (wide : Bool) (at_ : Int) (r : Bool) (H : halberdlaw4_BlockBits seed wide at_ = some r) :
    Does Try.prog 4 [vs seed, vb wide, vi at_] [] [] (Γ := Unit) (fun g => vb r) (fun g => []) := by
  intro w hmem hro hd
  refine calls_of (N := 105) (m0 := [(0, vs seed), (1, vb wide), (2, vi at_)]) Try.func4 rfl Try.ntmps4 (argM_ok [vs seed, vb wide, vi at_]) rfl hmem hro hd ?_
  unfold halberdlaw4_BlockBits at H
  refine TC_seq ?_
  refine TC_region ?_
  refine TL_v rfl rfl rfl (V_assign rfl) ?_
  refine TL_nil ?_
  refine TX_next ?_
  refine TC_seq ?_
  refine TC_seq ?_
  refine TC_region ?_
  obtain ⟨r_1, hr_1, H⟩ := bind_elim H
  refine TL_e rfl rfl rfl (E_call (Γ := Unit) (val := fun g => vb r_1) (mem := fun g => []) (vs := []) (Lin := []) (Ro := []) (is := []) rfl Try.call26 (F26_calls r_1 hr_1) rfl trivial) (fun g_1 => ?_)
  refine TL_v rfl rfl rfl (V_un rfl (fun w => notB w r_1)) ?_
  refine TL_nil ?_
  refine TX_next ?_
  refine TC_cond (b := (!r_1)) rfl (fun hc => ?_) (fun hc => ?_)
  · replace H := ite_t hc H
    refine TC_seq ?_
    refine TC_region ?_
    refine TL_v rfl rfl rfl (V_assign rfl) ?_
    refine TL_nil ?_
    refine TX_next ?_
    refine TC_ret ?_
    refine TX_then_ret ?_
    have hrv := Option.some.inj H
    subst hrv
    exact TX_ret (rs := [.tmp 6]) (vs := [vb false]) rfl ⟨rfl, trivial⟩ (fun w' hs' => ⟨(), rfl, Step.left (Step.pulled (is := []) (A := []) hs' rfl)⟩)
  · replace H := ite_f (Bool.eq_false_iff.1 hc) H
    refine TC_skip ?_
    refine TX_next ?_
    refine TC_seq ?_
    refine TC_region ?_
    refine TL_v rfl rfl rfl (V_assign rfl) ?_
    refine TL_nil ?_
    refine TX_next ?_
    refine TC_seq ?_
    refine TC_seq ?_
    refine TC_region ?_
    refine TL_v rfl rfl rfl (V_move rfl) ?_
    refine TL_nil ?_
    refine TX_next ?_
    obtain ⟨j1, Hj, H⟩ := bind_elim H
    refine TC_join (Γ := Unit) (fun gj1 => [(0, vs seed), (2, vi at_), (7, vi j1)]) (fun gj1 => []) ?_ ?_
    · intro gj1
      refine TX_next ?_
      refine TC_seq ?_
      refine TC_region ?_
      refine TL_v rfl rfl rfl (V_move rfl) ?_
      refine TL_v rfl rfl rfl (V_bin rfl rfl (fun w => addI w j1 16)) ?_
      obtain ⟨h1, H⟩ := if_elim H
      refine TL_e rfl rfl rfl (E_mk1 rfl rfl Try.underlying30 TryI.inf5 (z := v8 0#8) rfl rfl rfl (B := 1) rfl h1.1 (Int.le_refl _) (by have := h1; omega) (by have := h1; omega) (n' := (w64 (j1 + 16)).toNat) (c' := (w64 (j1 + 16)).toNat) rfl rfl (cs := e8 (List.replicate ((w64 (j1 + 16)).toNat) 0#8)) (rep_map (f := v8))) (fun b1 => ?_)
      refine TL_v rfl rfl rfl (V_assign rfl) ?_
      refine TL_nil ?_
      refine TX_next ?_
      refine TC_seq ?_
      refine TC_seq ?_
      refine TC_region ?_
      refine TL_v rfl rfl rfl (V_assign rfl) ?_
      refine TL_nil ?_
      refine TX_next ?_
      refine TC_block ?_
      obtain ⟨t_1, Hl, H⟩ := bind_elim H
      refine TC.sub (m' := [(0, vs seed), (2, vi at_), (7, vi j1), (8, sl (some (b1, 0)) ((w64 (j1 + 16)).toNat) ((w64 (j1 + 16)).toNat)), (9, vi 0)]) ⟨rfl, rfl, rfl, rfl, rfl, trivial⟩ ?_
      refine TC.pull (is := [0]) (L' := [⟨some (b1, 0), e8 (List.replicate ((w64 (j1 + 16)).toNat) 0#8)⟩]) rfl ?_
      refine TC_loopL (id := 0) (body := (halberdlaw4_BlockBits.b0 seed j1)) (σ := Int × List (BitVec 8)) (Γ := Unit) (Γx := Unit) (fun s0 g0_ => [(0, vs seed), (2, vi at_), (7, vi j1), (8, sl (some (b1, 0)) ((w64 (j1 + 16)).toNat) ((w64 (j1 + 16)).toNat)), (9, vi s0.1)]) (fun s0 g0_ => [⟨some (b1, 0), e8 s0.2⟩]) (fun t g => [(2, vi at_), (7, vi j1), (8, sl (some (b1, 0)) ((w64 (j1 + 16)).toNat) ((w64 (j1 + 16)).toNat))]) (fun t g => [⟨some (b1, 0), e8 t⟩]) ?_ BIG (0, List.replicate ((w64 (j1 + 16)).toNat) 0#8) () t_1 Hl ?_
      · intro s0 g0_ r1 H K hK hE
        unfold halberdlaw4_BlockBits.b0 at H
        refine TC_seq ?_
        refine TC_seq ?_
        refine TC_region ?_
        refine TL_v rfl rfl rfl (V_move rfl) ?_
        refine TL_v rfl rfl rfl (V_move rfl) ?_
        refine TL_v rfl rfl rfl (V_len_slice rfl Try.underlying30) ?_
        refine TL_v rfl rfl rfl (V_bin rfl rfl (fun w => lssI w s0.1 ((w64 (j1 + 16)).toNat : Int))) ?_
        refine TL_v rfl rfl rfl (V_move rfl) ?_
        refine TL_fork (d := 26) (b := (decide (s0.1 < ((w64 (j1 + 16)).toNat : Int)))) rfl (fun hc => ?_) (fun hc => ?_)
        · replace H := ite_t (of_decide_eq_true hc) H
          refine TL_want rfl rfl rfl rfl rfl rfl (V_move rfl) ?_
          refine TL_want rfl rfl rfl rfl rfl rfl (V_move rfl) ?_
          refine TL_want rfl rfl rfl rfl rfl rfl (V_len_str rfl Try.underlying9) ?_
          refine TL_want rfl rfl rfl rfl rfl rfl (V_bin rfl rfl (fun w => lssI w s0.1 ((seed).length : Int))) ?_
          refine TL_v rfl rfl rfl (V_pick (b := true) rfl rfl) ?_
          refine TL_nil ?_
          refine TX_next ?_
          refine TC_cond (b := (decide (s0.1 < ((seed).length : Int)))) rfl (fun hc => ?_) (fun hc => ?_)
          · replace H := ite_t (of_decide_eq_true hc) H
            refine TC_skip ?_
            refine TX_next ?_
            refine TC_seq ?_
            refine TC_block ?_
            refine TC_region ?_
            refine TL_v rfl rfl rfl (V_move rfl) ?_
            refine TL_v rfl rfl rfl (V_move rfl) ?_
            refine TL_v rfl rfl rfl (V_move rfl) ?_
            refine TL_v rfl rfl rfl (V_move rfl) ?_
            obtain ⟨h2, H⟩ := if_elim H
            refine TL_v rfl rfl rfl (V_idxStr rfl rfl (i := s0.1) Try.underlying9 h2.1 h2.2) ?_
            obtain ⟨h3, H⟩ := if_elim H
            obtain ⟨h4, H⟩ := if_elim H
            refine TL_v rfl rfl rfl (V_idxSl (i := s0.1) rfl rfl Try.underlying30 TryI.inf5 rfl (fun _ h => by cases h) h3.1 h3.2 (k := (s0.1).toNat) (km1 _)) ?_
            refine TL_n rfl rfl (E_store (j := 0) rfl rfl TryI.inf5 rfl rfl rfl (by simpa using h4) (cs' := e8 (s0.2.set ((s0.1).toNat) (sg seed s0.1))) (set_map (f := v8) (l := s0.2) (k := ((s0.1).toNat)) (x := (sg seed s0.1)))) (fun _ => ?_)
            obtain ⟨m_1, hm_1, H⟩ := ltt_elim H
            refine TL_reE (j := 0) (A := some (b1, 0)) (cs := e8 (s0.2.set ((s0.1).toNat) (sg seed s0.1))) (cs' := e8 m_1) rfl (congrArg (e8) hm_1) ?_
            refine TL_nil ?_
            refine TX_block_normal ?_
            refine TX_next ?_
            refine TC_region ?_
            refine TL_v rfl rfl rfl (V_move rfl) ?_
            refine TL_v rfl rfl rfl (V_bin rfl rfl (fun w => addI w s0.1 1)) ?_
            refine TL_v rfl rfl rfl (V_assign rfl) ?_
            obtain ⟨i1, hi1, H⟩ := ltt_elim H
            refine TL_re (d := 9) (v := vi (w64 (s0.1 + 1))) (v' := vi i1) rfl (congrArg vi hi1) ?_
            refine TL_nil ?_
            refine TX.sub (m' := [(0, vs seed), (2, vi at_), (7, vi j1), (8, sl (some (b1, 0)) ((w64 (j1 + 16)).toNat) ((w64 (j1 + 16)).toNat)), (9, vi i1)]) ⟨rfl, rfl, rfl, rfl, rfl, trivial⟩ ?_
            refine TX.pull (is := [0]) (L' := [⟨some (b1, 0), e8 m_1⟩]) rfl ?_
            obtain rfl := Option.some.inj H
            exact fun a w hs => hK (i1, m_1) rfl () a w hs
          · replace H := ite_f (of_decide_eq_false hc) H
            refine TC_exit ?_
            refine TX_then_exit ?_
            refine TX_then_exit ?_
            refine TX.sub (m' := [(2, vi at_), (7, vi j1), (8, sl (some (b1, 0)) ((w64 (j1 + 16)).toNat) ((w64 (j1 + 16)).toNat))]) ⟨rfl, rfl, rfl, trivial⟩ ?_
            refine TX.pull (is := [0]) (L' := [⟨some (b1, 0), e8 s0.2⟩]) rfl ?_
            obtain rfl := Option.some.inj H
            exact hE s0.2 rfl ()
        · replace H := ite_f (of_decide_eq_false hc) H
          refine TL_skip rfl rfl rfl rfl rfl rfl rfl ?_
          refine TL_skip rfl rfl rfl rfl rfl rfl rfl ?_
          refine TL_skip rfl rfl rfl rfl rfl rfl rfl ?_
          refine TL_skip rfl rfl rfl rfl rfl rfl rfl ?_
          refine TL_v rfl rfl rfl (V_pick (b := false) rfl rfl) ?_
          refine TL_nil ?_
          refine TX_next ?_
          refine TC_cond_f rfl ?_
          refine TC_exit ?_
          refine TX_then_exit ?_
          refine TX_then_exit ?_
          refine TX.sub (m' := [(2, vi at_), (7, vi j1), (8, sl (some (b1, 0)) ((w64 (j1 + 16)).toNat) ((w64 (j1 + 16)).toNat))]) ⟨rfl, rfl, rfl, trivial⟩ ?_
          refine TX.pull (is := [0]) (L' := [⟨some (b1, 0), e8 s0.2⟩]) rfl ?_
          obtain rfl := Option.some.inj H
          exact hE s0.2 rfl ()
      · intro g
        refine TX_block_exit ?_
        refine TX_next ?_
        refine TC_seq ?_
        refine TC_seq ?_
        refine TC_region ?_
        refine TL_v rfl rfl rfl (V_assign rfl) ?_
        refine TL_nil ?_
        refine TX_next ?_
        refine TC_block ?_
        obtain ⟨t_2, Hl, H⟩ := bind_elim H
        refine TC.sub (m' := [(2, vi at_), (7, vi j1), (8, sl (some (b1, 0)) ((w64 (j1 + 16)).toNat) ((w64 (j1 + 16)).toNat)), (10, vi 0)]) ⟨rfl, rfl, rfl, rfl, trivial⟩ ?_
        refine TC.pull (is := [0]) (L' := [⟨some (b1, 0), e8 t_1⟩]) rfl ?_
        refine TC_loopR (id := 2) (body := (halberdlaw4_BlockBits.b1 at_ j1)) (σ := Int × List (BitVec 8)) (Γ := Unit) (Γx := Unit) (fun s1 g1_ => [(2, vi at_), (7, vi j1), (8, sl (some (b1, 0)) ((w64 (j1 + 16)).toNat) ((w64 (j1 + 16)).toNat)), (10, vi s1.1)]) (fun s1 g1_ => [⟨some (b1, 0), e8 s1.2⟩]) (fun t g => []) (fun t g => []) r ?_ BIG (0, t_1) () t_2 Hl ?_
        · intro s1 g1_ r1 H K hK hE hR1
          unfold halberdlaw4_BlockBits.b1 at H
          refine TC_seq ?_
          refine TC_seq ?_
          refine TC_region ?_
          refine TL_v rfl rfl rfl (V_move rfl) ?_
          refine TL_v rfl rfl rfl (V_bin rfl rfl (fun w => lssI w s1.1 8)) ?_
          refine TL_nil ?_
          refine TX_next ?_
          refine TC_cond (b := (decide (s1.1 < 8))) rfl (fun hc => ?_) (fun hc => ?_)
          · replace H := ite_t (of_decide_eq_true hc) H
            refine TC_skip ?_
            refine TX_next ?_
            refine TC_seq ?_
            refine TC_block ?_
            refine TC_seq ?_
            refine TC_region ?_
            refine TL_v rfl rfl rfl (V_move rfl) ?_
            refine TL_v rfl rfl rfl (V_conv rfl (fun w => cvI64 w _ _ Try.underlying31 (TryI.und3) .i64 at_)) ?_
            refine TL_v rfl rfl rfl (V_bin rfl rfl (fun w => quo64 w (BitVec.ofInt 64 at_) 8#64 (by decide))) ?_
            refine TL_v rfl rfl rfl (V_move rfl) ?_
            refine TL_v rfl rfl rfl (V_len_slice rfl Try.underlying30) ?_
            refine TL_v rfl rfl rfl (V_conv rfl (fun w => cvI64 w _ _ Try.underlying31 (TryI.und3) .i64 ((w64 (j1 + 16)).toNat : Int))) ?_
            obtain ⟨h5, H⟩ := if_elim H
            refine TL_v rfl rfl rfl (V_bin rfl rfl (fun w => rem64 w ((BitVec.ofInt 64 at_) / 8#64) (BitVec.ofInt 64 ((w64 (j1 + 16)).toNat : Int)) h5)) ?_
            refine TL_v rfl rfl rfl (V_conv rfl (fun w => cv64toI w _ _ Try.underlying3 (TryI.und31) (((BitVec.ofInt 64 at_) / 8#64) % (BitVec.ofInt 64 ((w64 (j1 + 16)).toNat : Int))))) ?_
            refine TL_v rfl rfl rfl (V_bin rfl rfl (fun w => mulI w (w64 ((((BitVec.ofInt 64 at_) / 8#64) % (BitVec.ofInt 64 ((w64 (j1 + 16)).toNat : Int))).toNat : Int)) 8)) ?_
            refine TL_v rfl rfl rfl (V_move rfl) ?_
            refine TL_v rfl rfl rfl (V_bin rfl rfl (fun w => addI w (w64 ((w64 ((((BitVec.ofInt 64 at_) / 8#64) % (BitVec.ofInt 64 ((w64 (j1 + 16)).toNat : Int))).toNat : Int)) * 8)) s1.1)) ?_
            refine TL_v rfl rfl rfl (V_assign rfl) ?_
            obtain ⟨k_1, hk_1, H⟩ := ltt_elim H
            refine TL_re (d := 11) (v := vi (w64 ((w64 ((w64 ((((BitVec.ofInt 64 at_) / 8#64) % (BitVec.ofInt 64 ((w64 (j1 + 16)).toNat : Int))).toNat : Int)) * 8)) + s1.1))) (v' := vi k_1) rfl (congrArg vi hk_1) ?_
            refine TL_nil ?_
            refine TX_next ?_
            refine TC_seq ?_
            obtain ⟨h6, H⟩ := if_elim H
            obtain ⟨h7, H⟩ := if_elim H
            obtain ⟨h8, H⟩ := if_elim H
            obtain ⟨h9, H⟩ := if_elim H
            obtain ⟨h10, H⟩ := if_elim H
            obtain ⟨m_2, hm_2, H⟩ := ltt_elim H
            refine TA_begin [⟨some (b1, 0), e8 s1.2⟩] 13 (by kernel_rfl) (N := 14) rfl ?_
            refine TA_take (i := 0) (is := [0]) (done' := #[true, false, false, false, false, false, false, false, false, false, false, false, false, false]) rfl rfl rfl rfl (by kernel_rfl) (QP.then (QP.block (QP.then (QP.then (QP.block (QP.then QP.body)))))) (by kernel_rfl) rfl (V_move rfl) ?_
            refine TA_take (i := 1) (is := [0]) (done' := #[true, true, false, false, false, false, false, false, false, false, false, false, false, false]) rfl rfl rfl rfl (by kernel_rfl) (QP.then (QP.block (QP.then (QP.then (QP.block (QP.then QP.body)))))) (by kernel_rfl) rfl (V_move rfl) ?_
            refine TA_take (i := 2) (is := [0]) (done' := #[true, true, true, false, false, false, false, false, false, false, false, false, false, false]) rfl rfl rfl rfl (by kernel_rfl) (QP.then (QP.block (QP.then (QP.then (QP.block (QP.then QP.body)))))) (by kernel_rfl) rfl (V_bin rfl rfl (fun w => quoI w k_1 8 (by decide))) ?_
            refine TA_take (i := 3) (is := [0]) (done' := #[true, true, true, true, false, false, false, false, false, false, false, false, false, false]) rfl rfl rfl rfl (by kernel_rfl) (QP.then (QP.block (QP.then (QP.then (QP.block (QP.then QP.body)))))) (by kernel_rfl) rfl (V_move rfl) ?_
            refine TA_take (i := 4) (is := [0]) (done' := #[true, true, true, true, true, false, false, false, false, false, false, false, false, false]) rfl rfl rfl rfl (by kernel_rfl) (QP.then (QP.block (QP.then (QP.then (QP.block (QP.then QP.body)))))) (by kernel_rfl) rfl (V_move rfl) ?_
            refine TA_take (i := 5) (is := [0]) (done' := #[true, true, true, true, true, true, false, false, false, false, false, false, false, false]) rfl rfl rfl rfl (by kernel_rfl) (QP.then (QP.block (QP.then (QP.then (QP.block (QP.then QP.body)))))) (by kernel_rfl) rfl (V_bin rfl rfl (fun w => quoI w k_1 8 (by decide))) ?_
            refine TA_take (i := 6) (is := [0]) (done' := #[true, true, true, true, true, true, true, false, false, false, false, false, false, false]) rfl rfl rfl rfl (by kernel_rfl) (QP.then (QP.block (QP.then (QP.then (QP.block (QP.then QP.body)))))) (by kernel_rfl) rfl (V_idxSl (i := w64 (k_1.tdiv 8)) rfl rfl Try.underlying30 TryI.inf5 rfl (fun _ h => by cases h) h6.1 h6.2 (k := (w64 (k_1.tdiv 8)).toNat) (km1 _)) ?_
            refine TA_take (i := 7) (is := [0]) (done' := #[true, true, true, true, true, true, true, true, false, false, false, false, false, false]) rfl rfl rfl rfl (by kernel_rfl) (QP.then (QP.block (QP.then (QP.then (QP.block (QP.then QP.body)))))) (by kernel_rfl) rfl (V_load rfl (Src.own (j := 0) rfl) (get_map (f := v8) (l := s1.2) h7) Try.isAgg5) ?_
            refine TA_take (i := 8) (is := [0]) (done' := #[true, true, true, true, true, true, true, true, true, false, false, false, false, false]) rfl rfl rfl rfl (by kernel_rfl) (QP.then (QP.block (QP.then (QP.then (QP.block (QP.then QP.body)))))) (by kernel_rfl) rfl (V_move rfl) ?_
            refine TA_take (i := 9) (is := [0]) (done' := #[true, true, true, true, true, true, true, true, true, true, false, false, false, false]) rfl rfl rfl rfl (by kernel_rfl) (QP.then (QP.block (QP.then (QP.then (QP.block (QP.then QP.body)))))) (by kernel_rfl) rfl (V_bin rfl rfl (fun w => remI w k_1 8 (by decide))) ?_
            refine TA_take (i := 10) (is := [0]) (done' := #[true, true, true, true, true, true, true, true, true, true, true, false, false, false]) rfl rfl rfl rfl (by kernel_rfl) (QP.then (QP.block (QP.then (QP.then (QP.block (QP.then QP.body)))))) (by kernel_rfl) rfl (V_bin rfl rfl (fun w => shl8 w 1#8 .i64 (k_1.tmod 8) h8)) ?_
            refine TA_take (i := 11) (is := [0]) (done' := #[true, true, true, true, true, true, true, true, true, true, true, true, false, false]) rfl rfl rfl rfl (by kernel_rfl) (QP.then (QP.block (QP.then (QP.then (QP.block (QP.then QP.body)))))) (by kernel_rfl) rfl (V_bin rfl rfl (fun w => xor8 w (lg s1.2 ((w64 (k_1.tdiv 8)).toNat)) (1#8 <<< (k_1.tmod 8).toNat))) ?_
            refine TA_take (i := 12) (is := [0]) (done' := #[true, true, true, true, true, true, true, true, true, true, true, true, true, false]) rfl rfl rfl rfl (by kernel_rfl) (QP.then (QP.block (QP.then (QP.then (QP.block (QP.then QP.body)))))) (by kernel_rfl) rfl (V_idxSl (i := w64 (k_1.tdiv 8)) rfl rfl Try.underlying30 TryI.inf5 rfl (fun _ h => by cases h) h9.1 h9.2 (k := (w64 (k_1.tdiv 8)).toNat) (km1 _)) ?_
            refine TA_all (rs := [13]) (by kernel_rfl) rfl ?_
            refine ⟨?_, trivial⟩
            refine TO_n (is := []) (R := fun _ => []) (done' := #[true, true, true, true, true, true, true, true, true, true, true, true, true, true]) rfl rfl rfl (by kernel_rfl) (E_store (j := 0) rfl rfl TryI.inf5 rfl rfl rfl (by simpa using h10) (cs' := e8 (s1.2.set ((w64 (k_1.tdiv 8)).toNat) ((lg s1.2 ((w64 (k_1.tdiv 8)).toNat)) ^^^ (1#8 <<< (k_1.tmod 8).toNat)))) (set_map (f := v8) (l := s1.2) (k := ((w64 (k_1.tdiv 8)).toNat)) (x := ((lg s1.2 ((w64 (k_1.tdiv 8)).toNat)) ^^^ (1#8 <<< (k_1.tmod 8).toNat))))) (fun h => by cases h) (fun _ => ?_)
            refine TA_reE (j := 0) (A := some (b1, 0)) (cs := e8 (s1.2.set ((w64 (k_1.tdiv 8)).toNat) ((lg s1.2 ((w64 (k_1.tdiv 8)).toNat)) ^^^ (1#8 <<< (k_1.tmod 8).toNat)))) (cs' := e8 m_2) rfl (congrArg (e8) hm_2) ?_
            refine TA_done (by kernel_rfl) ?_ 0
            refine TX_next ?_
            refine TC.sub (m' := [(2, vi at_), (7, vi j1), (8, sl (some (b1, 0)) ((w64 (j1 + 16)).toNat) ((w64 (j1 + 16)).toNat)), (10, vi s1.1)]) ⟨rfl, rfl, rfl, rfl, trivial⟩ ?_
            refine TC_seq ?_
            obtain ⟨h11, H⟩ := if_elim H
            obtain ⟨h12, H⟩ := if_elim H
            obtain ⟨h13, H⟩ := if_elim H
            obtain ⟨h14, H⟩ := if_elim H
            obtain ⟨h15, H⟩ := if_elim H
            obtain ⟨h16, H⟩ := if_elim H
            obtain ⟨r_2, hr_2, H⟩ := bind_elim H
            refine TA_begin [⟨some (b1, 0), e8 m_2⟩] 14 (by kernel_rfl) (N := 14) rfl ?_
            refine TA_take (i := 0) (is := [0]) (done' := #[true, false, false, false, false, false, false, false, false, false, false, false, false, false]) rfl rfl rfl rfl (by kernel_rfl) (QP.then (QP.block (QP.then (QP.then (QP.block (QP.then QP.body)))))) (by kernel_rfl) rfl (V_move rfl) ?_
            refine TA_take (i := 1) (is := [0]) (done' := #[true, true, false, false, false, false, false, false, false, false, false, false, false, false]) rfl rfl rfl rfl (by kernel_rfl) (QP.then (QP.block (QP.then (QP.then (QP.block (QP.then QP.body)))))) (by kernel_rfl) rfl (V_move rfl) ?_
            refine TA_take (i := 2) (is := [0]) (done' := #[true, true, true, false, false, false, false, false, false, false, false, false, false, false]) rfl rfl rfl rfl (by kernel_rfl) (QP.then (QP.block (QP.then (QP.then (QP.block (QP.then QP.body)))))) (by kernel_rfl) rfl (V_sliceVw0 (l := 0) (h := (j1).toNat) rfl Try.underlying30 TryI.inf5 rfl Bnd.none' (Bnd.some' (i := j1) rfl h11) (Nat.zero_le _) h12) ?_
            refine TA_take (i := 3) (is := [0]) (done' := #[true, true, true, true, false, false, false, false, false, false, false, false, false, false]) rfl rfl rfl rfl (by kernel_rfl) (QP.then (QP.block (QP.then (QP.then (QP.block (QP.then QP.body)))))) (by kernel_rfl) rfl (V_b2s rfl Try.underlying30 Try.underlying5 Try.underlying9 (srcVw (lst := m_2) (Src.own (j := 0) rfl) h12) (sub_length h13)) ?_
            refine TA_take (i := 4) (is := [0]) (done' := #[true, true, true, true, true, false, false, false, false, false, false, false, false, false]) rfl rfl rfl rfl (by kernel_rfl) (QP.then (QP.block (QP.then (QP.then (QP.block (QP.then QP.body)))))) (by kernel_rfl) rfl (V_move rfl) ?_
            refine TA_take (i := 5) (is := [0]) (done' := #[true, true, true, true, true, true, false, false, false, false, false, false, false, false]) rfl rfl rfl rfl (by kernel_rfl) (QP.then (QP.block (QP.then (QP.then (QP.block (QP.then QP.body)))))) (by kernel_rfl) rfl (V_move rfl) ?_
            refine TA_take (i := 6) (is := [0]) (done' := #[true, true, true, true, true, true, true, false, false, false, false, false, false, false]) rfl rfl rfl rfl (by kernel_rfl) (QP.then (QP.block (QP.then (QP.then (QP.block (QP.then QP.body)))))) (by kernel_rfl) rfl (V_sliceVw0 (l := (j1).toNat) (h := (w64 (j1 + 16)).toNat) rfl Try.underlying30 TryI.inf5 rfl (Bnd.some' (i := j1) rfl h14) Bnd.none' h15 (Nat.le_refl _)) ?_
            refine TA_take (i := 7) (is := [0]) (done' := #[true, true, true, true, true, true, true, true, false, false, false, false, false, false]) rfl rfl rfl rfl (by kernel_rfl) (QP.then (QP.block (QP.then (QP.then (QP.block (QP.then QP.body)))))) (by kernel_rfl) rfl (V_b2s rfl Try.underlying30 Try.underlying5 Try.underlying9 (srcVw (lst := m_2) (Src.own (j := 0) rfl) (Nat.le_refl _)) (sub_length h16)) ?_
            refine TA_all (rs := [8]) (by kernel_rfl) rfl ?_
            refine ⟨?_, trivial⟩
            refine TO_e (is := [0]) (done' := #[true, true, true, true, true, true, true, true, true, false, false, false, false, false]) rfl rfl rfl rfl (by kernel_rfl) (E_call (Γ := Unit) (val := fun g => Value.tuple [vs r_2.1, vi r_2.2].toArray) (mem := fun g => []) (vs := [vs (sub m_2 0 ((j1).toNat)), vs (sub m_2 ((j1).toNat) ((w64 (j1 + 16)).toNat))]) (Lin := []) (Ro := []) (is := []) rfl Try.call23 (F23_calls (sub m_2 0 ((j1).toNat)) (sub m_2 ((j1).toNat) ((w64 (j1 + 16)).toNat)) r_2 hr_2) rfl trivial) (fun _ _ => rfl) (fun g_2 => ?_)
            refine TA_take (i := 9) (is := [0]) (done' := #[true, true, true, true, true, true, true, true, true, true, false, false, false, false]) rfl rfl rfl rfl (by kernel_rfl) (QP.then (QP.block (QP.then (QP.then (QP.block (QP.then QP.body)))))) (by kernel_rfl) rfl (V_move rfl) ?_
            refine TA_take (i := 10) (is := [0]) (done' := #[true, true, true, true, true, true, true, true, true, true, true, false, false, false]) rfl rfl rfl rfl (by kernel_rfl) (QP.then (QP.block (QP.then (QP.then (QP.block (QP.then QP.body)))))) (by kernel_rfl) rfl (V_extract (vs := [vs r_2.1, vi r_2.2]) rfl rfl) ?_
            refine TA_take (i := 11) (is := [0]) (done' := #[true, true, true, true, true, true, true, true, true, true, true, true, false, false]) rfl rfl rfl rfl (by kernel_rfl) (QP.then (QP.block (QP.then (QP.then (QP.block (QP.then QP.body)))))) (by kernel_rfl) rfl (V_extract (vs := [vs r_2.1, vi r_2.2]) rfl rfl) ?_
            refine TA_take (i := 12) (is := [0]) (done' := #[true, true, true, true, true, true, true, true, true, true, true, true, true, false]) rfl rfl rfl rfl (by kernel_rfl) (QP.then (QP.block (QP.then (QP.then (QP.block (QP.then QP.body)))))) (by kernel_rfl) rfl (V_assign rfl) ?_
            refine TA_take (i := 13) (is := [0]) (done' := #[true, true, true, true, true, true, true, true, true, true, true, true, true, true]) rfl rfl rfl rfl (by kernel_rfl) (QP.then (QP.block (QP.then (QP.then (QP.block (QP.then QP.body)))))) (by kernel_rfl) rfl (V_assign rfl) ?_
            refine TA_done (by kernel_rfl) ?_ 0
            refine TX_next ?_
            refine TC_seq ?_
            obtain ⟨h17, H⟩ := if_elim H
            obtain ⟨h18, H⟩ := if_elim H
            obtain ⟨h19, H⟩ := if_elim H
            obtain ⟨h20, H⟩ := if_elim H
            obtain ⟨h21, H⟩ := if_elim H
            obtain ⟨h22, H⟩ := if_elim H
            obtain ⟨r_3, hr_3, H⟩ := bind_elim H
            refine TA_begin [⟨some (b1, 0), e8 m_2⟩] 14 (by kernel_rfl) (N := 14) rfl ?_
            refine TA_take (i := 0) (is := [0]) (done' := #[true, false, false, false, false, false, false, false, false, false, false, false, false, false]) rfl rfl rfl rfl (by kernel_rfl) (QP.then (QP.block (QP.then (QP.then (QP.block (QP.then QP.body)))))) (by kernel_rfl) rfl (V_move rfl) ?_
            refine TA_take (i := 1) (is := [0]) (done' := #[true, true, false, false, false, false, false, false, false, false, false, false, false, false]) rfl rfl rfl rfl (by kernel_rfl) (QP.then (QP.block (QP.then (QP.then (QP.block (QP.then QP.body)))))) (by kernel_rfl) rfl (V_move rfl) ?_
            refine TA_take (i := 2) (is := [0]) (done' := #[true, true, true, false, false, false, false, false, false, false, false, false, false, false]) rfl rfl rfl rfl (by kernel_rfl) (QP.then (QP.block (QP.then (QP.then (QP.block (QP.then QP.body)))))) (by kernel_rfl) rfl (V_sliceVw0 (l := 0) (h := (j1).toNat) rfl Try.underlying30 TryI.inf5 rfl Bnd.none' (Bnd.some' (i := j1) rfl h17) (Nat.zero_le _) h18) ?_
            refine TA_take (i := 3) (is := [0]) (done' := #[true, true, true, true, false, false, false, false, false, false, false, false, false, false]) rfl rfl rfl rfl (by kernel_rfl) (QP.then (QP.block (QP.then (QP.then (QP.block (QP.then QP.body)))))) (by kernel_rfl) rfl (V_b2s rfl Try.underlying30 Try.underlying5 Try.underlying9 (srcVw (lst := m_2) (Src.own (j := 0) rfl) h18) (sub_length h19)) ?_
            refine TA_take (i := 4) (is := [0]) (done' := #[true, true, true, true, true, false, false, false, false, false, false, false, false, false]) rfl rfl rfl rfl (by kernel_rfl) (QP.then (QP.block (QP.then (QP.then (QP.block (QP.then QP.body)))))) (by kernel_rfl) rfl (V_move rfl) ?_
            refine TA_take (i := 5) (is := [0]) (done' := #[true, true, true, true, true, true, false, false, false, false, false, false, false, false]) rfl rfl rfl rfl (by kernel_rfl) (QP.then (QP.block (QP.then (QP.then (QP.block (QP.then QP.body)))))) (by kernel_rfl) rfl (V_move rfl) ?_
            refine TA_take (i := 6) (is := [0]) (done' := #[true, true, true, true, true, true, true, false, false, false, false, false, false, false]) rfl rfl rfl rfl (by kernel_rfl) (QP.then (QP.block (QP.then (QP.then (QP.block (QP.then QP.body)))))) (by kernel_rfl) rfl (V_sliceVw0 (l := (j1).toNat) (h := (w64 (j1 + 16)).toNat) rfl Try.underlying30 TryI.inf5 rfl (Bnd.some' (i := j1) rfl h20) Bnd.none' h21 (Nat.le_refl _)) ?_
            refine TA_take (i := 7) (is := [0]) (done' := #[true, true, true, true, true, true, true, true, false, false, false, false, false, false]) rfl rfl rfl rfl (by kernel_rfl) (QP.then (QP.block (QP.then (QP.then (QP.block (QP.then QP.body)))))) (by kernel_rfl) rfl (V_b2s rfl Try.underlying30 Try.underlying5 Try.underlying9 (srcVw (lst := m_2) (Src.own (j := 0) rfl) (Nat.le_refl _)) (sub_length h22)) ?_
            refine TA_all (rs := [8]) (by kernel_rfl) rfl ?_
            refine ⟨?_, trivial⟩
            refine TO_e (is := [0]) (done' := #[true, true, true, true, true, true, true, true, true, false, false, false, false, false]) rfl rfl rfl rfl (by kernel_rfl) (E_call (Γ := Unit) (val := fun g => Value.tuple [vs r_3.1, vi r_3.2].toArray) (mem := fun g => []) (vs := [vs (sub m_2 0 ((j1).toNat)), vs (sub m_2 ((j1).toNat) ((w64 (j1 + 16)).toNat))]) (Lin := []) (Ro := []) (is := []) rfl Try.call24 (F24_calls (sub m_2 0 ((j1).toNat)) (sub m_2 ((j1).toNat) ((w64 (j1 + 16)).toNat)) r_3 hr_3) rfl trivial) (fun _ _ => rfl) (fun g_3 => ?_)
            refine TA_take (i := 9) (is := [0]) (done' := #[true, true, true, true, true, true, true, true, true, true, false, false, false, false]) rfl rfl rfl rfl (by kernel_rfl) (QP.then (QP.block (QP.then (QP.then (QP.block (QP.then QP.body)))))) (by kernel_rfl) rfl (V_move rfl) ?_
            refine TA_take (i := 10) (is := [0]) (done' := #[true, true, true, true, true, true, true, true, true, true, true, false, false, false]) rfl rfl rfl rfl (by kernel_rfl) (QP.then (QP.block (QP.then (QP.then (QP.block (QP.then QP.body)))))) (by kernel_rfl) rfl (V_extract (vs := [vs r_3.1, vi r_3.2]) rfl rfl) ?_
            refine TA_take (i := 11) (is := [0]) (done' := #[true, true, true, true, true, true, true, true, true, true, true, true, false, false]) rfl rfl rfl rfl (by kernel_rfl) (QP.then (QP.block (QP.then (QP.then (QP.block (QP.then QP.body)))))) (by kernel_rfl) rfl (V_extract (vs := [vs r_3.1, vi r_3.2]) rfl rfl) ?_
            refine TA_take (i := 12) (is := [0]) (done' := #[true, true, true, true, true, true, true, true, true, true, true, true, true, false]) rfl rfl rfl rfl (by kernel_rfl) (QP.then (QP.block (QP.then (QP.then (QP.block (QP.then QP.body)))))) (by kernel_rfl) rfl (V_assign rfl) ?_
            refine TA_take (i := 13) (is := [0]) (done' := #[true, true, true, true, true, true, true, true, true, true, true, true, true, true]) rfl rfl rfl rfl (by kernel_rfl) (QP.then (QP.block (QP.then (QP.then (QP.block (QP.then QP.body)))))) (by kernel_rfl) rfl (V_assign rfl) ?_
            refine TA_done (by kernel_rfl) ?_ 0
            refine TX_next ?_
            refine TC.sub (m' := [(2, vi at_), (7, vi j1), (8, sl (some (b1, 0)) ((w64 (j1 + 16)).toNat) ((w64 (j1 + 16)).toNat)), (10, vi s1.1), (12, vs r_2.1), (13, vi r_2.2), (14, vs r_3.1)]) ⟨rfl, rfl, rfl, rfl, rfl, rfl, rfl, trivial⟩ ?_
            refine TC_seq ?_
            refine TC_region ?_
            refine TL_v rfl rfl rfl (V_move rfl) ?_
            obtain ⟨r_4, hr_4, H⟩ := bind_elim H
            refine TL_e rfl rfl rfl (E_call (Γ := Unit) (val := fun g => vi r_4) (mem := fun g => []) (vs := [vi r_2.2]) (Lin := []) (Ro := []) (is := []) rfl Try.call25 (F25_calls r_2.2 r_4 hr_4) rfl trivial) (fun g_4 => ?_)
            refine TL_v rfl rfl rfl (V_bin rfl rfl (fun w => neqI w r_4 0)) ?_
            refine TL_v rfl rfl rfl (V_move rfl) ?_
            refine TL_fork (d := 95) (b := (decide (r_4 ≠ 0))) rfl (fun hc => ?_) (fun hc => ?_)
            · replace H := ite_t (of_decide_eq_true hc) H
              refine TL_skip rfl rfl rfl rfl rfl rfl rfl ?_
              refine TL_skip rfl rfl rfl rfl rfl rfl rfl ?_
              refine TL_skip rfl rfl rfl rfl rfl rfl rfl ?_
              refine TL_v rfl rfl rfl (V_pick (b := true) rfl rfl) ?_
              refine TL_v rfl rfl rfl (V_move rfl) ?_
              refine TL_skip rfl rfl rfl rfl rfl rfl rfl ?_
              refine TL_skip rfl rfl rfl rfl rfl rfl rfl ?_
              refine TL_skip rfl rfl rfl rfl rfl rfl rfl ?_
              refine TL_v rfl rfl rfl (V_pick (b := true) rfl rfl) ?_
              refine TL_nil ?_
              refine TX_next ?_
              refine TC_cond_t rfl ?_
              refine TC_seq ?_
              refine TC_region ?_
              refine TL_v rfl rfl rfl (V_assign rfl) ?_
              refine TL_nil ?_
              refine TX_next ?_
              refine TC_ret ?_
              refine TX_block_ret ?_
              refine TX_then_ret ?_
              refine TX_then_ret ?_
              refine TX_block_ret ?_
              refine TX_then_ret ?_
              have hrv := (hR1 _ (Option.some.inj H).symm)
              subst hrv
              exact TX_ret (rs := [.tmp 6]) (vs := [vb false]) rfl ⟨rfl, trivial⟩ (fun w' hs' => ⟨(), rfl, Step.left (Step.pulled (is := []) (A := []) hs' rfl)⟩)
            · replace H := ite_f (of_decide_eq_false hc) H
              refine TL_want rfl rfl rfl rfl rfl rfl (V_move rfl) ?_
              refine TL_want rfl rfl rfl rfl rfl rfl (V_move rfl) ?_
              refine TL_want rfl rfl rfl rfl rfl rfl (V_bin rfl rfl (fun w => neqS w r_2.1 r_3.1)) ?_
              refine TL_v rfl rfl rfl (V_pick (b := false) rfl rfl) ?_
              refine TL_v rfl rfl rfl (V_move rfl) ?_
              refine TL_fork (d := 100) (b := (decide (r_2.1 ≠ r_3.1))) rfl (fun hc => ?_) (fun hc => ?_)
              · replace H := ite_t (of_decide_eq_true hc) H
                refine TL_skip rfl rfl rfl rfl rfl rfl rfl ?_
                refine TL_skip rfl rfl rfl rfl rfl rfl rfl ?_
                refine TL_skip rfl rfl rfl rfl rfl rfl rfl ?_
                refine TL_v rfl rfl rfl (V_pick (b := true) rfl rfl) ?_
                refine TL_nil ?_
                refine TX_next ?_
                refine TC_cond_t rfl ?_
                refine TC_seq ?_
                refine TC_region ?_
                refine TL_v rfl rfl rfl (V_assign rfl) ?_
                refine TL_nil ?_
                refine TX_next ?_
                refine TC_ret ?_
                refine TX_block_ret ?_
                refine TX_then_ret ?_
                refine TX_then_ret ?_
                refine TX_block_ret ?_
                refine TX_then_ret ?_
                have hrv := (hR1 _ (Option.some.inj H).symm)
                subst hrv
                exact TX_ret (rs := [.tmp 6]) (vs := [vb false]) rfl ⟨rfl, trivial⟩ (fun w' hs' => ⟨(), rfl, Step.left (Step.pulled (is := []) (A := []) hs' rfl)⟩)
              · replace H := ite_f (of_decide_eq_false hc) H
                refine TL_want rfl rfl rfl rfl rfl rfl (V_move rfl) ?_
                refine TL_want rfl rfl rfl rfl rfl rfl (V_len_str rfl Try.underlying9) ?_
                refine TL_want rfl rfl rfl rfl rfl rfl (V_bin rfl rfl (fun w => neqI w ((r_2.1).length : Int) 16)) ?_
                refine TL_v rfl rfl rfl (V_pick (b := false) rfl rfl) ?_
                refine TL_nil ?_
                refine TX_next ?_
                refine TC_cond (b := (decide (((r_2.1).length : Int) ≠ 16))) rfl (fun hc => ?_) (fun hc => ?_)
                · replace H := ite_t (of_decide_eq_true hc) H
                  refine TC_seq ?_
                  refine TC_region ?_
                  refine TL_v rfl rfl rfl (V_assign rfl) ?_
                  refine TL_nil ?_
                  refine TX_next ?_
                  refine TC_ret ?_
                  refine TX_block_ret ?_
                  refine TX_then_ret ?_
                  refine TX_then_ret ?_
                  refine TX_block_ret ?_
                  refine TX_then_ret ?_
                  have hrv := (hR1 _ (Option.some.inj H).symm)
                  subst hrv
                  exact TX_ret (rs := [.tmp 6]) (vs := [vb false]) rfl ⟨rfl, trivial⟩ (fun w' hs' => ⟨(), rfl, Step.left (Step.pulled (is := []) (A := []) hs' rfl)⟩)
                · replace H := ite_f (of_decide_eq_false hc) H
                  refine TC_skip ?_
                  refine TX_block_normal ?_
                  refine TX_next ?_
                  refine TC_region ?_
                  refine TL_v rfl rfl rfl (V_move rfl) ?_
                  refine TL_v rfl rfl rfl (V_bin rfl rfl (fun w => addI w s1.1 1)) ?_
                  refine TL_v rfl rfl rfl (V_assign rfl) ?_
                  obtain ⟨i2, hi2, H⟩ := ltt_elim H
                  refine TL_re (d := 10) (v := vi (w64 (s1.1 + 1))) (v' := vi i2) rfl (congrArg vi hi2) ?_
                  refine TL_nil ?_
                  refine TX.sub (m' := [(2, vi at_), (7, vi j1), (8, sl (some (b1, 0)) ((w64 (j1 + 16)).toNat) ((w64 (j1 + 16)).toNat)), (10, vi i2)]) ⟨rfl, rfl, rfl, rfl, trivial⟩ ?_
                  refine TX.pull (is := [0]) (L' := [⟨some (b1, 0), e8 m_2⟩]) rfl ?_
                  obtain rfl := Option.some.inj H
                  exact fun a w hs => hK (i2, m_2) rfl () a w hs
          · replace H := ite_f (of_decide_eq_false hc) H
            refine TC_exit ?_
            refine TX_then_exit ?_
            refine TX_then_exit ?_
            refine TX.sub (m' := []) trivial ?_
            refine TX.pull (is := []) (L' := []) rfl ?_
            obtain rfl := Option.some.inj H
            exact hE () rfl ()
        · rcases t_2 with t_2 | rv
          · intro gx2
            dsimp only at H
            refine TX_block_exit ?_
            refine TX_next ?_
            refine TC_seq ?_
            refine TC_region ?_
            refine TL_v rfl rfl rfl (V_assign rfl) ?_
            refine TL_nil ?_
            refine TX_next ?_
            refine TC_ret ?_
            have hrv := Option.some.inj H
            subst hrv
            exact TX_ret (rs := [.tmp 6]) (vs := [vb true]) rfl ⟨rfl, trivial⟩ (fun w' hs' => ⟨(), rfl, Step.left (Step.pulled (is := []) (A := []) hs' rfl)⟩)
          · exact (Option.some.inj H)
    · intro hJ
      replace H := Hj
      refine TC_cond (b := wide) rfl (fun hc => ?_) (fun hc => ?_)
      · replace H := ite_t hc H
        refine TC_region ?_
        refine TL_v rfl rfl rfl (V_assign rfl) ?_
        refine TL_nil ?_
        refine TX.sub (m' := [(0, vs seed), (2, vi at_), (7, vi 32)]) ⟨rfl, rfl, rfl, trivial⟩ ?_
        refine TX.pull (is := []) (L' := []) rfl ?_
        obtain rfl := Option.some.inj H
        exact hJ ()
      · replace H := ite_f (Bool.eq_false_iff.1 hc) H
        refine TC_skip ?_
        refine TX.sub (m' := [(0, vs seed), (2, vi at_), (7, vi 16)]) ⟨rfl, rfl, rfl, trivial⟩ ?_
        refine TX.pull (is := []) (L' := []) rfl ?_
        obtain rfl := Option.some.inj H
        exact hJ ()

end Go.Proofs
end

section
namespace Go.Proofs
open Go Go.Kx
set_option linter.unusedVariables false
set_option linter.unusedSimpArgs false
def halberdlaw4_AesForms.k1 : Str := ([0#8, 1#8, 2#8, 3#8, 4#8, 5#8, 6#8, 7#8, 8#8, 9#8, 10#8, 11#8, 12#8, 13#8, 14#8, 15#8, 16#8, 17#8, 18#8, 19#8, 20#8, 21#8, 22#8, 23#8, 24#8, 25#8, 26#8, 27#8, 28#8, 29#8, 30#8, 31#8] : Str)

def halberdlaw4_AesForms (key : Int) (block : Int) : Option (Bool) :=
  (halberdlaw4_awake).bind fun (r_1 : Bool) => (if (!r_1) = true then (some false) else (ltt (iop (· &&& ·) key 63) fun (k_1 : Int) => (ltt (iop (· &&& ·) block 31) fun (m_1 : Int) => (if 0 ≤ k_1 ∧ k_1 ≤ 17592186044416 then (if (List.replicate ((k_1).toNat) 0#8).length = (k_1).toNat then (if 0 ≤ m_1 ∧ m_1 ≤ 17592186044416 then (if (List.replicate ((m_1).toNat) 0#8).length = (m_1).toNat then ((aes_Block (List.replicate ((k_1).toNat) 0#8) (List.replicate ((m_1).toNat) 0#8)).bind fun (r_2 : Str × Int) => (if k_1 = 16 then (ltt (decide (m_1 = 16)) fun (fine1 : Bool) => ((aes_Block halberdlaw4_AesForms.k1 ([0#8, 17#8, 34#8, 51#8, 68#8, 85#8, 102#8, 119#8, 136#8, 153#8, 170#8, 187#8, 204#8, 221#8, 238#8, 255#8] : Str)).bind fun (r_3 : Str × Int) => ((halberdlaw0_Num r_2.2).bind fun (r_4 : Int) => (if ((decide (r_4 = 0)) == fine1) = true then (if fine1 = true then (if ((r_2.1).length : Int) = 16 then (if r_3.1 = ([142#8, 162#8, 183#8, 202#8, 81#8, 103#8, 69#8, 191#8, 234#8, 252#8, 73#8, 144#8, 75#8, 73#8, 96#8, 137#8] : Str) then ((halberdlaw0_Num r_3.2).bind fun (r_5 : Int) => (ltt (decide (r_5 = 0)) fun (x1 : Bool) => (some x1))) else (some false)) else (if (!fine1) = true then (if r_2.1 = ([] : Str) then ((halberdlaw0_Num r_2.2).bind fun (r_6 : Int) => (if r_6 = 400 then (if r_3.1 = ([142#8, 162#8, 183#8, 202#8, 81#8, 103#8, 69#8, 191#8, 234#8, 252#8, 73#8, 144#8, 75#8, 73#8, 96#8, 137#8] : Str) then ((halberdlaw0_Num r_3.2).bind fun (r_7 : Int) => (ltt (decide (r_7 = 0)) fun (x2 : Bool) => (some x2))) else (some false)) else (some false))) else (some false)) else (some false))) else (if (!fine1) = true then (if r_2.1 = ([] : Str) then ((halberdlaw0_Num r_2.2).bind fun (r_8 : Int) => (if r_8 = 400 then (if r_3.1 = ([142#8, 162#8, 183#8, 202#8, 81#8, 103#8, 69#8, 191#8, 234#8, 252#8, 73#8, 144#8, 75#8, 73#8, 96#8, 137#8] : Str) then ((halberdlaw0_Num r_3.2).bind fun (r_9 : Int) => (ltt (decide (r_9 = 0)) fun (x3 : Bool) => (some x3))) else (some false)) else (some false))) else (some false)) else (some false))) else (some false))))) else (if k_1 = 32 then (ltt (decide (m_1 = 16)) fun (fine2 : Bool) => ((aes_Block halberdlaw4_AesForms.k1 ([0#8, 17#8, 34#8, 51#8, 68#8, 85#8, 102#8, 119#8, 136#8, 153#8, 170#8, 187#8, 204#8, 221#8, 238#8, 255#8] : Str)).bind fun (r_10 : Str × Int) => ((halberdlaw0_Num r_2.2).bind fun (r_11 : Int) => (if ((decide (r_11 = 0)) == fine2) = true then (if fine2 = true then (if ((r_2.1).length : Int) = 16 then (if r_10.1 = ([142#8, 162#8, 183#8, 202#8, 81#8, 103#8, 69#8, 191#8, 234#8, 252#8, 73#8, 144#8, 75#8, 73#8, 96#8, 137#8] : Str) then ((halberdlaw0_Num r_10.2).bind fun (r_12 : Int) => (ltt (decide (r_12 = 0)) fun (x4 : Bool) => (some x4))) else (some false)) else (if (!fine2) = true then (if r_2.1 = ([] : Str) then ((halberdlaw0_Num r_2.2).bind fun (r_13 : Int) => (if r_13 = 400 then (if r_10.1 = ([142#8, 162#8, 183#8, 202#8, 81#8, 103#8, 69#8, 191#8, 234#8, 252#8, 73#8, 144#8, 75#8, 73#8, 96#8, 137#8] : Str) then ((halberdlaw0_Num r_10.2).bind fun (r_14 : Int) => (ltt (decide (r_14 = 0)) fun (x5 : Bool) => (some x5))) else (some false)) else (some false))) else (some false)) else (some false))) else (if (!fine2) = true then (if r_2.1 = ([] : Str) then ((halberdlaw0_Num r_2.2).bind fun (r_15 : Int) => (if r_15 = 400 then (if r_10.1 = ([142#8, 162#8, 183#8, 202#8, 81#8, 103#8, 69#8, 191#8, 234#8, 252#8, 73#8, 144#8, 75#8, 73#8, 96#8, 137#8] : Str) then ((halberdlaw0_Num r_10.2).bind fun (r_16 : Int) => (ltt (decide (r_16 = 0)) fun (x6 : Bool) => (some x6))) else (some false)) else (some false))) else (some false)) else (some false))) else (some false))))) else ((aes_Block halberdlaw4_AesForms.k1 ([0#8, 17#8, 34#8, 51#8, 68#8, 85#8, 102#8, 119#8, 136#8, 153#8, 170#8, 187#8, 204#8, 221#8, 238#8, 255#8] : Str)).bind fun (r_17 : Str × Int) => ((halberdlaw0_Num r_2.2).bind fun (r_18 : Int) => (if ((decide (r_18 = 0)) == false) = true then (if r_2.1 = ([] : Str) then ((halberdlaw0_Num r_2.2).bind fun (r_19 : Int) => (if r_19 = 400 then (if r_17.1 = ([142#8, 162#8, 183#8, 202#8, 81#8, 103#8, 69#8, 191#8, 234#8, 252#8, 73#8, 144#8, 75#8, 73#8, 96#8, 137#8] : Str) then ((halberdlaw0_Num r_17.2).bind fun (r_20 : Int) => (ltt (decide (r_20 = 0)) fun (x7 : Bool) => (some x7))) else (some false)) else (some false))) else (some false)) else (some false))))))) else none) else none) else none) else none))))

set_option maxHeartbeats 4000000 in
set_option maxRecDepth 20000 in
theorem F5_calls (key : Int) (block : Int) (r : Bool) (H : halberdlaw4_AesForms key block = some r) :
    Does Try.prog 5 [vi key, vi block] [] [] (Γ := Unit) (fun g => vb r) (fun g => []) := by
  intro w hmem hro hd
  refine calls_of (N := 77) (m0 := [(0, vi key), (1, vi block)]) Try.func5 rfl Try.ntmps5 (argM_ok [vi key, vi block]) rfl hmem hro hd ?_
  unfold halberdlaw4_AesForms at H
  refine TC_seq ?_
  refine TC_region ?_
  refine TL_v rfl rfl rfl (V_assign rfl) ?_
  refine TL_nil ?_
  refine TX_next ?_
  refine TC_seq ?_
  refine TC_seq ?_
  refine TC_region ?_
  obtain ⟨r_1, hr_1, H⟩ := bind_elim H
  refine TL_e rfl rfl rfl (E_call (Γ := Unit) (val := fun g => vb r_1) (mem := fun g => []) (vs := []) (Lin := []) (Ro := []) (is := []) rfl Try.call26 (F26_calls r_1 hr_1) rfl trivial) (fun g_1 => ?_)
  refine TL_v rfl rfl rfl (V_un rfl (fun w => notB w r_1)) ?_
  refine TL_nil ?_
  refine TX_next ?_
  refine TC_cond (b := (!r_1)) rfl (fun hc => ?_) (fun hc => ?_)
  · replace H := ite_t hc H
    refine TC_seq ?_
    refine TC_region ?_
    refine TL_v rfl rfl rfl (V_assign rfl) ?_
    refine TL_nil ?_
    refine TX_next ?_
    refine TC_ret ?_
    refine TX_then_ret ?_
    have hrv := Option.some.inj H
    subst hrv
    exact TX_ret (rs := [.tmp 4]) (vs := [vb false]) rfl ⟨rfl, trivial⟩ (fun w' hs' => ⟨(), rfl, Step.left (Step.pulled (is := []) (A := []) hs' rfl)⟩)
  · replace H := ite_f (Bool.eq_false_iff.1 hc) H
    refine TC_skip ?_
    refine TX_next ?_
    refine TC_seq ?_
    refine TC_region ?_
    refine TL_v rfl rfl rfl (V_move rfl) ?_
    refine TL_v rfl rfl rfl (V_bin rfl rfl (fun w => andI w key 63)) ?_
    refine TL_v rfl rfl rfl (V_move rfl) ?_
    refine TL_v rfl rfl rfl (V_bin rfl rfl (fun w => andI w block 31)) ?_
    refine TL_v rfl rfl rfl (V_assign rfl) ?_
    obtain ⟨k_1, hk_1, H⟩ := ltt_elim H
    refine TL_re (d := 5) (v := vi (iop (· &&& ·) key 63)) (v' := vi k_1) rfl (congrArg vi hk_1) ?_
    refine TL_v rfl rfl rfl (V_assign rfl) ?_
    obtain ⟨m_1, hm_1, H⟩ := ltt_elim H
    refine TL_re (d := 6) (v := vi (iop (· &&& ·) block 31)) (v' := vi m_1) rfl (congrArg vi hm_1) ?_
    refine TL_nil ?_
    refine TX_next ?_
    refine TC_seq ?_
    obtain ⟨h1, H⟩ := if_elim H
    obtain ⟨h2, H⟩ := if_elim H
    obtain ⟨h3, H⟩ := if_elim H
    obtain ⟨h4, H⟩ := if_elim H
    obtain ⟨r_2, hr_2, H⟩ := bind_elim H
    refine TC_join (Γ := Unit) (fun gd1 => [(5, vi k_1), (6, vi m_1), (7, vs r_2.1), (8, vi r_2.2)]) (fun gd1 => []) ?_ ?_
    · intro gd1
      refine TX_next ?_
      refine TC_seq ?_
      refine TC_region ?_
      refine TL_v rfl rfl rfl (V_move rfl) ?_
      refine TL_v rfl rfl rfl (V_bin rfl rfl (fun w => eqlI w k_1 16)) ?_
      refine TL_v rfl rfl rfl (V_move rfl) ?_
      refine TL_fork (d := 30) (b := (decide (k_1 = 16))) rfl (fun hc => ?_) (fun hc => ?_)
      · replace H := ite_t (of_decide_eq_true hc) H
        refine TL_skip rfl rfl rfl rfl rfl rfl rfl ?_
        refine TL_skip rfl rfl rfl rfl rfl rfl rfl ?_
        refine TL_v rfl rfl rfl (V_pick (b := true) rfl rfl) ?_
        refine TL_v rfl rfl rfl (V_move rfl) ?_
        refine TL_want rfl rfl rfl rfl rfl rfl (V_move rfl) ?_
        refine TL_want rfl rfl rfl rfl rfl rfl (V_bin rfl rfl (fun w => eqlI w m_1 16)) ?_
        refine TL_v rfl rfl rfl (V_pick (b := true) rfl rfl) ?_
        refine TL_v rfl rfl rfl (V_assign rfl) ?_
        obtain ⟨fine1, hfine1, H⟩ := ltt_elim H
        refine TL_re (d := 9) (v := vb (decide (m_1 = 16))) (v' := vb fine1) rfl (congrArg vb hfine1) ?_
        refine TL_nil ?_
        refine TX_next ?_
        refine TC_seq ?_
        refine TC_region ?_
        obtain ⟨r_3, hr_3, H⟩ := bind_elim H
        refine TL_e rfl rfl rfl (E_call (Γ := Unit) (val := fun g => Value.tuple [vs r_3.1, vi r_3.2].toArray) (mem := fun g => []) (vs := [vs halberdlaw4_AesForms.k1, vs ([0#8, 17#8, 34#8, 51#8, 68#8, 85#8, 102#8, 119#8, 136#8, 153#8, 170#8, 187#8, 204#8, 221#8, 238#8, 255#8] : Str)]) (Lin := []) (Ro := []) (is := []) rfl Try.call23 (F23_calls halberdlaw4_AesForms.k1 ([0#8, 17#8, 34#8, 51#8, 68#8, 85#8, 102#8, 119#8, 136#8, 153#8, 170#8, 187#8, 204#8, 221#8, 238#8, 255#8] : Str) r_3 hr_3) rfl trivial) (fun g_3 => ?_)
        refine TL_v rfl rfl rfl (V_move rfl) ?_
        refine TL_v rfl rfl rfl (V_extract (vs := [vs r_3.1, vi r_3.2]) rfl rfl) ?_
        refine TL_v rfl rfl rfl (V_extract (vs := [vs r_3.1, vi r_3.2]) rfl rfl) ?_
        refine TL_v rfl rfl rfl (V_assign rfl) ?_
        refine TL_v rfl rfl rfl (V_assign rfl) ?_
        refine TL_nil ?_
        refine TX_next ?_
        refine TC_seq ?_
        refine TC_region ?_
        refine TL_v rfl rfl rfl (V_move rfl) ?_
        obtain ⟨r_4, hr_4, H⟩ := bind_elim H
        refine TL_e rfl rfl rfl (E_call (Γ := Unit) (val := fun g => vi r_4) (mem := fun g => []) (vs := [vi r_2.2]) (Lin := []) (Ro := []) (is := []) rfl Try.call25 (F25_calls r_2.2 r_4 hr_4) rfl trivial) (fun g_4 => ?_)
        refine TL_v rfl rfl rfl (V_bin rfl rfl (fun w => eqlI w r_4 0)) ?_
        refine TL_v rfl rfl rfl (V_move rfl) ?_
        refine TL_v rfl rfl rfl (V_bin rfl rfl (fun w => eqlB w (decide (r_4 = 0)) fine1 Try.underlying4)) ?_
        refine TL_v rfl rfl rfl (V_move rfl) ?_
        refine TL_fork (d := 47) (b := ((decide (r_4 = 0)) == fine1)) rfl (fun hc => ?_) (fun hc => ?_)
        · replace H := ite_t hc H
          refine TL_want rfl rfl rfl rfl rfl rfl (V_move rfl) ?_
          refine TL_want rfl rfl rfl rfl rfl rfl (V_move rfl) ?_
          refine TL_fork (d := 49) (b := fine1) rfl (fun hc => ?_) (fun hc => ?_)
          · replace H := ite_t hc H
            refine TL_want rfl rfl rfl rfl rfl rfl (V_move rfl) ?_
            refine TL_want rfl rfl rfl rfl rfl rfl (V_len_str rfl Try.underlying9) ?_
            refine TL_want rfl rfl rfl rfl rfl rfl (V_bin rfl rfl (fun w => eqlI w ((r_2.1).length : Int) 16)) ?_
            refine TL_want rfl rfl rfl rfl rfl rfl (V_pick (b := true) rfl rfl) ?_
            refine TL_want rfl rfl rfl rfl rfl rfl (V_move rfl) ?_
            refine TL_fork (d := 54) (b := (decide (((r_2.1).length : Int) = 16))) rfl (fun hc => ?_) (fun hc => ?_)
            · replace H := ite_t (of_decide_eq_true hc) H
              refine TL_skip rfl rfl rfl rfl rfl rfl rfl ?_
              refine TL_skip rfl rfl rfl rfl rfl rfl rfl ?_
              refine TL_skip rfl rfl rfl rfl rfl rfl rfl ?_
              refine TL_skipU rfl rfl rfl rfl rfl rfl ?_
              refine TL_skipU rfl rfl rfl rfl rfl rfl ?_
              refine TL_skip rfl rfl rfl rfl rfl rfl rfl ?_
              refine TL_skip rfl rfl rfl rfl rfl rfl rfl ?_
              refine TL_skipU rfl rfl rfl rfl rfl rfl ?_
              refine TL_skipU rfl rfl rfl rfl rfl rfl ?_
              refine TL_skipU rfl rfl rfl rfl rfl rfl ?_
              refine TL_skip rfl rfl rfl rfl rfl rfl rfl ?_
              refine TL_want rfl rfl rfl rfl rfl rfl (V_pick (b := true) rfl rfl) ?_
              refine TL_v rfl rfl rfl (V_pick (b := true) rfl rfl) ?_
              refine TL_v rfl rfl rfl (V_move rfl) ?_
              refine TL_want rfl rfl rfl rfl rfl rfl (V_move rfl) ?_
              refine TL_want rfl rfl rfl rfl rfl rfl (V_bin rfl rfl (fun w => eqlS w r_3.1 ([142#8, 162#8, 183#8, 202#8, 81#8, 103#8, 69#8, 191#8, 234#8, 252#8, 73#8, 144#8, 75#8, 73#8, 96#8, 137#8] : Str))) ?_
              refine TL_v rfl rfl rfl (V_pick (b := true) rfl rfl) ?_
              refine TL_v rfl rfl rfl (V_move rfl) ?_
              refine TL_fork (d := 72) (b := (decide (r_3.1 = ([142#8, 162#8, 183#8, 202#8, 81#8, 103#8, 69#8, 191#8, 234#8, 252#8, 73#8, 144#8, 75#8, 73#8, 96#8, 137#8] : Str)))) rfl (fun hc => ?_) (fun hc => ?_)
              · replace H := ite_t (of_decide_eq_true hc) H
                refine TL_want rfl rfl rfl rfl rfl rfl (V_move rfl) ?_
                obtain ⟨r_5, hr_5, H⟩ := bind_elim H
                refine TL_wantE rfl rfl rfl rfl rfl rfl (E_call (Γ := Unit) (val := fun g => vi r_5) (mem := fun g => []) (vs := [vi r_3.2]) (Lin := []) (Ro := []) (is := []) rfl Try.call25 (F25_calls r_3.2 r_5 hr_5) rfl trivial) (fun g_5 => ?_)
                refine TL_want rfl rfl rfl rfl rfl rfl (V_bin rfl rfl (fun w => eqlI w r_5 0)) ?_
                refine TL_v rfl rfl rfl (V_pick (b := true) rfl rfl) ?_
                refine TL_v rfl rfl rfl (V_assign rfl) ?_
                obtain ⟨x1, hx1, H⟩ := ltt_elim H
                refine TL_re (d := 4) (v := vb (decide (r_5 = 0))) (v' := vb x1) rfl (congrArg vb hx1) ?_
                refine TL_nil ?_
                refine TX_next ?_
                refine TC.sub (m' := [(4, vb x1)]) ⟨rfl, trivial⟩ ?_
                refine TC_ret ?_
                have hrv := Option.some.inj H
                subst hrv
                exact TX_ret (rs := [.tmp 4]) (vs := [vb x1]) rfl ⟨rfl, trivial⟩ (fun w' hs' => ⟨(), rfl, Step.left (Step.pulled (is := []) (A := []) hs' rfl)⟩)
              · replace H := ite_f (of_decide_eq_false hc) H
                refine TL_skip rfl rfl rfl rfl rfl rfl rfl ?_
                refine TL_skip rfl rfl rfl rfl rfl rfl rfl ?_
                refine TL_skip rfl rfl rfl rfl rfl rfl rfl ?_
                refine TL_v rfl rfl rfl (V_pick (b := false) rfl rfl) ?_
                refine TL_v rfl rfl rfl (V_assign rfl) ?_
                refine TL_nil ?_
                refine TX_next ?_
                refine TC.sub (m' := [(4, vb false)]) ⟨rfl, trivial⟩ ?_
                refine TC_ret ?_
                have hrv := Option.some.inj H
                subst hrv
                exact TX_ret (rs := [.tmp 4]) (vs := [vb false]) rfl ⟨rfl, trivial⟩ (fun w' hs' => ⟨(), rfl, Step.left (Step.pulled (is := []) (A := []) hs' rfl)⟩)
            · replace H := ite_f (of_decide_eq_false hc) H
              refine TL_want rfl rfl rfl rfl rfl rfl (V_move rfl) ?_
              refine TL_want rfl rfl rfl rfl rfl rfl (V_un rfl (fun w => notB w fine1)) ?_
              refine TL_want rfl rfl rfl rfl rfl rfl (V_move rfl) ?_
              refine TL_fork (d := 57) (b := (!fine1)) rfl (fun hc => ?_) (fun hc => ?_)
              · replace H := ite_t hc H
                refine TL_want rfl rfl rfl rfl rfl rfl (V_move rfl) ?_
                refine TL_want rfl rfl rfl rfl rfl rfl (V_bin rfl rfl (fun w => eqlS w r_2.1 ([] : Str))) ?_
                refine TL_want rfl rfl rfl rfl rfl rfl (V_pick (b := true) rfl rfl) ?_
                refine TL_want rfl rfl rfl rfl rfl rfl (V_move rfl) ?_
                refine TL_fork (d := 61) (b := (decide (r_2.1 = ([] : Str)))) rfl (fun hc => ?_) (fun hc => ?_)
                · replace H := ite_t (of_decide_eq_true hc) H
                  refine TL_want rfl rfl rfl rfl rfl rfl (V_move rfl) ?_
                  obtain ⟨r_6, hr_6, H⟩ := bind_elim H
                  refine TL_wantE rfl rfl rfl rfl rfl rfl (E_call (Γ := Unit) (val := fun g => vi r_6) (mem := fun g => []) (vs := [vi r_2.2]) (Lin := []) (Ro := []) (is := []) rfl Try.call25 (F25_calls r_2.2 r_6 hr_6) rfl trivial) (fun g_6 => ?_)
                  refine TL_want rfl rfl rfl rfl rfl rfl (V_bin rfl rfl (fun w => eqlI w r_6 400)) ?_
                  refine TL_want rfl rfl rfl rfl rfl rfl (V_pick (b := true) rfl rfl) ?_
                  refine TL_want rfl rfl rfl rfl rfl rfl (V_pick (b := false) rfl rfl) ?_
                  refine TL_v rfl rfl rfl (V_pick (b := true) rfl rfl) ?_
                  refine TL_v rfl rfl rfl (V_move rfl) ?_
                  refine TL_fork (d := 68) (b := (decide (r_6 = 400))) rfl (fun hc => ?_) (fun hc => ?_)
                  · replace H := ite_t (of_decide_eq_true hc) H
                    refine TL_want rfl rfl rfl rfl rfl rfl (V_move rfl) ?_
                    refine TL_want rfl rfl rfl rfl rfl rfl (V_bin rfl rfl (fun w => eqlS w r_3.1 ([142#8, 162#8, 183#8, 202#8, 81#8, 103#8, 69#8, 191#8, 234#8, 252#8, 73#8, 144#8, 75#8, 73#8, 96#8, 137#8] : Str))) ?_
                    refine TL_v rfl rfl rfl (V_pick (b := true) rfl rfl) ?_
                    refine TL_v rfl rfl rfl (V_move rfl) ?_
                    refine TL_fork (d := 72) (b := (decide (r_3.1 = ([142#8, 162#8, 183#8, 202#8, 81#8, 103#8, 69#8, 191#8, 234#8, 252#8, 73#8, 144#8, 75#8, 73#8, 96#8, 137#8] : Str)))) rfl (fun hc => ?_) (fun hc => ?_)
                    · replace H := ite_t (of_decide_eq_true hc) H
                      refine TL_want rfl rfl rfl rfl rfl rfl (V_move rfl) ?_
                      obtain ⟨r_7, hr_7, H⟩ := bind_elim H
                      refine TL_wantE rfl rfl rfl rfl rfl rfl (E_call (Γ := Unit) (val := fun g => vi r_7) (mem := fun g => []) (vs := [vi r_3.2]) (Lin := []) (Ro := []) (is := []) rfl Try.call25 (F25_calls r_3.2 r_7 hr_7) rfl trivial) (fun g_7 => ?_)
                      refine TL_want rfl rfl rfl rfl rfl rfl (V_bin rfl rfl (fun w => eqlI w r_7 0)) ?_
                      refine TL_v rfl rfl rfl (V_pick (b := true) rfl rfl) ?_
                      refine TL_v rfl rfl rfl (V_assign rfl) ?_
                      obtain ⟨x2, hx2, H⟩ := ltt_elim H
                      refine TL_re (d := 4) (v := vb (decide (r_7 = 0))) (v' := vb x2) rfl (congrArg vb hx2) ?_
                      refine TL_nil ?_
                      refine TX_next ?_
                      refine TC.sub (m' := [(4, vb x2)]) ⟨rfl, trivial⟩ ?_
                      refine TC_ret ?_
                      have hrv := Option.some.inj H
                      subst hrv
                      exact TX_ret (rs := [.tmp 4]) (vs := [vb x2]) rfl ⟨rfl, trivial⟩ (fun w' hs' => ⟨(), rfl, Step.left (Step.pulled (is := []) (A := []) hs' rfl)⟩)
                    · replace H := ite_f (of_decide_eq_false hc) H
                      refine TL_skip rfl rfl rfl rfl rfl rfl rfl ?_
                      refine TL_skip rfl rfl rfl rfl rfl rfl rfl ?_
                      refine TL_skip rfl rfl rfl rfl rfl rfl rfl ?_
                      refine TL_v rfl rfl rfl (V_pick (b := false) rfl rfl) ?_
                      refine TL_v rfl rfl rfl (V_assign rfl) ?_
                      refine TL_nil ?_
                      refine TX_next ?_
                      refine TC.sub (m' := [(4, vb false)]) ⟨rfl, trivial⟩ ?_
                      refine TC_ret ?_
                      have hrv := Option.some.inj H
                      subst hrv
                      exact TX_ret (rs := [.tmp 4]) (vs := [vb false]) rfl ⟨rfl, trivial⟩ (fun w' hs' => ⟨(), rfl, Step.left (Step.pulled (is := []) (A := []) hs' rfl)⟩)
                  · replace H := ite_f (of_decide_eq_false hc) H
                    refine TL_skip rfl rfl rfl rfl rfl rfl rfl ?_
                    refine TL_skip rfl rfl rfl rfl rfl rfl rfl ?_
                    refine TL_v rfl rfl rfl (V_pick (b := false) rfl rfl) ?_
                    refine TL_v rfl rfl rfl (V_move rfl) ?_
                    refine TL_skip rfl rfl rfl rfl rfl rfl rfl ?_
                    refine TL_skip rfl rfl rfl rfl rfl rfl rfl ?_
                    refine TL_skip rfl rfl rfl rfl rfl rfl rfl ?_
                    refine TL_v rfl rfl rfl (V_pick (b := false) rfl rfl) ?_
                    refine TL_v rfl rfl rfl (V_assign rfl) ?_
                    refine TL_nil ?_
                    refine TX_next ?_
                    refine TC.sub (m' := [(4, vb false)]) ⟨rfl, trivial⟩ ?_
                    refine TC_ret ?_
                    have hrv := Option.some.inj H
                    subst hrv
                    exact TX_ret (rs := [.tmp 4]) (vs := [vb false]) rfl ⟨rfl, trivial⟩ (fun w' hs' => ⟨(), rfl, Step.left (Step.pulled (is := []) (A := []) hs' rfl)⟩)
                · replace H := ite_f (of_decide_eq_false hc) H
                  refine TL_skip rfl rfl rfl rfl rfl rfl rfl ?_
                  refine TL_skip rfl rfl rfl rfl rfl rfl rfl ?_
                  refine TL_skip rfl rfl rfl rfl rfl rfl rfl ?_
                  refine TL_want rfl rfl rfl rfl rfl rfl (V_pick (b := false) rfl rfl) ?_
                  refine TL_want rfl rfl rfl rfl rfl rfl (V_pick (b := false) rfl rfl) ?_
                  refine TL_v rfl rfl rfl (V_pick (b := true) rfl rfl) ?_
                  refine TL_v rfl rfl rfl (V_move rfl) ?_
                  refine TL_skip rfl rfl rfl rfl rfl rfl rfl ?_
                  refine TL_skip rfl rfl rfl rfl rfl rfl rfl ?_
                  refine TL_v rfl rfl rfl (V_pick (b := false) rfl rfl) ?_
                  refine TL_v rfl rfl rfl (V_move rfl) ?_
                  refine TL_skip rfl rfl rfl rfl rfl rfl rfl ?_
                  refine TL_skip rfl rfl rfl rfl rfl rfl rfl ?_
                  refine TL_skip rfl rfl rfl rfl rfl rfl rfl ?_
                  refine TL_v rfl rfl rfl (V_pick (b := false) rfl rfl) ?_
                  refine TL_v rfl rfl rfl (V_assign rfl) ?_
                  refine TL_nil ?_
                  refine TX_next ?_
                  refine TC.sub (m' := [(4, vb false)]) ⟨rfl, trivial⟩ ?_
                  refine TC_ret ?_
                  have hrv := Option.some.inj H
                  subst hrv
                  exact TX_ret (rs := [.tmp 4]) (vs := [vb false]) rfl ⟨rfl, trivial⟩ (fun w' hs' => ⟨(), rfl, Step.left (Step.pulled (is := []) (A := []) hs' rfl)⟩)
              · replace H := ite_f (Bool.eq_false_iff.1 hc) H
                refine TL_skip rfl rfl rfl rfl rfl rfl rfl ?_
                refine TL_skip rfl rfl rfl rfl rfl rfl rfl ?_
                refine TL_want rfl rfl rfl rfl rfl rfl (V_pick (b := false) rfl rfl) ?_
                refine TL_want rfl rfl rfl rfl rfl rfl (V_move rfl) ?_
                refine TL_skip rfl rfl rfl rfl rfl rfl rfl ?_
                refine TL_skip rfl rfl rfl rfl rfl rfl rfl ?_
                refine TL_skip rfl rfl rfl rfl rfl rfl rfl ?_
                refine TL_want rfl rfl rfl rfl rfl rfl (V_pick (b := false) rfl rfl) ?_
                refine TL_want rfl rfl rfl rfl rfl rfl (V_pick (b := false) rfl rfl) ?_
                refine TL_v rfl rfl rfl (V_pick (b := true) rfl rfl) ?_
                refine TL_v rfl rfl rfl (V_move rfl) ?_
                refine TL_skip rfl rfl rfl rfl rfl rfl rfl ?_
                refine TL_skip rfl rfl rfl rfl rfl rfl rfl ?_
                refine TL_v rfl rfl rfl (V_pick (b := false) rfl rfl) ?_
                refine TL_v rfl rfl rfl (V_move rfl) ?_
                refine TL_skip rfl rfl rfl rfl rfl rfl rfl ?_
                refine TL_skip rfl rfl rfl rfl rfl rfl rfl ?_
                refine TL_skip rfl rfl rfl rfl rfl rfl rfl ?_
                refine TL_v rfl rfl rfl (V_pick (b := false) rfl rfl) ?_
                refine TL_v rfl rfl rfl (V_assign rfl) ?_
                refine TL_nil ?_
                refine TX_next ?_
                refine TC.sub (m' := [(4, vb false)]) ⟨rfl, trivial⟩ ?_
                refine TC_ret ?_
                have hrv := Option.some.inj H
                subst hrv
                exact TX_ret (rs := [.tmp 4]) (vs := [vb false]) rfl ⟨rfl, trivial⟩ (fun w' hs' => ⟨(), rfl, Step.left (Step.pulled (is := []) (A := []) hs' rfl)⟩)
          · replace H := ite_f (Bool.eq_false_iff.1 hc) H
            refine TL_skip rfl rfl rfl rfl rfl rfl rfl ?_
            refine TL_skip rfl rfl rfl rfl rfl rfl rfl ?_
            refine TL_skip rfl rfl rfl rfl rfl rfl rfl ?_
            refine TL_want rfl rfl rfl rfl rfl rfl (V_pick (b := false) rfl rfl) ?_
            refine TL_want rfl rfl rfl rfl rfl rfl (V_move rfl) ?_
            refine TL_want rfl rfl rfl rfl rfl rfl (V_move rfl) ?_
            refine TL_want rfl rfl rfl rfl rfl rfl (V_un rfl (fun w => notB w fine1)) ?_
            refine TL_want rfl rfl rfl rfl rfl rfl (V_move rfl) ?_
            refine TL_fork (d := 57) (b := (!fine1)) rfl (fun hc => ?_) (fun hc => ?_)
            · replace H := ite_t hc H
              refine TL_want rfl rfl rfl rfl rfl rfl (V_move rfl) ?_
              refine TL_want rfl rfl rfl rfl rfl rfl (V_bin rfl rfl (fun w => eqlS w r_2.1 ([] : Str))) ?_
              refine TL_want rfl rfl rfl rfl rfl rfl (V_pick (b := true) rfl rfl) ?_
              refine TL_want rfl rfl rfl rfl rfl rfl (V_move rfl) ?_
              refine TL_fork (d := 61) (b := (decide (r_2.1 = ([] : Str)))) rfl (fun hc => ?_) (fun hc => ?_)
              · replace H := ite_t (of_decide_eq_true hc) H
                refine TL_want rfl rfl rfl rfl rfl rfl (V_move rfl) ?_
                obtain ⟨r_8, hr_8, H⟩ := bind_elim H
                refine TL_wantE rfl rfl rfl rfl rfl rfl (E_call (Γ := Unit) (val := fun g => vi r_8) (mem := fun g => []) (vs := [vi r_2.2]) (Lin := []) (Ro := []) (is := []) rfl Try.call25 (F25_calls r_2.2 r_8 hr_8) rfl trivial) (fun g_8 => ?_)
                refine TL_want rfl rfl rfl rfl rfl rfl (V_bin rfl rfl (fun w => eqlI w r_8 400)) ?_
                refine TL_want rfl rfl rfl rfl rfl rfl (V_pick (b := true) rfl rfl) ?_
                refine TL_want rfl rfl rfl rfl rfl rfl (V_pick (b := false) rfl rfl) ?_
                refine TL_v rfl rfl rfl (V_pick (b := true) rfl rfl) ?_
                refine TL_v rfl rfl rfl (V_move rfl) ?_
                refine TL_fork (d := 68) (b := (decide (r_8 = 400))) rfl (fun hc => ?_) (fun hc => ?_)
                · replace H := ite_t (of_decide_eq_true hc) H
                  refine TL_want rfl rfl rfl rfl rfl rfl (V_move rfl) ?_
                  refine TL_want rfl rfl rfl rfl rfl rfl (V_bin rfl rfl (fun w => eqlS w r_3.1 ([142#8, 162#8, 183#8, 202#8, 81#8, 103#8, 69#8, 191#8, 234#8, 252#8, 73#8, 144#8, 75#8, 73#8, 96#8, 137#8] : Str))) ?_
                  refine TL_v rfl rfl rfl (V_pick (b := true) rfl rfl) ?_
                  refine TL_v rfl rfl rfl (V_move rfl) ?_
                  refine TL_fork (d := 72) (b := (decide (r_3.1 = ([142#8, 162#8, 183#8, 202#8, 81#8, 103#8, 69#8, 191#8, 234#8, 252#8, 73#8, 144#8, 75#8, 73#8, 96#8, 137#8] : Str)))) rfl (fun hc => ?_) (fun hc => ?_)
                  · replace H := ite_t (of_decide_eq_true hc) H
                    refine TL_want rfl rfl rfl rfl rfl rfl (V_move rfl) ?_
                    obtain ⟨r_9, hr_9, H⟩ := bind_elim H
                    refine TL_wantE rfl rfl rfl rfl rfl rfl (E_call (Γ := Unit) (val := fun g => vi r_9) (mem := fun g => []) (vs := [vi r_3.2]) (Lin := []) (Ro := []) (is := []) rfl Try.call25 (F25_calls r_3.2 r_9 hr_9) rfl trivial) (fun g_9 => ?_)
                    refine TL_want rfl rfl rfl rfl rfl rfl (V_bin rfl rfl (fun w => eqlI w r_9 0)) ?_
                    refine TL_v rfl rfl rfl (V_pick (b := true) rfl rfl) ?_
                    refine TL_v rfl rfl rfl (V_assign rfl) ?_
                    obtain ⟨x3, hx3, H⟩ := ltt_elim H
                    refine TL_re (d := 4) (v := vb (decide (r_9 = 0))) (v' := vb x3) rfl (congrArg vb hx3) ?_
                    refine TL_nil ?_
                    refine TX_next ?_
                    refine TC.sub (m' := [(4, vb x3)]) ⟨rfl, trivial⟩ ?_
                    refine TC_ret ?_
                    have hrv := Option.some.inj H
                    subst hrv
                    exact TX_ret (rs := [.tmp 4]) (vs := [vb x3]) rfl ⟨rfl, trivial⟩ (fun w' hs' => ⟨(), rfl, Step.left (Step.pulled (is := []) (A := []) hs' rfl)⟩)
                  · replace H := ite_f (of_decide_eq_false hc) H
                    refine TL_skip rfl rfl rfl rfl rfl rfl rfl ?_
                    refine TL_skip rfl rfl rfl rfl rfl rfl rfl ?_
                    refine TL_skip rfl rfl rfl rfl rfl rfl rfl ?_
                    refine TL_v rfl rfl rfl (V_pick (b := false) rfl rfl) ?_
                    refine TL_v rfl rfl rfl (V_assign rfl) ?_
                    refine TL_nil ?_
                    refine TX_next ?_
                    refine TC.sub (m' := [(4, vb false)]) ⟨rfl, trivial⟩ ?_
                    refine TC_ret ?_
                    have hrv := Option.some.inj H
                    subst hrv
                    exact TX_ret (rs := [.tmp 4]) (vs := [vb false]) rfl ⟨rfl, trivial⟩ (fun w' hs' => ⟨(), rfl, Step.left (Step.pulled (is := []) (A := []) hs' rfl)⟩)
                · replace H := ite_f (of_decide_eq_false hc) H
                  refine TL_skip rfl rfl rfl rfl rfl rfl rfl ?_
                  refine TL_skip rfl rfl rfl rfl rfl rfl rfl ?_
                  refine TL_v rfl rfl rfl (V_pick (b := false) rfl rfl) ?_
                  refine TL_v rfl rfl rfl (V_move rfl) ?_
                  refine TL_skip rfl rfl rfl rfl rfl rfl rfl ?_
                  refine TL_skip rfl rfl rfl rfl rfl rfl rfl ?_
                  refine TL_skip rfl rfl rfl rfl rfl rfl rfl ?_
                  refine TL_v rfl rfl rfl (V_pick (b := false) rfl rfl) ?_
                  refine TL_v rfl rfl rfl (V_assign rfl) ?_
                  refine TL_nil ?_
                  refine TX_next ?_
                  refine TC.sub (m' := [(4, vb false)]) ⟨rfl, trivial⟩ ?_
                  refine TC_ret ?_
                  have hrv := Option.some.inj H
                  subst hrv
                  exact TX_ret (rs := [.tmp 4]) (vs := [vb false]) rfl ⟨rfl, trivial⟩ (fun w' hs' => ⟨(), rfl, Step.left (Step.pulled (is := []) (A := []) hs' rfl)⟩)
              · replace H := ite_f (of_decide_eq_false hc) H
                refine TL_skip rfl rfl rfl rfl rfl rfl rfl ?_
                refine TL_skip rfl rfl rfl rfl rfl rfl rfl ?_
                refine TL_skip rfl rfl rfl rfl rfl rfl rfl ?_
                refine TL_want rfl rfl rfl rfl rfl rfl (V_pick (b := false) rfl rfl) ?_
                refine TL_want rfl rfl rfl rfl rfl rfl (V_pick (b := false) rfl rfl) ?_
                refine TL_v rfl rfl rfl (V_pick (b := true) rfl rfl) ?_
                refine TL_v rfl rfl rfl (V_move rfl) ?_
                refine TL_skip rfl rfl rfl rfl rfl rfl rfl ?_
                refine TL_skip rfl rfl rfl rfl rfl rfl rfl ?_
                refine TL_v rfl rfl rfl (V_pick (b := false) rfl rfl) ?_
                refine TL_v rfl rfl rfl (V_move rfl) ?_
                refine TL_skip rfl rfl rfl rfl rfl rfl rfl ?_
                refine TL_skip rfl rfl rfl rfl rfl rfl rfl ?_
                refine TL_skip rfl rfl rfl rfl rfl rfl rfl ?_
                refine TL_v rfl rfl rfl (V_pick (b := false) rfl rfl) ?_
                refine TL_v rfl rfl rfl (V_assign rfl) ?_
                refine TL_nil ?_
                refine TX_next ?_
                refine TC.sub (m' := [(4, vb false)]) ⟨rfl, trivial⟩ ?_
                refine TC_ret ?_
                have hrv := Option.some.inj H
                subst hrv
                exact TX_ret (rs := [.tmp 4]) (vs := [vb false]) rfl ⟨rfl, trivial⟩ (fun w' hs' => ⟨(), rfl, Step.left (Step.pulled (is := []) (A := []) hs' rfl)⟩)
            · replace H := ite_f (Bool.eq_false_iff.1 hc) H
              refine TL_skip rfl rfl rfl rfl rfl rfl rfl ?_
              refine TL_skip rfl rfl rfl rfl rfl rfl rfl ?_
              refine TL_want rfl rfl rfl rfl rfl rfl (V_pick (b := false) rfl rfl) ?_
              refine TL_want rfl rfl rfl rfl rfl rfl (V_move rfl) ?_
              refine TL_skip rfl rfl rfl rfl rfl rfl rfl ?_
              refine TL_skip rfl rfl rfl rfl rfl rfl rfl ?_
              refine TL_skip rfl rfl rfl rfl rfl rfl rfl ?_
              refine TL_want rfl rfl rfl rfl rfl rfl (V_pick (b := false) rfl rfl) ?_
              refine TL_want rfl rfl rfl rfl rfl rfl (V_pick (b := false) rfl rfl) ?_
              refine TL_v rfl rfl rfl (V_pick (b := true) rfl rfl) ?_
              refine TL_v rfl rfl rfl (V_move rfl) ?_
              refine TL_skip rfl rfl rfl rfl rfl rfl rfl ?_
              refine TL_skip rfl rfl rfl rfl rfl rfl rfl ?_
              refine TL_v rfl rfl rfl (V_pick (b := false) rfl rfl) ?_
              refine TL_v rfl rfl rfl (V_move rfl) ?_
              refine TL_skip rfl rfl rfl rfl rfl rfl rfl ?_
              refine TL_skip rfl rfl rfl rfl rfl rfl rfl ?_
              refine TL_skip rfl rfl rfl rfl rfl rfl rfl ?_
              refine TL_v rfl rfl rfl (V_pick (b := false) rfl rfl) ?_
              refine TL_v rfl rfl rfl (V_assign rfl) ?_
              refine TL_nil ?_
              refine TX_next ?_
              refine TC.sub (m' := [(4, vb false)]) ⟨rfl, trivial⟩ ?_
              refine TC_ret ?_
              have hrv := Option.some.inj H
              subst hrv
              exact TX_ret (rs := [.tmp 4]) (vs := [vb false]) rfl ⟨rfl, trivial⟩ (fun w' hs' => ⟨(), rfl, Step.left (Step.pulled (is := []) (A := []) hs' rfl)⟩)
        · replace H := ite_f (Bool.eq_false_iff.1 hc) H
          refine TL_skip rfl rfl rfl rfl rfl rfl rfl ?_
          refine TL_skip rfl rfl rfl rfl rfl rfl rfl ?_
          refine TL_skipU rfl rfl rfl rfl rfl rfl ?_
          refine TL_skipU rfl rfl rfl rfl rfl rfl ?_
          refine TL_skipU rfl rfl rfl rfl rfl rfl ?_
          refine TL_skip rfl rfl rfl rfl rfl rfl rfl ?_
          refine TL_skip rfl rfl rfl rfl rfl rfl rfl ?_
          refine TL_skipU rfl rfl rfl rfl rfl rfl ?_
          refine TL_skipU rfl rfl rfl rfl rfl rfl ?_
          refine TL_skipU rfl rfl rfl rfl rfl rfl ?_
          refine TL_skipU rfl rfl rfl rfl rfl rfl ?_
          refine TL_skipU rfl rfl rfl rfl rfl rfl ?_
          refine TL_skipU rfl rfl rfl rfl rfl rfl ?_
          refine TL_skipU rfl rfl rfl rfl rfl rfl ?_
          refine TL_skipU rfl rfl rfl rfl rfl rfl ?_
          refine TL_skipU rfl rfl rfl rfl rfl rfl ?_
          refine TL_skipU rfl rfl rfl rfl rfl rfl ?_
          refine TL_skipU rfl rfl rfl rfl rfl rfl ?_
          refine TL_skip rfl rfl rfl rfl rfl rfl rfl ?_
          refine TL_v rfl rfl rfl (V_pick (b := false) rfl rfl) ?_
          refine TL_v rfl rfl rfl (V_move rfl) ?_
          refine TL_skip rfl rfl rfl rfl rfl rfl rfl ?_
          refine TL_skip rfl rfl rfl rfl rfl rfl rfl ?_
          refine TL_v rfl rfl rfl (V_pick (b := false) rfl rfl) ?_
          refine TL_v rfl rfl rfl (V_move rfl) ?_
          refine TL_skip rfl rfl rfl rfl rfl rfl rfl ?_
          refine TL_skip rfl rfl rfl rfl rfl rfl rfl ?_
          refine TL_skip rfl rfl rfl rfl rfl rfl rfl ?_
          refine TL_v rfl rfl rfl (V_pick (b := false) rfl rfl) ?_
          refine TL_v rfl rfl rfl (V_assign rfl) ?_
          refine TL_nil ?_
          refine TX_next ?_
          refine TC.sub (m' := [(4, vb false)]) ⟨rfl, trivial⟩ ?_
          refine TC_ret ?_
          have hrv := Option.some.inj H
          subst hrv
          exact TX_ret (rs := [.tmp 4]) (vs := [vb false]) rfl ⟨rfl, trivial⟩ (fun w' hs' => ⟨(), rfl, Step.left (Step.pulled (is := []) (A := []) hs' rfl)⟩)
      · replace H := ite_f (of_decide_eq_false hc) H
        refine TL_want rfl rfl rfl rfl rfl rfl (V_move rfl) ?_
        refine TL_want rfl rfl rfl rfl rfl rfl (V_bin rfl rfl (fun w => eqlI w k_1 32)) ?_
        refine TL_v rfl rfl rfl (V_pick (b := false) rfl rfl) ?_
        refine TL_v rfl rfl rfl (V_move rfl) ?_
        refine TL_fork (d := 34) (b := (decide (k_1 = 32))) rfl (fun hc => ?_) (fun hc => ?_)
        · replace H := ite_t (of_decide_eq_true hc) H
          refine TL_want rfl rfl rfl rfl rfl rfl (V_move rfl) ?_
          refine TL_want rfl rfl rfl rfl rfl rfl (V_bin rfl rfl (fun w => eqlI w m_1 16)) ?_
          refine TL_v rfl rfl rfl (V_pick (b := true) rfl rfl) ?_
          refine TL_v rfl rfl rfl (V_assign rfl) ?_
          obtain ⟨fine2, hfine2, H⟩ := ltt_elim H
          refine TL_re (d := 9) (v := vb (decide (m_1 = 16))) (v' := vb fine2) rfl (congrArg vb hfine2) ?_
          refine TL_nil ?_
          refine TX_next ?_
          refine TC_seq ?_
          refine TC_region ?_
          obtain ⟨r_10, hr_10, H⟩ := bind_elim H
          refine TL_e rfl rfl rfl (E_call (Γ := Unit) (val := fun g => Value.tuple [vs r_10.1, vi r_10.2].toArray) (mem := fun g => []) (vs := [vs halberdlaw4_AesForms.k1, vs ([0#8, 17#8, 34#8, 51#8, 68#8, 85#8, 102#8, 119#8, 136#8, 153#8, 170#8, 187#8, 204#8, 221#8, 238#8, 255#8] : Str)]) (Lin := []) (Ro := []) (is := []) rfl Try.call23 (F23_calls halberdlaw4_AesForms.k1 ([0#8, 17#8, 34#8, 51#8, 68#8, 85#8, 102#8, 119#8, 136#8, 153#8, 170#8, 187#8, 204#8, 221#8, 238#8, 255#8] : Str) r_10 hr_10) rfl trivial) (fun g_10 => ?_)
          refine TL_v rfl rfl rfl (V_move rfl) ?_
          refine TL_v rfl rfl rfl (V_extract (vs := [vs r_10.1, vi r_10.2]) rfl rfl) ?_
          refine TL_v rfl rfl rfl (V_extract (vs := [vs r_10.1, vi r_10.2]) rfl rfl) ?_
          refine TL_v rfl rfl rfl (V_assign rfl) ?_
          refine TL_v rfl rfl rfl (V_assign rfl) ?_
          refine TL_nil ?_
          refine TX_next ?_
          refine TC_seq ?_
          refine TC_region ?_
          refine TL_v rfl rfl rfl (V_move rfl) ?_
          obtain ⟨r_11, hr_11, H⟩ := bind_elim H
          refine TL_e rfl rfl rfl (E_call (Γ := Unit) (val := fun g => vi r_11) (mem := fun g => []) (vs := [vi r_2.2]) (Lin := []) (Ro := []) (is := []) rfl Try.call25 (F25_calls r_2.2 r_11 hr_11) rfl trivial) (fun g_11 => ?_)
          refine TL_v rfl rfl rfl (V_bin rfl rfl (fun w => eqlI w r_11 0)) ?_
          refine TL_v rfl rfl rfl (V_move rfl) ?_
          refine TL_v rfl rfl rfl (V_bin rfl rfl (fun w => eqlB w (decide (r_11 = 0)) fine2 Try.underlying4)) ?_
          refine TL_v rfl rfl rfl (V_move rfl) ?_
          refine TL_fork (d := 47) (b := ((decide (r_11 = 0)) == fine2)) rfl (fun hc => ?_) (fun hc => ?_)
          · replace H := ite_t hc H
            refine TL_want rfl rfl rfl rfl rfl rfl (V_move rfl) ?_
            refine TL_want rfl rfl rfl rfl rfl rfl (V_move rfl) ?_
            refine TL_fork (d := 49) (b := fine2) rfl (fun hc => ?_) (fun hc => ?_)
            · replace H := ite_t hc H
              refine TL_want rfl rfl rfl rfl rfl rfl (V_move rfl) ?_
              refine TL_want rfl rfl rfl rfl rfl rfl (V_len_str rfl Try.underlying9) ?_
              refine TL_want rfl rfl rfl rfl rfl rfl (V_bin rfl rfl (fun w => eqlI w ((r_2.1).length : Int) 16)) ?_
              refine TL_want rfl rfl rfl rfl rfl rfl (V_pick (b := true) rfl rfl) ?_
              refine TL_want rfl rfl rfl rfl rfl rfl (V_move rfl) ?_
              refine TL_fork (d := 54) (b := (decide (((r_2.1).length : Int) = 16))) rfl (fun hc => ?_) (fun hc => ?_)
              · replace H := ite_t (of_decide_eq_true hc) H
                refine TL_skip rfl rfl rfl rfl rfl rfl rfl ?_
                refine TL_skip rfl rfl rfl rfl rfl rfl rfl ?_
                refine TL_skip rfl rfl rfl rfl rfl rfl rfl ?_
                refine TL_skipU rfl rfl rfl rfl rfl rfl ?_
                refine TL_skipU rfl rfl rfl rfl rfl rfl ?_
                refine TL_skip rfl rfl rfl rfl rfl rfl rfl ?_
                refine TL_skip rfl rfl rfl rfl rfl rfl rfl ?_
                refine TL_skipU rfl rfl rfl rfl rfl rfl ?_
                refine TL_skipU rfl rfl rfl rfl rfl rfl ?_
                refine TL_skipU rfl rfl rfl rfl rfl rfl ?_
                refine TL_skip rfl rfl rfl rfl rfl rfl rfl ?_
                refine TL_want rfl rfl rfl rfl rfl rfl (V_pick (b := true) rfl rfl) ?_
                refine TL_v rfl rfl rfl (V_pick (b := true) rfl rfl) ?_
                refine TL_v rfl rfl rfl (V_move rfl) ?_
                refine TL_want rfl rfl rfl rfl rfl rfl (V_move rfl) ?_
                refine TL_want rfl rfl rfl rfl rfl rfl (V_bin rfl rfl (fun w => eqlS w r_10.1 ([142#8, 162#8, 183#8, 202#8, 81#8, 103#8, 69#8, 191#8, 234#8, 252#8, 73#8, 144#8, 75#8, 73#8, 96#8, 137#8] : Str))) ?_
                refine TL_v rfl rfl rfl (V_pick (b := true) rfl rfl) ?_
                refine TL_v rfl rfl rfl (V_move rfl) ?_
                refine TL_fork (d := 72) (b := (decide (r_10.1 = ([142#8, 162#8, 183#8, 202#8, 81#8, 103#8, 69#8, 191#8, 234#8, 252#8, 73#8, 144#8, 75#8, 73#8, 96#8, 137#8] : Str)))) rfl (fun hc => ?_) (fun hc => ?_)
                · replace H := ite_t (of_decide_eq_true hc) H
                  refine TL_want rfl rfl rfl rfl rfl rfl (V_move rfl) ?_
                  obtain ⟨r_12, hr_12, H⟩ := bind_elim H
                  refine TL_wantE rfl rfl rfl rfl rfl rfl (E_call (Γ := Unit) (val := fun g => vi r_12) (mem := fun g => []) (vs := [vi r_10.2]) (Lin := []) (Ro := []) (is := []) rfl Try.call25 (F25_calls r_10.2 r_12 hr_12) rfl trivial) (fun g_12 => ?_)
                  refine TL_want rfl rfl rfl rfl rfl rfl (V_bin rfl rfl (fun w => eqlI w r_12 0)) ?_
                  refine TL_v rfl rfl rfl (V_pick (b := true) rfl rfl) ?_
                  refine TL_v rfl rfl rfl (V_assign rfl) ?_
                  obtain ⟨x4, hx4, H⟩ := ltt_elim H
                  refine TL_re (d := 4) (v := vb (decide (r_12 = 0))) (v' := vb x4) rfl (congrArg vb hx4) ?_
                  refine TL_nil ?_
                  refine TX_next ?_
                  refine TC.sub (m' := [(4, vb x4)]) ⟨rfl, trivial⟩ ?_
                  refine TC_ret ?_
                  have hrv := Option.some.inj H
                  subst hrv
                  exact TX_ret (rs := [.tmp 4]) (vs := [vb x4]) rfl ⟨rfl, trivial⟩ (fun w' hs' => ⟨(), rfl, Step.left (Step.pulled (is := []) (A := []) hs' rfl)⟩)
                · replace H := ite_f (of_decide_eq_false hc) H
                  refine TL_skip rfl rfl rfl rfl rfl rfl rfl ?_
                  refine TL_skip rfl rfl rfl rfl rfl rfl rfl ?_
                  refine TL_skip rfl rfl rfl rfl rfl rfl rfl ?_
                  refine TL_v rfl rfl rfl (V_pick (b := false) rfl rfl) ?_
                  refine TL_v rfl rfl rfl (V_assign rfl) ?_
                  refine TL_nil ?_
                  refine TX_next ?_
                  refine TC.sub (m' := [(4, vb false)]) ⟨rfl, trivial⟩ ?_
                  refine TC_ret ?_
                  have hrv := Option.some.inj H
                  subst hrv
                  exact TX_ret (rs := [.tmp 4]) (vs := [vb false]) rfl ⟨rfl, trivial⟩ (fun w' hs' => ⟨(), rfl, Step.left (Step.pulled (is := []) (A := []) hs' rfl)⟩)
              · replace H := ite_f (of_decide_eq_false hc) H
                refine TL_want rfl rfl rfl rfl rfl rfl (V_move rfl) ?_
                refine TL_want rfl rfl rfl rfl rfl rfl (V_un rfl (fun w => notB w fine2)) ?_
                refine TL_want rfl rfl rfl rfl rfl rfl (V_move rfl) ?_
                refine TL_fork (d := 57) (b := (!fine2)) rfl (fun hc => ?_) (fun hc => ?_)
                · replace H := ite_t hc H
                  refine TL_want rfl rfl rfl rfl rfl rfl (V_move rfl) ?_
                  refine TL_want rfl rfl rfl rfl rfl rfl (V_bin rfl rfl (fun w => eqlS w r_2.1 ([] : Str))) ?_
                  refine TL_want rfl rfl rfl rfl rfl rfl (V_pick (b := true) rfl rfl) ?_
                  refine TL_want rfl rfl rfl rfl rfl rfl (V_move rfl) ?_
                  refine TL_fork (d := 61) (b := (decide (r_2.1 = ([] : Str)))) rfl (fun hc => ?_) (fun hc => ?_)
                  · replace H := ite_t (of_decide_eq_true hc) H
                    refine TL_want rfl rfl rfl rfl rfl rfl (V_move rfl) ?_
                    obtain ⟨r_13, hr_13, H⟩ := bind_elim H
                    refine TL_wantE rfl rfl rfl rfl rfl rfl (E_call (Γ := Unit) (val := fun g => vi r_13) (mem := fun g => []) (vs := [vi r_2.2]) (Lin := []) (Ro := []) (is := []) rfl Try.call25 (F25_calls r_2.2 r_13 hr_13) rfl trivial) (fun g_13 => ?_)
                    refine TL_want rfl rfl rfl rfl rfl rfl (V_bin rfl rfl (fun w => eqlI w r_13 400)) ?_
                    refine TL_want rfl rfl rfl rfl rfl rfl (V_pick (b := true) rfl rfl) ?_
                    refine TL_want rfl rfl rfl rfl rfl rfl (V_pick (b := false) rfl rfl) ?_
                    refine TL_v rfl rfl rfl (V_pick (b := true) rfl rfl) ?_
                    refine TL_v rfl rfl rfl (V_move rfl) ?_
                    refine TL_fork (d := 68) (b := (decide (r_13 = 400))) rfl (fun hc => ?_) (fun hc => ?_)
                    · replace H := ite_t (of_decide_eq_true hc) H
                      refine TL_want rfl rfl rfl rfl rfl rfl (V_move rfl) ?_
                      refine TL_want rfl rfl rfl rfl rfl rfl (V_bin rfl rfl (fun w => eqlS w r_10.1 ([142#8, 162#8, 183#8, 202#8, 81#8, 103#8, 69#8, 191#8, 234#8, 252#8, 73#8, 144#8, 75#8, 73#8, 96#8, 137#8] : Str))) ?_
                      refine TL_v rfl rfl rfl (V_pick (b := true) rfl rfl) ?_
                      refine TL_v rfl rfl rfl (V_move rfl) ?_
                      refine TL_fork (d := 72) (b := (decide (r_10.1 = ([142#8, 162#8, 183#8, 202#8, 81#8, 103#8, 69#8, 191#8, 234#8, 252#8, 73#8, 144#8, 75#8, 73#8, 96#8, 137#8] : Str)))) rfl (fun hc => ?_) (fun hc => ?_)
                      · replace H := ite_t (of_decide_eq_true hc) H
                        refine TL_want rfl rfl rfl rfl rfl rfl (V_move rfl) ?_
                        obtain ⟨r_14, hr_14, H⟩ := bind_elim H
                        refine TL_wantE rfl rfl rfl rfl rfl rfl (E_call (Γ := Unit) (val := fun g => vi r_14) (mem := fun g => []) (vs := [vi r_10.2]) (Lin := []) (Ro := []) (is := []) rfl Try.call25 (F25_calls r_10.2 r_14 hr_14) rfl trivial) (fun g_14 => ?_)
                        refine TL_want rfl rfl rfl rfl rfl rfl (V_bin rfl rfl (fun w => eqlI w r_14 0)) ?_
                        refine TL_v rfl rfl rfl (V_pick (b := true) rfl rfl) ?_
                        refine TL_v rfl rfl rfl (V_assign rfl) ?_
                        obtain ⟨x5, hx5, H⟩ := ltt_elim H
                        refine TL_re (d := 4) (v := vb (decide (r_14 = 0))) (v' := vb x5) rfl (congrArg vb hx5) ?_
                        refine TL_nil ?_
                        refine TX_next ?_
                        refine TC.sub (m' := [(4, vb x5)]) ⟨rfl, trivial⟩ ?_
                        refine TC_ret ?_
                        have hrv := Option.some.inj H
                        subst hrv
                        exact TX_ret (rs := [.tmp 4]) (vs := [vb x5]) rfl ⟨rfl, trivial⟩ (fun w' hs' => ⟨(), rfl, Step.left (Step.pulled (is := []) (A := []) hs' rfl)⟩)
                      · replace H := ite_f (of_decide_eq_false hc) H
                        refine TL_skip rfl rfl rfl rfl rfl rfl rfl ?_
                        refine TL_skip rfl rfl rfl rfl rfl rfl rfl ?_
                        refine TL_skip rfl rfl rfl rfl rfl rfl rfl ?_
                        refine TL_v rfl rfl rfl (V_pick (b := false) rfl rfl) ?_
                        refine TL_v rfl rfl rfl (V_assign rfl) ?_
                        refine TL_nil ?_
                        refine TX_next ?_
                        refine TC.sub (m' := [(4, vb false)]) ⟨rfl, trivial⟩ ?_
                        refine TC_ret ?_
                        have hrv := Option.some.inj H
                        subst hrv
                        exact TX_ret (rs := [.tmp 4]) (vs := [vb false]) rfl ⟨rfl, trivial⟩ (fun w' hs' => ⟨(), rfl, Step.left (Step.pulled (is := []) (A := []) hs' rfl)⟩)
                    · replace H := ite_f (of_decide_eq_false hc) H
                      refine TL_skip rfl rfl rfl rfl rfl rfl rfl ?_
                      refine TL_skip rfl rfl rfl rfl rfl rfl rfl ?_
                      refine TL_v rfl rfl rfl (V_pick (b := false) rfl rfl) ?_
                      refine TL_v rfl rfl rfl (V_move rfl) ?_
                      refine TL_skip rfl rfl rfl rfl rfl rfl rfl ?_
                      refine TL_skip rfl rfl rfl rfl rfl rfl rfl ?_
                      refine TL_skip rfl rfl rfl rfl rfl rfl rfl ?_
                      refine TL_v rfl rfl rfl (V_pick (b := false) rfl rfl) ?_
                      refine TL_v rfl rfl rfl (V_assign rfl) ?_
                      refine TL_nil ?_
                      refine TX_next ?_
                      refine TC.sub (m' := [(4, vb false)]) ⟨rfl, trivial⟩ ?_
                      refine TC_ret ?_
                      have hrv := Option.some.inj H
                      subst hrv
                      exact TX_ret (rs := [.tmp 4]) (vs := [vb false]) rfl ⟨rfl, trivial⟩ (fun w' hs' => ⟨(), rfl, Step.left (Step.pulled (is := []) (A := []) hs' rfl)⟩)
                  · replace H := ite_f (of_decide_eq_false hc) H
                    refine TL_skip rfl rfl rfl rfl rfl rfl rfl ?_
                    refine TL_skip rfl rfl rfl rfl rfl rfl rfl ?_
                    refine TL_skip rfl rfl rfl rfl rfl rfl rfl ?_
                    refine TL_want rfl rfl rfl rfl rfl rfl (V_pick (b := false) rfl rfl) ?_
                    refine TL_want rfl rfl rfl rfl rfl rfl (V_pick (b := false) rfl rfl) ?_
                    refine TL_v rfl rfl rfl (V_pick (b := true) rfl rfl) ?_
                    refine TL_v rfl rfl rfl (V_move rfl) ?_
                    refine TL_skip rfl rfl rfl rfl rfl rfl rfl ?_
                    refine TL_skip rfl rfl rfl rfl rfl rfl rfl ?_
                    refine TL_v rfl rfl rfl (V_pick (b := false) rfl rfl) ?_
                    refine TL_v rfl rfl rfl (V_move rfl) ?_
                    refine TL_skip rfl rfl rfl rfl rfl rfl rfl ?_
                    refine TL_skip rfl rfl rfl rfl rfl rfl rfl ?_
                    refine TL_skip rfl rfl rfl rfl rfl rfl rfl ?_
                    refine TL_v rfl rfl rfl (V_pick (b := false) rfl rfl) ?_
                    refine TL_v rfl rfl rfl (V_assign rfl) ?_
                    refine TL_nil ?_
                    refine TX_next ?_
                    refine TC.sub (m' := [(4, vb false)]) ⟨rfl, trivial⟩ ?_
                    refine TC_ret ?_
                    have hrv := Option.some.inj H
                    subst hrv
                    exact TX_ret (rs := [.tmp 4]) (vs := [vb false]) rfl ⟨rfl, trivial⟩ (fun w' hs' => ⟨(), rfl, Step.left (Step.pulled (is := []) (A := []) hs' rfl)⟩)
                · replace H := ite_f (Bool.eq_false_iff.1 hc) H
                  refine TL_skip rfl rfl rfl rfl rfl rfl rfl ?_
                  refine TL_skip rfl rfl rfl rfl rfl rfl rfl ?_
                  refine TL_want rfl rfl rfl rfl rfl rfl (V_pick (b := false) rfl rfl) ?_
                  refine TL_want rfl rfl rfl rfl rfl rfl (V_move rfl) ?_
                  refine TL_skip rfl rfl rfl rfl rfl rfl rfl ?_
                  refine TL_skip rfl rfl rfl rfl rfl rfl rfl ?_
                  refine TL_skip rfl rfl rfl rfl rfl rfl rfl ?_
                  refine TL_want rfl rfl rfl rfl rfl rfl (V_pick (b := false) rfl rfl) ?_
                  refine TL_want rfl rfl rfl rfl rfl rfl (V_pick (b := false) rfl rfl) ?_
                  refine TL_v rfl rfl rfl (V_pick (b := true) rfl rfl) ?_
                  refine TL_v rfl rfl rfl (V_move rfl) ?_
                  refine TL_skip rfl rfl rfl rfl rfl rfl rfl ?_
                  refine TL_skip rfl rfl rfl rfl rfl rfl rfl ?_
                  refine TL_v rfl rfl rfl (V_pick (b := false) rfl rfl) ?_
                  refine TL_v rfl rfl rfl (V_move rfl) ?_
                  refine TL_skip rfl rfl rfl rfl rfl rfl rfl ?_
                  refine TL_skip rfl rfl rfl rfl rfl rfl rfl ?_
                  refine TL_skip rfl rfl rfl rfl rfl rfl rfl ?_
                  refine TL_v rfl rfl rfl (V_pick (b := false) rfl rfl) ?_
                  refine TL_v rfl rfl rfl (V_assign rfl) ?_
                  refine TL_nil ?_
                  refine TX_next ?_
                  refine TC.sub (m' := [(4, vb false)]) ⟨rfl, trivial⟩ ?_
                  refine TC_ret ?_
                  have hrv := Option.some.inj H
                  subst hrv
                  exact TX_ret (rs := [.tmp 4]) (vs := [vb false]) rfl ⟨rfl, trivial⟩ (fun w' hs' => ⟨(), rfl, Step.left (Step.pulled (is := []) (A := []) hs' rfl)⟩)
            · replace H := ite_f (Bool.eq_false_iff.1 hc) H
              refine TL_skip rfl rfl rfl rfl rfl rfl rfl ?_
              refine TL_skip rfl rfl rfl rfl rfl rfl rfl ?_
              refine TL_skip rfl rfl rfl rfl rfl rfl rfl ?_
              refine TL_want rfl rfl rfl rfl rfl rfl (V_pick (b := false) rfl rfl) ?_
              refine TL_want rfl rfl rfl rfl rfl rfl (V_move rfl) ?_
              refine TL_want rfl rfl rfl rfl rfl rfl (V_move rfl) ?_
              refine TL_want rfl rfl rfl rfl rfl rfl (V_un rfl (fun w => notB w fine2)) ?_
              refine TL_want rfl rfl rfl rfl rfl rfl (V_move rfl) ?_
              refine TL_fork (d := 57) (b := (!fine2)) rfl (fun hc => ?_) (fun hc => ?_)
              · replace H := ite_t hc H
                refine TL_want rfl rfl rfl rfl rfl rfl (V_move rfl) ?_
                refine TL_want rfl rfl rfl rfl rfl rfl (V_bin rfl rfl (fun w => eqlS w r_2.1 ([] : Str))) ?_
                refine TL_want rfl rfl rfl rfl rfl rfl (V_pick (b := true) rfl rfl) ?_
                refine TL_want rfl rfl rfl rfl rfl rfl (V_move rfl) ?_
                refine TL_fork (d := 61) (b := (decide (r_2.1 = ([] : Str)))) rfl (fun hc => ?_) (fun hc => ?_)
                · replace H := ite_t (of_decide_eq_true hc) H
                  refine TL_want rfl rfl rfl rfl rfl rfl (V_move rfl) ?_
                  obtain ⟨r_15, hr_15, H⟩ := bind_elim H
                  refine TL_wantE rfl rfl rfl rfl rfl rfl (E_call (Γ := Unit) (val := fun g => vi r_15) (mem := fun g => []) (vs := [vi r_2.2]) (Lin := []) (Ro := []) (is := []) rfl Try.call25 (F25_calls r_2.2 r_15 hr_15) rfl trivial) (fun g_15 => ?_)
                  refine TL_want rfl rfl rfl rfl rfl rfl (V_bin rfl rfl (fun w => eqlI w r_15 400)) ?_
                  refine TL_want rfl rfl rfl rfl rfl rfl (V_pick (b := true) rfl rfl) ?_
                  refine TL_want rfl rfl rfl rfl rfl rfl (V_pick (b := false) rfl rfl) ?_
                  refine TL_v rfl rfl rfl (V_pick (b := true) rfl rfl) ?_
                  refine TL_v rfl rfl rfl (V_move rfl) ?_
                  refine TL_fork (d := 68) (b := (decide (r_15 = 400))) rfl (fun hc => ?_) (fun hc => ?_)
                  · replace H := ite_t (of_decide_eq_true hc) H
                    refine TL_want rfl rfl rfl rfl rfl rfl (V_move rfl) ?_
                    refine TL_want rfl rfl rfl rfl rfl rfl (V_bin rfl rfl (fun w => eqlS w r_10.1 ([142#8, 162#8, 183#8, 202#8, 81#8, 103#8, 69#8, 191#8, 234#8, 252#8, 73#8, 144#8, 75#8, 73#8, 96#8, 137#8] : Str))) ?_
                    refine TL_v rfl rfl rfl (V_pick (b := true) rfl rfl) ?_
                    refine TL_v rfl rfl rfl (V_move rfl) ?_
                    refine TL_fork (d := 72) (b := (decide (r_10.1 = ([142#8, 162#8, 183#8, 202#8, 81#8, 103#8, 69#8, 191#8, 234#8, 252#8, 73#8, 144#8, 75#8, 73#8, 96#8, 137#8] : Str)))) rfl (fun hc => ?_) (fun hc => ?_)
                    · replace H := ite_t (of_decide_eq_true hc) H
                      refine TL_want rfl rfl rfl rfl rfl rfl (V_move rfl) ?_
                      obtain ⟨r_16, hr_16, H⟩ := bind_elim H
                      refine TL_wantE rfl rfl rfl rfl rfl rfl (E_call (Γ := Unit) (val := fun g => vi r_16) (mem := fun g => []) (vs := [vi r_10.2]) (Lin := []) (Ro := []) (is := []) rfl Try.call25 (F25_calls r_10.2 r_16 hr_16) rfl trivial) (fun g_16 => ?_)
                      refine TL_want rfl rfl rfl rfl rfl rfl (V_bin rfl rfl (fun w => eqlI w r_16 0)) ?_
                      refine TL_v rfl rfl rfl (V_pick (b := true) rfl rfl) ?_
                      refine TL_v rfl rfl rfl (V_assign rfl) ?_
                      obtain ⟨x6, hx6, H⟩ := ltt_elim H
                      refine TL_re (d := 4) (v := vb (decide (r_16 = 0))) (v' := vb x6) rfl (congrArg vb hx6) ?_
                      refine TL_nil ?_
                      refine TX_next ?_
                      refine TC.sub (m' := [(4, vb x6)]) ⟨rfl, trivial⟩ ?_
                      refine TC_ret ?_
                      have hrv := Option.some.inj H
                      subst hrv
                      exact TX_ret (rs := [.tmp 4]) (vs := [vb x6]) rfl ⟨rfl, trivial⟩ (fun w' hs' => ⟨(), rfl, Step.left (Step.pulled (is := []) (A := []) hs' rfl)⟩)
                    · replace H := ite_f (of_decide_eq_false hc) H
                      refine TL_skip rfl rfl rfl rfl rfl rfl rfl ?_
                      refine TL_skip rfl rfl rfl rfl rfl rfl rfl ?_
                      refine TL_skip rfl rfl rfl rfl rfl rfl rfl ?_
                      refine TL_v rfl rfl rfl (V_pick (b := false) rfl rfl) ?_
                      refine TL_v rfl rfl rfl (V_assign rfl) ?_
                      refine TL_nil ?_
                      refine TX_next ?_
                      refine TC.sub (m' := [(4, vb false)]) ⟨rfl, trivial⟩ ?_
                      refine TC_ret ?_
                      have hrv := Option.some.inj H
                      subst hrv
                      exact TX_ret (rs := [.tmp 4]) (vs := [vb false]) rfl ⟨rfl, trivial⟩ (fun w' hs' => ⟨(), rfl, Step.left (Step.pulled (is := []) (A := []) hs' rfl)⟩)
                  · replace H := ite_f (of_decide_eq_false hc) H
                    refine TL_skip rfl rfl rfl rfl rfl rfl rfl ?_
                    refine TL_skip rfl rfl rfl rfl rfl rfl rfl ?_
                    refine TL_v rfl rfl rfl (V_pick (b := false) rfl rfl) ?_
                    refine TL_v rfl rfl rfl (V_move rfl) ?_
                    refine TL_skip rfl rfl rfl rfl rfl rfl rfl ?_
                    refine TL_skip rfl rfl rfl rfl rfl rfl rfl ?_
                    refine TL_skip rfl rfl rfl rfl rfl rfl rfl ?_
                    refine TL_v rfl rfl rfl (V_pick (b := false) rfl rfl) ?_
                    refine TL_v rfl rfl rfl (V_assign rfl) ?_
                    refine TL_nil ?_
                    refine TX_next ?_
                    refine TC.sub (m' := [(4, vb false)]) ⟨rfl, trivial⟩ ?_
                    refine TC_ret ?_
                    have hrv := Option.some.inj H
                    subst hrv
                    exact TX_ret (rs := [.tmp 4]) (vs := [vb false]) rfl ⟨rfl, trivial⟩ (fun w' hs' => ⟨(), rfl, Step.left (Step.pulled (is := []) (A := []) hs' rfl)⟩)
                · replace H := ite_f (of_decide_eq_false hc) H
                  refine TL_skip rfl rfl rfl rfl rfl rfl rfl ?_
                  refine TL_skip rfl rfl rfl rfl rfl rfl rfl ?_
                  refine TL_skip rfl rfl rfl rfl rfl rfl rfl ?_
                  refine TL_want rfl rfl rfl rfl rfl rfl (V_pick (b := false) rfl rfl) ?_
                  refine TL_want rfl rfl rfl rfl rfl rfl (V_pick (b := false) rfl rfl) ?_
                  refine TL_v rfl rfl rfl (V_pick (b := true) rfl rfl) ?_
                  refine TL_v rfl rfl rfl (V_move rfl) ?_
                  refine TL_skip rfl rfl rfl rfl rfl rfl rfl ?_
                  refine TL_skip rfl rfl rfl rfl rfl rfl rfl ?_
                  refine TL_v rfl rfl rfl (V_pick (b := false) rfl rfl) ?_
                  refine TL_v rfl rfl rfl (V_move rfl) ?_
                  refine TL_skip rfl rfl rfl rfl rfl rfl rfl ?_
                  refine TL_skip rfl rfl rfl rfl rfl rfl rfl ?_
                  refine TL_skip rfl rfl rfl rfl rfl rfl rfl ?_
                  refine TL_v rfl rfl rfl (V_pick (b := false) rfl rfl) ?_
                  refine TL_v rfl rfl rfl (V_assign rfl) ?_
                  refine TL_nil ?_
                  refine TX_next ?_
                  refine TC.sub (m' := [(4, vb false)]) ⟨rfl, trivial⟩ ?_
                  refine TC_ret ?_
                  have hrv := Option.some.inj H
                  subst hrv
                  exact TX_ret (rs := [.tmp 4]) (vs := [vb false]) rfl ⟨rfl, trivial⟩ (fun w' hs' => ⟨(), rfl, Step.left (Step.pulled (is := []) (A := []) hs' rfl)⟩)
              · replace H := ite_f (Bool.eq_false_iff.1 hc) H
                refine TL_skip rfl rfl rfl rfl rfl rfl rfl ?_
                refine TL_skip rfl rfl rfl rfl rfl rfl rfl ?_
                refine TL_want rfl rfl rfl rfl rfl rfl (V_pick (b := false) rfl rfl) ?_
                refine TL_want rfl rfl rfl rfl rfl rfl (V_move rfl) ?_
                refine TL_skip rfl rfl rfl rfl rfl rfl rfl ?_
                refine TL_skip rfl rfl rfl rfl rfl rfl rfl ?_
                refine TL_skip rfl rfl rfl rfl rfl rfl rfl ?_
                refine TL_want rfl rfl rfl rfl rfl rfl (V_pick (b := false) rfl rfl) ?_
                refine TL_want rfl rfl rfl rfl rfl rfl (V_pick (b := false) rfl rfl) ?_
                refine TL_v rfl rfl rfl (V_pick (b := true) rfl rfl) ?_
                refine TL_v rfl rfl rfl (V_move rfl) ?_
                refine TL_skip rfl rfl rfl rfl rfl rfl rfl ?_
                refine TL_skip rfl rfl rfl rfl rfl rfl rfl ?_
                refine TL_v rfl rfl rfl (V_pick (b := false) rfl rfl) ?_
                refine TL_v rfl rfl rfl (V_move rfl) ?_
                refine TL_skip rfl rfl rfl rfl rfl rfl rfl ?_
                refine TL_skip rfl rfl rfl rfl rfl rfl rfl ?_
                refine TL_skip rfl rfl rfl rfl rfl rfl rfl ?_
                refine TL_v rfl rfl rfl (V_pick (b := false) rfl rfl) ?_
                refine TL_v rfl rfl rfl (V_assign rfl) ?_
                refine TL_nil ?_
                refine TX_next ?_
                refine TC.sub (m' := [(4, vb false)]) ⟨rfl, trivial⟩ ?_
                refine TC_ret ?_
                have hrv := Option.some.inj H
                subst hrv
                exact TX_ret (rs := [.tmp 4]) (vs := [vb false]) rfl ⟨rfl, trivial⟩ (fun w' hs' => ⟨(), rfl, Step.left (Step.pulled (is := []) (A := []) hs' rfl)⟩)
          · replace H := ite_f (Bool.eq_false_iff.1 hc) H
            refine TL_skip rfl rfl rfl rfl rfl rfl rfl ?_
            refine TL_skip rfl rfl rfl rfl rfl rfl rfl ?_
            refine TL_skipU rfl rfl rfl rfl rfl rfl ?_
            refine TL_skipU rfl rfl rfl rfl rfl rfl ?_
            refine TL_skipU rfl rfl rfl rfl rfl rfl ?_
            refine TL_skip rfl rfl rfl rfl rfl rfl rfl ?_
            refine TL_skip rfl rfl rfl rfl rfl rfl rfl ?_
            refine TL_skipU rfl rfl rfl rfl rfl rfl ?_
            refine TL_skipU rfl rfl rfl rfl rfl rfl ?_
            refine TL_skipU rfl rfl rfl rfl rfl rfl ?_
            refine TL_skipU rfl rfl rfl rfl rfl rfl ?_
            refine TL_skipU rfl rfl rfl rfl rfl rfl ?_
            refine TL_skipU rfl rfl rfl rfl rfl rfl ?_
            refine TL_skipU rfl rfl rfl rfl rfl rfl ?_
            refine TL_skipU rfl rfl rfl rfl rfl rfl ?_
            refine TL_skipU rfl rfl rfl rfl rfl rfl ?_
            refine TL_skipU rfl rfl rfl rfl rfl rfl ?_
            refine TL_skipU rfl rfl rfl rfl rfl rfl ?_
            refine TL_skip rfl rfl rfl rfl rfl rfl rfl ?_
            refine TL_v rfl rfl rfl (V_pick (b := false) rfl rfl) ?_
            refine TL_v rfl rfl rfl (V_move rfl) ?_
            refine TL_skip rfl rfl rfl rfl rfl rfl rfl ?_
            refine TL_skip rfl rfl rfl rfl rfl rfl rfl ?_
            refine TL_v rfl rfl rfl (V_pick (b := false) rfl rfl) ?_
            refine TL_v rfl rfl rfl (V_move rfl) ?_
            refine TL_skip rfl rfl rfl rfl rfl rfl rfl ?_
            refine TL_skip rfl rfl rfl rfl rfl rfl rfl ?_
            refine TL_skip rfl rfl rfl rfl rfl rfl rfl ?_
            refine TL_v rfl rfl rfl (V_pick (b := false) rfl rfl) ?_
            refine TL_v rfl rfl rfl (V_assign rfl) ?_
            refine TL_nil ?_
            refine TX_next ?_
            refine TC.sub (m' := [(4, vb false)]) ⟨rfl, trivial⟩ ?_
            refine TC_ret ?_
            have hrv := Option.some.inj H
            subst hrv
            exact TX_ret (rs := [.tmp 4]) (vs := [vb false]) rfl ⟨rfl, trivial⟩ (fun w' hs' => ⟨(), rfl, Step.left (Step.pulled (is := []) (A := []) hs' rfl)⟩)
        · replace H := ite_f (of_decide_eq_false hc) H
          refine TL_skip rfl rfl rfl rfl rfl rfl rfl ?_
          refine TL_skip rfl rfl rfl rfl rfl rfl rfl ?_
          refine TL_v rfl rfl rfl (V_pick (b := false) rfl rfl) ?_
          refine TL_v rfl rfl rfl (V_assign rfl) ?_
          refine TL_nil ?_
          refine TX_next ?_
          refine TC_seq ?_
          refine TC_region ?_
          obtain ⟨r_17, hr_17, H⟩ := bind_elim H
          refine TL_e rfl rfl rfl (E_call (Γ := Unit) (val := fun g => Value.tuple [vs r_17.1, vi r_17.2].toArray) (mem := fun g => []) (vs := [vs halberdlaw4_AesForms.k1, vs ([0#8, 17#8, 34#8, 51#8, 68#8, 85#8, 102#8, 119#8, 136#8, 153#8, 170#8, 187#8, 204#8, 221#8, 238#8, 255#8] : Str)]) (Lin := []) (Ro := []) (is := []) rfl Try.call23 (F23_calls halberdlaw4_AesForms.k1 ([0#8, 17#8, 34#8, 51#8, 68#8, 85#8, 102#8, 119#8, 136#8, 153#8, 170#8, 187#8, 204#8, 221#8, 238#8, 255#8] : Str) r_17 hr_17) rfl trivial) (fun g_17 => ?_)
          refine TL_v rfl rfl rfl (V_move rfl) ?_
          refine TL_v rfl rfl rfl (V_extract (vs := [vs r_17.1, vi r_17.2]) rfl rfl) ?_
          refine TL_v rfl rfl rfl (V_extract (vs := [vs r_17.1, vi r_17.2]) rfl rfl) ?_
          refine TL_v rfl rfl rfl (V_assign rfl) ?_
          refine TL_v rfl rfl rfl (V_assign rfl) ?_
          refine TL_nil ?_
          refine TX_next ?_
          refine TC_seq ?_
          refine TC_region ?_
          refine TL_v rfl rfl rfl (V_move rfl) ?_
          obtain ⟨r_18, hr_18, H⟩ := bind_elim H
          refine TL_e rfl rfl rfl (E_call (Γ := Unit) (val := fun g => vi r_18) (mem := fun g => []) (vs := [vi r_2.2]) (Lin := []) (Ro := []) (is := []) rfl Try.call25 (F25_calls r_2.2 r_18 hr_18) rfl trivial) (fun g_18 => ?_)
          refine TL_v rfl rfl rfl (V_bin rfl rfl (fun w => eqlI w r_18 0)) ?_
          refine TL_v rfl rfl rfl (V_move rfl) ?_
          refine TL_v rfl rfl rfl (V_bin rfl rfl (fun w => eqlB w (decide (r_18 = 0)) false Try.underlying4)) ?_
          refine TL_v rfl rfl rfl (V_move rfl) ?_
          refine TL_fork (d := 47) (b := ((decide (r_18 = 0)) == false)) rfl (fun hc => ?_) (fun hc => ?_)
          · replace H := ite_t hc H
            refine TL_want rfl rfl rfl rfl rfl rfl (V_move rfl) ?_
            refine TL_want rfl rfl rfl rfl rfl rfl (V_move rfl) ?_
            refine TL_skip rfl rfl rfl rfl rfl rfl rfl ?_
            refine TL_skip rfl rfl rfl rfl rfl rfl rfl ?_
            refine TL_skip rfl rfl rfl rfl rfl rfl rfl ?_
            refine TL_want rfl rfl rfl rfl rfl rfl (V_pick (b := false) rfl rfl) ?_
            refine TL_want rfl rfl rfl rfl rfl rfl (V_move rfl) ?_
            refine TL_want rfl rfl rfl rfl rfl rfl (V_move rfl) ?_
            refine TL_want rfl rfl rfl rfl rfl rfl (V_un rfl (fun w => notB w false)) ?_
            refine TL_want rfl rfl rfl rfl rfl rfl (V_move rfl) ?_
            refine TL_want rfl rfl rfl rfl rfl rfl (V_move rfl) ?_
            refine TL_want rfl rfl rfl rfl rfl rfl (V_bin rfl rfl (fun w => eqlS w r_2.1 ([] : Str))) ?_
            refine TL_want rfl rfl rfl rfl rfl rfl (V_pick (b := true) rfl rfl) ?_
            refine TL_want rfl rfl rfl rfl rfl rfl (V_move rfl) ?_
            refine TL_fork (d := 61) (b := (decide (r_2.1 = ([] : Str)))) rfl (fun hc => ?_) (fun hc => ?_)
            · replace H := ite_t (of_decide_eq_true hc) H
              refine TL_want rfl rfl rfl rfl rfl rfl (V_move rfl) ?_
              obtain ⟨r_19, hr_19, H⟩ := bind_elim H
              refine TL_wantE rfl rfl rfl rfl rfl rfl (E_call (Γ := Unit) (val := fun g => vi r_19) (mem := fun g => []) (vs := [vi r_2.2]) (Lin := []) (Ro := []) (is := []) rfl Try.call25 (F25_calls r_2.2 r_19 hr_19) rfl trivial) (fun g_19 => ?_)
              refine TL_want rfl rfl rfl rfl rfl rfl (V_bin rfl rfl (fun w => eqlI w r_19 400)) ?_
              refine TL_want rfl rfl rfl rfl rfl rfl (V_pick (b := true) rfl rfl) ?_
              refine TL_want rfl rfl rfl rfl rfl rfl (V_pick (b := false) rfl rfl) ?_
              refine TL_v rfl rfl rfl (V_pick (b := true) rfl rfl) ?_
              refine TL_v rfl rfl rfl (V_move rfl) ?_
              refine TL_fork (d := 68) (b := (decide (r_19 = 400))) rfl (fun hc => ?_) (fun hc => ?_)
              · replace H := ite_t (of_decide_eq_true hc) H
                refine TL_want rfl rfl rfl rfl rfl rfl (V_move rfl) ?_
                refine TL_want rfl rfl rfl rfl rfl rfl (V_bin rfl rfl (fun w => eqlS w r_17.1 ([142#8, 162#8, 183#8, 202#8, 81#8, 103#8, 69#8, 191#8, 234#8, 252#8, 73#8, 144#8, 75#8, 73#8, 96#8, 137#8] : Str))) ?_
                refine TL_v rfl rfl rfl (V_pick (b := true) rfl rfl) ?_
                refine TL_v rfl rfl rfl (V_move rfl) ?_
                refine TL_fork (d := 72) (b := (decide (r_17.1 = ([142#8, 162#8, 183#8, 202#8, 81#8, 103#8, 69#8, 191#8, 234#8, 252#8, 73#8, 144#8, 75#8, 73#8, 96#8, 137#8] : Str)))) rfl (fun hc => ?_) (fun hc => ?_)
                · replace H := ite_t (of_decide_eq_true hc) H
                  refine TL_want rfl rfl rfl rfl rfl rfl (V_move rfl) ?_
                  obtain ⟨r_20, hr_20, H⟩ := bind_elim H
                  refine TL_wantE rfl rfl rfl rfl rfl rfl (E_call (Γ := Unit) (val := fun g => vi r_20) (mem := fun g => []) (vs := [vi r_17.2]) (Lin := []) (Ro := []) (is := []) rfl Try.call25 (F25_calls r_17.2 r_20 hr_20) rfl trivial) (fun g_20 => ?_)
                  refine TL_want rfl rfl rfl rfl rfl rfl (V_bin rfl rfl (fun w => eqlI w r_20 0)) ?_
                  refine TL_v rfl rfl rfl (V_pick (b := true) rfl rfl) ?_
                  refine TL_v rfl rfl rfl (V_assign rfl) ?_
                  obtain ⟨x7, hx7, H⟩ := ltt_elim H
                  refine TL_re (d := 4) (v := vb (decide (r_20 = 0))) (v' := vb x7) rfl (congrArg vb hx7) ?_
                  refine TL_nil ?_
                  refine TX_next ?_
                  refine TC.sub (m' := [(4, vb x7)]) ⟨rfl, trivial⟩ ?_
                  refine TC_ret ?_
                  have hrv := Option.some.inj H
                  subst hrv
                  exact TX_ret (rs := [.tmp 4]) (vs := [vb x7]) rfl ⟨rfl, trivial⟩ (fun w' hs' => ⟨(), rfl, Step.left (Step.pulled (is := []) (A := []) hs' rfl)⟩)
                · replace H := ite_f (of_decide_eq_false hc) H
                  refine TL_skip rfl rfl rfl rfl rfl rfl rfl ?_
                  refine TL_skip rfl rfl rfl rfl rfl rfl rfl ?_
                  refine TL_skip rfl rfl rfl rfl rfl rfl rfl ?_
                  refine TL_v rfl rfl rfl (V_pick (b := false) rfl rfl) ?_
                  refine TL_v rfl rfl rfl (V_assign rfl) ?_
                  refine TL_nil ?_
                  refine TX_next ?_
                  refine TC.sub (m' := [(4, vb false)]) ⟨rfl, trivial⟩ ?_
                  refine TC_ret ?_
                  have hrv := Option.some.inj H
                  subst hrv
                  exact TX_ret (rs := [.tmp 4]) (vs := [vb false]) rfl ⟨rfl, trivial⟩ (fun w' hs' => ⟨(), rfl, Step.left (Step.pulled (is := []) (A := []) hs' rfl)⟩)
              · replace H := ite_f (of_decide_eq_false hc) H
                refine TL_skip rfl rfl rfl rfl rfl rfl rfl ?_
                refine TL_skip rfl rfl rfl rfl rfl rfl rfl ?_
                refine TL_v rfl rfl rfl (V_pick (b := false) rfl rfl) ?_
                refine TL_v rfl rfl rfl (V_move rfl) ?_
                refine TL_skip rfl rfl rfl rfl rfl rfl rfl ?_
                refine TL_skip rfl rfl rfl rfl rfl rfl rfl ?_
                refine TL_skip rfl rfl rfl rfl rfl rfl rfl ?_
                refine TL_v rfl rfl rfl (V_pick (b := false) rfl rfl) ?_
                refine TL_v rfl rfl rfl (V_assign rfl) ?_
                refine TL_nil ?_
                refine TX_next ?_
                refine TC.sub (m' := [(4, vb false)]) ⟨rfl, trivial⟩ ?_
                refine TC_ret ?_
                have hrv := Option.some.inj H
                subst hrv
                exact TX_ret (rs := [.tmp 4]) (vs := [vb false]) rfl ⟨rfl, trivial⟩ (fun w' hs' => ⟨(), rfl, Step.left (Step.pulled (is := []) (A := []) hs' rfl)⟩)
            · replace H := ite_f (of_decide_eq_false hc) H
              refine TL_skip rfl rfl rfl rfl rfl rfl rfl ?_
              refine TL_skip rfl rfl rfl rfl rfl rfl rfl ?_
              refine TL_skip rfl rfl rfl rfl rfl rfl rfl ?_
              refine TL_want rfl rfl rfl rfl rfl rfl (V_pick (b := false) rfl rfl) ?_
              refine TL_want rfl rfl rfl rfl rfl rfl (V_pick (b := false) rfl rfl) ?_
              refine TL_v rfl rfl rfl (V_pick (b := true) rfl rfl) ?_
              refine TL_v rfl rfl rfl (V_move rfl) ?_
              refine TL_skip rfl rfl rfl rfl rfl rfl rfl ?_
              refine TL_skip rfl rfl rfl rfl rfl rfl rfl ?_
              refine TL_v rfl rfl rfl (V_pick (b := false) rfl rfl) ?_
              refine TL_v rfl rfl rfl (V_move rfl) ?_
              refine TL_skip rfl rfl rfl rfl rfl rfl rfl ?_
              refine TL_skip rfl rfl rfl rfl rfl rfl rfl ?_
              refine TL_skip rfl rfl rfl rfl rfl rfl rfl ?_
              refine TL_v rfl rfl rfl (V_pick (b := false) rfl rfl) ?_
              refine TL_v rfl rfl rfl (V_assign rfl) ?_
              refine TL_nil ?_
              refine TX_next ?_
              refine TC.sub (m' := [(4, vb false)]) ⟨rfl, trivial⟩ ?_
              refine TC_ret ?_
              have hrv := Option.some.inj H
              subst hrv
              exact TX_ret (rs := [.tmp 4]) (vs := [vb false]) rfl ⟨rfl, trivial⟩ (fun w' hs' => ⟨(), rfl, Step.left (Step.pulled (is := []) (A := []) hs' rfl)⟩)
          · replace H := ite_f (Bool.eq_false_iff.1 hc) H
            refine TL_skip rfl rfl rfl rfl rfl rfl rfl ?_
            refine TL_skip rfl rfl rfl rfl rfl rfl rfl ?_
            refine TL_skipU rfl rfl rfl rfl rfl rfl ?_
            refine TL_skipU rfl rfl rfl rfl rfl rfl ?_
            refine TL_skipU rfl rfl rfl rfl rfl rfl ?_
            refine TL_skip rfl rfl rfl rfl rfl rfl rfl ?_
            refine TL_skip rfl rfl rfl rfl rfl rfl rfl ?_
            refine TL_skipU rfl rfl rfl rfl rfl rfl ?_
            refine TL_skipU rfl rfl rfl rfl rfl rfl ?_
            refine TL_skipU rfl rfl rfl rfl rfl rfl ?_
            refine TL_skipU rfl rfl rfl rfl rfl rfl ?_
            refine TL_skipU rfl rfl rfl rfl rfl rfl ?_
            refine TL_skipU rfl rfl rfl rfl rfl rfl ?_
            refine TL_skipU rfl rfl rfl rfl rfl rfl ?_
            refine TL_skipU rfl rfl rfl rfl rfl rfl ?_
            refine TL_skipU rfl rfl rfl rfl rfl rfl ?_
            refine TL_skipU rfl rfl rfl rfl rfl rfl ?_
            refine TL_skipU rfl rfl rfl rfl rfl rfl ?_
            refine TL_skip rfl rfl rfl rfl rfl rfl rfl ?_
            refine TL_v rfl rfl rfl (V_pick (b := false) rfl rfl) ?_
            refine TL_v rfl rfl rfl (V_move rfl) ?_
            refine TL_skip rfl rfl rfl rfl rfl rfl rfl ?_
            refine TL_skip rfl rfl rfl rfl rfl rfl rfl ?_
            refine TL_v rfl rfl rfl (V_pick (b := false) rfl rfl) ?_
            refine TL_v rfl rfl rfl (V_move rfl) ?_
            refine TL_skip rfl rfl rfl rfl rfl rfl rfl ?_
            refine TL_skip rfl rfl rfl rfl rfl rfl rfl ?_
            refine TL_skip rfl rfl rfl rfl rfl rfl rfl ?_
            refine TL_v rfl rfl rfl (V_pick (b := false) rfl rfl) ?_
            refine TL_v rfl rfl rfl (V_assign rfl) ?_
            refine TL_nil ?_
            refine TX_next ?_
            refine TC.sub (m' := [(4, vb false)]) ⟨rfl, trivial⟩ ?_
            refine TC_ret ?_
            have hrv := Option.some.inj H
            subst hrv
            exact TX_ret (rs := [.tmp 4]) (vs := [vb false]) rfl ⟨rfl, trivial⟩ (fun w' hs' => ⟨(), rfl, Step.left (Step.pulled (is := []) (A := []) hs' rfl)⟩)
    · intro hJ
      clear H
      refine TA_begin [] 12 (by kernel_rfl) (N := 12) rfl ?_
      refine TA_take (i := 0) (is := []) (done' := #[true, false, false, false, false, false, false, false, false, false, false, false]) rfl rfl rfl rfl (by kernel_rfl) (QP.then QP.body) (by kernel_rfl) rfl (V_move rfl) ?_
      refine TA_take (i := 3) (is := []) (done' := #[true, false, false, true, false, false, false, false, false, false, false, false]) rfl rfl rfl rfl (by kernel_rfl) (QP.then QP.body) (by kernel_rfl) rfl (V_move rfl) ?_
      refine TA_all (rs := [1, 4]) (by kernel_rfl) rfl ?_
      refine ⟨?_, ?_, trivial⟩
      · skip
        refine TO_e (is := []) (done' := #[true, true, false, true, false, false, false, false, false, false, false, false]) rfl rfl rfl rfl (by kernel_rfl) (E_mk1 rfl rfl Try.underlying30 TryI.inf5 (z := v8 0#8) rfl rfl rfl (B := 1) rfl h1.1 (Int.le_refl _) (by have := h1; omega) (by have := h1; omega) (n' := (k_1).toNat) (c' := (k_1).toNat) rfl rfl (cs := e8 (List.replicate ((k_1).toNat) 0#8)) (rep_map (f := v8))) (fun _ _ => rfl) (fun b1 => ?_)
        refine TA_more (Lr2 := [⟨some (b1, 0), e8 (List.replicate ((k_1).toNat) 0#8)⟩]) (is := []) (is2 := [0]) rfl rfl ?_
        refine TA_take (i := 2) (is := [0]) (done' := #[true, true, true, true, false, false, false, false, false, false, false, false]) rfl rfl rfl rfl (by kernel_rfl) (QP.then QP.body) (by kernel_rfl) rfl (V_b2s rfl Try.underlying30 Try.underlying5 Try.underlying9 (Src.own (j := 0) rfl) h2) ?_
        refine TA_all (rs := [4]) (by kernel_rfl) rfl ?_
        refine ⟨?_, trivial⟩
        refine TO_e (is := [1]) (done' := #[true, true, true, true, true, false, false, false, false, false, false, false]) rfl rfl rfl rfl (by kernel_rfl) (E_mk1 rfl rfl Try.underlying30 TryI.inf5 (z := v8 0#8) rfl rfl rfl (B := 1) rfl h3.1 (Int.le_refl _) (by have := h3; omega) (by have := h3; omega) (n' := (m_1).toNat) (c' := (m_1).toNat) rfl rfl (cs := e8 (List.replicate ((m_1).toNat) 0#8)) (rep_map (f := v8))) (fun _ _ => rfl) (fun b2 => ?_)
        refine TA_more (Lr2 := [⟨some (b2, 0), e8 (List.replicate ((m_1).toNat) 0#8)⟩, ⟨some (b1, 0), e8 (List.replicate ((k_1).toNat) 0#8)⟩]) (is := [1]) (is2 := [0, 0]) rfl rfl ?_
        refine TA_take (i := 5) (is := [0, 0]) (done' := #[true, true, true, true, true, true, false, false, false, false, false, false]) rfl rfl rfl rfl (by kernel_rfl) (QP.then QP.body) (by kernel_rfl) rfl (V_b2s rfl Try.underlying30 Try.underlying5 Try.underlying9 (Src.own (j := 0) rfl) h4) ?_
        refine TA_all (rs := [6]) (by kernel_rfl) rfl ?_
        refine ⟨?_, trivial⟩
        refine TO_e (is := [0, 0]) (done' := #[true, true, true, true, true, true, true, false, false, false, false, false]) rfl rfl rfl rfl (by kernel_rfl) (E_call (Γ := Unit) (val := fun g => Value.tuple [vs r_2.1, vi r_2.2].toArray) (mem := fun g => []) (vs := [vs (List.replicate ((k_1).toNat) 0#8), vs (List.replicate ((m_1).toNat) 0#8)]) (Lin := []) (Ro := []) (is := []) rfl Try.call23 (F23_calls (List.replicate ((k_1).toNat) 0#8) (List.replicate ((m_1).toNat) 0#8) r_2 hr_2) rfl trivial) (fun _ _ => rfl) (fun g_2 => ?_)
        refine TA_take (i := 7) (is := [0, 0]) (done' := #[true, true, true, true, true, true, true, true, false, false, false, false]) rfl rfl rfl rfl (by kernel_rfl) (QP.then QP.body) (by kernel_rfl) rfl (V_move rfl) ?_
        refine TA_take (i := 8) (is := [0, 0]) (done' := #[true, true, true, true, true, true, true, true, true, false, false, false]) rfl rfl rfl rfl (by kernel_rfl) (QP.then QP.body) (by kernel_rfl) rfl (V_extract (vs := [vs r_2.1, vi r_2.2]) rfl rfl) ?_
        refine TA_take (i := 9) (is := [0, 0]) (done' := #[true, true, true, true, true, true, true, true, true, true, false, false]) rfl rfl rfl rfl (by kernel_rfl) (QP.then QP.body) (by kernel_rfl) rfl (V_extract (vs := [vs r_2.1, vi r_2.2]) rfl rfl) ?_
        refine TA_take (i := 10) (is := [0, 0]) (done' := #[true, true, true, true, true, true, true, true, true, true, true, false]) rfl rfl rfl rfl (by kernel_rfl) (QP.then QP.body) (by kernel_rfl) rfl (V_assign rfl) ?_
        refine TA_take (i := 11) (is := [0, 0]) (done' := #[true, true, true, true, true, true, true, true, true, true, true, true]) rfl rfl rfl rfl (by kernel_rfl) (QP.then QP.body) (by kernel_rfl) rfl (V_assign rfl) ?_
        refine TA_done (by kernel_rfl) ?_ 0
        refine TX.sub (m' := [(5, vi k_1), (6, vi m_1), (7, vs r_2.1), (8, vi r_2.2)]) ⟨rfl, rfl, rfl, rfl, trivial⟩ ?_
        refine TX.pull (is := []) (L' := []) rfl ?_
        exact hJ ()
      · skip
        refine TO_e (is := []) (done' := #[true, false, false, true, true, false, false, false, false, false, false, false]) rfl rfl rfl rfl (by kernel_rfl) (E_mk1 rfl rfl Try.underlying30 TryI.inf5 (z := v8 0#8) rfl rfl rfl (B := 1) rfl h3.1 (Int.le_refl _) (by have := h3; omega) (by have := h3; omega) (n' := (m_1).toNat) (c' := (m_1).toNat) rfl rfl (cs := e8 (List.replicate ((m_1).toNat) 0#8)) (rep_map (f := v8))) (fun _ _ => rfl) (fun b2 => ?_)
        refine TA_more (Lr2 := [⟨some (b2, 0), e8 (List.replicate ((m_1).toNat) 0#8)⟩]) (is := []) (is2 := [0]) rfl rfl ?_
        refine TA_take (i := 5) (is := [0]) (done' := #[true, false, false, true, true, true, false, false, false, false, false, false]) rfl rfl rfl rfl (by kernel_rfl) (QP.then QP.body) (by kernel_rfl) rfl (V_b2s rfl Try.underlying30 Try.underlying5 Try.underlying9 (Src.own (j := 0) rfl) h4) ?_
        refine TA_all (rs := [1]) (by kernel_rfl) rfl ?_
        refine ⟨?_, trivial⟩
        refine TO_e (is := [1]) (done' := #[true, true, false, true, true, true, false, false, false, false, false, false]) rfl rfl rfl rfl (by kernel_rfl) (E_mk1 rfl rfl Try.underlying30 TryI.inf5 (z := v8 0#8) rfl rfl rfl (B := 1) rfl h1.1 (Int.le_refl _) (by have := h1; omega) (by have := h1; omega) (n' := (k_1).toNat) (c' := (k_1).toNat) rfl rfl (cs := e8 (List.replicate ((k_1).toNat) 0#8)) (rep_map (f := v8))) (fun _ _ => rfl) (fun b1 => ?_)
        refine TA_more (Lr2 := [⟨some (b1, 0), e8 (List.replicate ((k_1).toNat) 0#8)⟩, ⟨some (b2, 0), e8 (List.replicate ((m_1).toNat) 0#8)⟩]) (is := [1]) (is2 := [0, 0]) rfl rfl ?_
        refine TA_take (i := 2) (is := [0, 0]) (done' := #[true, true, true, true, true, true, false, false, false, false, false, false]) rfl rfl rfl rfl (by kernel_rfl) (QP.then QP.body) (by kernel_rfl) rfl (V_b2s rfl Try.underlying30 Try.underlying5 Try.underlying9 (Src.own (j := 0) rfl) h2) ?_
        refine TA_all (rs := [6]) (by kernel_rfl) rfl ?_
        refine ⟨?_, trivial⟩
        refine TO_e (is := [0, 0]) (done' := #[true, true, true, true, true, true, true, false, false, false, false, false]) rfl rfl rfl rfl (by kernel_rfl) (E_call (Γ := Unit) (val := fun g => Value.tuple [vs r_2.1, vi r_2.2].toArray) (mem := fun g => []) (vs := [vs (List.replicate ((k_1).toNat) 0#8), vs (List.replicate ((m_1).toNat) 0#8)]) (Lin := []) (Ro := []) (is := []) rfl Try.call23 (F23_calls (List.replicate ((k_1).toNat) 0#8) (List.replicate ((m_1).toNat) 0#8) r_2 hr_2) rfl trivial) (fun _ _ => rfl) (fun g_2 => ?_)
        refine TA_take (i := 7) (is := [0, 0]) (done' := #[true, true, true, true, true, true, true, true, false, false, false, false]) rfl rfl rfl rfl (by kernel_rfl) (QP.then QP.body) (by kernel_rfl) rfl (V_move rfl) ?_
        refine TA_take (i := 8) (is := [0, 0]) (done' := #[true, true, true, true, true, true, true, true, true, false, false, false]) rfl rfl rfl rfl (by kernel_rfl) (QP.then QP.body) (by kernel_rfl) rfl (V_extract (vs := [vs r_2.1, vi r_2.2]) rfl rfl) ?_
        refine TA_take (i := 9) (is := [0, 0]) (done' := #[true, true, true, true, true, true, true, true, true, true, false, false]) rfl rfl rfl rfl (by kernel_rfl) (QP.then QP.body) (by kernel_rfl) rfl (V_extract (vs := [vs r_2.1, vi r_2.2]) rfl rfl) ?_
        refine TA_take (i := 10) (is := [0, 0]) (done' := #[true, true, true, true, true, true, true, true, true, true, true, false]) rfl rfl rfl rfl (by kernel_rfl) (QP.then QP.body) (by kernel_rfl) rfl (V_assign rfl) ?_
        refine TA_take (i := 11) (is := [0, 0]) (done' := #[true, true, true, true, true, true, true, true, true, true, true, true]) rfl rfl rfl rfl (by kernel_rfl) (QP.then QP.body) (by kernel_rfl) rfl (V_assign rfl) ?_
        refine TA_done (by kernel_rfl) ?_ 0
        refine TX.sub (m' := [(5, vi k_1), (6, vi m_1), (7, vs r_2.1), (8, vi r_2.2)]) ⟨rfl, rfl, rfl, rfl, trivial⟩ ?_
        refine TX.pull (is := []) (L' := []) rfl ?_
        exact hJ ()

end Go.Proofs
end

section
/-
  The laws of blocks turned bit by bit, and of which keys and blocks there are.
-/
namespace Go.Proofs
open Go Go.Kx
set_option linter.unusedVariables false
set_option linter.unusedSimpArgs false
theorem blockV_length (key s : Str) : (blockV key s).length = 16 := Vector.length_toList
theorem bits_idx (at_ : Int) (n i : Nat) (hn : n = 16 ∨ n = 32) (hi : i < 8) : ∃ k : Nat, k < n + 16 ∧ w64 ((w64 ((w64 ((((BitVec.ofInt 64 at_) / 8#64) % (BitVec.ofInt 64 ((n + 16 : Nat) : Int))).toNat : Int)) * 8)) + (i : Int)) = ((8 * k + i : Nat) : Int) := by
  have hL : (BitVec.ofInt 64 ((n + 16 : Nat) : Int)).toNat = n + 16 := by rw [BitVec.ofInt_natCast, BitVec.toNat_ofNat]; omega
  have hm : (((BitVec.ofInt 64 at_) / 8#64) % (BitVec.ofInt 64 ((n + 16 : Nat) : Int))).toNat < n + 16 := by
    rw [BitVec.toNat_umod, hL]
    exact Nat.mod_lt _ (by omega)
  generalize (((BitVec.ofInt 64 at_) / 8#64) % (BitVec.ofInt 64 ((n + 16 : Nat) : Int))).toNat = k at hm
  refine ⟨k, hm, ?_⟩
  have e1 : w64 (k : Int) = (k : Int) := w64_nat (by omega)
  have e2 : w64 ((k : Int) * 8) = ((8 * k : Nat) : Int) := (w64_mul (b := 8) (by omega)).trans (by omega)
  rw [e1, e2]
  exact w64_add (by omega)
theorem idx_dm (k r : Nat) (hk : k < 1000) (hr : r < 8) : w64 (((8 * k + r : Nat) : Int).tdiv 8) = (k : Int) ∧ ((8 * k + r : Nat) : Int).tmod 8 = (r : Int) := by
  refine ⟨(w64_div (a := 8 * k + r) (b := 8) (by omega)).trans ?_, (tmodN' (8 * k + r) 8).trans ?_⟩
  · have : (8 * k + r) / 8 = k := by omega
    rw [this]
  · have : (8 * k + r) % 8 = r := by omega
    rw [this]
theorem BlockBits_true (seed : Str) (wide : Bool) (at_ : Int) : halberdlaw4_BlockBits seed wide at_ = some true := by
  unfold halberdlaw4_BlockBits
  refine bind_i awake4 (if_n (by decide) ?_)
  obtain ⟨n, hn, hj⟩ : ∃ n : Nat, (n = 16 ∨ n = 32) ∧ (if wide = true then some (32 : Int) else some 16) = some (n : Int) := by
    cases wide
    · exact ⟨16, .inl rfl, rfl⟩
    · exact ⟨32, .inr rfl, rfl⟩
  refine bind_i hj ?_
  have e1 : w64 ((n : Int) + 16) = ((n + 16 : Nat) : Int) := w64_add (b := 16) (by omega)
  rw [e1]
  simp only [Int.toNat_natCast]
  have key1 : ∃ t : Str, t.length = n + 16 ∧ loop (halberdlaw4_BlockBits.b0 seed (n : Int)) BIG (0, List.replicate (n + 16) 0#8) = some t := by
    refine loop_ex (fun o => ∃ t : Str, t.length = n + 16 ∧ o = some t) (n + 16) BIG (fun d st => ∃ t : Str, t.length = n + 16 ∧ d ≤ n + 16 ∧ st = (((n + 16 - d : Nat) : Int), t)) _ ⟨List.replicate (n + 16) 0#8, by simp, Nat.le_refl _, by rw [Nat.sub_self]; rfl⟩ (by unfold BIG; omega) ?_ ?_
    · rintro d st ⟨t, ht, hd, rfl⟩
      have e2 : w64 (((n + 16 - (d + 1) : Nat) : Int) + 1) = ((n + 16 - d : Nat) : Int) := (w64_add (a := n + 16 - (d + 1)) (b := 1) (by omega)).trans (by omega)
      by_cases c : n + 16 - (d + 1) < seed.length
      · refine .inl ⟨(((n + 16 - d : Nat) : Int), t.set (n + 16 - (d + 1)) (sg seed ((n + 16 - (d + 1) : Nat) : Int))), ?_, _, by simpa using ht, by omega, rfl⟩
        unfold halberdlaw4_BlockBits.b0
        simp only [e1, e2, Int.toNat_natCast]
        clear e1 e2
        refine if_i (by omega) (if_i (by omega) (if_i (by omega) (if_i (by omega) (if_i (by omega) (ltt_i fun m hm => ltt_i fun i hi => ?_)))))
        rw [hm, hi]
      · refine .inr ⟨t, ?_, t, ht, rfl⟩
        unfold halberdlaw4_BlockBits.b0
        simp only [e1, Int.toNat_natCast]
        clear e1 e2
        exact if_i (by omega) (if_n (by omega) rfl)
    · rintro st ⟨t, ht, hd, rfl⟩
      refine ⟨t, ?_, t, ht, rfl⟩
      unfold halberdlaw4_BlockBits.b0
      simp only [e1, Int.toNat_natCast]
      clear e1
      exact if_n (by omega) rfl
  obtain ⟨t, ht, hl⟩ := key1
  refine if_i (by omega) (bind_i hl ?_)
  have key2 : loop (halberdlaw4_BlockBits.b1 at_ (n : Int)) BIG (0, t) = some (.inl ()) := by
    refine loop_ex (τ := Unit ⊕ Bool) (fun o => o = some (Sum.inl ())) 8 BIG (fun d st => ∃ t : Str, t.length = n + 16 ∧ d ≤ 8 ∧ st = (((8 - d : Nat) : Int), t)) _ ⟨t, ht, Nat.le_refl _, rfl⟩ (by unfold BIG; omega) ?_ ?_
    · rintro d st ⟨t, ht, hd, rfl⟩
      have e2 : w64 (((8 - (d + 1) : Nat) : Int) + 1) = ((8 - d : Nat) : Int) := (w64_add (a := 8 - (d + 1)) (b := 1) (by omega)).trans (by omega)
      obtain ⟨k, hk, hkk⟩ := bits_idx at_ n (8 - (d + 1)) hn (by omega)
      obtain ⟨e3, e4⟩ := idx_dm k (8 - (d + 1)) (by omega) (by omega)
      refine .inl ⟨(((8 - d : Nat) : Int), t.set k ((lg t k) ^^^ (1#8 <<< (8 - (d + 1))))), ?_, _, by simpa using ht, by omega, rfl⟩
      unfold halberdlaw4_BlockBits.b1
      simp only [e1, e2, Int.toNat_natCast, hkk]
      clear e1 e2 hkk
      have hnz : BitVec.ofInt 64 ((n + 16 : Nat) : Int) ≠ 0#64 := by
        rcases hn with h | h <;> subst h <;> decide
      refine if_i (by omega) (if_i hnz (ltt_i fun k1 hk1 => ?_))
      rw [hk1]
      clear hk1 hnz
      simp only [e3, e4, Int.toNat_natCast]
      clear e3 e4
      refine if_i (by omega) (if_i (by omega) (if_i (by omega) (if_i (by omega) (if_i (by omega) (ltt_i fun m2 hm2 => ?_)))))
      have hml : m2.length = n + 16 := by rw [hm2]; simpa using ht
      iterate 6 refine if_i (by omega) ?_
      have hb : blockE (sub m2 0 n) (sub m2 n (n + 16)) = (blockV (sub m2 0 n) (sub m2 n (n + 16)), 0) := blockE_pos ⟨by rw [sub_length (by omega)]; omega, by rw [sub_length (by omega)]; omega⟩
      have hB := Block_eq (sub m2 0 n) (sub m2 n (n + 16))
      have hR := RefBlock_eq (sub m2 0 n) (sub m2 n (n + 16))
      have hvl := blockV_length (sub m2 0 n) (sub m2 n (n + 16))
      rw [hb] at hB hR
      clear hb
      generalize blockV (sub m2 0 n) (sub m2 n (n + 16)) = v at hB hR hvl
      refine bind_i hB ?_
      iterate 6 refine if_i (by omega) ?_
      refine bind_i hR (bind_i (v := 0) rfl (if_n (by decide) (if_n (by simp) (if_n (by simp only; omega) (ltt_i fun i2 hi2 => ?_)))))
      rw [hi2, hm2]
    · rintro st ⟨t, ht, hd, rfl⟩
      exact ⟨_, if_n (by show ¬ (((8 - 0 : Nat) : Int) < 8); decide) rfl, rfl⟩
  exact bind_i key2 rfl
set_option maxRecDepth 100000 in
theorem form_k : aes_Block halberdlaw4_AesForms.k1 ([0#8, 17#8, 34#8, 51#8, 68#8, 85#8, 102#8, 119#8, 136#8, 153#8, 170#8, 187#8, 204#8, 221#8, 238#8, 255#8] : Str) = some (([142#8, 162#8, 183#8, 202#8, 81#8, 103#8, 69#8, 191#8, 234#8, 252#8, 73#8, 144#8, 75#8, 73#8, 96#8, 137#8] : Str), 0) := by kernel_rfl
theorem AesForms_true (key block : Int) : halberdlaw4_AesForms key block = some true := by
  unfold halberdlaw4_AesForms
  refine bind_i awake4 (if_n (by decide) (ltt_i fun k1 hk1 => ltt_i fun m1 hm1 => ?_))
  have i63 : iop (· &&& ·) key 63 = key % 64 := and_mask key 6 (by decide)
  have i31 : iop (· &&& ·) block 31 = block % 32 := and_mask block 5 (by decide)
  rw [i63] at hk1
  rw [i31] at hm1
  clear i63 i31
  obtain ⟨k, hk, hkl⟩ : ∃ k : Nat, k1 = (k : Int) ∧ k < 64 := ⟨k1.toNat, by omega, by omega⟩
  obtain ⟨m, hm, hml⟩ : ∃ m : Nat, m1 = (m : Int) ∧ m < 32 := ⟨m1.toNat, by omega, by omega⟩
  clear hk1 hm1
  subst hk
  subst hm
  simp only [Int.toNat_natCast]
  have hB := Block_eq (List.replicate k 0#8) (List.replicate m 0#8)
  refine if_i (by omega) (if_i List.length_replicate (if_i (by omega) (if_i List.length_replicate ?_)))
  by_cases hf : (k = 16 ∨ k = 32) ∧ m = 16
  · have hb : blockE (List.replicate k 0#8) (List.replicate m 0#8) = (blockV (List.replicate k 0#8) (List.replicate m 0#8), 0) := blockE_pos (by simpa using hf)
    have hvl := blockV_length (List.replicate k 0#8) (List.replicate m 0#8)
    rw [hb] at hB
    clear hb
    generalize blockV (List.replicate k 0#8) (List.replicate m 0#8) = v at hB hvl
    have hm16 : (m : Int) = 16 := by omega
    refine bind_i hB ?_
    rcases hf.1 with h | h
    · refine if_i (by omega) (ltt_i fun f hf1 => bind_i form_k (bind_i (v := 0) rfl ?_))
      have : f = true := by rw [hf1]; simp [hm16]
      subst this
      exact if_i (by decide) (if_i rfl (if_i (by simp only; omega) (if_i rfl (bind_i (v := 0) rfl rfl))))
    · refine if_n (by omega) (if_i (by omega) (ltt_i fun f hf1 => bind_i form_k (bind_i (v := 0) rfl ?_)))
      have : f = true := by rw [hf1]; simp [hm16]
      subst this
      exact if_i (by decide) (if_i rfl (if_i (by simp only; omega) (if_i rfl (bind_i (v := 0) rfl rfl))))
  · have hb : blockE (List.replicate k 0#8) (List.replicate m 0#8) = ([], 400) := blockE_neg (by simpa using hf)
    rw [hb] at hB
    refine bind_i hB ?_
    by_cases h16 : k = 16
    · refine if_i (by omega) (ltt_i fun f hf1 => bind_i form_k (bind_i (v := 400) rfl ?_))
      have : f = false := by rw [hf1]; exact decide_eq_false (fun h => hf ⟨.inl h16, by omega⟩)
      subst this
      exact if_i (by decide) (if_n (by decide) (if_i rfl (if_i rfl (bind_i (v := 400) rfl (if_i rfl (if_i rfl (bind_i (v := 0) rfl rfl)))))))
    · refine if_n (by omega) ?_
      by_cases h32 : k = 32
      · refine if_i (by omega) (ltt_i fun f hf1 => bind_i form_k (bind_i (v := 400) rfl ?_))
        have : f = false := by rw [hf1]; exact decide_eq_false (fun h => hf ⟨.inr h32, by omega⟩)
        subst this
        exact if_i (by decide) (if_n (by decide) (if_i rfl (if_i rfl (bind_i (v := 400) rfl (if_i rfl (if_i rfl (bind_i (v := 0) rfl rfl)))))))
      · refine if_n (by omega) (bind_i form_k (bind_i (v := 400) rfl ?_))
        exact if_i (by decide) (if_i rfl (bind_i (v := 400) rfl (if_i rfl (if_i rfl (bind_i (v := 0) rfl rfl)))))
end Go.Proofs
end

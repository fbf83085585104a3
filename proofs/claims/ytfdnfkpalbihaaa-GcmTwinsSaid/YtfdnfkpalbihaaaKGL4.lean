/-
  Part KGL4 of the proofs of this seat: F16, GcmL4.
-/
import Derived.Test.YtfdnfkpalbihaaaK2
import Derived.Test.YtfdnfkpalbihaaaKG2
import Derived.Test.YtfdnfkpalbihaaaKG3
section
namespace Go.Proofs
open Go Go.Kx
set_option linter.unusedVariables false
set_option linter.unusedSimpArgs false
def halberdlaw5_GcmTwins.b0 (seed : Str) (j1 : Int) (s0 : Int × List (BitVec 8)) : Option ((Int × List (BitVec 8)) ⊕ (List (BitVec 8))) :=
  if s0.1 < ((w64 (j1 + 12)).toNat : Int) then (if s0.1 < ((seed).length : Int) then (if 0 ≤ s0.1 ∧ s0.1 < ((seed).length : Int) then (if 0 ≤ s0.1 ∧ s0.1 < ((w64 (j1 + 12)).toNat : Int) then (if (s0.1).toNat < (s0.2).length then (ltt (s0.2.set ((s0.1).toNat) (sg seed s0.1)) fun (m_1 : List (BitVec 8)) => (ltt (w64 (s0.1 + 1)) fun (i1 : Int) => (some (.inl (i1, m_1))))) else none) else none) else none) else (some (.inr s0.2))) else (some (.inr s0.2))

def halberdlaw5_GcmTwins.b1 (s_ : Str) (t_ : Str) (k_1 : Int) (r_2 : Str × Int) (r_3 : Str × Int) (s1 : Int) : Option ((Int) ⊕ ((Unit) ⊕ (Bool))) :=
  if s1 < k_1 then (if 0 ≤ s1 ∧ s1 < ((r_2.1).length : Int) then (if 0 ≤ s1 ∧ s1 < ((r_3.1).length : Int) then (if 0 ≤ s1 ∧ s1 < ((s_).length : Int) then (if 0 ≤ s1 ∧ s1 < ((t_).length : Int) then (if ((sg r_2.1 s1) ^^^ (sg r_3.1 s1)) ≠ ((sg s_ s1) ^^^ (sg t_ s1)) then (some (.inr (.inr false))) else (some (.inl (w64 (s1 + 1))))) else none) else none) else none) else none) else (some (.inr (.inl ())))

def halberdlaw5_GcmTwins (seed : Str) (wide : Bool) (s_ : Str) (t_ : Str) : Option (Bool) :=
  (halberdlaw5_awake).bind fun (r_1 : Bool) => (if (!r_1) = true then (some false) else ((if wide = true then (some 32) else (some 16)).bind fun (j1 : Int) => (if 0 ≤ w64 (j1 + 12) ∧ w64 (j1 + 12) ≤ 17592186044416 then ((loop (halberdlaw5_GcmTwins.b0 seed j1) BIG (0, List.replicate ((w64 (j1 + 12)).toNat) 0#8)).bind fun (t_1 : List (BitVec 8)) => (if 0 ≤ j1 then (if (j1).toNat ≤ (w64 (j1 + 12)).toNat then (if (j1).toNat ≤ (t_1).length then (if 0 ≤ j1 then (if (j1).toNat ≤ (w64 (j1 + 12)).toNat then (if (w64 (j1 + 12)).toNat ≤ (t_1).length then (ltt (sub t_1 0 ((j1).toNat)) fun (key1 : Str) => (ltt (sub t_1 ((j1).toNat) ((w64 (j1 + 12)).toNat)) fun (nonce1 : Str) => (ltt (min (min ((s_).length : Int) ((t_).length : Int)) 2000) fun (k_1 : Int) => (if 0 ≤ k_1 then (if (k_1).toNat ≤ (s_).length then ((gcm_Seal key1 nonce1 ([97#8] : Str) (sub s_ 0 ((k_1).toNat))).bind fun (r_2 : Str × Int) => (if 0 ≤ k_1 then (if (k_1).toNat ≤ (t_).length then ((gcm_Seal key1 nonce1 ([98#8] : Str) (sub t_ 0 ((k_1).toNat))).bind fun (r_3 : Str × Int) => (if 0 ≤ k_1 then (if (k_1).toNat ≤ (s_).length then ((gcm_Seal key1 nonce1 ([97#8] : Str) (sub s_ 0 ((k_1).toNat))).bind fun (r_4 : Str × Int) => ((halberdlaw0_Num r_2.2).bind fun (r_5 : Int) => (if r_5 ≠ 0 then (some false) else ((halberdlaw0_Num r_3.2).bind fun (r_6 : Int) => (if r_6 ≠ 0 then (some false) else ((halberdlaw0_Num r_4.2).bind fun (r_7 : Int) => (if r_7 ≠ 0 then (some false) else (if r_2.1 ≠ r_4.1 then (some false) else (if ((r_2.1).length : Int) ≠ (w64 (k_1 + 16)) then (some false) else (if ((r_3.1).length : Int) ≠ (w64 (k_1 + 16)) then (some false) else ((loop (halberdlaw5_GcmTwins.b1 s_ t_ k_1 r_2 r_3) BIG 0).bind fun (t_2 : (Unit) ⊕ (Bool)) => (match t_2 with | .inl t_2 => (some true) | .inr rv => some rv)))))))))))) else none) else none)) else none) else none)) else none) else none)))) else none) else none) else none) else none) else none) else none)) else none)))

set_option maxHeartbeats 4000000 in
set_option maxRecDepth 20000 in
theorem F16_calls (seed : Str) (wide : Bool) (s_ : Str) (t_ : Str) (r : Bool) (H : halberdlaw5_GcmTwins seed wide s_ t_ = some r) :
    Does Try.prog 16 [vs seed, vb wide, vs s_, vs t_] [] [] (Γ := Unit) (fun g => vb r) (fun g => []) := by
  intro w hmem hro hd
  refine calls_of (N := 138) (m0 := [(0, vs seed), (1, vb wide), (2, vs s_), (3, vs t_)]) Try.func16 rfl Try.ntmps16 (argM_ok [vs seed, vb wide, vs s_, vs t_]) rfl hmem hro hd ?_
  unfold halberdlaw5_GcmTwins at H
  refine TC_seq ?_
  refine TC_region ?_
  refine TL_v rfl rfl rfl (V_assign rfl) ?_
  refine TL_nil ?_
  refine TX_next ?_
  refine TC_seq ?_
  refine TC_seq ?_
  refine TC_region ?_
  obtain ⟨r_1, hr_1, H⟩ := bind_elim H
  refine TL_e rfl rfl rfl (E_call (Γ := Unit) (val := fun g => vb r_1) (mem := fun g => []) (vs := []) (Lin := []) (Ro := []) (is := []) rfl Try.call41 (F41_calls r_1 hr_1) rfl trivial) (fun g_1 => ?_)
  refine TL_v rfl rfl rfl (V_un rfl (fun w => notB w r_1)) ?_
  refine TL_nil ?_
  refine TX_next ?_
  refine TC_cond (b := (!r_1)) rfl (fun hc => ?_) (fun hc => ?_)
  · replace H := ite_t hc H
    refine TC_seq ?_
    refine TC_region ?_
    refine TL_v rfl rfl rfl (V_assign rfl) ?_
    refine TL_nil ?_
    refine TX_next ?_
    refine TC_ret ?_
    refine TX_then_ret ?_
    have hrv := Option.some.inj H
    subst hrv
    exact TX_ret (rs := [.tmp 8]) (vs := [vb false]) rfl ⟨rfl, trivial⟩ (fun w' hs' => ⟨(), rfl, Step.left (Step.pulled (is := []) (A := []) hs' rfl)⟩)
  · replace H := ite_f (Bool.eq_false_iff.1 hc) H
    refine TC_skip ?_
    refine TX_next ?_
    refine TC_seq ?_
    refine TC_region ?_
    refine TL_v rfl rfl rfl (V_assign rfl) ?_
    refine TL_nil ?_
    refine TX_next ?_
    refine TC_seq ?_
    refine TC_seq ?_
    refine TC_region ?_
    refine TL_v rfl rfl rfl (V_move rfl) ?_
    refine TL_nil ?_
    refine TX_next ?_
    obtain ⟨j1, Hj, H⟩ := bind_elim H
    refine TC_join (Γ := Unit) (fun gj1 => [(0, vs seed), (2, vs s_), (3, vs t_), (9, vi j1)]) (fun gj1 => []) ?_ ?_
    · intro gj1
      refine TX_next ?_
      refine TC_seq ?_
      refine TC_region ?_
      refine TL_v rfl rfl rfl (V_move rfl) ?_
      refine TL_v rfl rfl rfl (V_bin rfl rfl (fun w => addI w j1 12)) ?_
      obtain ⟨h1, H⟩ := if_elim H
      refine TL_e rfl rfl rfl (E_mk1 rfl rfl Try.underlying30 TryI.inf5 (z := v8 0#8) rfl rfl rfl (B := 1) rfl h1.1 (Int.le_refl _) (by have := h1; omega) (by have := h1; omega) (n' := (w64 (j1 + 12)).toNat) (c' := (w64 (j1 + 12)).toNat) rfl rfl (cs := e8 (List.replicate ((w64 (j1 + 12)).toNat) 0#8)) (rep_map (f := v8))) (fun b1 => ?_)
      refine TL_v rfl rfl rfl (V_assign rfl) ?_
      refine TL_nil ?_
      refine TX_next ?_
      refine TC_seq ?_
      refine TC_seq ?_
      refine TC_region ?_
      refine TL_v rfl rfl rfl (V_assign rfl) ?_
      refine TL_nil ?_
      refine TX_next ?_
      refine TC_block ?_
      obtain ⟨t_1, Hl, H⟩ := bind_elim H
      refine TC.sub (m' := [(0, vs seed), (2, vs s_), (3, vs t_), (9, vi j1), (10, sl (some (b1, 0)) ((w64 (j1 + 12)).toNat) ((w64 (j1 + 12)).toNat)), (11, vi 0)]) ⟨rfl, rfl, rfl, rfl, rfl, rfl, trivial⟩ ?_
      refine TC.pull (is := [0]) (L' := [⟨some (b1, 0), e8 (List.replicate ((w64 (j1 + 12)).toNat) 0#8)⟩]) rfl ?_
      refine TC_loopL (id := 0) (body := (halberdlaw5_GcmTwins.b0 seed j1)) (σ := Int × List (BitVec 8)) (Γ := Unit) (Γx := Unit) (fun s0 g0_ => [(0, vs seed), (2, vs s_), (3, vs t_), (9, vi j1), (10, sl (some (b1, 0)) ((w64 (j1 + 12)).toNat) ((w64 (j1 + 12)).toNat)), (11, vi s0.1)]) (fun s0 g0_ => [⟨some (b1, 0), e8 s0.2⟩]) (fun t g => [(2, vs s_), (3, vs t_), (9, vi j1), (10, sl (some (b1, 0)) ((w64 (j1 + 12)).toNat) ((w64 (j1 + 12)).toNat))]) (fun t g => [⟨some (b1, 0), e8 t⟩]) ?_ BIG (0, List.replicate ((w64 (j1 + 12)).toNat) 0#8) () t_1 Hl ?_
      · intro s0 g0_ r1 H K hK hE
        unfold halberdlaw5_GcmTwins.b0 at H
        refine TC_seq ?_
        refine TC_seq ?_
        refine TC_region ?_
        refine TL_v rfl rfl rfl (V_move rfl) ?_
        refine TL_v rfl rfl rfl (V_move rfl) ?_
        refine TL_v rfl rfl rfl (V_len_slice rfl Try.underlying30) ?_
        refine TL_v rfl rfl rfl (V_bin rfl rfl (fun w => lssI w s0.1 ((w64 (j1 + 12)).toNat : Int))) ?_
        refine TL_v rfl rfl rfl (V_move rfl) ?_
        refine TL_fork (d := 32) (b := (decide (s0.1 < ((w64 (j1 + 12)).toNat : Int)))) rfl (fun hc => ?_) (fun hc => ?_)
        · replace H := ite_t (of_decide_eq_true hc) H
          refine TL_want rfl rfl rfl rfl rfl rfl (V_move rfl) ?_
          refine TL_want rfl rfl rfl rfl rfl rfl (V_move rfl) ?_
          refine TL_want rfl rfl rfl rfl rfl rfl (V_len_str rfl Try.underlying9) ?_
          refine TL_want rfl rfl rfl rfl rfl rfl (V_bin rfl rfl (fun w => lssI w s0.1 ((seed).length : Int))) ?_
          refine TL_v rfl rfl rfl (V_pick (b := true) rfl rfl) ?_
          refine TL_nil ?_
          refine TX_next ?_
          refine TC_cond (b := (decide (s0.1 < ((seed).length : Int)))) rfl (fun hc => ?_) (fun hc => ?_)
          · replace H := ite_t (of_decide_eq_true hc) H
            refine TC_skip ?_
            refine TX_next ?_
            refine TC_seq ?_
            refine TC_block ?_
            refine TC_region ?_
            refine TL_v rfl rfl rfl (V_move rfl) ?_
            refine TL_v rfl rfl rfl (V_move rfl) ?_
            refine TL_v rfl rfl rfl (V_move rfl) ?_
            refine TL_v rfl rfl rfl (V_move rfl) ?_
            obtain ⟨h2, H⟩ := if_elim H
            refine TL_v rfl rfl rfl (V_idxStr rfl rfl (i := s0.1) Try.underlying9 h2.1 h2.2) ?_
            obtain ⟨h3, H⟩ := if_elim H
            obtain ⟨h4, H⟩ := if_elim H
            refine TL_v rfl rfl rfl (V_idxSl (i := s0.1) rfl rfl Try.underlying30 TryI.inf5 rfl (fun _ h => by cases h) h3.1 h3.2 (k := (s0.1).toNat) (km1 _)) ?_
            refine TL_n rfl rfl (E_store (j := 0) rfl rfl TryI.inf5 rfl rfl rfl (by simpa using h4) (cs' := e8 (s0.2.set ((s0.1).toNat) (sg seed s0.1))) (set_map (f := v8) (l := s0.2) (k := ((s0.1).toNat)) (x := (sg seed s0.1)))) (fun _ => ?_)
            obtain ⟨m_1, hm_1, H⟩ := ltt_elim H
            refine TL_reE (j := 0) (A := some (b1, 0)) (cs := e8 (s0.2.set ((s0.1).toNat) (sg seed s0.1))) (cs' := e8 m_1) rfl (congrArg (e8) hm_1) ?_
            refine TL_nil ?_
            refine TX_block_normal ?_
            refine TX_next ?_
            refine TC_region ?_
            refine TL_v rfl rfl rfl (V_move rfl) ?_
            refine TL_v rfl rfl rfl (V_bin rfl rfl (fun w => addI w s0.1 1)) ?_
            refine TL_v rfl rfl rfl (V_assign rfl) ?_
            obtain ⟨i1, hi1, H⟩ := ltt_elim H
            refine TL_re (d := 11) (v := vi (w64 (s0.1 + 1))) (v' := vi i1) rfl (congrArg vi hi1) ?_
            refine TL_nil ?_
            refine TX.sub (m' := [(0, vs seed), (2, vs s_), (3, vs t_), (9, vi j1), (10, sl (some (b1, 0)) ((w64 (j1 + 12)).toNat) ((w64 (j1 + 12)).toNat)), (11, vi i1)]) ⟨rfl, rfl, rfl, rfl, rfl, rfl, trivial⟩ ?_
            refine TX.pull (is := [0]) (L' := [⟨some (b1, 0), e8 m_1⟩]) rfl ?_
            obtain rfl := Option.some.inj H
            exact fun a w hs => hK (i1, m_1) rfl () a w hs
          · replace H := ite_f (of_decide_eq_false hc) H
            refine TC_exit ?_
            refine TX_then_exit ?_
            refine TX_then_exit ?_
            refine TX.sub (m' := [(2, vs s_), (3, vs t_), (9, vi j1), (10, sl (some (b1, 0)) ((w64 (j1 + 12)).toNat) ((w64 (j1 + 12)).toNat))]) ⟨rfl, rfl, rfl, rfl, trivial⟩ ?_
            refine TX.pull (is := [0]) (L' := [⟨some (b1, 0), e8 s0.2⟩]) rfl ?_
            obtain rfl := Option.some.inj H
            exact hE s0.2 rfl ()
        · replace H := ite_f (of_decide_eq_false hc) H
          refine TL_skip rfl rfl rfl rfl rfl rfl rfl ?_
          refine TL_skip rfl rfl rfl rfl rfl rfl rfl ?_
          refine TL_skip rfl rfl rfl rfl rfl rfl rfl ?_
          refine TL_skip rfl rfl rfl rfl rfl rfl rfl ?_
          refine TL_v rfl rfl rfl (V_pick (b := false) rfl rfl) ?_
          refine TL_nil ?_
          refine TX_next ?_
          refine TC_cond_f rfl ?_
          refine TC_exit ?_
          refine TX_then_exit ?_
          refine TX_then_exit ?_
          refine TX.sub (m' := [(2, vs s_), (3, vs t_), (9, vi j1), (10, sl (some (b1, 0)) ((w64 (j1 + 12)).toNat) ((w64 (j1 + 12)).toNat))]) ⟨rfl, rfl, rfl, rfl, trivial⟩ ?_
          refine TX.pull (is := [0]) (L' := [⟨some (b1, 0), e8 s0.2⟩]) rfl ?_
          obtain rfl := Option.some.inj H
          exact hE s0.2 rfl ()
      · intro g
        refine TX_block_exit ?_
        refine TX_next ?_
        refine TC_seq ?_
        obtain ⟨h5, H⟩ := if_elim H
        obtain ⟨h6, H⟩ := if_elim H
        obtain ⟨h7, H⟩ := if_elim H
        obtain ⟨h8, H⟩ := if_elim H
        obtain ⟨h9, H⟩ := if_elim H
        obtain ⟨h10, H⟩ := if_elim H
        obtain ⟨key1, hkey1, H⟩ := ltt_elim H
        obtain ⟨nonce1, hnonce1, H⟩ := ltt_elim H
        refine TA_begin [⟨some (b1, 0), e8 t_1⟩] 10 (by kernel_rfl) (N := 10) rfl ?_
        refine TA_take (i := 0) (is := [0]) (done' := #[true, false, false, false, false, false, false, false, false, false]) rfl rfl rfl rfl (by kernel_rfl) (QP.then QP.body) (by kernel_rfl) rfl (V_move rfl) ?_
        refine TA_take (i := 1) (is := [0]) (done' := #[true, true, false, false, false, false, false, false, false, false]) rfl rfl rfl rfl (by kernel_rfl) (QP.then QP.body) (by kernel_rfl) rfl (V_move rfl) ?_
        refine TA_take (i := 2) (is := [0]) (done' := #[true, true, true, false, false, false, false, false, false, false]) rfl rfl rfl rfl (by kernel_rfl) (QP.then QP.body) (by kernel_rfl) rfl (V_sliceVw0 (l := 0) (h := (j1).toNat) rfl Try.underlying30 TryI.inf5 rfl Bnd.none' (Bnd.some' (i := j1) rfl h5) (Nat.zero_le _) h6) ?_
        refine TA_take (i := 3) (is := [0]) (done' := #[true, true, true, true, false, false, false, false, false, false]) rfl rfl rfl rfl (by kernel_rfl) (QP.then QP.body) (by kernel_rfl) rfl (V_b2s rfl Try.underlying30 Try.underlying5 Try.underlying9 (srcVw (lst := t_1) (Src.own (j := 0) rfl) h6) (sub_length h7)) ?_
        refine TA_take (i := 4) (is := [0]) (done' := #[true, true, true, true, true, false, false, false, false, false]) rfl rfl rfl rfl (by kernel_rfl) (QP.then QP.body) (by kernel_rfl) rfl (V_move rfl) ?_
        refine TA_take (i := 5) (is := [0]) (done' := #[true, true, true, true, true, true, false, false, false, false]) rfl rfl rfl rfl (by kernel_rfl) (QP.then QP.body) (by kernel_rfl) rfl (V_move rfl) ?_
        refine TA_take (i := 6) (is := [0]) (done' := #[true, true, true, true, true, true, true, false, false, false]) rfl rfl rfl rfl (by kernel_rfl) (QP.then QP.body) (by kernel_rfl) rfl (V_sliceVw0 (l := (j1).toNat) (h := (w64 (j1 + 12)).toNat) rfl Try.underlying30 TryI.inf5 rfl (Bnd.some' (i := j1) rfl h8) Bnd.none' h9 (Nat.le_refl _)) ?_
        refine TA_take (i := 7) (is := [0]) (done' := #[true, true, true, true, true, true, true, true, false, false]) rfl rfl rfl rfl (by kernel_rfl) (QP.then QP.body) (by kernel_rfl) rfl (V_b2s rfl Try.underlying30 Try.underlying5 Try.underlying9 (srcVw (lst := t_1) (Src.own (j := 0) rfl) (Nat.le_refl _)) (sub_length h10)) ?_
        refine TA_take (i := 8) (is := [0]) (done' := #[true, true, true, true, true, true, true, true, true, false]) rfl rfl rfl rfl (by kernel_rfl) (QP.then QP.body) (by kernel_rfl) rfl (V_assign rfl) ?_
        refine TA_re (d := 12) (v := vs (sub t_1 0 ((j1).toNat))) (v' := vs key1) rfl (congrArg vs hkey1) ?_
        refine TA_take (i := 9) (is := [0]) (done' := #[true, true, true, true, true, true, true, true, true, true]) rfl rfl rfl rfl (by kernel_rfl) (QP.then QP.body) (by kernel_rfl) rfl (V_assign rfl) ?_
        refine TA_re (d := 13) (v := vs (sub t_1 ((j1).toNat) ((w64 (j1 + 12)).toNat))) (v' := vs nonce1) rfl (congrArg vs hnonce1) ?_
        refine TA_done (by kernel_rfl) ?_ 0
        refine TX_next ?_
        refine TC_seq ?_
        refine TC_region ?_
        refine TL_v rfl rfl rfl (V_move rfl) ?_
        refine TL_v rfl rfl rfl (V_len_str rfl Try.underlying9) ?_
        refine TL_v rfl rfl rfl (V_move rfl) ?_
        refine TL_v rfl rfl rfl (V_len_str rfl Try.underlying9) ?_
        refine TL_v rfl rfl rfl (V_min3 rfl rfl rfl) ?_
        refine TL_v rfl rfl rfl (V_assign rfl) ?_
        obtain ⟨k_1, hk_1, H⟩ := ltt_elim H
        refine TL_re (d := 14) (v := vi (min (min ((s_).length : Int) ((t_).length : Int)) 2000)) (v' := vi k_1) rfl (congrArg vi hk_1) ?_
        refine TL_nil ?_
        refine TX_next ?_
        refine TC_seq ?_
        refine TC_region ?_
        refine TL_v rfl rfl rfl (V_move rfl) ?_
        refine TL_v rfl rfl rfl (V_move rfl) ?_
        refine TL_v rfl rfl rfl (V_move rfl) ?_
        refine TL_v rfl rfl rfl (V_move rfl) ?_
        obtain ⟨h11, H⟩ := if_elim H
        obtain ⟨h12, H⟩ := if_elim H
        refine TL_v rfl rfl rfl (V_sliceStr (l := 0) (h := (k_1).toNat) rfl Try.underlying9 Bnd.none' (Bnd.some' (i := k_1) rfl h11) (Nat.zero_le _) h12) ?_
        obtain ⟨r_2, hr_2, H⟩ := bind_elim H
        refine TL_e rfl rfl rfl (E_call (Γ := Unit) (val := fun g => Value.tuple [vs r_2.1, vi r_2.2].toArray) (mem := fun g => []) (vs := [vs key1, vs nonce1, vs ([97#8] : Str), vs (sub s_ 0 ((k_1).toNat))]) (Lin := []) (Ro := []) (is := []) rfl Try.call35 (F35_calls key1 nonce1 ([97#8] : Str) (sub s_ 0 ((k_1).toNat)) r_2 hr_2) rfl trivial) (fun g_2 => ?_)
        refine TL_v rfl rfl rfl (V_move rfl) ?_
        refine TL_v rfl rfl rfl (V_extract (vs := [vs r_2.1, vi r_2.2]) rfl rfl) ?_
        refine TL_v rfl rfl rfl (V_extract (vs := [vs r_2.1, vi r_2.2]) rfl rfl) ?_
        refine TL_v rfl rfl rfl (V_assign rfl) ?_
        refine TL_v rfl rfl rfl (V_assign rfl) ?_
        refine TL_nil ?_
        refine TX_next ?_
        refine TC.sub (m' := [(2, vs s_), (3, vs t_), (12, vs key1), (13, vs nonce1), (14, vi k_1), (15, vs r_2.1), (16, vi r_2.2)]) ⟨rfl, rfl, rfl, rfl, rfl, rfl, rfl, trivial⟩ ?_
        refine TC_seq ?_
        refine TC_region ?_
        refine TL_v rfl rfl rfl (V_move rfl) ?_
        refine TL_v rfl rfl rfl (V_move rfl) ?_
        refine TL_v rfl rfl rfl (V_move rfl) ?_
        refine TL_v rfl rfl rfl (V_move rfl) ?_
        obtain ⟨h13, H⟩ := if_elim H
        obtain ⟨h14, H⟩ := if_elim H
        refine TL_v rfl rfl rfl (V_sliceStr (l := 0) (h := (k_1).toNat) rfl Try.underlying9 Bnd.none' (Bnd.some' (i := k_1) rfl h13) (Nat.zero_le _) h14) ?_
        obtain ⟨r_3, hr_3, H⟩ := bind_elim H
        refine TL_e rfl rfl rfl (E_call (Γ := Unit) (val := fun g => Value.tuple [vs r_3.1, vi r_3.2].toArray) (mem := fun g => []) (vs := [vs key1, vs nonce1, vs ([98#8] : Str), vs (sub t_ 0 ((k_1).toNat))]) (Lin := []) (Ro := []) (is := []) rfl Try.call35 (F35_calls key1 nonce1 ([98#8] : Str) (sub t_ 0 ((k_1).toNat)) r_3 hr_3) rfl trivial) (fun g_3 => ?_)
        refine TL_v rfl rfl rfl (V_move rfl) ?_
        refine TL_v rfl rfl rfl (V_extract (vs := [vs r_3.1, vi r_3.2]) rfl rfl) ?_
        refine TL_v rfl rfl rfl (V_extract (vs := [vs r_3.1, vi r_3.2]) rfl rfl) ?_
        refine TL_v rfl rfl rfl (V_assign rfl) ?_
        refine TL_v rfl rfl rfl (V_assign rfl) ?_
        refine TL_nil ?_
        refine TX_next ?_
        refine TC_seq ?_
        refine TC_region ?_
        refine TL_v rfl rfl rfl (V_move rfl) ?_
        refine TL_v rfl rfl rfl (V_move rfl) ?_
        refine TL_v rfl rfl rfl (V_move rfl) ?_
        refine TL_v rfl rfl rfl (V_move rfl) ?_
        obtain ⟨h15, H⟩ := if_elim H
        obtain ⟨h16, H⟩ := if_elim H
        refine TL_v rfl rfl rfl (V_sliceStr (l := 0) (h := (k_1).toNat) rfl Try.underlying9 Bnd.none' (Bnd.some' (i := k_1) rfl h15) (Nat.zero_le _) h16) ?_
        obtain ⟨r_4, hr_4, H⟩ := bind_elim H
        refine TL_e rfl rfl rfl (E_call (Γ := Unit) (val := fun g => Value.tuple [vs r_4.1, vi r_4.2].toArray) (mem := fun g => []) (vs := [vs key1, vs nonce1, vs ([97#8] : Str), vs (sub s_ 0 ((k_1).toNat))]) (Lin := []) (Ro := []) (is := []) rfl Try.call35 (F35_calls key1 nonce1 ([97#8] : Str) (sub s_ 0 ((k_1).toNat)) r_4 hr_4) rfl trivial) (fun g_4 => ?_)
        refine TL_v rfl rfl rfl (V_move rfl) ?_
        refine TL_v rfl rfl rfl (V_extract (vs := [vs r_4.1, vi r_4.2]) rfl rfl) ?_
        refine TL_v rfl rfl rfl (V_extract (vs := [vs r_4.1, vi r_4.2]) rfl rfl) ?_
        refine TL_v rfl rfl rfl (V_assign rfl) ?_
        refine TL_v rfl rfl rfl (V_assign rfl) ?_
        refine TL_nil ?_
        refine TX_next ?_
        refine TC_seq ?_
        refine TC_seq ?_
        refine TC_region ?_
        refine TL_v rfl rfl rfl (V_move rfl) ?_
        obtain ⟨r_5, hr_5, H⟩ := bind_elim H
        refine TL_e rfl rfl rfl (E_call (Γ := Unit) (val := fun g => vi r_5) (mem := fun g => []) (vs := [vi r_2.2]) (Lin := []) (Ro := []) (is := []) rfl Try.call25 (F25_calls r_2.2 r_5 hr_5) rfl trivial) (fun g_5 => ?_)
        refine TL_v rfl rfl rfl (V_bin rfl rfl (fun w => neqI w r_5 0)) ?_
        refine TL_v rfl rfl rfl (V_move rfl) ?_
        refine TL_fork (d := 89) (b := (decide (r_5 ≠ 0))) rfl (fun hc => ?_) (fun hc => ?_)
        · replace H := ite_t (of_decide_eq_true hc) H
          refine TL_skip rfl rfl rfl rfl rfl rfl rfl ?_
          refine TL_skip rfl rfl rfl rfl rfl rfl rfl ?_
          refine TL_skip rfl rfl rfl rfl rfl rfl rfl ?_
          refine TL_v rfl rfl rfl (V_pick (b := true) rfl rfl) ?_
          refine TL_v rfl rfl rfl (V_move rfl) ?_
          refine TL_skip rfl rfl rfl rfl rfl rfl rfl ?_
          refine TL_skip rfl rfl rfl rfl rfl rfl rfl ?_
          refine TL_skip rfl rfl rfl rfl rfl rfl rfl ?_
          refine TL_v rfl rfl rfl (V_pick (b := true) rfl rfl) ?_
          refine TL_v rfl rfl rfl (V_move rfl) ?_
          refine TL_skip rfl rfl rfl rfl rfl rfl rfl ?_
          refine TL_skip rfl rfl rfl rfl rfl rfl rfl ?_
          refine TL_skip rfl rfl rfl rfl rfl rfl rfl ?_
          refine TL_v rfl rfl rfl (V_pick (b := true) rfl rfl) ?_
          refine TL_v rfl rfl rfl (V_move rfl) ?_
          refine TL_skip rfl rfl rfl rfl rfl rfl rfl ?_
          refine TL_skip rfl rfl rfl rfl rfl rfl rfl ?_
          refine TL_skip rfl rfl rfl rfl rfl rfl rfl ?_
          refine TL_skip rfl rfl rfl rfl rfl rfl rfl ?_
          refine TL_skip rfl rfl rfl rfl rfl rfl rfl ?_
          refine TL_v rfl rfl rfl (V_pick (b := true) rfl rfl) ?_
          refine TL_v rfl rfl rfl (V_move rfl) ?_
          refine TL_skip rfl rfl rfl rfl rfl rfl rfl ?_
          refine TL_skip rfl rfl rfl rfl rfl rfl rfl ?_
          refine TL_skip rfl rfl rfl rfl rfl rfl rfl ?_
          refine TL_skip rfl rfl rfl rfl rfl rfl rfl ?_
          refine TL_skip rfl rfl rfl rfl rfl rfl rfl ?_
          refine TL_v rfl rfl rfl (V_pick (b := true) rfl rfl) ?_
          refine TL_nil ?_
          refine TX_next ?_
          refine TC.sub (m' := [(2, vs s_), (3, vs t_), (14, vi k_1), (15, vs r_2.1), (17, vs r_3.1), (117, vb true)]) ⟨rfl, rfl, rfl, rfl, rfl, rfl, trivial⟩ ?_
          refine TC_cond_t rfl ?_
          refine TC_seq ?_
          refine TC_region ?_
          refine TL_v rfl rfl rfl (V_assign rfl) ?_
          refine TL_nil ?_
          refine TX_next ?_
          refine TC_ret ?_
          refine TX_then_ret ?_
          have hrv := Option.some.inj H
          subst hrv
          exact TX_ret (rs := [.tmp 8]) (vs := [vb false]) rfl ⟨rfl, trivial⟩ (fun w' hs' => ⟨(), rfl, Step.left (Step.pulled (is := []) (A := []) hs' rfl)⟩)
        · replace H := ite_f (of_decide_eq_false hc) H
          refine TL_want rfl rfl rfl rfl rfl rfl (V_move rfl) ?_
          obtain ⟨r_6, hr_6, H⟩ := bind_elim H
          refine TL_wantE rfl rfl rfl rfl rfl rfl (E_call (Γ := Unit) (val := fun g => vi r_6) (mem := fun g => []) (vs := [vi r_3.2]) (Lin := []) (Ro := []) (is := []) rfl Try.call25 (F25_calls r_3.2 r_6 hr_6) rfl trivial) (fun g_6 => ?_)
          refine TL_want rfl rfl rfl rfl rfl rfl (V_bin rfl rfl (fun w => neqI w r_6 0)) ?_
          refine TL_v rfl rfl rfl (V_pick (b := false) rfl rfl) ?_
          refine TL_v rfl rfl rfl (V_move rfl) ?_
          refine TL_fork (d := 94) (b := (decide (r_6 ≠ 0))) rfl (fun hc => ?_) (fun hc => ?_)
          · replace H := ite_t (of_decide_eq_true hc) H
            refine TL_skip rfl rfl rfl rfl rfl rfl rfl ?_
            refine TL_skip rfl rfl rfl rfl rfl rfl rfl ?_
            refine TL_skip rfl rfl rfl rfl rfl rfl rfl ?_
            refine TL_v rfl rfl rfl (V_pick (b := true) rfl rfl) ?_
            refine TL_v rfl rfl rfl (V_move rfl) ?_
            refine TL_skip rfl rfl rfl rfl rfl rfl rfl ?_
            refine TL_skip rfl rfl rfl rfl rfl rfl rfl ?_
            refine TL_skip rfl rfl rfl rfl rfl rfl rfl ?_
            refine TL_v rfl rfl rfl (V_pick (b := true) rfl rfl) ?_
            refine TL_v rfl rfl rfl (V_move rfl) ?_
            refine TL_skip rfl rfl rfl rfl rfl rfl rfl ?_
            refine TL_skip rfl rfl rfl rfl rfl rfl rfl ?_
            refine TL_skip rfl rfl rfl rfl rfl rfl rfl ?_
            refine TL_skip rfl rfl rfl rfl rfl rfl rfl ?_
            refine TL_skip rfl rfl rfl rfl rfl rfl rfl ?_
            refine TL_v rfl rfl rfl (V_pick (b := true) rfl rfl) ?_
            refine TL_v rfl rfl rfl (V_move rfl) ?_
            refine TL_skip rfl rfl rfl rfl rfl rfl rfl ?_
            refine TL_skip rfl rfl rfl rfl rfl rfl rfl ?_
            refine TL_skip rfl rfl rfl rfl rfl rfl rfl ?_
            refine TL_skip rfl rfl rfl rfl rfl rfl rfl ?_
            refine TL_skip rfl rfl rfl rfl rfl rfl rfl ?_
            refine TL_v rfl rfl rfl (V_pick (b := true) rfl rfl) ?_
            refine TL_nil ?_
            refine TX_next ?_
            refine TC.sub (m' := [(2, vs s_), (3, vs t_), (14, vi k_1), (15, vs r_2.1), (17, vs r_3.1), (117, vb true)]) ⟨rfl, rfl, rfl, rfl, rfl, rfl, trivial⟩ ?_
            refine TC_cond_t rfl ?_
            refine TC_seq ?_
            refine TC_region ?_
            refine TL_v rfl rfl rfl (V_assign rfl) ?_
            refine TL_nil ?_
            refine TX_next ?_
            refine TC_ret ?_
            refine TX_then_ret ?_
            have hrv := Option.some.inj H
            subst hrv
            exact TX_ret (rs := [.tmp 8]) (vs := [vb false]) rfl ⟨rfl, trivial⟩ (fun w' hs' => ⟨(), rfl, Step.left (Step.pulled (is := []) (A := []) hs' rfl)⟩)
          · replace H := ite_f (of_decide_eq_false hc) H
            refine TL_want rfl rfl rfl rfl rfl rfl (V_move rfl) ?_
            obtain ⟨r_7, hr_7, H⟩ := bind_elim H
            refine TL_wantE rfl rfl rfl rfl rfl rfl (E_call (Γ := Unit) (val := fun g => vi r_7) (mem := fun g => []) (vs := [vi r_4.2]) (Lin := []) (Ro := []) (is := []) rfl Try.call25 (F25_calls r_4.2 r_7 hr_7) rfl trivial) (fun g_7 => ?_)
            refine TL_want rfl rfl rfl rfl rfl rfl (V_bin rfl rfl (fun w => neqI w r_7 0)) ?_
            refine TL_v rfl rfl rfl (V_pick (b := false) rfl rfl) ?_
            refine TL_v rfl rfl rfl (V_move rfl) ?_
            refine TL_fork (d := 99) (b := (decide (r_7 ≠ 0))) rfl (fun hc => ?_) (fun hc => ?_)
            · replace H := ite_t (of_decide_eq_true hc) H
              refine TL_skip rfl rfl rfl rfl rfl rfl rfl ?_
              refine TL_skip rfl rfl rfl rfl rfl rfl rfl ?_
              refine TL_skip rfl rfl rfl rfl rfl rfl rfl ?_
              refine TL_v rfl rfl rfl (V_pick (b := true) rfl rfl) ?_
              refine TL_v rfl rfl rfl (V_move rfl) ?_
              refine TL_skip rfl rfl rfl rfl rfl rfl rfl ?_
              refine TL_skip rfl rfl rfl rfl rfl rfl rfl ?_
              refine TL_skip rfl rfl rfl rfl rfl rfl rfl ?_
              refine TL_skip rfl rfl rfl rfl rfl rfl rfl ?_
              refine TL_skip rfl rfl rfl rfl rfl rfl rfl ?_
              refine TL_v rfl rfl rfl (V_pick (b := true) rfl rfl) ?_
              refine TL_v rfl rfl rfl (V_move rfl) ?_
              refine TL_skip rfl rfl rfl rfl rfl rfl rfl ?_
              refine TL_skip rfl rfl rfl rfl rfl rfl rfl ?_
              refine TL_skip rfl rfl rfl rfl rfl rfl rfl ?_
              refine TL_skip rfl rfl rfl rfl rfl rfl rfl ?_
              refine TL_skip rfl rfl rfl rfl rfl rfl rfl ?_
              refine TL_v rfl rfl rfl (V_pick (b := true) rfl rfl) ?_
              refine TL_nil ?_
              refine TX_next ?_
              refine TC.sub (m' := [(2, vs s_), (3, vs t_), (14, vi k_1), (15, vs r_2.1), (17, vs r_3.1), (117, vb true)]) ⟨rfl, rfl, rfl, rfl, rfl, rfl, trivial⟩ ?_
              refine TC_cond_t rfl ?_
              refine TC_seq ?_
              refine TC_region ?_
              refine TL_v rfl rfl rfl (V_assign rfl) ?_
              refine TL_nil ?_
              refine TX_next ?_
              refine TC_ret ?_
              refine TX_then_ret ?_
              have hrv := Option.some.inj H
              subst hrv
              exact TX_ret (rs := [.tmp 8]) (vs := [vb false]) rfl ⟨rfl, trivial⟩ (fun w' hs' => ⟨(), rfl, Step.left (Step.pulled (is := []) (A := []) hs' rfl)⟩)
            · replace H := ite_f (of_decide_eq_false hc) H
              refine TL_want rfl rfl rfl rfl rfl rfl (V_move rfl) ?_
              refine TL_want rfl rfl rfl rfl rfl rfl (V_move rfl) ?_
              refine TL_want rfl rfl rfl rfl rfl rfl (V_bin rfl rfl (fun w => neqS w r_2.1 r_4.1)) ?_
              refine TL_v rfl rfl rfl (V_pick (b := false) rfl rfl) ?_
              refine TL_v rfl rfl rfl (V_move rfl) ?_
              refine TL_fork (d := 104) (b := (decide (r_2.1 ≠ r_4.1))) rfl (fun hc => ?_) (fun hc => ?_)
              · replace H := ite_t (of_decide_eq_true hc) H
                refine TL_skip rfl rfl rfl rfl rfl rfl rfl ?_
                refine TL_skip rfl rfl rfl rfl rfl rfl rfl ?_
                refine TL_skip rfl rfl rfl rfl rfl rfl rfl ?_
                refine TL_skip rfl rfl rfl rfl rfl rfl rfl ?_
                refine TL_skip rfl rfl rfl rfl rfl rfl rfl ?_
                refine TL_v rfl rfl rfl (V_pick (b := true) rfl rfl) ?_
                refine TL_v rfl rfl rfl (V_move rfl) ?_
                refine TL_skip rfl rfl rfl rfl rfl rfl rfl ?_
                refine TL_skip rfl rfl rfl rfl rfl rfl rfl ?_
                refine TL_skip rfl rfl rfl rfl rfl rfl rfl ?_
                refine TL_skip rfl rfl rfl rfl rfl rfl rfl ?_
                refine TL_skip rfl rfl rfl rfl rfl rfl rfl ?_
                refine TL_v rfl rfl rfl (V_pick (b := true) rfl rfl) ?_
                refine TL_nil ?_
                refine TX_next ?_
                refine TC.sub (m' := [(2, vs s_), (3, vs t_), (14, vi k_1), (15, vs r_2.1), (17, vs r_3.1), (117, vb true)]) ⟨rfl, rfl, rfl, rfl, rfl, rfl, trivial⟩ ?_
                refine TC_cond_t rfl ?_
                refine TC_seq ?_
                refine TC_region ?_
                refine TL_v rfl rfl rfl (V_assign rfl) ?_
                refine TL_nil ?_
                refine TX_next ?_
                refine TC_ret ?_
                refine TX_then_ret ?_
                have hrv := Option.some.inj H
                subst hrv
                exact TX_ret (rs := [.tmp 8]) (vs := [vb false]) rfl ⟨rfl, trivial⟩ (fun w' hs' => ⟨(), rfl, Step.left (Step.pulled (is := []) (A := []) hs' rfl)⟩)
              · replace H := ite_f (of_decide_eq_false hc) H
                refine TL_want rfl rfl rfl rfl rfl rfl (V_move rfl) ?_
                refine TL_want rfl rfl rfl rfl rfl rfl (V_len_str rfl Try.underlying9) ?_
                refine TL_want rfl rfl rfl rfl rfl rfl (V_move rfl) ?_
                refine TL_want rfl rfl rfl rfl rfl rfl (V_bin rfl rfl (fun w => addI w k_1 16)) ?_
                refine TL_want rfl rfl rfl rfl rfl rfl (V_bin rfl rfl (fun w => neqI w ((r_2.1).length : Int) (w64 (k_1 + 16)))) ?_
                refine TL_v rfl rfl rfl (V_pick (b := false) rfl rfl) ?_
                refine TL_v rfl rfl rfl (V_move rfl) ?_
                refine TL_fork (d := 111) (b := (decide (((r_2.1).length : Int) ≠ (w64 (k_1 + 16))))) rfl (fun hc => ?_) (fun hc => ?_)
                · replace H := ite_t (of_decide_eq_true hc) H
                  refine TL_skip rfl rfl rfl rfl rfl rfl rfl ?_
                  refine TL_skip rfl rfl rfl rfl rfl rfl rfl ?_
                  refine TL_skip rfl rfl rfl rfl rfl rfl rfl ?_
                  refine TL_skip rfl rfl rfl rfl rfl rfl rfl ?_
                  refine TL_skip rfl rfl rfl rfl rfl rfl rfl ?_
                  refine TL_v rfl rfl rfl (V_pick (b := true) rfl rfl) ?_
                  refine TL_nil ?_
                  refine TX_next ?_
                  refine TC.sub (m' := [(2, vs s_), (3, vs t_), (14, vi k_1), (15, vs r_2.1), (17, vs r_3.1), (117, vb true)]) ⟨rfl, rfl, rfl, rfl, rfl, rfl, trivial⟩ ?_
                  refine TC_cond_t rfl ?_
                  refine TC_seq ?_
                  refine TC_region ?_
                  refine TL_v rfl rfl rfl (V_assign rfl) ?_
                  refine TL_nil ?_
                  refine TX_next ?_
                  refine TC_ret ?_
                  refine TX_then_ret ?_
                  have hrv := Option.some.inj H
                  subst hrv
                  exact TX_ret (rs := [.tmp 8]) (vs := [vb false]) rfl ⟨rfl, trivial⟩ (fun w' hs' => ⟨(), rfl, Step.left (Step.pulled (is := []) (A := []) hs' rfl)⟩)
                · replace H := ite_f (of_decide_eq_false hc) H
                  refine TL_want rfl rfl rfl rfl rfl rfl (V_move rfl) ?_
                  refine TL_want rfl rfl rfl rfl rfl rfl (V_len_str rfl Try.underlying9) ?_
                  refine TL_want rfl rfl rfl rfl rfl rfl (V_move rfl) ?_
                  refine TL_want rfl rfl rfl rfl rfl rfl (V_bin rfl rfl (fun w => addI w k_1 16)) ?_
                  refine TL_want rfl rfl rfl rfl rfl rfl (V_bin rfl rfl (fun w => neqI w ((r_3.1).length : Int) (w64 (k_1 + 16)))) ?_
                  refine TL_v rfl rfl rfl (V_pick (b := false) rfl rfl) ?_
                  refine TL_nil ?_
                  refine TX_next ?_
                  refine TC.sub (m' := [(2, vs s_), (3, vs t_), (14, vi k_1), (15, vs r_2.1), (17, vs r_3.1), (117, vb (decide (((r_3.1).length : Int) ≠ (w64 (k_1 + 16)))))]) ⟨rfl, rfl, rfl, rfl, rfl, rfl, trivial⟩ ?_
                  refine TC_cond (b := (decide (((r_3.1).length : Int) ≠ (w64 (k_1 + 16))))) rfl (fun hc => ?_) (fun hc => ?_)
                  · replace H := ite_t (of_decide_eq_true hc) H
                    refine TC_seq ?_
                    refine TC_region ?_
                    refine TL_v rfl rfl rfl (V_assign rfl) ?_
                    refine TL_nil ?_
                    refine TX_next ?_
                    refine TC_ret ?_
                    refine TX_then_ret ?_
                    have hrv := Option.some.inj H
                    subst hrv
                    exact TX_ret (rs := [.tmp 8]) (vs := [vb false]) rfl ⟨rfl, trivial⟩ (fun w' hs' => ⟨(), rfl, Step.left (Step.pulled (is := []) (A := []) hs' rfl)⟩)
                  · replace H := ite_f (of_decide_eq_false hc) H
                    refine TC_skip ?_
                    refine TX_next ?_
                    refine TC_seq ?_
                    refine TC_seq ?_
                    refine TC_region ?_
                    refine TL_v rfl rfl rfl (V_assign rfl) ?_
                    refine TL_nil ?_
                    refine TX_next ?_
                    refine TC_block ?_
                    obtain ⟨t_2, Hl, H⟩ := bind_elim H
                    refine TC.sub (m' := [(2, vs s_), (3, vs t_), (14, vi k_1), (15, vs r_2.1), (17, vs r_3.1), (21, vi 0)]) ⟨rfl, rfl, rfl, rfl, rfl, rfl, trivial⟩ ?_
                    refine TC.pull (is := []) (L' := []) rfl ?_
                    refine TC_loopR (id := 2) (body := (halberdlaw5_GcmTwins.b1 s_ t_ k_1 r_2 r_3)) (σ := Int) (Γ := Unit) (Γx := Unit) (fun s1 g1_ => [(2, vs s_), (3, vs t_), (14, vi k_1), (15, vs r_2.1), (17, vs r_3.1), (21, vi s1)]) (fun s1 g1_ => []) (fun t g => []) (fun t g => []) r ?_ BIG 0 () t_2 Hl ?_
                    · intro s1 g1_ r1 H K hK hE hR1
                      unfold halberdlaw5_GcmTwins.b1 at H
                      refine TC_seq ?_
                      refine TC_seq ?_
                      refine TC_region ?_
                      refine TL_v rfl rfl rfl (V_move rfl) ?_
                      refine TL_v rfl rfl rfl (V_move rfl) ?_
                      refine TL_v rfl rfl rfl (V_bin rfl rfl (fun w => lssI w s1 k_1)) ?_
                      refine TL_nil ?_
                      refine TX_next ?_
                      refine TC_cond (b := (decide (s1 < k_1))) rfl (fun hc => ?_) (fun hc => ?_)
                      · replace H := ite_t (of_decide_eq_true hc) H
                        refine TC_skip ?_
                        refine TX_next ?_
                        refine TC_seq ?_
                        refine TC_block ?_
                        refine TC_seq ?_
                        obtain ⟨h17, H⟩ := if_elim H
                        obtain ⟨h18, H⟩ := if_elim H
                        obtain ⟨h19, H⟩ := if_elim H
                        obtain ⟨h20, H⟩ := if_elim H
                        refine TA_begin [] 15 (by kernel_rfl) (N := 15) rfl ?_
                        refine TA_take (i := 0) (is := []) (done' := #[true, false, false, false, false, false, false, false, false, false, false, false, false, false, false]) rfl rfl rfl rfl (by kernel_rfl) (QP.then (QP.block (QP.then (QP.then (QP.block (QP.then QP.body)))))) (by kernel_rfl) rfl (V_move rfl) ?_
                        refine TA_take (i := 1) (is := []) (done' := #[true, true, false, false, false, false, false, false, false, false, false, false, false, false, false]) rfl rfl rfl rfl (by kernel_rfl) (QP.then (QP.block (QP.then (QP.then (QP.block (QP.then QP.body)))))) (by kernel_rfl) rfl (V_move rfl) ?_
                        refine TA_take (i := 2) (is := []) (done' := #[true, true, true, false, false, false, false, false, false, false, false, false, false, false, false]) rfl rfl rfl rfl (by kernel_rfl) (QP.then (QP.block (QP.then (QP.then (QP.block (QP.then QP.body)))))) (by kernel_rfl) rfl (V_idxStr rfl rfl (i := s1) Try.underlying9 h17.1 h17.2) ?_
                        refine TA_take (i := 3) (is := []) (done' := #[true, true, true, true, false, false, false, false, false, false, false, false, false, false, false]) rfl rfl rfl rfl (by kernel_rfl) (QP.then (QP.block (QP.then (QP.then (QP.block (QP.then QP.body)))))) (by kernel_rfl) rfl (V_move rfl) ?_
                        refine TA_take (i := 4) (is := []) (done' := #[true, true, true, true, true, false, false, false, false, false, false, false, false, false, false]) rfl rfl rfl rfl (by kernel_rfl) (QP.then (QP.block (QP.then (QP.then (QP.block (QP.then QP.body)))))) (by kernel_rfl) rfl (V_move rfl) ?_
                        refine TA_take (i := 5) (is := []) (done' := #[true, true, true, true, true, true, false, false, false, false, false, false, false, false, false]) rfl rfl rfl rfl (by kernel_rfl) (QP.then (QP.block (QP.then (QP.then (QP.block (QP.then QP.body)))))) (by kernel_rfl) rfl (V_idxStr rfl rfl (i := s1) Try.underlying9 h18.1 h18.2) ?_
                        refine TA_take (i := 6) (is := []) (done' := #[true, true, true, true, true, true, true, false, false, false, false, false, false, false, false]) rfl rfl rfl rfl (by kernel_rfl) (QP.then (QP.block (QP.then (QP.then (QP.block (QP.then QP.body)))))) (by kernel_rfl) rfl (V_bin rfl rfl (fun w => xor8 w (sg r_2.1 s1) (sg r_3.1 s1))) ?_
                        refine TA_take (i := 7) (is := []) (done' := #[true, true, true, true, true, true, true, true, false, false, false, false, false, false, false]) rfl rfl rfl rfl (by kernel_rfl) (QP.then (QP.block (QP.then (QP.then (QP.block (QP.then QP.body)))))) (by kernel_rfl) rfl (V_move rfl) ?_
                        refine TA_take (i := 8) (is := []) (done' := #[true, true, true, true, true, true, true, true, true, false, false, false, false, false, false]) rfl rfl rfl rfl (by kernel_rfl) (QP.then (QP.block (QP.then (QP.then (QP.block (QP.then QP.body)))))) (by kernel_rfl) rfl (V_move rfl) ?_
                        refine TA_take (i := 9) (is := []) (done' := #[true, true, true, true, true, true, true, true, true, true, false, false, false, false, false]) rfl rfl rfl rfl (by kernel_rfl) (QP.then (QP.block (QP.then (QP.then (QP.block (QP.then QP.body)))))) (by kernel_rfl) rfl (V_idxStr rfl rfl (i := s1) Try.underlying9 h19.1 h19.2) ?_
                        refine TA_take (i := 10) (is := []) (done' := #[true, true, true, true, true, true, true, true, true, true, true, false, false, false, false]) rfl rfl rfl rfl (by kernel_rfl) (QP.then (QP.block (QP.then (QP.then (QP.block (QP.then QP.body)))))) (by kernel_rfl) rfl (V_move rfl) ?_
                        refine TA_take (i := 11) (is := []) (done' := #[true, true, true, true, true, true, true, true, true, true, true, true, false, false, false]) rfl rfl rfl rfl (by kernel_rfl) (QP.then (QP.block (QP.then (QP.then (QP.block (QP.then QP.body)))))) (by kernel_rfl) rfl (V_move rfl) ?_
                        refine TA_take (i := 12) (is := []) (done' := #[true, true, true, true, true, true, true, true, true, true, true, true, true, false, false]) rfl rfl rfl rfl (by kernel_rfl) (QP.then (QP.block (QP.then (QP.then (QP.block (QP.then QP.body)))))) (by kernel_rfl) rfl (V_idxStr rfl rfl (i := s1) Try.underlying9 h20.1 h20.2) ?_
                        refine TA_take (i := 13) (is := []) (done' := #[true, true, true, true, true, true, true, true, true, true, true, true, true, true, false]) rfl rfl rfl rfl (by kernel_rfl) (QP.then (QP.block (QP.then (QP.then (QP.block (QP.then QP.body)))))) (by kernel_rfl) rfl (V_bin rfl rfl (fun w => xor8 w (sg s_ s1) (sg t_ s1))) ?_
                        refine TA_take (i := 14) (is := []) (done' := #[true, true, true, true, true, true, true, true, true, true, true, true, true, true, true]) rfl rfl rfl rfl (by kernel_rfl) (QP.then (QP.block (QP.then (QP.then (QP.block (QP.then QP.body)))))) (by kernel_rfl) rfl (V_bin rfl rfl (fun w => neq8 w ((sg r_2.1 s1) ^^^ (sg r_3.1 s1)) ((sg s_ s1) ^^^ (sg t_ s1)))) ?_
                        refine TA_done (by kernel_rfl) ?_ 0
                        refine TX_next ?_
                        refine TC_cond (b := (decide (((sg r_2.1 s1) ^^^ (sg r_3.1 s1)) ≠ ((sg s_ s1) ^^^ (sg t_ s1))))) rfl (fun hc => ?_) (fun hc => ?_)
                        · replace H := ite_t (of_decide_eq_true hc) H
                          refine TC_seq ?_
                          refine TC_region ?_
                          refine TL_v rfl rfl rfl (V_assign rfl) ?_
                          refine TL_nil ?_
                          refine TX_next ?_
                          refine TC_ret ?_
                          refine TX_block_ret ?_
                          refine TX_then_ret ?_
                          refine TX_then_ret ?_
                          refine TX_block_ret ?_
                          refine TX_then_ret ?_
                          have hrv := (hR1 _ (Option.some.inj H).symm)
                          subst hrv
                          exact TX_ret (rs := [.tmp 8]) (vs := [vb false]) rfl ⟨rfl, trivial⟩ (fun w' hs' => ⟨(), rfl, Step.left (Step.pulled (is := []) (A := []) hs' rfl)⟩)
                        · replace H := ite_f (of_decide_eq_false hc) H
                          refine TC_skip ?_
                          refine TX_block_normal ?_
                          refine TX_next ?_
                          refine TC_region ?_
                          refine TL_v rfl rfl rfl (V_move rfl) ?_
                          refine TL_v rfl rfl rfl (V_bin rfl rfl (fun w => addI w s1 1)) ?_
                          refine TL_v rfl rfl rfl (V_assign rfl) ?_
                          refine TL_nil ?_
                          refine TX.sub (m' := [(2, vs s_), (3, vs t_), (14, vi k_1), (15, vs r_2.1), (17, vs r_3.1), (21, vi (w64 (s1 + 1)))]) ⟨rfl, rfl, rfl, rfl, rfl, rfl, trivial⟩ ?_
                          refine TX.pull (is := []) (L' := []) rfl ?_
                          obtain rfl := Option.some.inj H
                          exact fun a w hs => hK (w64 (s1 + 1)) rfl () a w hs
                      · replace H := ite_f (of_decide_eq_false hc) H
                        refine TC_exit ?_
                        refine TX_then_exit ?_
                        refine TX_then_exit ?_
                        refine TX.sub (m' := []) trivial ?_
                        refine TX.pull (is := []) (L' := []) rfl ?_
                        obtain rfl := Option.some.inj H
                        exact hE () rfl ()
                    · rcases t_2 with t_2 | rv
                      · intro gx2
                        dsimp only at H
                        refine TX_block_exit ?_
                        refine TX_next ?_
                        refine TC_seq ?_
                        refine TC_region ?_
                        refine TL_v rfl rfl rfl (V_assign rfl) ?_
                        refine TL_nil ?_
                        refine TX_next ?_
                        refine TC_ret ?_
                        have hrv := Option.some.inj H
                        subst hrv
                        exact TX_ret (rs := [.tmp 8]) (vs := [vb true]) rfl ⟨rfl, trivial⟩ (fun w' hs' => ⟨(), rfl, Step.left (Step.pulled (is := []) (A := []) hs' rfl)⟩)
                      · exact (Option.some.inj H)
    · intro hJ
      replace H := Hj
      refine TC_cond (b := wide) rfl (fun hc => ?_) (fun hc => ?_)
      · replace H := ite_t hc H
        refine TC_region ?_
        refine TL_v rfl rfl rfl (V_assign rfl) ?_
        refine TL_nil ?_
        refine TX.sub (m' := [(0, vs seed), (2, vs s_), (3, vs t_), (9, vi 32)]) ⟨rfl, rfl, rfl, rfl, trivial⟩ ?_
        refine TX.pull (is := []) (L' := []) rfl ?_
        obtain rfl := Option.some.inj H
        exact hJ ()
      · replace H := ite_f (Bool.eq_false_iff.1 hc) H
        refine TC_skip ?_
        refine TX.sub (m' := [(0, vs seed), (2, vs s_), (3, vs t_), (9, vi 16)]) ⟨rfl, rfl, rfl, rfl, trivial⟩ ?_
        refine TX.pull (is := []) (L' := []) rfl ?_
        obtain rfl := Option.some.inj H
        exact hJ ()

end Go.Proofs
end

section
/-
  The same is sealed alike.
-/
namespace Go.Proofs
open Go Go.Kx
set_option linter.unusedVariables false
set_option linter.unusedSimpArgs false
theorem GcmTwins_true (seed : Str) (wide : Bool) (s t : Str) : halberdlaw5_GcmTwins seed wide s t = some true := by
  unfold halberdlaw5_GcmTwins
  refine bind_i awake5 (if_n (by decide) ?_)
  obtain ⟨n, hn, hj⟩ := iop_size wide
  refine bind_i hj ?_
  have e1 : w64 ((n : Int) + 12) = ((n + 12 : Nat) : Int) := w64_add (b := 12) (by omega)
  rw [e1]
  simp only [Int.toNat_natCast]
  obtain ⟨b, hb, hl⟩ := loop_bytes (body := halberdlaw5_GcmTwins.b0 seed (n : Int)) (n + 12) (by omega) (fun k t hk ht => by
      have e2 : w64 ((k : Int) + 1) = ((k + 1 : Nat) : Int) := w64_add (b := 1) (by omega)
      unfold halberdlaw5_GcmTwins.b0
      simp only [e1, e2, Int.toNat_natCast]
      clear e1 e2
      by_cases c : k < seed.length
      · refine .inl ⟨t.set k (sg seed k), by simpa using ht, if_i (by omega) (if_i (by omega) (if_i (by omega) (if_i (by omega) (if_i (by omega) (ltt_i fun m hm => ltt_i fun i hi => ?_)))))⟩
        rw [hm, hi]
      · exact .inr (if_i (by omega) (if_n (by omega) rfl))) (fun t ht => by
      unfold halberdlaw5_GcmTwins.b0
      simp only [e1, Int.toNat_natCast]
      exact if_n (by omega) rfl) (List.replicate (n + 12) 0#8) (by simp)
  clear e1
  refine if_i (by omega) (bind_i hl ?_)
  iterate 6 refine if_i (by omega) ?_
  refine ltt_i fun key hkey => ltt_i fun nonce hnonce => ltt_i fun k1 hk1 => ?_
  have hkl : key.length = n := by rw [hkey, sub_length (by omega)]; omega
  have hnl : nonce.length = 12 := by rw [hnonce, sub_length (by omega)]; omega
  have hk : okKey key := by unfold okKey; omega
  clear hkey hnonce hl hb hj
  obtain ⟨k, hkk, hks⟩ : ∃ k : Nat, k1 = (k : Int) ∧ k ≤ s.length ∧ k ≤ t.length ∧ k ≤ 2000 := ⟨min (min s.length t.length) 2000, by omega, by omega, by omega, by omega⟩
  clear hk1
  subst hkk
  simp only [Int.toNat_natCast]
  have sl1 : (sub s 0 k).length = k := by rw [sub_length (by omega)]; omega
  have sl2 : (sub t 0 k).length = k := by rw [sub_length (by omega)]; omega
  have g : ∀ (a u : Str), a.length = 1 → u.length = k → sealE key nonce a u = (xo key nonce 2 u ++ tagE key nonce a (xo key nonce 2 u), 0) := fun a u ha hu => by
    unfold sealE
    rw [if_pos ⟨hk, hnl, by omega, by omega⟩]
  have h1 := Seal_eq key nonce [97#8] (sub s 0 k)
  have h2 := Seal_eq key nonce [98#8] (sub t 0 k)
  rw [g _ _ rfl sl1] at h1
  rw [g _ _ rfl sl2] at h2
  have l1 : (xo key nonce 2 (sub s 0 k) ++ tagE key nonce [97#8] (xo key nonce 2 (sub s 0 k))).length = k + 16 := by rw [List.length_append, xo_length, tagE_length, sl1]
  have l2 : (xo key nonce 2 (sub t 0 k) ++ tagE key nonce [98#8] (xo key nonce 2 (sub t 0 k))).length = k + 16 := by rw [List.length_append, xo_length, tagE_length, sl2]
  have e3 : w64 ((k : Int) + 16) = ((k + 16 : Nat) : Int) := w64_add (b := 16) (by omega)
  rw [e3]
  clear e3
  refine if_i (by omega) (if_i (by omega) (bind_i h1 (if_i (by omega) (if_i (by omega) (bind_i h2 (if_i (by omega) (if_i (by omega) (bind_i h1 ?_))))))))
  refine bind_i (v := 0) rfl (if_n (by decide) (bind_i (v := 0) rfl (if_n (by decide) (bind_i (v := 0) rfl (if_n (by decide) (if_n (by simp) (if_n (by simp only; omega) (if_n (by simp only; omega) ?_))))))))
  refine bind_i (v := .inl ()) (loop_fn (fun i => (i : Int)) k _ (by omega) rfl (fun i hi => ?_) ?_) rfl
  · have e1 : w64 ((i : Int) + 1) = ((i + 1 : Nat) : Int) := w64_add (b := 1) (by omega)
    unfold halberdlaw5_GcmTwins.b1
    simp only [e1, sg_nat]
    clear e1
    refine if_i (by omega) (if_i (by omega) (if_i (by omega) (if_i (by omega) (if_i (by omega) (if_n ?_ rfl)))))
    rw [getD_app_l _ _ _ (by rw [xo_length]; omega), getD_app_l _ _ _ (by rw [xo_length]; omega), xo_at _ _ _ _ _ (by omega), xo_at _ _ _ _ _ (by omega)]
    unfold xoB
    rw [sub_getD _ _ _ _ (by omega), sub_getD _ _ _ _ (by omega), Nat.zero_add]
    generalize vg (ek key (cb nonce (2 + i / 16))) (i % 16) = z
    intro hne
    apply hne
    rw [BitVec.xor_comm (t.getD i 0#8) z, BitVec.xor_assoc, ← BitVec.xor_assoc z z, BitVec.xor_self, BitVec.zero_xor]
  · exact if_n (by show ¬ ((k : Int) < _); omega) rfl
end Go.Proofs
end

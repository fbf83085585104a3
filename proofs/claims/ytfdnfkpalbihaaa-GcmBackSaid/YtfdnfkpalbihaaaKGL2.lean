/-
  Part KGL2 of the proofs of this seat: F13, GcmL2.
-/
import Derived.Test.YtfdnfkpalbihaaaK2
import Derived.Test.YtfdnfkpalbihaaaKG2
import Derived.Test.YtfdnfkpalbihaaaKG3
section
namespace Go.Proofs
open Go Go.Kx
set_option linter.unusedVariables false
set_option linter.unusedSimpArgs false
def halberdlaw5_GcmBack.b0 (seed : Str) (j1 : Int) (s0 : Int × List (BitVec 8)) : Option ((Int × List (BitVec 8)) ⊕ (List (BitVec 8))) :=
  if s0.1 < ((w64 (j1 + 12)).toNat : Int) then (if s0.1 < ((seed).length : Int) then (if 0 ≤ s0.1 ∧ s0.1 < ((seed).length : Int) then (if 0 ≤ s0.1 ∧ s0.1 < ((w64 (j1 + 12)).toNat : Int) then (if (s0.1).toNat < (s0.2).length then (ltt (s0.2.set ((s0.1).toNat) (sg seed s0.1)) fun (m_1 : List (BitVec 8)) => (ltt (w64 (s0.1 + 1)) fun (i1 : Int) => (some (.inl (i1, m_1))))) else none) else none) else none) else (some (.inr s0.2))) else (some (.inr s0.2))

def halberdlaw5_GcmBack (seed : Str) (wide : Bool) (aad : Str) (s_ : Str) (cut : Int) : Option (Bool) :=
  (halberdlaw5_awake).bind fun (r_1 : Bool) => (if (!r_1) = true then (some false) else (if 5000 < ((s_).length : Int) then (some true) else (if 5000 < ((aad).length : Int) then (some true) else ((if wide = true then (some 32) else (some 16)).bind fun (j1 : Int) => (if 0 ≤ w64 (j1 + 12) ∧ w64 (j1 + 12) ≤ 17592186044416 then ((loop (halberdlaw5_GcmBack.b0 seed j1) BIG (0, List.replicate ((w64 (j1 + 12)).toNat) 0#8)).bind fun (t_1 : List (BitVec 8)) => (if 0 ≤ j1 then (if (j1).toNat ≤ (w64 (j1 + 12)).toNat then (if (j1).toNat ≤ (t_1).length then (if 0 ≤ j1 then (if (j1).toNat ≤ (w64 (j1 + 12)).toNat then (if (w64 (j1 + 12)).toNat ≤ (t_1).length then (ltt (sub t_1 0 ((j1).toNat)) fun (key1 : Str) => (ltt (sub t_1 ((j1).toNat) ((w64 (j1 + 12)).toNat)) fun (nonce1 : Str) => ((gcm_Seal key1 nonce1 aad s_).bind fun (r_2 : Str × Int) => ((gcm_Open key1 nonce1 aad r_2.1).bind fun (r_3 : Str × Int) => ((halberdlaw0_Num r_2.2).bind fun (r_4 : Int) => (if r_4 ≠ 0 then (some false) else ((halberdlaw0_Num r_3.2).bind fun (r_5 : Int) => (if r_5 ≠ 0 then (some false) else (if r_3.1 ≠ s_ then (some false) else (if ((r_2.1).length : Int) ≠ (w64 (((s_).length : Int) + 16)) then (some false) else (if (BitVec.ofInt 64 ((r_2.1).length : Int)) ≠ 0#64 then (if 0 ≤ w64 (((BitVec.ofInt 64 cut) % (BitVec.ofInt 64 ((r_2.1).length : Int))).toNat : Int) then (if (w64 (((BitVec.ofInt 64 cut) % (BitVec.ofInt 64 ((r_2.1).length : Int))).toNat : Int)).toNat ≤ (r_2.1).length then (ltt (sub r_2.1 0 ((w64 (((BitVec.ofInt 64 cut) % (BitVec.ofInt 64 ((r_2.1).length : Int))).toNat : Int)).toNat)) fun (t_2 : Str) => ((gcm_Open key1 nonce1 aad t_2).bind fun (r_6 : Str × Int) => ((halberdref4_GcmOpen key1 nonce1 aad t_2).bind fun (r_7 : Str × Int) => (if r_6.1 = r_7.1 then ((halberdlaw0_Num r_6.2).bind fun (r_8 : Int) => (ltt (decide (r_8 = r_7.2)) fun (x1 : Bool) => (some x1))) else (some false))))) else none) else none) else none))))))))))) else none) else none) else none) else none) else none) else none)) else none)))))

set_option maxHeartbeats 4000000 in
set_option maxRecDepth 20000 in
theorem F13_calls (seed : Str) (wide : Bool) (aad : Str) (s_ : Str) (cut : Int) (r : Bool) (H : halberdlaw5_GcmBack seed wide aad s_ cut = some r) :
    Does Try.prog 13 [vs seed, vb wide, vs aad, vs s_, vi cut] [] [] (Γ := Unit) (fun g => vb r) (fun g => []) := by
  intro w hmem hro hd
  refine calls_of (N := 136) (m0 := [(0, vs seed), (1, vb wide), (2, vs aad), (3, vs s_), (4, vi cut)]) Try.func13 rfl Try.ntmps13 (argM_ok [vs seed, vb wide, vs aad, vs s_, vi cut]) rfl hmem hro hd ?_
  unfold halberdlaw5_GcmBack at H
  refine TC_seq ?_
  refine TC_region ?_
  refine TL_v rfl rfl rfl (V_assign rfl) ?_
  refine TL_nil ?_
  refine TX_next ?_
  refine TC_seq ?_
  refine TC_seq ?_
  refine TC_region ?_
  obtain ⟨r_1, hr_1, H⟩ := bind_elim H
  refine TL_e rfl rfl rfl (E_call (Γ := Unit) (val := fun g => vb r_1) (mem := fun g => []) (vs := []) (Lin := []) (Ro := []) (is := []) rfl Try.call41 (F41_calls r_1 hr_1) rfl trivial) (fun g_1 => ?_)
  refine TL_v rfl rfl rfl (V_un rfl (fun w => notB w r_1)) ?_
  refine TL_nil ?_
  refine TX_next ?_
  refine TC_cond (b := (!r_1)) rfl (fun hc => ?_) (fun hc => ?_)
  · replace H := ite_t hc H
    refine TC_seq ?_
    refine TC_region ?_
    refine TL_v rfl rfl rfl (V_assign rfl) ?_
    refine TL_nil ?_
    refine TX_next ?_
    refine TC_ret ?_
    refine TX_then_ret ?_
    have hrv := Option.some.inj H
    subst hrv
    exact TX_ret (rs := [.tmp 10]) (vs := [vb false]) rfl ⟨rfl, trivial⟩ (fun w' hs' => ⟨(), rfl, Step.left (Step.pulled (is := []) (A := []) hs' rfl)⟩)
  · replace H := ite_f (Bool.eq_false_iff.1 hc) H
    refine TC_skip ?_
    refine TX_next ?_
    refine TC_seq ?_
    refine TC_seq ?_
    refine TC_region ?_
    refine TL_v rfl rfl rfl (V_move rfl) ?_
    refine TL_v rfl rfl rfl (V_len_str rfl Try.underlying9) ?_
    refine TL_v rfl rfl rfl (V_bin rfl rfl (fun w => gtrI w ((s_).length : Int) 5000)) ?_
    refine TL_v rfl rfl rfl (V_move rfl) ?_
    refine TL_fork (d := 30) (b := (decide (5000 < ((s_).length : Int)))) rfl (fun hc => ?_) (fun hc => ?_)
    · replace H := ite_t (of_decide_eq_true hc) H
      refine TL_skip rfl rfl rfl rfl rfl rfl rfl ?_
      refine TL_skip rfl rfl rfl rfl rfl rfl rfl ?_
      refine TL_skip rfl rfl rfl rfl rfl rfl rfl ?_
      refine TL_v rfl rfl rfl (V_pick (b := true) rfl rfl) ?_
      refine TL_nil ?_
      refine TX_next ?_
      refine TC_cond_t rfl ?_
      refine TC_seq ?_
      refine TC_region ?_
      refine TL_v rfl rfl rfl (V_assign rfl) ?_
      refine TL_nil ?_
      refine TX_next ?_
      refine TC_ret ?_
      refine TX_then_ret ?_
      have hrv := Option.some.inj H
      subst hrv
      exact TX_ret (rs := [.tmp 10]) (vs := [vb true]) rfl ⟨rfl, trivial⟩ (fun w' hs' => ⟨(), rfl, Step.left (Step.pulled (is := []) (A := []) hs' rfl)⟩)
    · replace H := ite_f (of_decide_eq_false hc) H
      refine TL_want rfl rfl rfl rfl rfl rfl (V_move rfl) ?_
      refine TL_want rfl rfl rfl rfl rfl rfl (V_len_str rfl Try.underlying9) ?_
      refine TL_want rfl rfl rfl rfl rfl rfl (V_bin rfl rfl (fun w => gtrI w ((aad).length : Int) 5000)) ?_
      refine TL_v rfl rfl rfl (V_pick (b := false) rfl rfl) ?_
      refine TL_nil ?_
      refine TX_next ?_
      refine TC_cond (b := (decide (5000 < ((aad).length : Int)))) rfl (fun hc => ?_) (fun hc => ?_)
      · replace H := ite_t (of_decide_eq_true hc) H
        refine TC_seq ?_
        refine TC_region ?_
        refine TL_v rfl rfl rfl (V_assign rfl) ?_
        refine TL_nil ?_
        refine TX_next ?_
        refine TC_ret ?_
        refine TX_then_ret ?_
        have hrv := Option.some.inj H
        subst hrv
        exact TX_ret (rs := [.tmp 10]) (vs := [vb true]) rfl ⟨rfl, trivial⟩ (fun w' hs' => ⟨(), rfl, Step.left (Step.pulled (is := []) (A := []) hs' rfl)⟩)
      · replace H := ite_f (of_decide_eq_false hc) H
        refine TC_skip ?_
        refine TX_next ?_
        refine TC_seq ?_
        refine TC_region ?_
        refine TL_v rfl rfl rfl (V_assign rfl) ?_
        refine TL_nil ?_
        refine TX_next ?_
        refine TC_seq ?_
        refine TC_seq ?_
        refine TC_region ?_
        refine TL_v rfl rfl rfl (V_move rfl) ?_
        refine TL_nil ?_
        refine TX_next ?_
        obtain ⟨j1, Hj, H⟩ := bind_elim H
        refine TC_join (Γ := Unit) (fun gj1 => [(0, vs seed), (2, vs aad), (3, vs s_), (4, vi cut), (11, vi j1)]) (fun gj1 => []) ?_ ?_
        · intro gj1
          refine TX_next ?_
          refine TC_seq ?_
          refine TC_region ?_
          refine TL_v rfl rfl rfl (V_move rfl) ?_
          refine TL_v rfl rfl rfl (V_bin rfl rfl (fun w => addI w j1 12)) ?_
          obtain ⟨h1, H⟩ := if_elim H
          refine TL_e rfl rfl rfl (E_mk1 rfl rfl Try.underlying30 TryI.inf5 (z := v8 0#8) rfl rfl rfl (B := 1) rfl h1.1 (Int.le_refl _) (by have := h1; omega) (by have := h1; omega) (n' := (w64 (j1 + 12)).toNat) (c' := (w64 (j1 + 12)).toNat) rfl rfl (cs := e8 (List.replicate ((w64 (j1 + 12)).toNat) 0#8)) (rep_map (f := v8))) (fun b1 => ?_)
          refine TL_v rfl rfl rfl (V_assign rfl) ?_
          refine TL_nil ?_
          refine TX_next ?_
          refine TC_seq ?_
          refine TC_seq ?_
          refine TC_region ?_
          refine TL_v rfl rfl rfl (V_assign rfl) ?_
          refine TL_nil ?_
          refine TX_next ?_
          refine TC_block ?_
          obtain ⟨t_1, Hl, H⟩ := bind_elim H
          refine TC.sub (m' := [(0, vs seed), (2, vs aad), (3, vs s_), (4, vi cut), (11, vi j1), (12, sl (some (b1, 0)) ((w64 (j1 + 12)).toNat) ((w64 (j1 + 12)).toNat)), (13, vi 0)]) ⟨rfl, rfl, rfl, rfl, rfl, rfl, rfl, trivial⟩ ?_
          refine TC.pull (is := [0]) (L' := [⟨some (b1, 0), e8 (List.replicate ((w64 (j1 + 12)).toNat) 0#8)⟩]) rfl ?_
          refine TC_loopL (id := 0) (body := (halberdlaw5_GcmBack.b0 seed j1)) (σ := Int × List (BitVec 8)) (Γ := Unit) (Γx := Unit) (fun s0 g0_ => [(0, vs seed), (2, vs aad), (3, vs s_), (4, vi cut), (11, vi j1), (12, sl (some (b1, 0)) ((w64 (j1 + 12)).toNat) ((w64 (j1 + 12)).toNat)), (13, vi s0.1)]) (fun s0 g0_ => [⟨some (b1, 0), e8 s0.2⟩]) (fun t g => [(2, vs aad), (3, vs s_), (4, vi cut), (11, vi j1), (12, sl (some (b1, 0)) ((w64 (j1 + 12)).toNat) ((w64 (j1 + 12)).toNat))]) (fun t g => [⟨some (b1, 0), e8 t⟩]) ?_ BIG (0, List.replicate ((w64 (j1 + 12)).toNat) 0#8) () t_1 Hl ?_
          · intro s0 g0_ r1 H K hK hE
            unfold halberdlaw5_GcmBack.b0 at H
            refine TC_seq ?_
            refine TC_seq ?_
            refine TC_region ?_
            refine TL_v rfl rfl rfl (V_move rfl) ?_
            refine TL_v rfl rfl rfl (V_move rfl) ?_
            refine TL_v rfl rfl rfl (V_len_slice rfl Try.underlying30) ?_
            refine TL_v rfl rfl rfl (V_bin rfl rfl (fun w => lssI w s0.1 ((w64 (j1 + 12)).toNat : Int))) ?_
            refine TL_v rfl rfl rfl (V_move rfl) ?_
            refine TL_fork (d := 43) (b := (decide (s0.1 < ((w64 (j1 + 12)).toNat : Int)))) rfl (fun hc => ?_) (fun hc => ?_)
            · replace H := ite_t (of_decide_eq_true hc) H
              refine TL_want rfl rfl rfl rfl rfl rfl (V_move rfl) ?_
              refine TL_want rfl rfl rfl rfl rfl rfl (V_move rfl) ?_
              refine TL_want rfl rfl rfl rfl rfl rfl (V_len_str rfl Try.underlying9) ?_
              refine TL_want rfl rfl rfl rfl rfl rfl (V_bin rfl rfl (fun w => lssI w s0.1 ((seed).length : Int))) ?_
              refine TL_v rfl rfl rfl (V_pick (b := true) rfl rfl) ?_
              refine TL_nil ?_
              refine TX_next ?_
              refine TC_cond (b := (decide (s0.1 < ((seed).length : Int)))) rfl (fun hc => ?_) (fun hc => ?_)
              · replace H := ite_t (of_decide_eq_true hc) H
                refine TC_skip ?_
                refine TX_next ?_
                refine TC_seq ?_
                refine TC_block ?_
                refine TC_region ?_
                refine TL_v rfl rfl rfl (V_move rfl) ?_
                refine TL_v rfl rfl rfl (V_move rfl) ?_
                refine TL_v rfl rfl rfl (V_move rfl) ?_
                refine TL_v rfl rfl rfl (V_move rfl) ?_
                obtain ⟨h2, H⟩ := if_elim H
                refine TL_v rfl rfl rfl (V_idxStr rfl rfl (i := s0.1) Try.underlying9 h2.1 h2.2) ?_
                obtain ⟨h3, H⟩ := if_elim H
                obtain ⟨h4, H⟩ := if_elim H
                refine TL_v rfl rfl rfl (V_idxSl (i := s0.1) rfl rfl Try.underlying30 TryI.inf5 rfl (fun _ h => by cases h) h3.1 h3.2 (k := (s0.1).toNat) (km1 _)) ?_
                refine TL_n rfl rfl (E_store (j := 0) rfl rfl TryI.inf5 rfl rfl rfl (by simpa using h4) (cs' := e8 (s0.2.set ((s0.1).toNat) (sg seed s0.1))) (set_map (f := v8) (l := s0.2) (k := ((s0.1).toNat)) (x := (sg seed s0.1)))) (fun _ => ?_)
                obtain ⟨m_1, hm_1, H⟩ := ltt_elim H
                refine TL_reE (j := 0) (A := some (b1, 0)) (cs := e8 (s0.2.set ((s0.1).toNat) (sg seed s0.1))) (cs' := e8 m_1) rfl (congrArg (e8) hm_1) ?_
                refine TL_nil ?_
                refine TX_block_normal ?_
                refine TX_next ?_
                refine TC_region ?_
                refine TL_v rfl rfl rfl (V_move rfl) ?_
                refine TL_v rfl rfl rfl (V_bin rfl rfl (fun w => addI w s0.1 1)) ?_
                refine TL_v rfl rfl rfl (V_assign rfl) ?_
                obtain ⟨i1, hi1, H⟩ := ltt_elim H
                refine TL_re (d := 13) (v := vi (w64 (s0.1 + 1))) (v' := vi i1) rfl (congrArg vi hi1) ?_
                refine TL_nil ?_
                refine TX.sub (m' := [(0, vs seed), (2, vs aad), (3, vs s_), (4, vi cut), (11, vi j1), (12, sl (some (b1, 0)) ((w64 (j1 + 12)).toNat) ((w64 (j1 + 12)).toNat)), (13, vi i1)]) ⟨rfl, rfl, rfl, rfl, rfl, rfl, rfl, trivial⟩ ?_
                refine TX.pull (is := [0]) (L' := [⟨some (b1, 0), e8 m_1⟩]) rfl ?_
                obtain rfl := Option.some.inj H
                exact fun a w hs => hK (i1, m_1) rfl () a w hs
              · replace H := ite_f (of_decide_eq_false hc) H
                refine TC_exit ?_
                refine TX_then_exit ?_
                refine TX_then_exit ?_
                refine TX.sub (m' := [(2, vs aad), (3, vs s_), (4, vi cut), (11, vi j1), (12, sl (some (b1, 0)) ((w64 (j1 + 12)).toNat) ((w64 (j1 + 12)).toNat))]) ⟨rfl, rfl, rfl, rfl, rfl, trivial⟩ ?_
                refine TX.pull (is := [0]) (L' := [⟨some (b1, 0), e8 s0.2⟩]) rfl ?_
                obtain rfl := Option.some.inj H
                exact hE s0.2 rfl ()
            · replace H := ite_f (of_decide_eq_false hc) H
              refine TL_skip rfl rfl rfl rfl rfl rfl rfl ?_
              refine TL_skip rfl rfl rfl rfl rfl rfl rfl ?_
              refine TL_skip rfl rfl rfl rfl rfl rfl rfl ?_
              refine TL_skip rfl rfl rfl rfl rfl rfl rfl ?_
              refine TL_v rfl rfl rfl (V_pick (b := false) rfl rfl) ?_
              refine TL_nil ?_
              refine TX_next ?_
              refine TC_cond_f rfl ?_
              refine TC_exit ?_
              refine TX_then_exit ?_
              refine TX_then_exit ?_
              refine TX.sub (m' := [(2, vs aad), (3, vs s_), (4, vi cut), (11, vi j1), (12, sl (some (b1, 0)) ((w64 (j1 + 12)).toNat) ((w64 (j1 + 12)).toNat))]) ⟨rfl, rfl, rfl, rfl, rfl, trivial⟩ ?_
              refine TX.pull (is := [0]) (L' := [⟨some (b1, 0), e8 s0.2⟩]) rfl ?_
              obtain rfl := Option.some.inj H
              exact hE s0.2 rfl ()
          · intro g
            refine TX_block_exit ?_
            refine TX_next ?_
            refine TC_seq ?_
            obtain ⟨h5, H⟩ := if_elim H
            obtain ⟨h6, H⟩ := if_elim H
            obtain ⟨h7, H⟩ := if_elim H
            obtain ⟨h8, H⟩ := if_elim H
            obtain ⟨h9, H⟩ := if_elim H
            obtain ⟨h10, H⟩ := if_elim H
            obtain ⟨key1, hkey1, H⟩ := ltt_elim H
            obtain ⟨nonce1, hnonce1, H⟩ := ltt_elim H
            refine TA_begin [⟨some (b1, 0), e8 t_1⟩] 10 (by kernel_rfl) (N := 10) rfl ?_
            refine TA_take (i := 0) (is := [0]) (done' := #[true, false, false, false, false, false, false, false, false, false]) rfl rfl rfl rfl (by kernel_rfl) (QP.then QP.body) (by kernel_rfl) rfl (V_move rfl) ?_
            refine TA_take (i := 1) (is := [0]) (done' := #[true, true, false, false, false, false, false, false, false, false]) rfl rfl rfl rfl (by kernel_rfl) (QP.then QP.body) (by kernel_rfl) rfl (V_move rfl) ?_
            refine TA_take (i := 2) (is := [0]) (done' := #[true, true, true, false, false, false, false, false, false, false]) rfl rfl rfl rfl (by kernel_rfl) (QP.then QP.body) (by kernel_rfl) rfl (V_sliceVw0 (l := 0) (h := (j1).toNat) rfl Try.underlying30 TryI.inf5 rfl Bnd.none' (Bnd.some' (i := j1) rfl h5) (Nat.zero_le _) h6) ?_
            refine TA_take (i := 3) (is := [0]) (done' := #[true, true, true, true, false, false, false, false, false, false]) rfl rfl rfl rfl (by kernel_rfl) (QP.then QP.body) (by kernel_rfl) rfl (V_b2s rfl Try.underlying30 Try.underlying5 Try.underlying9 (srcVw (lst := t_1) (Src.own (j := 0) rfl) h6) (sub_length h7)) ?_
            refine TA_take (i := 4) (is := [0]) (done' := #[true, true, true, true, true, false, false, false, false, false]) rfl rfl rfl rfl (by kernel_rfl) (QP.then QP.body) (by kernel_rfl) rfl (V_move rfl) ?_
            refine TA_take (i := 5) (is := [0]) (done' := #[true, true, true, true, true, true, false, false, false, false]) rfl rfl rfl rfl (by kernel_rfl) (QP.then QP.body) (by kernel_rfl) rfl (V_move rfl) ?_
            refine TA_take (i := 6) (is := [0]) (done' := #[true, true, true, true, true, true, true, false, false, false]) rfl rfl rfl rfl (by kernel_rfl) (QP.then QP.body) (by kernel_rfl) rfl (V_sliceVw0 (l := (j1).toNat) (h := (w64 (j1 + 12)).toNat) rfl Try.underlying30 TryI.inf5 rfl (Bnd.some' (i := j1) rfl h8) Bnd.none' h9 (Nat.le_refl _)) ?_
            refine TA_take (i := 7) (is := [0]) (done' := #[true, true, true, true, true, true, true, true, false, false]) rfl rfl rfl rfl (by kernel_rfl) (QP.then QP.body) (by kernel_rfl) rfl (V_b2s rfl Try.underlying30 Try.underlying5 Try.underlying9 (srcVw (lst := t_1) (Src.own (j := 0) rfl) (Nat.le_refl _)) (sub_length h10)) ?_
            refine TA_take (i := 8) (is := [0]) (done' := #[true, true, true, true, true, true, true, true, true, false]) rfl rfl rfl rfl (by kernel_rfl) (QP.then QP.body) (by kernel_rfl) rfl (V_assign rfl) ?_
            refine TA_re (d := 14) (v := vs (sub t_1 0 ((j1).toNat))) (v' := vs key1) rfl (congrArg vs hkey1) ?_
            refine TA_take (i := 9) (is := [0]) (done' := #[true, true, true, true, true, true, true, true, true, true]) rfl rfl rfl rfl (by kernel_rfl) (QP.then QP.body) (by kernel_rfl) rfl (V_assign rfl) ?_
            refine TA_re (d := 15) (v := vs (sub t_1 ((j1).toNat) ((w64 (j1 + 12)).toNat))) (v' := vs nonce1) rfl (congrArg vs hnonce1) ?_
            refine TA_done (by kernel_rfl) ?_ 0
            refine TX_next ?_
            refine TC_seq ?_
            refine TC_region ?_
            refine TL_v rfl rfl rfl (V_move rfl) ?_
            refine TL_v rfl rfl rfl (V_move rfl) ?_
            refine TL_v rfl rfl rfl (V_move rfl) ?_
            refine TL_v rfl rfl rfl (V_move rfl) ?_
            obtain ⟨r_2, hr_2, H⟩ := bind_elim H
            refine TL_e rfl rfl rfl (E_call (Γ := Unit) (val := fun g => Value.tuple [vs r_2.1, vi r_2.2].toArray) (mem := fun g => []) (vs := [vs key1, vs nonce1, vs aad, vs s_]) (Lin := []) (Ro := []) (is := []) rfl Try.call35 (F35_calls key1 nonce1 aad s_ r_2 hr_2) rfl trivial) (fun g_2 => ?_)
            refine TL_v rfl rfl rfl (V_move rfl) ?_
            refine TL_v rfl rfl rfl (V_extract (vs := [vs r_2.1, vi r_2.2]) rfl rfl) ?_
            refine TL_v rfl rfl rfl (V_extract (vs := [vs r_2.1, vi r_2.2]) rfl rfl) ?_
            refine TL_v rfl rfl rfl (V_assign rfl) ?_
            refine TL_v rfl rfl rfl (V_assign rfl) ?_
            refine TL_nil ?_
            refine TX_next ?_
            refine TC_seq ?_
            refine TC_region ?_
            refine TL_v rfl rfl rfl (V_move rfl) ?_
            refine TL_v rfl rfl rfl (V_move rfl) ?_
            refine TL_v rfl rfl rfl (V_move rfl) ?_
            refine TL_v rfl rfl rfl (V_move rfl) ?_
            obtain ⟨r_3, hr_3, H⟩ := bind_elim H
            refine TL_e rfl rfl rfl (E_call (Γ := Unit) (val := fun g => Value.tuple [vs r_3.1, vi r_3.2].toArray) (mem := fun g => []) (vs := [vs key1, vs nonce1, vs aad, vs r_2.1]) (Lin := []) (Ro := []) (is := []) rfl Try.call37 (F37_calls key1 nonce1 aad r_2.1 r_3 hr_3) rfl trivial) (fun g_3 => ?_)
            refine TL_v rfl rfl rfl (V_move rfl) ?_
            refine TL_v rfl rfl rfl (V_extract (vs := [vs r_3.1, vi r_3.2]) rfl rfl) ?_
            refine TL_v rfl rfl rfl (V_extract (vs := [vs r_3.1, vi r_3.2]) rfl rfl) ?_
            refine TL_v rfl rfl rfl (V_assign rfl) ?_
            refine TL_v rfl rfl rfl (V_assign rfl) ?_
            refine TL_nil ?_
            refine TX_next ?_
            refine TC.sub (m' := [(2, vs aad), (3, vs s_), (4, vi cut), (14, vs key1), (15, vs nonce1), (16, vs r_2.1), (17, vi r_2.2), (18, vs r_3.1), (19, vi r_3.2)]) ⟨rfl, rfl, rfl, rfl, rfl, rfl, rfl, rfl, rfl, trivial⟩ ?_
            refine TC_seq ?_
            refine TC_seq ?_
            refine TC_region ?_
            refine TL_v rfl rfl rfl (V_move rfl) ?_
            obtain ⟨r_4, hr_4, H⟩ := bind_elim H
            refine TL_e rfl rfl rfl (E_call (Γ := Unit) (val := fun g => vi r_4) (mem := fun g => []) (vs := [vi r_2.2]) (Lin := []) (Ro := []) (is := []) rfl Try.call25 (F25_calls r_2.2 r_4 hr_4) rfl trivial) (fun g_4 => ?_)
            refine TL_v rfl rfl rfl (V_bin rfl rfl (fun w => neqI w r_4 0)) ?_
            refine TL_v rfl rfl rfl (V_move rfl) ?_
            refine TL_fork (d := 84) (b := (decide (r_4 ≠ 0))) rfl (fun hc => ?_) (fun hc => ?_)
            · replace H := ite_t (of_decide_eq_true hc) H
              refine TL_skip rfl rfl rfl rfl rfl rfl rfl ?_
              refine TL_skip rfl rfl rfl rfl rfl rfl rfl ?_
              refine TL_skip rfl rfl rfl rfl rfl rfl rfl ?_
              refine TL_v rfl rfl rfl (V_pick (b := true) rfl rfl) ?_
              refine TL_v rfl rfl rfl (V_move rfl) ?_
              refine TL_skip rfl rfl rfl rfl rfl rfl rfl ?_
              refine TL_skip rfl rfl rfl rfl rfl rfl rfl ?_
              refine TL_skip rfl rfl rfl rfl rfl rfl rfl ?_
              refine TL_v rfl rfl rfl (V_pick (b := true) rfl rfl) ?_
              refine TL_v rfl rfl rfl (V_move rfl) ?_
              refine TL_skip rfl rfl rfl rfl rfl rfl rfl ?_
              refine TL_skip rfl rfl rfl rfl rfl rfl rfl ?_
              refine TL_skip rfl rfl rfl rfl rfl rfl rfl ?_
              refine TL_skip rfl rfl rfl rfl rfl rfl rfl ?_
              refine TL_skip rfl rfl rfl rfl rfl rfl rfl ?_
              refine TL_skip rfl rfl rfl rfl rfl rfl rfl ?_
              refine TL_v rfl rfl rfl (V_pick (b := true) rfl rfl) ?_
              refine TL_nil ?_
              refine TX_next ?_
              refine TC.sub (m' := [(2, vs aad), (4, vi cut), (14, vs key1), (15, vs nonce1), (16, vs r_2.1), (101, vb true)]) ⟨rfl, rfl, rfl, rfl, rfl, rfl, trivial⟩ ?_
              refine TC_cond_t rfl ?_
              refine TC_seq ?_
              refine TC_region ?_
              refine TL_v rfl rfl rfl (V_assign rfl) ?_
              refine TL_nil ?_
              refine TX_next ?_
              refine TC_ret ?_
              refine TX_then_ret ?_
              have hrv := Option.some.inj H
              subst hrv
              exact TX_ret (rs := [.tmp 10]) (vs := [vb false]) rfl ⟨rfl, trivial⟩ (fun w' hs' => ⟨(), rfl, Step.left (Step.pulled (is := []) (A := []) hs' rfl)⟩)
            · replace H := ite_f (of_decide_eq_false hc) H
              refine TL_want rfl rfl rfl rfl rfl rfl (V_move rfl) ?_
              obtain ⟨r_5, hr_5, H⟩ := bind_elim H
              refine TL_wantE rfl rfl rfl rfl rfl rfl (E_call (Γ := Unit) (val := fun g => vi r_5) (mem := fun g => []) (vs := [vi r_3.2]) (Lin := []) (Ro := []) (is := []) rfl Try.call25 (F25_calls r_3.2 r_5 hr_5) rfl trivial) (fun g_5 => ?_)
              refine TL_want rfl rfl rfl rfl rfl rfl (V_bin rfl rfl (fun w => neqI w r_5 0)) ?_
              refine TL_v rfl rfl rfl (V_pick (b := false) rfl rfl) ?_
              refine TL_v rfl rfl rfl (V_move rfl) ?_
              refine TL_fork (d := 89) (b := (decide (r_5 ≠ 0))) rfl (fun hc => ?_) (fun hc => ?_)
              · replace H := ite_t (of_decide_eq_true hc) H
                refine TL_skip rfl rfl rfl rfl rfl rfl rfl ?_
                refine TL_skip rfl rfl rfl rfl rfl rfl rfl ?_
                refine TL_skip rfl rfl rfl rfl rfl rfl rfl ?_
                refine TL_v rfl rfl rfl (V_pick (b := true) rfl rfl) ?_
                refine TL_v rfl rfl rfl (V_move rfl) ?_
                refine TL_skip rfl rfl rfl rfl rfl rfl rfl ?_
                refine TL_skip rfl rfl rfl rfl rfl rfl rfl ?_
                refine TL_skip rfl rfl rfl rfl rfl rfl rfl ?_
                refine TL_skip rfl rfl rfl rfl rfl rfl rfl ?_
                refine TL_skip rfl rfl rfl rfl rfl rfl rfl ?_
                refine TL_skip rfl rfl rfl rfl rfl rfl rfl ?_
                refine TL_v rfl rfl rfl (V_pick (b := true) rfl rfl) ?_
                refine TL_nil ?_
                refine TX_next ?_
                refine TC.sub (m' := [(2, vs aad), (4, vi cut), (14, vs key1), (15, vs nonce1), (16, vs r_2.1), (101, vb true)]) ⟨rfl, rfl, rfl, rfl, rfl, rfl, trivial⟩ ?_
                refine TC_cond_t rfl ?_
                refine TC_seq ?_
                refine TC_region ?_
                refine TL_v rfl rfl rfl (V_assign rfl) ?_
                refine TL_nil ?_
                refine TX_next ?_
                refine TC_ret ?_
                refine TX_then_ret ?_
                have hrv := Option.some.inj H
                subst hrv
                exact TX_ret (rs := [.tmp 10]) (vs := [vb false]) rfl ⟨rfl, trivial⟩ (fun w' hs' => ⟨(), rfl, Step.left (Step.pulled (is := []) (A := []) hs' rfl)⟩)
              · replace H := ite_f (of_decide_eq_false hc) H
                refine TL_want rfl rfl rfl rfl rfl rfl (V_move rfl) ?_
                refine TL_want rfl rfl rfl rfl rfl rfl (V_move rfl) ?_
                refine TL_want rfl rfl rfl rfl rfl rfl (V_bin rfl rfl (fun w => neqS w r_3.1 s_)) ?_
                refine TL_v rfl rfl rfl (V_pick (b := false) rfl rfl) ?_
                refine TL_v rfl rfl rfl (V_move rfl) ?_
                refine TL_fork (d := 94) (b := (decide (r_3.1 ≠ s_))) rfl (fun hc => ?_) (fun hc => ?_)
                · replace H := ite_t (of_decide_eq_true hc) H
                  refine TL_skip rfl rfl rfl rfl rfl rfl rfl ?_
                  refine TL_skip rfl rfl rfl rfl rfl rfl rfl ?_
                  refine TL_skip rfl rfl rfl rfl rfl rfl rfl ?_
                  refine TL_skip rfl rfl rfl rfl rfl rfl rfl ?_
                  refine TL_skip rfl rfl rfl rfl rfl rfl rfl ?_
                  refine TL_skip rfl rfl rfl rfl rfl rfl rfl ?_
                  refine TL_v rfl rfl rfl (V_pick (b := true) rfl rfl) ?_
                  refine TL_nil ?_
                  refine TX_next ?_
                  refine TC.sub (m' := [(2, vs aad), (4, vi cut), (14, vs key1), (15, vs nonce1), (16, vs r_2.1), (101, vb true)]) ⟨rfl, rfl, rfl, rfl, rfl, rfl, trivial⟩ ?_
                  refine TC_cond_t rfl ?_
                  refine TC_seq ?_
                  refine TC_region ?_
                  refine TL_v rfl rfl rfl (V_assign rfl) ?_
                  refine TL_nil ?_
                  refine TX_next ?_
                  refine TC_ret ?_
                  refine TX_then_ret ?_
                  have hrv := Option.some.inj H
                  subst hrv
                  exact TX_ret (rs := [.tmp 10]) (vs := [vb false]) rfl ⟨rfl, trivial⟩ (fun w' hs' => ⟨(), rfl, Step.left (Step.pulled (is := []) (A := []) hs' rfl)⟩)
                · replace H := ite_f (of_decide_eq_false hc) H
                  refine TL_want rfl rfl rfl rfl rfl rfl (V_move rfl) ?_
                  refine TL_want rfl rfl rfl rfl rfl rfl (V_len_str rfl Try.underlying9) ?_
                  refine TL_want rfl rfl rfl rfl rfl rfl (V_move rfl) ?_
                  refine TL_want rfl rfl rfl rfl rfl rfl (V_len_str rfl Try.underlying9) ?_
                  refine TL_want rfl rfl rfl rfl rfl rfl (V_bin rfl rfl (fun w => addI w ((s_).length : Int) 16)) ?_
                  refine TL_want rfl rfl rfl rfl rfl rfl (V_bin rfl rfl (fun w => neqI w ((r_2.1).length : Int) (w64 (((s_).length : Int) + 16)))) ?_
                  refine TL_v rfl rfl rfl (V_pick (b := false) rfl rfl) ?_
                  refine TL_nil ?_
                  refine TX_next ?_
                  refine TC.sub (m' := [(2, vs aad), (4, vi cut), (14, vs key1), (15, vs nonce1), (16, vs r_2.1), (101, vb (decide (((r_2.1).length : Int) ≠ (w64 (((s_).length : Int) + 16)))))]) ⟨rfl, rfl, rfl, rfl, rfl, rfl, trivial⟩ ?_
                  refine TC_cond (b := (decide (((r_2.1).length : Int) ≠ (w64 (((s_).length : Int) + 16))))) rfl (fun hc => ?_) (fun hc => ?_)
                  · replace H := ite_t (of_decide_eq_true hc) H
                    refine TC_seq ?_
                    refine TC_region ?_
                    refine TL_v rfl rfl rfl (V_assign rfl) ?_
                    refine TL_nil ?_
                    refine TX_next ?_
                    refine TC_ret ?_
                    refine TX_then_ret ?_
                    have hrv := Option.some.inj H
                    subst hrv
                    exact TX_ret (rs := [.tmp 10]) (vs := [vb false]) rfl ⟨rfl, trivial⟩ (fun w' hs' => ⟨(), rfl, Step.left (Step.pulled (is := []) (A := []) hs' rfl)⟩)
                  · replace H := ite_f (of_decide_eq_false hc) H
                    refine TC_skip ?_
                    refine TX_next ?_
                    refine TC_seq ?_
                    refine TC_region ?_
                    refine TL_v rfl rfl rfl (V_move rfl) ?_
                    refine TL_v rfl rfl rfl (V_move rfl) ?_
                    refine TL_v rfl rfl rfl (V_conv rfl (fun w => cvI64 w _ _ Try.underlying31 (TryI.und3) .i64 cut)) ?_
                    refine TL_v rfl rfl rfl (V_move rfl) ?_
                    refine TL_v rfl rfl rfl (V_len_str rfl Try.underlying9) ?_
                    refine TL_v rfl rfl rfl (V_conv rfl (fun w => cvI64 w _ _ Try.underlying31 (TryI.und3) .i64 ((r_2.1).length : Int))) ?_
                    obtain ⟨h11, H⟩ := if_elim H
                    refine TL_v rfl rfl rfl (V_bin rfl rfl (fun w => rem64 w (BitVec.ofInt 64 cut) (BitVec.ofInt 64 ((r_2.1).length : Int)) h11)) ?_
                    refine TL_v rfl rfl rfl (V_conv rfl (fun w => cv64toI w _ _ Try.underlying3 (TryI.und31) ((BitVec.ofInt 64 cut) % (BitVec.ofInt 64 ((r_2.1).length : Int))))) ?_
                    obtain ⟨h12, H⟩ := if_elim H
                    obtain ⟨h13, H⟩ := if_elim H
                    refine TL_v rfl rfl rfl (V_sliceStr (l := 0) (h := (w64 (((BitVec.ofInt 64 cut) % (BitVec.ofInt 64 ((r_2.1).length : Int))).toNat : Int)).toNat) rfl Try.underlying9 Bnd.none' (Bnd.some' (i := w64 (((BitVec.ofInt 64 cut) % (BitVec.ofInt 64 ((r_2.1).length : Int))).toNat : Int)) rfl h12) (Nat.zero_le _) h13) ?_
                    refine TL_v rfl rfl rfl (V_assign rfl) ?_
                    obtain ⟨t_2, ht_2, H⟩ := ltt_elim H
                    refine TL_re (d := 20) (v := vs (sub r_2.1 0 ((w64 (((BitVec.ofInt 64 cut) % (BitVec.ofInt 64 ((r_2.1).length : Int))).toNat : Int)).toNat))) (v' := vs t_2) rfl (congrArg vs ht_2) ?_
                    refine TL_nil ?_
                    refine TX_next ?_
                    refine TC_seq ?_
                    refine TC_region ?_
                    refine TL_v rfl rfl rfl (V_move rfl) ?_
                    refine TL_v rfl rfl rfl (V_move rfl) ?_
                    refine TL_v rfl rfl rfl (V_move rfl) ?_
                    refine TL_v rfl rfl rfl (V_move rfl) ?_
                    obtain ⟨r_6, hr_6, H⟩ := bind_elim H
                    refine TL_e rfl rfl rfl (E_call (Γ := Unit) (val := fun g => Value.tuple [vs r_6.1, vi r_6.2].toArray) (mem := fun g => []) (vs := [vs key1, vs nonce1, vs aad, vs t_2]) (Lin := []) (Ro := []) (is := []) rfl Try.call37 (F37_calls key1 nonce1 aad t_2 r_6 hr_6) rfl trivial) (fun g_6 => ?_)
                    refine TL_v rfl rfl rfl (V_move rfl) ?_
                    refine TL_v rfl rfl rfl (V_extract (vs := [vs r_6.1, vi r_6.2]) rfl rfl) ?_
                    refine TL_v rfl rfl rfl (V_extract (vs := [vs r_6.1, vi r_6.2]) rfl rfl) ?_
                    refine TL_v rfl rfl rfl (V_assign rfl) ?_
                    refine TL_v rfl rfl rfl (V_assign rfl) ?_
                    refine TL_nil ?_
                    refine TX_next ?_
                    refine TC_seq ?_
                    refine TC_region ?_
                    refine TL_v rfl rfl rfl (V_move rfl) ?_
                    refine TL_v rfl rfl rfl (V_move rfl) ?_
                    refine TL_v rfl rfl rfl (V_move rfl) ?_
                    refine TL_v rfl rfl rfl (V_move rfl) ?_
                    obtain ⟨r_7, hr_7, H⟩ := bind_elim H
                    refine TL_e rfl rfl rfl (E_call (Γ := Unit) (val := fun g => Value.tuple [vs r_7.1, vi r_7.2].toArray) (mem := fun g => []) (vs := [vs key1, vs nonce1, vs aad, vs t_2]) (Lin := []) (Ro := []) (is := []) rfl Try.call38 (F38_calls key1 nonce1 aad t_2 r_7 hr_7) rfl trivial) (fun g_7 => ?_)
                    refine TL_v rfl rfl rfl (V_move rfl) ?_
                    refine TL_v rfl rfl rfl (V_extract (vs := [vs r_7.1, vi r_7.2]) rfl rfl) ?_
                    refine TL_v rfl rfl rfl (V_extract (vs := [vs r_7.1, vi r_7.2]) rfl rfl) ?_
                    refine TL_v rfl rfl rfl (V_assign rfl) ?_
                    refine TL_v rfl rfl rfl (V_assign rfl) ?_
                    refine TL_nil ?_
                    refine TX_next ?_
                    refine TC.sub (m' := [(21, vs r_6.1), (22, vi r_6.2), (23, vs r_7.1), (24, vi r_7.2)]) ⟨rfl, rfl, rfl, rfl, trivial⟩ ?_
                    refine TC_seq ?_
                    refine TC_region ?_
                    refine TL_v rfl rfl rfl (V_move rfl) ?_
                    refine TL_v rfl rfl rfl (V_move rfl) ?_
                    refine TL_v rfl rfl rfl (V_bin rfl rfl (fun w => eqlS w r_6.1 r_7.1)) ?_
                    refine TL_v rfl rfl rfl (V_move rfl) ?_
                    refine TL_fork (d := 130) (b := (decide (r_6.1 = r_7.1))) rfl (fun hc => ?_) (fun hc => ?_)
                    · replace H := ite_t (of_decide_eq_true hc) H
                      refine TL_want rfl rfl rfl rfl rfl rfl (V_move rfl) ?_
                      obtain ⟨r_8, hr_8, H⟩ := bind_elim H
                      refine TL_wantE rfl rfl rfl rfl rfl rfl (E_call (Γ := Unit) (val := fun g => vi r_8) (mem := fun g => []) (vs := [vi r_6.2]) (Lin := []) (Ro := []) (is := []) rfl Try.call25 (F25_calls r_6.2 r_8 hr_8) rfl trivial) (fun g_8 => ?_)
                      refine TL_want rfl rfl rfl rfl rfl rfl (V_move rfl) ?_
                      refine TL_want rfl rfl rfl rfl rfl rfl (V_bin rfl rfl (fun w => eqlI w r_8 r_7.2)) ?_
                      refine TL_v rfl rfl rfl (V_pick (b := true) rfl rfl) ?_
                      refine TL_v rfl rfl rfl (V_assign rfl) ?_
                      obtain ⟨x1, hx1, H⟩ := ltt_elim H
                      refine TL_re (d := 10) (v := vb (decide (r_8 = r_7.2))) (v' := vb x1) rfl (congrArg vb hx1) ?_
                      refine TL_nil ?_
                      refine TX_next ?_
                      refine TC_ret ?_
                      have hrv := Option.some.inj H
                      subst hrv
                      exact TX_ret (rs := [.tmp 10]) (vs := [vb x1]) rfl ⟨rfl, trivial⟩ (fun w' hs' => ⟨(), rfl, Step.left (Step.pulled (is := []) (A := []) hs' rfl)⟩)
                    · replace H := ite_f (of_decide_eq_false hc) H
                      refine TL_skip rfl rfl rfl rfl rfl rfl rfl ?_
                      refine TL_skip rfl rfl rfl rfl rfl rfl rfl ?_
                      refine TL_skip rfl rfl rfl rfl rfl rfl rfl ?_
                      refine TL_skip rfl rfl rfl rfl rfl rfl rfl ?_
                      refine TL_v rfl rfl rfl (V_pick (b := false) rfl rfl) ?_
                      refine TL_v rfl rfl rfl (V_assign rfl) ?_
                      refine TL_nil ?_
                      refine TX_next ?_
                      refine TC_ret ?_
                      have hrv := Option.some.inj H
                      subst hrv
                      exact TX_ret (rs := [.tmp 10]) (vs := [vb false]) rfl ⟨rfl, trivial⟩ (fun w' hs' => ⟨(), rfl, Step.left (Step.pulled (is := []) (A := []) hs' rfl)⟩)
        · intro hJ
          replace H := Hj
          refine TC_cond (b := wide) rfl (fun hc => ?_) (fun hc => ?_)
          · replace H := ite_t hc H
            refine TC_region ?_
            refine TL_v rfl rfl rfl (V_assign rfl) ?_
            refine TL_nil ?_
            refine TX.sub (m' := [(0, vs seed), (2, vs aad), (3, vs s_), (4, vi cut), (11, vi 32)]) ⟨rfl, rfl, rfl, rfl, rfl, trivial⟩ ?_
            refine TX.pull (is := []) (L' := []) rfl ?_
            obtain rfl := Option.some.inj H
            exact hJ ()
          · replace H := ite_f (Bool.eq_false_iff.1 hc) H
            refine TC_skip ?_
            refine TX.sub (m' := [(0, vs seed), (2, vs aad), (3, vs s_), (4, vi cut), (11, vi 16)]) ⟨rfl, rfl, rfl, rfl, rfl, trivial⟩ ?_
            refine TX.pull (is := []) (L' := []) rfl ?_
            obtain rfl := Option.some.inj H
            exact hJ ()

end Go.Proofs
end

section
/-
  What was sealed is opened.
-/
namespace Go.Proofs
open Go Go.Kx
set_option linter.unusedVariables false
set_option linter.unusedSimpArgs false
theorem GcmBack_true (seed : Str) (wide : Bool) (aad s : Str) (cut : Int) : halberdlaw5_GcmBack seed wide aad s cut = some true := by
  unfold halberdlaw5_GcmBack
  refine bind_i awake5 (if_n (by decide) ?_)
  by_cases c1 : 5000 < (s.length : Int)
  · exact if_i c1 rfl
  refine if_n c1 ?_
  by_cases c2 : 5000 < (aad.length : Int)
  · exact if_i c2 rfl
  refine if_n c2 ?_
  obtain ⟨n, hn, hj⟩ := iop_size wide
  refine bind_i hj ?_
  have e1 : w64 ((n : Int) + 12) = ((n + 12 : Nat) : Int) := w64_add (b := 12) (by omega)
  rw [e1]
  simp only [Int.toNat_natCast]
  obtain ⟨t, ht, hl⟩ := loop_bytes (body := halberdlaw5_GcmBack.b0 seed (n : Int)) (n + 12) (by omega) (fun k t hk ht => by
      have e2 : w64 ((k : Int) + 1) = ((k + 1 : Nat) : Int) := w64_add (b := 1) (by omega)
      unfold halberdlaw5_GcmBack.b0
      simp only [e1, e2, Int.toNat_natCast]
      clear e1 e2
      by_cases c : k < seed.length
      · refine .inl ⟨t.set k (sg seed k), by simpa using ht, if_i (by omega) (if_i (by omega) (if_i (by omega) (if_i (by omega) (if_i (by omega) (ltt_i fun m hm => ltt_i fun i hi => ?_)))))⟩
        rw [hm, hi]
      · exact .inr (if_i (by omega) (if_n (by omega) rfl))) (fun t ht => by
      unfold halberdlaw5_GcmBack.b0
      simp only [e1, Int.toNat_natCast]
      exact if_n (by omega) rfl) (List.replicate (n + 12) 0#8) (by simp)
  clear e1
  refine if_i (by omega) (bind_i hl ?_)
  iterate 6 refine if_i (by omega) ?_
  refine ltt_i fun key hkey => ltt_i fun nonce hnonce => ?_
  have hkl : key.length = n := by rw [hkey, sub_length (by omega)]; omega
  have hnl : nonce.length = 12 := by rw [hnonce, sub_length (by omega)]; omega
  have hk : okKey key := by unfold okKey; omega
  have hos := open_seal key nonce aad s hk hnl (by omega) (by omega)
  have hse : sealE key nonce aad s = (xo key nonce 2 s ++ tagE key nonce aad (xo key nonce 2 s), 0) := by unfold sealE; rw [if_pos ⟨hk, hnl, by omega, by omega⟩]
  have hsl : (sealE key nonce aad s).1.length = s.length + 16 := by
    rw [hse, List.length_append, xo_length, tagE_length]
  have h2 : (sealE key nonce aad s).2 = 0 := by rw [hse]
  refine bind_i (Seal_eq key nonce aad s) (bind_i (Open_eq key nonce aad _) ?_)
  rw [hos]
  refine bind_i (v := (sealE key nonce aad s).2) rfl (if_n (by rw [h2]; decide) (bind_i (v := 0) rfl (if_n (by decide) (if_n (by simp) ?_))))
  generalize (sealE key nonce aad s).1 = c at hsl
  have e3 : w64 ((s.length : Int) + 16) = ((s.length + 16 : Nat) : Int) := w64_add (b := 16) (by omega)
  have hL : (BitVec.ofInt 64 (c.length : Int)).toNat = s.length + 16 := by rw [BitVec.ofInt_natCast, BitVec.toNat_ofNat, hsl]; omega
  have hm : ((BitVec.ofInt 64 cut) % (BitVec.ofInt 64 (c.length : Int))).toNat < s.length + 16 := by
    rw [BitVec.toNat_umod, hL]
    exact Nat.mod_lt _ (by omega)
  generalize hmm : ((BitVec.ofInt 64 cut) % (BitVec.ofInt 64 (c.length : Int))).toNat = m at hm
  have e4 : w64 (m : Int) = (m : Int) := w64_nat (by omega)
  have hnz : BitVec.ofInt 64 (c.length : Int) ≠ 0#64 := fun h => by
    rw [h] at hL; simp at hL
  rw [e3, e4]
  simp only [Int.toNat_natCast]
  clear e3 e4
  refine if_n (by omega) (if_i hnz (if_i (by omega) (if_i (by omega) (ltt_i fun t2 ht2 => ?_))))
  refine bind_i (Open_eq key nonce aad t2) (bind_i (OpenR_eq key nonce aad t2) (if_i rfl (bind_i (v := (openE key nonce aad t2).2) rfl (ltt_i fun x hx => ?_))))
  rw [hx]; simp
end Go.Proofs
end

/-
  Part KGL5 of the proofs of this seat: F17, GcmL5.
-/
import Derived.Test.YtfdnfkpalbihaaaK2
import Derived.Test.YtfdnfkpalbihaaaKG2
import Derived.Test.YtfdnfkpalbihaaaKA2
import Derived.Test.YtfdnfkpalbihaaaKG3
section
namespace Go.Proofs
open Go Go.Kx
set_option linter.unusedVariables false
set_option linter.unusedSimpArgs false
def halberdlaw5_GcmParts.b0 (seed : Str) (j1 : Int) (s0 : Int × List (BitVec 8)) : Option ((Int × List (BitVec 8)) ⊕ (List (BitVec 8))) :=
  if s0.1 < ((w64 (j1 + 12)).toNat : Int) then (if s0.1 < ((seed).length : Int) then (if 0 ≤ s0.1 ∧ s0.1 < ((seed).length : Int) then (if 0 ≤ s0.1 ∧ s0.1 < ((w64 (j1 + 12)).toNat : Int) then (if (s0.1).toNat < (s0.2).length then (ltt (s0.2.set ((s0.1).toNat) (sg seed s0.1)) fun (m_1 : List (BitVec 8)) => (ltt (w64 (s0.1 + 1)) fun (i1 : Int) => (some (.inl (i1, m_1))))) else none) else none) else none) else (some (.inr s0.2))) else (some (.inr s0.2))

def halberdlaw5_GcmParts.b1 (nonce : Str) (j1 : Int) (s1 : Int × List (BitVec 8)) : Option ((Int × List (BitVec 8)) ⊕ (List (BitVec 8))) :=
  if s1.1 < 12 then (if s1.1 < ((nonce).length : Int) then (if 0 ≤ s1.1 ∧ s1.1 < ((nonce).length : Int) then (if 0 ≤ w64 (j1 + s1.1) ∧ w64 (j1 + s1.1) < ((w64 (j1 + 12)).toNat : Int) then (if (w64 (j1 + s1.1)).toNat < (s1.2).length then (ltt (s1.2.set ((w64 (j1 + s1.1)).toNat) (sg nonce s1.1)) fun (m_2 : List (BitVec 8)) => (ltt (w64 (s1.1 + 1)) fun (i2 : Int) => (some (.inl (i2, m_2))))) else none) else none) else none) else (some (.inr s1.2))) else (some (.inr s1.2))

def halberdlaw5_GcmParts.b3 (s_ : Str) (r_2 : Str × Int) (s2 : Int) (r_4 : Str × Int) (s3 : Int) : Option ((Int) ⊕ ((Unit) ⊕ (Bool))) :=
  if s3 < 16 then (if (w64 (s2 + s3)) < ((s_).length : Int) then (if 0 ≤ w64 (s2 + s3) ∧ w64 (s2 + s3) < ((r_2.1).length : Int) then (if 0 ≤ w64 (s2 + s3) ∧ w64 (s2 + s3) < ((s_).length : Int) then (if 0 ≤ s3 ∧ s3 < ((r_4.1).length : Int) then (if (sg r_2.1 (w64 (s2 + s3))) ≠ ((sg s_ (w64 (s2 + s3))) ^^^ (sg r_4.1 s3)) then (some (.inr (.inr false))) else (some (.inl (w64 (s3 + 1))))) else none) else none) else none) else (some (.inr (.inl ())))) else (some (.inr (.inl ())))

def halberdlaw5_GcmParts.b2 (s_ : Str) (key1 : Str) (iv1 : Str) (r_2 : Str × Int) (s2 : Int) : Option ((Int) ⊕ ((Unit) ⊕ (Bool))) :=
  if s2 < ((s_).length : Int) then (ltt (w64 (2 + (w64 (s2.tdiv 16)))) fun (k_1 : Int) => (if (([0#8, 0#8, BitVec.ofInt 8 (shrI' k_1 8), BitVec.ofInt 8 (iop (· &&& ·) k_1 255)] : List (BitVec 8))).length = 4 then (if (iv1).length + (([0#8, 0#8, BitVec.ofInt 8 (shrI' k_1 8), BitVec.ofInt 8 (iop (· &&& ·) k_1 255)] : List (BitVec 8))).length ≤ 4611686018427387904 then ((aes_Block key1 (iv1 ++ ([0#8, 0#8, BitVec.ofInt 8 (shrI' k_1 8), BitVec.ofInt 8 (iop (· &&& ·) k_1 255)] : List (BitVec 8)))).bind fun (r_4 : Str × Int) => ((halberdlaw0_Num r_4.2).bind fun (r_5 : Int) => (if r_5 ≠ 0 then (some (.inr (.inr false))) else (if ((r_4.1).length : Int) ≠ 16 then (some (.inr (.inr false))) else ((loop (halberdlaw5_GcmParts.b3 s_ r_2 s2 r_4) BIG 0).bind fun (t_4 : (Unit) ⊕ (Bool)) => (match t_4 with | .inl t_4 => (ltt (w64 (s2 + 16)) fun (i3 : Int) => (some (.inl i3))) | .inr rv => some (.inr (.inr rv)))))))) else none) else none)) else (some (.inr (.inl ())))

def halberdlaw5_GcmParts (seed : Str) (nonce : Str) (s_ : Str) (wide : Bool) : Option (Bool) :=
  (halberdlaw5_awake).bind fun (r_1 : Bool) => (if (!r_1) = true then (some false) else (if 1000 < ((s_).length : Int) then (some true) else ((if wide = true then (some 32) else (some 16)).bind fun (j1 : Int) => (if 0 ≤ w64 (j1 + 12) ∧ w64 (j1 + 12) ≤ 17592186044416 then ((loop (halberdlaw5_GcmParts.b0 seed j1) BIG (0, List.replicate ((w64 (j1 + 12)).toNat) 0#8)).bind fun (t_1 : List (BitVec 8)) => ((loop (halberdlaw5_GcmParts.b1 nonce j1) BIG (0, t_1)).bind fun (t_2 : List (BitVec 8)) => (if 0 ≤ j1 then (if (j1).toNat ≤ (w64 (j1 + 12)).toNat then (if (j1).toNat ≤ (t_2).length then (if 0 ≤ j1 then (if (j1).toNat ≤ (w64 (j1 + 12)).toNat then (if (w64 (j1 + 12)).toNat ≤ (t_2).length then (ltt (sub t_2 0 ((j1).toNat)) fun (key1 : Str) => (ltt (sub t_2 ((j1).toNat) ((w64 (j1 + 12)).toNat)) fun (iv1 : Str) => ((gcm_Seal key1 iv1 ([] : Str) s_).bind fun (r_2 : Str × Int) => ((halberdlaw0_Num r_2.2).bind fun (r_3 : Int) => (if r_3 ≠ 0 then (some false) else (if ((r_2.1).length : Int) ≠ (w64 (((s_).length : Int) + 16)) then (some false) else ((loop (halberdlaw5_GcmParts.b2 s_ key1 iv1 r_2) BIG 0).bind fun (t_3 : (Unit) ⊕ (Bool)) => (match t_3 with | .inl t_3 => (some true) | .inr rv => some rv)))))))) else none) else none) else none) else none) else none) else none))) else none))))

set_option maxHeartbeats 4000000 in
set_option maxRecDepth 20000 in
theorem F17_calls (seed : Str) (nonce : Str) (s_ : Str) (wide : Bool) (r : Bool) (H : halberdlaw5_GcmParts seed nonce s_ wide = some r) :
    Does Try.prog 17 [vs seed, vs nonce, vs s_, vb wide] [] [] (Γ := Unit) (fun g => vb r) (fun g => []) := by
  intro w hmem hro hd
  refine calls_of (N := 152) (m0 := [(0, vs seed), (1, vs nonce), (2, vs s_), (3, vb wide)]) Try.func17 rfl Try.ntmps17 (argM_ok [vs seed, vs nonce, vs s_, vb wide]) rfl hmem hro hd ?_
  unfold halberdlaw5_GcmParts at H
  refine TC_seq ?_
  refine TC_region ?_
  refine TL_v rfl rfl rfl (V_assign rfl) ?_
  refine TL_nil ?_
  refine TX_next ?_
  refine TC_seq ?_
  refine TC_seq ?_
  refine TC_region ?_
  obtain ⟨r_1, hr_1, H⟩ := bind_elim H
  refine TL_e rfl rfl rfl (E_call (Γ := Unit) (val := fun g => vb r_1) (mem := fun g => []) (vs := []) (Lin := []) (Ro := []) (is := []) rfl Try.call41 (F41_calls r_1 hr_1) rfl trivial) (fun g_1 => ?_)
  refine TL_v rfl rfl rfl (V_un rfl (fun w => notB w r_1)) ?_
  refine TL_nil ?_
  refine TX_next ?_
  refine TC_cond (b := (!r_1)) rfl (fun hc => ?_) (fun hc => ?_)
  · replace H := ite_t hc H
    refine TC_seq ?_
    refine TC_region ?_
    refine TL_v rfl rfl rfl (V_assign rfl) ?_
    refine TL_nil ?_
    refine TX_next ?_
    refine TC_ret ?_
    refine TX_then_ret ?_
    have hrv := Option.some.inj H
    subst hrv
    exact TX_ret (rs := [.tmp 8]) (vs := [vb false]) rfl ⟨rfl, trivial⟩ (fun w' hs' => ⟨(), rfl, Step.left (Step.pulled (is := []) (A := []) hs' rfl)⟩)
  · replace H := ite_f (Bool.eq_false_iff.1 hc) H
    refine TC_skip ?_
    refine TX_next ?_
    refine TC_seq ?_
    refine TC_seq ?_
    refine TC_region ?_
    refine TL_v rfl rfl rfl (V_move rfl) ?_
    refine TL_v rfl rfl rfl (V_len_str rfl Try.underlying9) ?_
    refine TL_v rfl rfl rfl (V_bin rfl rfl (fun w => gtrI w ((s_).length : Int) 1000)) ?_
    refine TL_nil ?_
    refine TX_next ?_
    refine TC_cond (b := (decide (1000 < ((s_).length : Int)))) rfl (fun hc => ?_) (fun hc => ?_)
    · replace H := ite_t (of_decide_eq_true hc) H
      refine TC_seq ?_
      refine TC_region ?_
      refine TL_v rfl rfl rfl (V_assign rfl) ?_
      refine TL_nil ?_
      refine TX_next ?_
      refine TC_ret ?_
      refine TX_then_ret ?_
      have hrv := Option.some.inj H
      subst hrv
      exact TX_ret (rs := [.tmp 8]) (vs := [vb true]) rfl ⟨rfl, trivial⟩ (fun w' hs' => ⟨(), rfl, Step.left (Step.pulled (is := []) (A := []) hs' rfl)⟩)
    · replace H := ite_f (of_decide_eq_false hc) H
      refine TC_skip ?_
      refine TX_next ?_
      refine TC_seq ?_
      refine TC_region ?_
      refine TL_v rfl rfl rfl (V_assign rfl) ?_
      refine TL_nil ?_
      refine TX_next ?_
      refine TC_seq ?_
      refine TC_seq ?_
      refine TC_region ?_
      refine TL_v rfl rfl rfl (V_move rfl) ?_
      refine TL_nil ?_
      refine TX_next ?_
      obtain ⟨j1, Hj, H⟩ := bind_elim H
      refine TC_join (Γ := Unit) (fun gj1 => [(0, vs seed), (1, vs nonce), (2, vs s_), (9, vi j1)]) (fun gj1 => []) ?_ ?_
      · intro gj1
        refine TX_next ?_
        refine TC_seq ?_
        refine TC_region ?_
        refine TL_v rfl rfl rfl (V_move rfl) ?_
        refine TL_v rfl rfl rfl (V_bin rfl rfl (fun w => addI w j1 12)) ?_
        obtain ⟨h1, H⟩ := if_elim H
        refine TL_e rfl rfl rfl (E_mk1 rfl rfl Try.underlying30 TryI.inf5 (z := v8 0#8) rfl rfl rfl (B := 1) rfl h1.1 (Int.le_refl _) (by have := h1; omega) (by have := h1; omega) (n' := (w64 (j1 + 12)).toNat) (c' := (w64 (j1 + 12)).toNat) rfl rfl (cs := e8 (List.replicate ((w64 (j1 + 12)).toNat) 0#8)) (rep_map (f := v8))) (fun b1 => ?_)
        refine TL_v rfl rfl rfl (V_assign rfl) ?_
        refine TL_nil ?_
        refine TX_next ?_
        refine TC_seq ?_
        refine TC_seq ?_
        refine TC_region ?_
        refine TL_v rfl rfl rfl (V_assign rfl) ?_
        refine TL_nil ?_
        refine TX_next ?_
        refine TC_block ?_
        obtain ⟨t_1, Hl, H⟩ := bind_elim H
        refine TC.sub (m' := [(0, vs seed), (1, vs nonce), (2, vs s_), (9, vi j1), (10, sl (some (b1, 0)) ((w64 (j1 + 12)).toNat) ((w64 (j1 + 12)).toNat)), (11, vi 0)]) ⟨rfl, rfl, rfl, rfl, rfl, rfl, trivial⟩ ?_
        refine TC.pull (is := [0]) (L' := [⟨some (b1, 0), e8 (List.replicate ((w64 (j1 + 12)).toNat) 0#8)⟩]) rfl ?_
        refine TC_loopL (id := 0) (body := (halberdlaw5_GcmParts.b0 seed j1)) (σ := Int × List (BitVec 8)) (Γ := Unit) (Γx := Unit) (fun s0 g0_ => [(0, vs seed), (1, vs nonce), (2, vs s_), (9, vi j1), (10, sl (some (b1, 0)) ((w64 (j1 + 12)).toNat) ((w64 (j1 + 12)).toNat)), (11, vi s0.1)]) (fun s0 g0_ => [⟨some (b1, 0), e8 s0.2⟩]) (fun t g => [(1, vs nonce), (2, vs s_), (9, vi j1), (10, sl (some (b1, 0)) ((w64 (j1 + 12)).toNat) ((w64 (j1 + 12)).toNat))]) (fun t g => [⟨some (b1, 0), e8 t⟩]) ?_ BIG (0, List.replicate ((w64 (j1 + 12)).toNat) 0#8) () t_1 Hl ?_
        · intro s0 g0_ r1 H K hK hE
          unfold halberdlaw5_GcmParts.b0 at H
          refine TC_seq ?_
          refine TC_seq ?_
          refine TC_region ?_
          refine TL_v rfl rfl rfl (V_move rfl) ?_
          refine TL_v rfl rfl rfl (V_move rfl) ?_
          refine TL_v rfl rfl rfl (V_len_slice rfl Try.underlying30) ?_
          refine TL_v rfl rfl rfl (V_bin rfl rfl (fun w => lssI w s0.1 ((w64 (j1 + 12)).toNat : Int))) ?_
          refine TL_v rfl rfl rfl (V_move rfl) ?_
          refine TL_fork (d := 35) (b := (decide (s0.1 < ((w64 (j1 + 12)).toNat : Int)))) rfl (fun hc => ?_) (fun hc => ?_)
          · replace H := ite_t (of_decide_eq_true hc) H
            refine TL_want rfl rfl rfl rfl rfl rfl (V_move rfl) ?_
            refine TL_want rfl rfl rfl rfl rfl rfl (V_move rfl) ?_
            refine TL_want rfl rfl rfl rfl rfl rfl (V_len_str rfl Try.underlying9) ?_
            refine TL_want rfl rfl rfl rfl rfl rfl (V_bin rfl rfl (fun w => lssI w s0.1 ((seed).length : Int))) ?_
            refine TL_v rfl rfl rfl (V_pick (b := true) rfl rfl) ?_
            refine TL_nil ?_
            refine TX_next ?_
            refine TC_cond (b := (decide (s0.1 < ((seed).length : Int)))) rfl (fun hc => ?_) (fun hc => ?_)
            · replace H := ite_t (of_decide_eq_true hc) H
              refine TC_skip ?_
              refine TX_next ?_
              refine TC_seq ?_
              refine TC_block ?_
              refine TC_region ?_
              refine TL_v rfl rfl rfl (V_move rfl) ?_
              refine TL_v rfl rfl rfl (V_move rfl) ?_
              refine TL_v rfl rfl rfl (V_move rfl) ?_
              refine TL_v rfl rfl rfl (V_move rfl) ?_
              obtain ⟨h2, H⟩ := if_elim H
              refine TL_v rfl rfl rfl (V_idxStr rfl rfl (i := s0.1) Try.underlying9 h2.1 h2.2) ?_
              obtain ⟨h3, H⟩ := if_elim H
              obtain ⟨h4, H⟩ := if_elim H
              refine TL_v rfl rfl rfl (V_idxSl (i := s0.1) rfl rfl Try.underlying30 TryI.inf5 rfl (fun _ h => by cases h) h3.1 h3.2 (k := (s0.1).toNat) (km1 _)) ?_
              refine TL_n rfl rfl (E_store (j := 0) rfl rfl TryI.inf5 rfl rfl rfl (by simpa using h4) (cs' := e8 (s0.2.set ((s0.1).toNat) (sg seed s0.1))) (set_map (f := v8) (l := s0.2) (k := ((s0.1).toNat)) (x := (sg seed s0.1)))) (fun _ => ?_)
              obtain ⟨m_1, hm_1, H⟩ := ltt_elim H
              refine TL_reE (j := 0) (A := some (b1, 0)) (cs := e8 (s0.2.set ((s0.1).toNat) (sg seed s0.1))) (cs' := e8 m_1) rfl (congrArg (e8) hm_1) ?_
              refine TL_nil ?_
              refine TX_block_normal ?_
              refine TX_next ?_
              refine TC_region ?_
              refine TL_v rfl rfl rfl (V_move rfl) ?_
              refine TL_v rfl rfl rfl (V_bin rfl rfl (fun w => addI w s0.1 1)) ?_
              refine TL_v rfl rfl rfl (V_assign rfl) ?_
              obtain ⟨i1, hi1, H⟩ := ltt_elim H
              refine TL_re (d := 11) (v := vi (w64 (s0.1 + 1))) (v' := vi i1) rfl (congrArg vi hi1) ?_
              refine TL_nil ?_
              refine TX.sub (m' := [(0, vs seed), (1, vs nonce), (2, vs s_), (9, vi j1), (10, sl (some (b1, 0)) ((w64 (j1 + 12)).toNat) ((w64 (j1 + 12)).toNat)), (11, vi i1)]) ⟨rfl, rfl, rfl, rfl, rfl, rfl, trivial⟩ ?_
              refine TX.pull (is := [0]) (L' := [⟨some (b1, 0), e8 m_1⟩]) rfl ?_
              obtain rfl := Option.some.inj H
              exact fun a w hs => hK (i1, m_1) rfl () a w hs
            · replace H := ite_f (of_decide_eq_false hc) H
              refine TC_exit ?_
              refine TX_then_exit ?_
              refine TX_then_exit ?_
              refine TX.sub (m' := [(1, vs nonce), (2, vs s_), (9, vi j1), (10, sl (some (b1, 0)) ((w64 (j1 + 12)).toNat) ((w64 (j1 + 12)).toNat))]) ⟨rfl, rfl, rfl, rfl, trivial⟩ ?_
              refine TX.pull (is := [0]) (L' := [⟨some (b1, 0), e8 s0.2⟩]) rfl ?_
              obtain rfl := Option.some.inj H
              exact hE s0.2 rfl ()
          · replace H := ite_f (of_decide_eq_false hc) H
            refine TL_skip rfl rfl rfl rfl rfl rfl rfl ?_
            refine TL_skip rfl rfl rfl rfl rfl rfl rfl ?_
            refine TL_skip rfl rfl rfl rfl rfl rfl rfl ?_
            refine TL_skip rfl rfl rfl rfl rfl rfl rfl ?_
            refine TL_v rfl rfl rfl (V_pick (b := false) rfl rfl) ?_
            refine TL_nil ?_
            refine TX_next ?_
            refine TC_cond_f rfl ?_
            refine TC_exit ?_
            refine TX_then_exit ?_
            refine TX_then_exit ?_
            refine TX.sub (m' := [(1, vs nonce), (2, vs s_), (9, vi j1), (10, sl (some (b1, 0)) ((w64 (j1 + 12)).toNat) ((w64 (j1 + 12)).toNat))]) ⟨rfl, rfl, rfl, rfl, trivial⟩ ?_
            refine TX.pull (is := [0]) (L' := [⟨some (b1, 0), e8 s0.2⟩]) rfl ?_
            obtain rfl := Option.some.inj H
            exact hE s0.2 rfl ()
        · intro g
          refine TX_block_exit ?_
          refine TX_next ?_
          refine TC_seq ?_
          refine TC_seq ?_
          refine TC_region ?_
          refine TL_v rfl rfl rfl (V_assign rfl) ?_
          refine TL_nil ?_
          refine TX_next ?_
          refine TC_block ?_
          obtain ⟨t_2, Hl, H⟩ := bind_elim H
          refine TC.sub (m' := [(1, vs nonce), (2, vs s_), (9, vi j1), (10, sl (some (b1, 0)) ((w64 (j1 + 12)).toNat) ((w64 (j1 + 12)).toNat)), (12, vi 0)]) ⟨rfl, rfl, rfl, rfl, rfl, trivial⟩ ?_
          refine TC.pull (is := [0]) (L' := [⟨some (b1, 0), e8 t_1⟩]) rfl ?_
          refine TC_loopL (id := 2) (body := (halberdlaw5_GcmParts.b1 nonce j1)) (σ := Int × List (BitVec 8)) (Γ := Unit) (Γx := Unit) (fun s1 g1_ => [(1, vs nonce), (2, vs s_), (9, vi j1), (10, sl (some (b1, 0)) ((w64 (j1 + 12)).toNat) ((w64 (j1 + 12)).toNat)), (12, vi s1.1)]) (fun s1 g1_ => [⟨some (b1, 0), e8 s1.2⟩]) (fun t g => [(2, vs s_), (9, vi j1), (10, sl (some (b1, 0)) ((w64 (j1 + 12)).toNat) ((w64 (j1 + 12)).toNat))]) (fun t g => [⟨some (b1, 0), e8 t⟩]) ?_ BIG (0, t_1) () t_2 Hl ?_
          · intro s1 g1_ r1 H K hK hE
            unfold halberdlaw5_GcmParts.b1 at H
            refine TC_seq ?_
            refine TC_seq ?_
            refine TC_region ?_
            refine TL_v rfl rfl rfl (V_move rfl) ?_
            refine TL_v rfl rfl rfl (V_bin rfl rfl (fun w => lssI w s1.1 12)) ?_
            refine TL_v rfl rfl rfl (V_move rfl) ?_
            refine TL_fork (d := 51) (b := (decide (s1.1 < 12))) rfl (fun hc => ?_) (fun hc => ?_)
            · replace H := ite_t (of_decide_eq_true hc) H
              refine TL_want rfl rfl rfl rfl rfl rfl (V_move rfl) ?_
              refine TL_want rfl rfl rfl rfl rfl rfl (V_move rfl) ?_
              refine TL_want rfl rfl rfl rfl rfl rfl (V_len_str rfl Try.underlying9) ?_
              refine TL_want rfl rfl rfl rfl rfl rfl (V_bin rfl rfl (fun w => lssI w s1.1 ((nonce).length : Int))) ?_
              refine TL_v rfl rfl rfl (V_pick (b := true) rfl rfl) ?_
              refine TL_nil ?_
              refine TX_next ?_
              refine TC_cond (b := (decide (s1.1 < ((nonce).length : Int)))) rfl (fun hc => ?_) (fun hc => ?_)
              · replace H := ite_t (of_decide_eq_true hc) H
                refine TC_skip ?_
                refine TX_next ?_
                refine TC_seq ?_
                refine TC_block ?_
                refine TC_region ?_
                refine TL_v rfl rfl rfl (V_move rfl) ?_
                refine TL_v rfl rfl rfl (V_move rfl) ?_
                refine TL_v rfl rfl rfl (V_move rfl) ?_
                refine TL_v rfl rfl rfl (V_bin rfl rfl (fun w => addI w j1 s1.1)) ?_
                refine TL_v rfl rfl rfl (V_move rfl) ?_
                refine TL_v rfl rfl rfl (V_move rfl) ?_
                obtain ⟨h5, H⟩ := if_elim H
                refine TL_v rfl rfl rfl (V_idxStr rfl rfl (i := s1.1) Try.underlying9 h5.1 h5.2) ?_
                obtain ⟨h6, H⟩ := if_elim H
                obtain ⟨h7, H⟩ := if_elim H
                refine TL_v rfl rfl rfl (V_idxSl (i := w64 (j1 + s1.1)) rfl rfl Try.underlying30 TryI.inf5 rfl (fun _ h => by cases h) h6.1 h6.2 (k := (w64 (j1 + s1.1)).toNat) (km1 _)) ?_
                refine TL_n rfl rfl (E_store (j := 0) rfl rfl TryI.inf5 rfl rfl rfl (by simpa using h7) (cs' := e8 (s1.2.set ((w64 (j1 + s1.1)).toNat) (sg nonce s1.1))) (set_map (f := v8) (l := s1.2) (k := ((w64 (j1 + s1.1)).toNat)) (x := (sg nonce s1.1)))) (fun _ => ?_)
                obtain ⟨m_2, hm_2, H⟩ := ltt_elim H
                refine TL_reE (j := 0) (A := some (b1, 0)) (cs := e8 (s1.2.set ((w64 (j1 + s1.1)).toNat) (sg nonce s1.1))) (cs' := e8 m_2) rfl (congrArg (e8) hm_2) ?_
                refine TL_nil ?_
                refine TX_block_normal ?_
                refine TX_next ?_
                refine TC_region ?_
                refine TL_v rfl rfl rfl (V_move rfl) ?_
                refine TL_v rfl rfl rfl (V_bin rfl rfl (fun w => addI w s1.1 1)) ?_
                refine TL_v rfl rfl rfl (V_assign rfl) ?_
                obtain ⟨i2, hi2, H⟩ := ltt_elim H
                refine TL_re (d := 12) (v := vi (w64 (s1.1 + 1))) (v' := vi i2) rfl (congrArg vi hi2) ?_
                refine TL_nil ?_
                refine TX.sub (m' := [(1, vs nonce), (2, vs s_), (9, vi j1), (10, sl (some (b1, 0)) ((w64 (j1 + 12)).toNat) ((w64 (j1 + 12)).toNat)), (12, vi i2)]) ⟨rfl, rfl, rfl, rfl, rfl, trivial⟩ ?_
                refine TX.pull (is := [0]) (L' := [⟨some (b1, 0), e8 m_2⟩]) rfl ?_
                obtain rfl := Option.some.inj H
                exact fun a w hs => hK (i2, m_2) rfl () a w hs
              · replace H := ite_f (of_decide_eq_false hc) H
                refine TC_exit ?_
                refine TX_then_exit ?_
                refine TX_then_exit ?_
                refine TX.sub (m' := [(2, vs s_), (9, vi j1), (10, sl (some (b1, 0)) ((w64 (j1 + 12)).toNat) ((w64 (j1 + 12)).toNat))]) ⟨rfl, rfl, rfl, trivial⟩ ?_
                refine TX.pull (is := [0]) (L' := [⟨some (b1, 0), e8 s1.2⟩]) rfl ?_
                obtain rfl := Option.some.inj H
                exact hE s1.2 rfl ()
            · replace H := ite_f (of_decide_eq_false hc) H
              refine TL_skip rfl rfl rfl rfl rfl rfl rfl ?_
              refine TL_skip rfl rfl rfl rfl rfl rfl rfl ?_
              refine TL_skip rfl rfl rfl rfl rfl rfl rfl ?_
              refine TL_skip rfl rfl rfl rfl rfl rfl rfl ?_
              refine TL_v rfl rfl rfl (V_pick (b := false) rfl rfl) ?_
              refine TL_nil ?_
              refine TX_next ?_
              refine TC_cond_f rfl ?_
              refine TC_exit ?_
              refine TX_then_exit ?_
              refine TX_then_exit ?_
              refine TX.sub (m' := [(2, vs s_), (9, vi j1), (10, sl (some (b1, 0)) ((w64 (j1 + 12)).toNat) ((w64 (j1 + 12)).toNat))]) ⟨rfl, rfl, rfl, trivial⟩ ?_
              refine TX.pull (is := [0]) (L' := [⟨some (b1, 0), e8 s1.2⟩]) rfl ?_
              obtain rfl := Option.some.inj H
              exact hE s1.2 rfl ()
          · intro g
            refine TX_block_exit ?_
            refine TX_next ?_
            refine TC_seq ?_
            obtain ⟨h8, H⟩ := if_elim H
            obtain ⟨h9, H⟩ := if_elim H
            obtain ⟨h10, H⟩ := if_elim H
            obtain ⟨h11, H⟩ := if_elim H
            obtain ⟨h12, H⟩ := if_elim H
            obtain ⟨h13, H⟩ := if_elim H
            obtain ⟨key1, hkey1, H⟩ := ltt_elim H
            obtain ⟨iv1, hiv1, H⟩ := ltt_elim H
            refine TA_begin [⟨some (b1, 0), e8 t_2⟩] 10 (by kernel_rfl) (N := 10) rfl ?_
            refine TA_take (i := 0) (is := [0]) (done' := #[true, false, false, false, false, false, false, false, false, false]) rfl rfl rfl rfl (by kernel_rfl) (QP.then QP.body) (by kernel_rfl) rfl (V_move rfl) ?_
            refine TA_take (i := 1) (is := [0]) (done' := #[true, true, false, false, false, false, false, false, false, false]) rfl rfl rfl rfl (by kernel_rfl) (QP.then QP.body) (by kernel_rfl) rfl (V_move rfl) ?_
            refine TA_take (i := 2) (is := [0]) (done' := #[true, true, true, false, false, false, false, false, false, false]) rfl rfl rfl rfl (by kernel_rfl) (QP.then QP.body) (by kernel_rfl) rfl (V_sliceVw0 (l := 0) (h := (j1).toNat) rfl Try.underlying30 TryI.inf5 rfl Bnd.none' (Bnd.some' (i := j1) rfl h8) (Nat.zero_le _) h9) ?_
            refine TA_take (i := 3) (is := [0]) (done' := #[true, true, true, true, false, false, false, false, false, false]) rfl rfl rfl rfl (by kernel_rfl) (QP.then QP.body) (by kernel_rfl) rfl (V_b2s rfl Try.underlying30 Try.underlying5 Try.underlying9 (srcVw (lst := t_2) (Src.own (j := 0) rfl) h9) (sub_length h10)) ?_
            refine TA_take (i := 4) (is := [0]) (done' := #[true, true, true, true, true, false, false, false, false, false]) rfl rfl rfl rfl (by kernel_rfl) (QP.then QP.body) (by kernel_rfl) rfl (V_move rfl) ?_
            refine TA_take (i := 5) (is := [0]) (done' := #[true, true, true, true, true, true, false, false, false, false]) rfl rfl rfl rfl (by kernel_rfl) (QP.then QP.body) (by kernel_rfl) rfl (V_move rfl) ?_
            refine TA_take (i := 6) (is := [0]) (done' := #[true, true, true, true, true, true, true, false, false, false]) rfl rfl rfl rfl (by kernel_rfl) (QP.then QP.body) (by kernel_rfl) rfl (V_sliceVw0 (l := (j1).toNat) (h := (w64 (j1 + 12)).toNat) rfl Try.underlying30 TryI.inf5 rfl (Bnd.some' (i := j1) rfl h11) Bnd.none' h12 (Nat.le_refl _)) ?_
            refine TA_take (i := 7) (is := [0]) (done' := #[true, true, true, true, true, true, true, true, false, false]) rfl rfl rfl rfl (by kernel_rfl) (QP.then QP.body) (by kernel_rfl) rfl (V_b2s rfl Try.underlying30 Try.underlying5 Try.underlying9 (srcVw (lst := t_2) (Src.own (j := 0) rfl) (Nat.le_refl _)) (sub_length h13)) ?_
            refine TA_take (i := 8) (is := [0]) (done' := #[true, true, true, true, true, true, true, true, true, false]) rfl rfl rfl rfl (by kernel_rfl) (QP.then QP.body) (by kernel_rfl) rfl (V_assign rfl) ?_
            refine TA_re (d := 13) (v := vs (sub t_2 0 ((j1).toNat))) (v' := vs key1) rfl (congrArg vs hkey1) ?_
            refine TA_take (i := 9) (is := [0]) (done' := #[true, true, true, true, true, true, true, true, true, true]) rfl rfl rfl rfl (by kernel_rfl) (QP.then QP.body) (by kernel_rfl) rfl (V_assign rfl) ?_
            refine TA_re (d := 14) (v := vs (sub t_2 ((j1).toNat) ((w64 (j1 + 12)).toNat))) (v' := vs iv1) rfl (congrArg vs hiv1) ?_
            refine TA_done (by kernel_rfl) ?_ 0
            refine TX_next ?_
            refine TC_seq ?_
            refine TC_region ?_
            refine TL_v rfl rfl rfl (V_move rfl) ?_
            refine TL_v rfl rfl rfl (V_move rfl) ?_
            refine TL_v rfl rfl rfl (V_move rfl) ?_
            obtain ⟨r_2, hr_2, H⟩ := bind_elim H
            refine TL_e rfl rfl rfl (E_call (Γ := Unit) (val := fun g => Value.tuple [vs r_2.1, vi r_2.2].toArray) (mem := fun g => []) (vs := [vs key1, vs iv1, vs ([] : Str), vs s_]) (Lin := []) (Ro := []) (is := []) rfl Try.call35 (F35_calls key1 iv1 ([] : Str) s_ r_2 hr_2) rfl trivial) (fun g_2 => ?_)
            refine TL_v rfl rfl rfl (V_move rfl) ?_
            refine TL_v rfl rfl rfl (V_extract (vs := [vs r_2.1, vi r_2.2]) rfl rfl) ?_
            refine TL_v rfl rfl rfl (V_extract (vs := [vs r_2.1, vi r_2.2]) rfl rfl) ?_
            refine TL_v rfl rfl rfl (V_assign rfl) ?_
            refine TL_v rfl rfl rfl (V_assign rfl) ?_
            refine TL_nil ?_
            refine TX_next ?_
            refine TC_seq ?_
            refine TC_seq ?_
            refine TC_region ?_
            refine TL_v rfl rfl rfl (V_move rfl) ?_
            obtain ⟨r_3, hr_3, H⟩ := bind_elim H
            refine TL_e rfl rfl rfl (E_call (Γ := Unit) (val := fun g => vi r_3) (mem := fun g => []) (vs := [vi r_2.2]) (Lin := []) (Ro := []) (is := []) rfl Try.call25 (F25_calls r_2.2 r_3 hr_3) rfl trivial) (fun g_3 => ?_)
            refine TL_v rfl rfl rfl (V_bin rfl rfl (fun w => neqI w r_3 0)) ?_
            refine TL_v rfl rfl rfl (V_move rfl) ?_
            refine TL_fork (d := 85) (b := (decide (r_3 ≠ 0))) rfl (fun hc => ?_) (fun hc => ?_)
            · replace H := ite_t (of_decide_eq_true hc) H
              refine TL_skip rfl rfl rfl rfl rfl rfl rfl ?_
              refine TL_skip rfl rfl rfl rfl rfl rfl rfl ?_
              refine TL_skip rfl rfl rfl rfl rfl rfl rfl ?_
              refine TL_skip rfl rfl rfl rfl rfl rfl rfl ?_
              refine TL_skip rfl rfl rfl rfl rfl rfl rfl ?_
              refine TL_skip rfl rfl rfl rfl rfl rfl rfl ?_
              refine TL_v rfl rfl rfl (V_pick (b := true) rfl rfl) ?_
              refine TL_nil ?_
              refine TX_next ?_
              refine TC.sub (m' := [(2, vs s_), (13, vs key1), (14, vs iv1), (15, vs r_2.1), (92, vb true)]) ⟨rfl, rfl, rfl, rfl, rfl, trivial⟩ ?_
              refine TC_cond_t rfl ?_
              refine TC_seq ?_
              refine TC_region ?_
              refine TL_v rfl rfl rfl (V_assign rfl) ?_
              refine TL_nil ?_
              refine TX_next ?_
              refine TC_ret ?_
              refine TX_then_ret ?_
              have hrv := Option.some.inj H
              subst hrv
              exact TX_ret (rs := [.tmp 8]) (vs := [vb false]) rfl ⟨rfl, trivial⟩ (fun w' hs' => ⟨(), rfl, Step.left (Step.pulled (is := []) (A := []) hs' rfl)⟩)
            · replace H := ite_f (of_decide_eq_false hc) H
              refine TL_want rfl rfl rfl rfl rfl rfl (V_move rfl) ?_
              refine TL_want rfl rfl rfl rfl rfl rfl (V_len_str rfl Try.underlying9) ?_
              refine TL_want rfl rfl rfl rfl rfl rfl (V_move rfl) ?_
              refine TL_want rfl rfl rfl rfl rfl rfl (V_len_str rfl Try.underlying9) ?_
              refine TL_want rfl rfl rfl rfl rfl rfl (V_bin rfl rfl (fun w => addI w ((s_).length : Int) 16)) ?_
              refine TL_want rfl rfl rfl rfl rfl rfl (V_bin rfl rfl (fun w => neqI w ((r_2.1).length : Int) (w64 (((s_).length : Int) + 16)))) ?_
              refine TL_v rfl rfl rfl (V_pick (b := false) rfl rfl) ?_
              refine TL_nil ?_
              refine TX_next ?_
              refine TC.sub (m' := [(2, vs s_), (13, vs key1), (14, vs iv1), (15, vs r_2.1), (92, vb (decide (((r_2.1).length : Int) ≠ (w64 (((s_).length : Int) + 16)))))]) ⟨rfl, rfl, rfl, rfl, rfl, trivial⟩ ?_
              refine TC_cond (b := (decide (((r_2.1).length : Int) ≠ (w64 (((s_).length : Int) + 16))))) rfl (fun hc => ?_) (fun hc => ?_)
              · replace H := ite_t (of_decide_eq_true hc) H
                refine TC_seq ?_
                refine TC_region ?_
                refine TL_v rfl rfl rfl (V_assign rfl) ?_
                refine TL_nil ?_
                refine TX_next ?_
                refine TC_ret ?_
                refine TX_then_ret ?_
                have hrv := Option.some.inj H
                subst hrv
                exact TX_ret (rs := [.tmp 8]) (vs := [vb false]) rfl ⟨rfl, trivial⟩ (fun w' hs' => ⟨(), rfl, Step.left (Step.pulled (is := []) (A := []) hs' rfl)⟩)
              · replace H := ite_f (of_decide_eq_false hc) H
                refine TC_skip ?_
                refine TX_next ?_
                refine TC_seq ?_
                refine TC_seq ?_
                refine TC_region ?_
                refine TL_v rfl rfl rfl (V_assign rfl) ?_
                refine TL_nil ?_
                refine TX_next ?_
                refine TC_block ?_
                obtain ⟨t_3, Hl, H⟩ := bind_elim H
                refine TC.sub (m' := [(2, vs s_), (13, vs key1), (14, vs iv1), (15, vs r_2.1), (17, vi 0)]) ⟨rfl, rfl, rfl, rfl, rfl, trivial⟩ ?_
                refine TC.pull (is := []) (L' := []) rfl ?_
                refine TC_loopR (id := 4) (body := (halberdlaw5_GcmParts.b2 s_ key1 iv1 r_2)) (σ := Int) (Γ := Unit) (Γx := Unit) (fun s2 g2_ => [(2, vs s_), (13, vs key1), (14, vs iv1), (15, vs r_2.1), (17, vi s2)]) (fun s2 g2_ => []) (fun t g => []) (fun t g => []) r ?_ BIG 0 () t_3 Hl ?_
                · intro s2 g2_ r1 H K hK hE hR1
                  unfold halberdlaw5_GcmParts.b2 at H
                  refine TC_seq ?_
                  refine TC_seq ?_
                  refine TC_region ?_
                  refine TL_v rfl rfl rfl (V_move rfl) ?_
                  refine TL_v rfl rfl rfl (V_move rfl) ?_
                  refine TL_v rfl rfl rfl (V_len_str rfl Try.underlying9) ?_
                  refine TL_v rfl rfl rfl (V_bin rfl rfl (fun w => lssI w s2 ((s_).length : Int))) ?_
                  refine TL_nil ?_
                  refine TX_next ?_
                  refine TC_cond (b := (decide (s2 < ((s_).length : Int)))) rfl (fun hc => ?_) (fun hc => ?_)
                  · replace H := ite_t (of_decide_eq_true hc) H
                    refine TC_skip ?_
                    refine TX_next ?_
                    refine TC_seq ?_
                    refine TC_block ?_
                    refine TC_seq ?_
                    refine TC_region ?_
                    refine TL_v rfl rfl rfl (V_move rfl) ?_
                    refine TL_v rfl rfl rfl (V_bin rfl rfl (fun w => quoI w s2 16 (by decide))) ?_
                    refine TL_v rfl rfl rfl (V_bin rfl rfl (fun w => addI w 2 (w64 (s2.tdiv 16)))) ?_
                    refine TL_v rfl rfl rfl (V_assign rfl) ?_
                    obtain ⟨k_1, hk_1, H⟩ := ltt_elim H
                    refine TL_re (d := 18) (v := vi (w64 (2 + (w64 (s2.tdiv 16))))) (v' := vi k_1) rfl (congrArg vi hk_1) ?_
                    refine TL_nil ?_
                    refine TX_next ?_
                    refine TC_seq ?_
                    refine TC_region ?_
                    refine TL_v rfl rfl rfl (V_move rfl) ?_
                    refine TL_v rfl rfl rfl (V_move rfl) ?_
                    refine TL_v rfl rfl rfl (V_move rfl) ?_
                    refine TL_v rfl rfl rfl (V_bin rfl rfl (fun w => shrI w k_1 .u64 8 (by decide))) ?_
                    refine TL_v rfl rfl rfl (V_conv rfl (fun w => cvI8 w _ _ Try.underlying5 (TryI.und3) .i64 (shrI' k_1 8))) ?_
                    refine TL_v rfl rfl rfl (V_move rfl) ?_
                    refine TL_v rfl rfl rfl (V_bin rfl rfl (fun w => andI w k_1 255)) ?_
                    refine TL_v rfl rfl rfl (V_conv rfl (fun w => cvI8 w _ _ Try.underlying5 (TryI.und3) .i64 (iop (· &&& ·) k_1 255))) ?_
                    refine TL_e rfl rfl rfl (E_buildSlice (pv := [(0, v8 0#8), (1, v8 0#8), (2, v8 (BitVec.ofInt 8 (shrI' k_1 8))), (3, v8 (BitVec.ofInt 8 (iop (· &&& ·) k_1 255)))]) rfl rfl Try.underlying30 TryI.inf5 (s := 1) rfl TryI.zer5 rfl rfl rfl (cs := e8 ([0#8, 0#8, BitVec.ofInt 8 (shrI' k_1 8), BitVec.ofInt 8 (iop (· &&& ·) k_1 255)] : List (BitVec 8))) (by kernel_rfl)) (fun b2 => ?_)
                    obtain ⟨h14, H⟩ := if_elim H
                    refine TL_v rfl rfl rfl (V_b2s rfl Try.underlying30 Try.underlying5 Try.underlying9 (Src.own (j := 0) rfl) h14) ?_
                    obtain ⟨h15, H⟩ := if_elim H
                    refine TL_v rfl rfl rfl (V_bin rfl rfl (fun w => addS w iv1 ([0#8, 0#8, BitVec.ofInt 8 (shrI' k_1 8), BitVec.ofInt 8 (iop (· &&& ·) k_1 255)] : List (BitVec 8)) h15)) ?_
                    obtain ⟨r_4, hr_4, H⟩ := bind_elim H
                    refine TL_e rfl rfl rfl (E_call (Γ := Unit) (val := fun g => Value.tuple [vs r_4.1, vi r_4.2].toArray) (mem := fun g => []) (vs := [vs key1, vs (iv1 ++ ([0#8, 0#8, BitVec.ofInt 8 (shrI' k_1 8), BitVec.ofInt 8 (iop (· &&& ·) k_1 255)] : List (BitVec 8)))]) (Lin := []) (Ro := []) (is := []) rfl Try.call23 (F23_calls key1 (iv1 ++ ([0#8, 0#8, BitVec.ofInt 8 (shrI' k_1 8), BitVec.ofInt 8 (iop (· &&& ·) k_1 255)] : List (BitVec 8))) r_4 hr_4) rfl trivial) (fun g_4 => ?_)
                    refine TL_v rfl rfl rfl (V_move rfl) ?_
                    refine TL_v rfl rfl rfl (V_extract (vs := [vs r_4.1, vi r_4.2]) rfl rfl) ?_
                    refine TL_v rfl rfl rfl (V_extract (vs := [vs r_4.1, vi r_4.2]) rfl rfl) ?_
                    refine TL_v rfl rfl rfl (V_assign rfl) ?_
                    refine TL_v rfl rfl rfl (V_assign rfl) ?_
                    refine TL_nil ?_
                    refine TX_next ?_
                    refine TC.sub (m' := [(2, vs s_), (13, vs key1), (14, vs iv1), (15, vs r_2.1), (17, vi s2), (19, vs r_4.1), (20, vi r_4.2)]) ⟨rfl, rfl, rfl, rfl, rfl, rfl, rfl, trivial⟩ ?_
                    refine TC_seq ?_
                    refine TC_seq ?_
                    refine TC_region ?_
                    refine TL_v rfl rfl rfl (V_move rfl) ?_
                    obtain ⟨r_5, hr_5, H⟩ := bind_elim H
                    refine TL_e rfl rfl rfl (E_call (Γ := Unit) (val := fun g => vi r_5) (mem := fun g => []) (vs := [vi r_4.2]) (Lin := []) (Ro := []) (is := []) rfl Try.call25 (F25_calls r_4.2 r_5 hr_5) rfl trivial) (fun g_5 => ?_)
                    refine TL_v rfl rfl rfl (V_bin rfl rfl (fun w => neqI w r_5 0)) ?_
                    refine TL_v rfl rfl rfl (V_move rfl) ?_
                    refine TL_fork (d := 120) (b := (decide (r_5 ≠ 0))) rfl (fun hc => ?_) (fun hc => ?_)
                    · replace H := ite_t (of_decide_eq_true hc) H
                      refine TL_skip rfl rfl rfl rfl rfl rfl rfl ?_
                      refine TL_skip rfl rfl rfl rfl rfl rfl rfl ?_
                      refine TL_skip rfl rfl rfl rfl rfl rfl rfl ?_
                      refine TL_v rfl rfl rfl (V_pick (b := true) rfl rfl) ?_
                      refine TL_nil ?_
                      refine TX_next ?_
                      refine TC_cond_t rfl ?_
                      refine TC_seq ?_
                      refine TC_region ?_
                      refine TL_v rfl rfl rfl (V_assign rfl) ?_
                      refine TL_nil ?_
                      refine TX_next ?_
                      refine TC_ret ?_
                      refine TX_then_ret ?_
                      refine TX_block_ret ?_
                      refine TX_then_ret ?_
                      refine TX_then_ret ?_
                      refine TX_block_ret ?_
                      refine TX_then_ret ?_
                      have hrv := (hR1 _ (Option.some.inj H).symm)
                      subst hrv
                      exact TX_ret (rs := [.tmp 8]) (vs := [vb false]) rfl ⟨rfl, trivial⟩ (fun w' hs' => ⟨(), rfl, Step.left (Step.pulled (is := []) (A := []) hs' rfl)⟩)
                    · replace H := ite_f (of_decide_eq_false hc) H
                      refine TL_want rfl rfl rfl rfl rfl rfl (V_move rfl) ?_
                      refine TL_want rfl rfl rfl rfl rfl rfl (V_len_str rfl Try.underlying9) ?_
                      refine TL_want rfl rfl rfl rfl rfl rfl (V_bin rfl rfl (fun w => neqI w ((r_4.1).length : Int) 16)) ?_
                      refine TL_v rfl rfl rfl (V_pick (b := false) rfl rfl) ?_
                      refine TL_nil ?_
                      refine TX_next ?_
                      refine TC_cond (b := (decide (((r_4.1).length : Int) ≠ 16))) rfl (fun hc => ?_) (fun hc => ?_)
                      · replace H := ite_t (of_decide_eq_true hc) H
                        refine TC_seq ?_
                        refine TC_region ?_
                        refine TL_v rfl rfl rfl (V_assign rfl) ?_
                        refine TL_nil ?_
                        refine TX_next ?_
                        refine TC_ret ?_
                        refine TX_then_ret ?_
                        refine TX_block_ret ?_
                        refine TX_then_ret ?_
                        refine TX_then_ret ?_
                        refine TX_block_ret ?_
                        refine TX_then_ret ?_
                        have hrv := (hR1 _ (Option.some.inj H).symm)
                        subst hrv
                        exact TX_ret (rs := [.tmp 8]) (vs := [vb false]) rfl ⟨rfl, trivial⟩ (fun w' hs' => ⟨(), rfl, Step.left (Step.pulled (is := []) (A := []) hs' rfl)⟩)
                      · replace H := ite_f (of_decide_eq_false hc) H
                        refine TC_skip ?_
                        refine TX_next ?_
                        refine TC_seq ?_
                        refine TC_region ?_
                        refine TL_v rfl rfl rfl (V_assign rfl) ?_
                        refine TL_nil ?_
                        refine TX_next ?_
                        refine TC_block ?_
                        obtain ⟨t_4, Hl, H⟩ := bind_elim H
                        refine TC.sub (m' := [(2, vs s_), (13, vs key1), (14, vs iv1), (15, vs r_2.1), (17, vi s2), (19, vs r_4.1), (21, vi 0)]) ⟨rfl, rfl, rfl, rfl, rfl, rfl, rfl, trivial⟩ ?_
                        refine TC.pull (is := []) (L' := []) rfl ?_
                        refine TC_loopR (id := 6) (body := (halberdlaw5_GcmParts.b3 s_ r_2 s2 r_4)) (σ := Int) (Γ := Unit) (Γx := Unit) (fun s3 g3_ => [(2, vs s_), (13, vs key1), (14, vs iv1), (15, vs r_2.1), (17, vi s2), (19, vs r_4.1), (21, vi s3)]) (fun s3 g3_ => []) (fun t g => [(2, vs s_), (13, vs key1), (14, vs iv1), (15, vs r_2.1), (17, vi s2)]) (fun t g => []) r ?_ BIG 0 () t_4 Hl ?_
                        · intro s3 g3_ r1 H K hK hE hR2
                          unfold halberdlaw5_GcmParts.b3 at H
                          refine TC_seq ?_
                          refine TC_seq ?_
                          refine TC_region ?_
                          refine TL_v rfl rfl rfl (V_move rfl) ?_
                          refine TL_v rfl rfl rfl (V_bin rfl rfl (fun w => lssI w s3 16)) ?_
                          refine TL_v rfl rfl rfl (V_move rfl) ?_
                          refine TL_fork (d := 127) (b := (decide (s3 < 16))) rfl (fun hc => ?_) (fun hc => ?_)
                          · replace H := ite_t (of_decide_eq_true hc) H
                            refine TL_want rfl rfl rfl rfl rfl rfl (V_move rfl) ?_
                            refine TL_want rfl rfl rfl rfl rfl rfl (V_move rfl) ?_
                            refine TL_want rfl rfl rfl rfl rfl rfl (V_bin rfl rfl (fun w => addI w s2 s3)) ?_
                            refine TL_want rfl rfl rfl rfl rfl rfl (V_move rfl) ?_
                            refine TL_want rfl rfl rfl rfl rfl rfl (V_len_str rfl Try.underlying9) ?_
                            refine TL_want rfl rfl rfl rfl rfl rfl (V_bin rfl rfl (fun w => lssI w (w64 (s2 + s3)) ((s_).length : Int))) ?_
                            refine TL_v rfl rfl rfl (V_pick (b := true) rfl rfl) ?_
                            refine TL_nil ?_
                            refine TX_next ?_
                            refine TC_cond (b := (decide ((w64 (s2 + s3)) < ((s_).length : Int)))) rfl (fun hc => ?_) (fun hc => ?_)
                            · replace H := ite_t (of_decide_eq_true hc) H
                              refine TC_skip ?_
                              refine TX_next ?_
                              refine TC_seq ?_
                              refine TC_block ?_
                              refine TC_seq ?_
                              obtain ⟨h16, H⟩ := if_elim H
                              obtain ⟨h17, H⟩ := if_elim H
                              obtain ⟨h18, H⟩ := if_elim H
                              refine TA_begin [] 15 (by kernel_rfl) (N := 15) rfl ?_
                              refine TA_take (i := 0) (is := []) (done' := #[true, false, false, false, false, false, false, false, false, false, false, false, false, false, false]) rfl rfl rfl rfl (by kernel_rfl) (QP.then (QP.block (QP.then (QP.then (QP.block (QP.block (QP.then (QP.then (QP.block (QP.then QP.body)))))))))) (by kernel_rfl) rfl (V_move rfl) ?_
                              refine TA_take (i := 1) (is := []) (done' := #[true, true, false, false, false, false, false, false, false, false, false, false, false, false, false]) rfl rfl rfl rfl (by kernel_rfl) (QP.then (QP.block (QP.then (QP.then (QP.block (QP.block (QP.then (QP.then (QP.block (QP.then QP.body)))))))))) (by kernel_rfl) rfl (V_move rfl) ?_
                              refine TA_take (i := 2) (is := []) (done' := #[true, true, true, false, false, false, false, false, false, false, false, false, false, false, false]) rfl rfl rfl rfl (by kernel_rfl) (QP.then (QP.block (QP.then (QP.then (QP.block (QP.block (QP.then (QP.then (QP.block (QP.then QP.body)))))))))) (by kernel_rfl) rfl (V_move rfl) ?_
                              refine TA_take (i := 3) (is := []) (done' := #[true, true, true, true, false, false, false, false, false, false, false, false, false, false, false]) rfl rfl rfl rfl (by kernel_rfl) (QP.then (QP.block (QP.then (QP.then (QP.block (QP.block (QP.then (QP.then (QP.block (QP.then QP.body)))))))))) (by kernel_rfl) rfl (V_bin rfl rfl (fun w => addI w s2 s3)) ?_
                              refine TA_take (i := 4) (is := []) (done' := #[true, true, true, true, true, false, false, false, false, false, false, false, false, false, false]) rfl rfl rfl rfl (by kernel_rfl) (QP.then (QP.block (QP.then (QP.then (QP.block (QP.block (QP.then (QP.then (QP.block (QP.then QP.body)))))))))) (by kernel_rfl) rfl (V_idxStr rfl rfl (i := w64 (s2 + s3)) Try.underlying9 h16.1 h16.2) ?_
                              refine TA_take (i := 5) (is := []) (done' := #[true, true, true, true, true, true, false, false, false, false, false, false, false, false, false]) rfl rfl rfl rfl (by kernel_rfl) (QP.then (QP.block (QP.then (QP.then (QP.block (QP.block (QP.then (QP.then (QP.block (QP.then QP.body)))))))))) (by kernel_rfl) rfl (V_move rfl) ?_
                              refine TA_take (i := 6) (is := []) (done' := #[true, true, true, true, true, true, true, false, false, false, false, false, false, false, false]) rfl rfl rfl rfl (by kernel_rfl) (QP.then (QP.block (QP.then (QP.then (QP.block (QP.block (QP.then (QP.then (QP.block (QP.then QP.body)))))))))) (by kernel_rfl) rfl (V_move rfl) ?_
                              refine TA_take (i := 7) (is := []) (done' := #[true, true, true, true, true, true, true, true, false, false, false, false, false, false, false]) rfl rfl rfl rfl (by kernel_rfl) (QP.then (QP.block (QP.then (QP.then (QP.block (QP.block (QP.then (QP.then (QP.block (QP.then QP.body)))))))))) (by kernel_rfl) rfl (V_move rfl) ?_
                              refine TA_take (i := 8) (is := []) (done' := #[true, true, true, true, true, true, true, true, true, false, false, false, false, false, false]) rfl rfl rfl rfl (by kernel_rfl) (QP.then (QP.block (QP.then (QP.then (QP.block (QP.block (QP.then (QP.then (QP.block (QP.then QP.body)))))))))) (by kernel_rfl) rfl (V_bin rfl rfl (fun w => addI w s2 s3)) ?_
                              refine TA_take (i := 9) (is := []) (done' := #[true, true, true, true, true, true, true, true, true, true, false, false, false, false, false]) rfl rfl rfl rfl (by kernel_rfl) (QP.then (QP.block (QP.then (QP.then (QP.block (QP.block (QP.then (QP.then (QP.block (QP.then QP.body)))))))))) (by kernel_rfl) rfl (V_idxStr rfl rfl (i := w64 (s2 + s3)) Try.underlying9 h17.1 h17.2) ?_
                              refine TA_take (i := 10) (is := []) (done' := #[true, true, true, true, true, true, true, true, true, true, true, false, false, false, false]) rfl rfl rfl rfl (by kernel_rfl) (QP.then (QP.block (QP.then (QP.then (QP.block (QP.block (QP.then (QP.then (QP.block (QP.then QP.body)))))))))) (by kernel_rfl) rfl (V_move rfl) ?_
                              refine TA_take (i := 11) (is := []) (done' := #[true, true, true, true, true, true, true, true, true, true, true, true, false, false, false]) rfl rfl rfl rfl (by kernel_rfl) (QP.then (QP.block (QP.then (QP.then (QP.block (QP.block (QP.then (QP.then (QP.block (QP.then QP.body)))))))))) (by kernel_rfl) rfl (V_move rfl) ?_
                              refine TA_take (i := 12) (is := []) (done' := #[true, true, true, true, true, true, true, true, true, true, true, true, true, false, false]) rfl rfl rfl rfl (by kernel_rfl) (QP.then (QP.block (QP.then (QP.then (QP.block (QP.block (QP.then (QP.then (QP.block (QP.then QP.body)))))))))) (by kernel_rfl) rfl (V_idxStr rfl rfl (i := s3) Try.underlying9 h18.1 h18.2) ?_
                              refine TA_take (i := 13) (is := []) (done' := #[true, true, true, true, true, true, true, true, true, true, true, true, true, true, false]) rfl rfl rfl rfl (by kernel_rfl) (QP.then (QP.block (QP.then (QP.then (QP.block (QP.block (QP.then (QP.then (QP.block (QP.then QP.body)))))))))) (by kernel_rfl) rfl (V_bin rfl rfl (fun w => xor8 w (sg s_ (w64 (s2 + s3))) (sg r_4.1 s3))) ?_
                              refine TA_take (i := 14) (is := []) (done' := #[true, true, true, true, true, true, true, true, true, true, true, true, true, true, true]) rfl rfl rfl rfl (by kernel_rfl) (QP.then (QP.block (QP.then (QP.then (QP.block (QP.block (QP.then (QP.then (QP.block (QP.then QP.body)))))))))) (by kernel_rfl) rfl (V_bin rfl rfl (fun w => neq8 w (sg r_2.1 (w64 (s2 + s3))) ((sg s_ (w64 (s2 + s3))) ^^^ (sg r_4.1 s3)))) ?_
                              refine TA_done (by kernel_rfl) ?_ 0
                              refine TX_next ?_
                              refine TC.sub (m' := [(2, vs s_), (13, vs key1), (14, vs iv1), (15, vs r_2.1), (17, vi s2), (19, vs r_4.1), (21, vi s3), (151, vb (decide ((sg r_2.1 (w64 (s2 + s3))) ≠ ((sg s_ (w64 (s2 + s3))) ^^^ (sg r_4.1 s3)))))]) ⟨rfl, rfl, rfl, rfl, rfl, rfl, rfl, rfl, trivial⟩ ?_
                              refine TC_cond (b := (decide ((sg r_2.1 (w64 (s2 + s3))) ≠ ((sg s_ (w64 (s2 + s3))) ^^^ (sg r_4.1 s3))))) rfl (fun hc => ?_) (fun hc => ?_)
                              · replace H := ite_t (of_decide_eq_true hc) H
                                refine TC_seq ?_
                                refine TC_region ?_
                                refine TL_v rfl rfl rfl (V_assign rfl) ?_
                                refine TL_nil ?_
                                refine TX_next ?_
                                refine TC_ret ?_
                                refine TX_block_ret ?_
                                refine TX_then_ret ?_
                                refine TX_then_ret ?_
                                refine TX_block_ret ?_
                                refine TX_block_ret ?_
                                refine TX_then_ret ?_
                                refine TX_then_ret ?_
                                refine TX_block_ret ?_
                                refine TX_then_ret ?_
                                have hrv := (hR2 _ (Option.some.inj H).symm)
                                subst hrv
                                exact TX_ret (rs := [.tmp 8]) (vs := [vb false]) rfl ⟨rfl, trivial⟩ (fun w' hs' => ⟨(), rfl, Step.left (Step.pulled (is := []) (A := []) hs' rfl)⟩)
                              · replace H := ite_f (of_decide_eq_false hc) H
                                refine TC_skip ?_
                                refine TX_block_normal ?_
                                refine TX_next ?_
                                refine TC_region ?_
                                refine TL_v rfl rfl rfl (V_move rfl) ?_
                                refine TL_v rfl rfl rfl (V_bin rfl rfl (fun w => addI w s3 1)) ?_
                                refine TL_v rfl rfl rfl (V_assign rfl) ?_
                                refine TL_nil ?_
                                refine TX.sub (m' := [(2, vs s_), (13, vs key1), (14, vs iv1), (15, vs r_2.1), (17, vi s2), (19, vs r_4.1), (21, vi (w64 (s3 + 1)))]) ⟨rfl, rfl, rfl, rfl, rfl, rfl, rfl, trivial⟩ ?_
                                refine TX.pull (is := []) (L' := []) rfl ?_
                                obtain rfl := Option.some.inj H
                                exact fun a w hs => hK (w64 (s3 + 1)) rfl () a w hs
                            · replace H := ite_f (of_decide_eq_false hc) H
                              refine TC_exit ?_
                              refine TX_then_exit ?_
                              refine TX_then_exit ?_
                              refine TX.sub (m' := [(2, vs s_), (13, vs key1), (14, vs iv1), (15, vs r_2.1), (17, vi s2)]) ⟨rfl, rfl, rfl, rfl, rfl, trivial⟩ ?_
                              refine TX.pull (is := []) (L' := []) rfl ?_
                              obtain rfl := Option.some.inj H
                              exact hE () rfl ()
                          · replace H := ite_f (of_decide_eq_false hc) H
                            refine TL_skip rfl rfl rfl rfl rfl rfl rfl ?_
                            refine TL_skip rfl rfl rfl rfl rfl rfl rfl ?_
                            refine TL_skip rfl rfl rfl rfl rfl rfl rfl ?_
                            refine TL_skip rfl rfl rfl rfl rfl rfl rfl ?_
                            refine TL_skip rfl rfl rfl rfl rfl rfl rfl ?_
                            refine TL_skip rfl rfl rfl rfl rfl rfl rfl ?_
                            refine TL_v rfl rfl rfl (V_pick (b := false) rfl rfl) ?_
                            refine TL_nil ?_
                            refine TX_next ?_
                            refine TC_cond_f rfl ?_
                            refine TC_exit ?_
                            refine TX_then_exit ?_
                            refine TX_then_exit ?_
                            refine TX.sub (m' := [(2, vs s_), (13, vs key1), (14, vs iv1), (15, vs r_2.1), (17, vi s2)]) ⟨rfl, rfl, rfl, rfl, rfl, trivial⟩ ?_
                            refine TX.pull (is := []) (L' := []) rfl ?_
                            obtain rfl := Option.some.inj H
                            exact hE () rfl ()
                        · rcases t_4 with t_4 | rv
                          · intro gx3
                            dsimp only at H
                            refine TX_block_exit ?_
                            refine TX_block_normal ?_
                            refine TX_next ?_
                            refine TC_region ?_
                            refine TL_v rfl rfl rfl (V_move rfl) ?_
                            refine TL_v rfl rfl rfl (V_bin rfl rfl (fun w => addI w s2 16)) ?_
                            refine TL_v rfl rfl rfl (V_assign rfl) ?_
                            obtain ⟨i3, hi3, H⟩ := ltt_elim H
                            refine TL_re (d := 17) (v := vi (w64 (s2 + 16))) (v' := vi i3) rfl (congrArg vi hi3) ?_
                            refine TL_nil ?_
                            refine TX.sub (m' := [(2, vs s_), (13, vs key1), (14, vs iv1), (15, vs r_2.1), (17, vi i3)]) ⟨rfl, rfl, rfl, rfl, rfl, trivial⟩ ?_
                            refine TX.pull (is := []) (L' := []) rfl ?_
                            obtain rfl := Option.some.inj H
                            exact fun a w hs => hK i3 rfl () a w hs
                          · exact (hR1 _ (Option.some.inj H).symm)
                  · replace H := ite_f (of_decide_eq_false hc) H
                    refine TC_exit ?_
                    refine TX_then_exit ?_
                    refine TX_then_exit ?_
                    refine TX.sub (m' := []) trivial ?_
                    refine TX.pull (is := []) (L' := []) rfl ?_
                    obtain rfl := Option.some.inj H
                    exact hE () rfl ()
                · rcases t_3 with t_3 | rv
                  · intro gx4
                    dsimp only at H
                    refine TX_block_exit ?_
                    refine TX_next ?_
                    refine TC_seq ?_
                    refine TC_region ?_
                    refine TL_v rfl rfl rfl (V_assign rfl) ?_
                    refine TL_nil ?_
                    refine TX_next ?_
                    refine TC_ret ?_
                    have hrv := Option.some.inj H
                    subst hrv
                    exact TX_ret (rs := [.tmp 8]) (vs := [vb true]) rfl ⟨rfl, trivial⟩ (fun w' hs' => ⟨(), rfl, Step.left (Step.pulled (is := []) (A := []) hs' rfl)⟩)
                  · exact (Option.some.inj H)
      · intro hJ
        replace H := Hj
        refine TC_cond (b := wide) rfl (fun hc => ?_) (fun hc => ?_)
        · replace H := ite_t hc H
          refine TC_region ?_
          refine TL_v rfl rfl rfl (V_assign rfl) ?_
          refine TL_nil ?_
          refine TX.sub (m' := [(0, vs seed), (1, vs nonce), (2, vs s_), (9, vi 32)]) ⟨rfl, rfl, rfl, rfl, trivial⟩ ?_
          refine TX.pull (is := []) (L' := []) rfl ?_
          obtain rfl := Option.some.inj H
          exact hJ ()
        · replace H := ite_f (Bool.eq_false_iff.1 hc) H
          refine TC_skip ?_
          refine TX.sub (m' := [(0, vs seed), (1, vs nonce), (2, vs s_), (9, vi 16)]) ⟨rfl, rfl, rfl, rfl, trivial⟩ ?_
          refine TX.pull (is := []) (L' := []) rfl ?_
          obtain rfl := Option.some.inj H
          exact hJ ()

end Go.Proofs
end

section
/-
  Blocks of its nonce.
-/
namespace Go.Proofs
open Go Go.Kx
set_option linter.unusedVariables false
set_option linter.unusedSimpArgs false
/-! Blocks of its nonce. -/
theorem bytes4 (k : Nat) (hk : k < 65536) : ([0#8, 0#8, BitVec.ofInt 8 (shrI' (k : Int) 8), BitVec.ofInt 8 (iop (· &&& ·) (k : Int) 255)] : Str) = bytesI (k : Int) 4 := by
  rw [and255, ofInt8_mod]
  have hs : shrI' (k : Int) 8 = (k : Int) / 256 := rfl
  rw [hs]
  have hr : List.range 4 = [0, 1, 2, 3] := rfl
  unfold bytesI
  rw [hr]
  simp only [List.map_cons, List.map_nil]
  have h0 : (k : Int) / 256 ^ (4 - 1 - 0) = 0 := by simp only [Nat.reduceSub]; omega
  have h1 : (k : Int) / 256 ^ (4 - 1 - 1) = 0 := by simp only [Nat.reduceSub]; omega
  have h2 : (k : Int) / 256 ^ (4 - 1 - 2) = (k : Int) / 256 := by simp
  have h3 : (k : Int) / 256 ^ (4 - 1 - 3) = (k : Int) := by simp
  rw [h0, h1, h2, h3]
  rfl
theorem parts_b3 (s X T : Str) (V : V16) (k : Nat) (hl : s.length < 2000) (hks : 16 * k < s.length) (hXl : X.length = s.length) (hX : ∀ j, j < 16 → 16 * k + j < s.length → X.getD (16 * k + j) 0#8 = s.getD (16 * k + j) 0#8 ^^^ vg V j) :
    loop (halberdlaw5_GcmParts.b3 s (X ++ T, 0) ((16 * k : Nat) : Int) (V.toList, 0)) BIG 0 = some (.inl ()) := by
  have hvl : V.toList.length = 16 := Vector.length_toList
  have hva : ∀ j, V.toList.getD j 0#8 = vg V j := fun j => rfl
  have l1 : (X ++ T).length = s.length + T.length := by rw [List.length_append, hXl]
  refine loop_fn (fun j => (j : Int)) (min 16 (s.length - 16 * k)) _ (by omega) rfl (fun j hj => ?_) ?_
  · have e5 : w64 ((j : Int) + 1) = ((j + 1 : Nat) : Int) := w64_add (b := 1) (by omega)
    have e6 : w64 (((16 * k : Nat) : Int) + (j : Int)) = ((16 * k + j : Nat) : Int) := w64_add (by omega)
    unfold halberdlaw5_GcmParts.b3
    simp only [e5, e6, sg_nat]
    clear e5 e6
    refine if_i (by omega) (if_i (by omega) (if_i (by omega) (if_i (by omega) (if_i (by omega) (if_n ?_ rfl)))))
    rw [getD_app_l _ _ _ (by omega), hX j (by omega) (by omega), hva]
    exact fun h => h rfl
  · have e6 : w64 (((16 * k : Nat) : Int) + ((min 16 (s.length - 16 * k) : Nat) : Int)) = ((16 * k + min 16 (s.length - 16 * k) : Nat) : Int) := w64_add (by omega)
    unfold halberdlaw5_GcmParts.b3
    rw [e6]
    clear e6
    by_cases c : 16 ≤ s.length - 16 * k
    · exact if_n (by omega) rfl
    · exact if_i (by omega) (if_n (by omega) rfl)
theorem GcmParts_true (seed nonce0 s : Str) (wide : Bool) : halberdlaw5_GcmParts seed nonce0 s wide = some true := by
  unfold halberdlaw5_GcmParts
  refine bind_i awake5 (if_n (by decide) ?_)
  by_cases c1 : 1000 < (s.length : Int)
  · exact if_i c1 rfl
  refine if_n c1 ?_
  obtain ⟨n, hn, hj⟩ := iop_size wide
  refine bind_i hj ?_
  have e1 : w64 ((n : Int) + 12) = ((n + 12 : Nat) : Int) := w64_add (b := 12) (by omega)
  rw [e1]
  simp only [Int.toNat_natCast]
  obtain ⟨b, hb, hl⟩ := loop_bytes (body := halberdlaw5_GcmParts.b0 seed (n : Int)) (n + 12) (by omega) (fun k t hk ht => by
      have e2 : w64 ((k : Int) + 1) = ((k + 1 : Nat) : Int) := w64_add (b := 1) (by omega)
      unfold halberdlaw5_GcmParts.b0
      simp only [e1, e2, Int.toNat_natCast]
      clear e1 e2
      by_cases c : k < seed.length
      · refine .inl ⟨t.set k (sg seed k), by simpa using ht, if_i (by omega) (if_i (by omega) (if_i (by omega) (if_i (by omega) (if_i (by omega) (ltt_i fun m hm => ltt_i fun i hi => ?_)))))⟩
        rw [hm, hi]
      · exact .inr (if_i (by omega) (if_n (by omega) rfl))) (fun t ht => by
      unfold halberdlaw5_GcmParts.b0
      simp only [e1, Int.toNat_natCast]
      exact if_n (by omega) rfl) (List.replicate (n + 12) 0#8) (by simp)
  obtain ⟨b2, hb2, hl2⟩ : ∃ t : Str, t.length = n + 12 ∧ loop (halberdlaw5_GcmParts.b1 nonce0 (n : Int)) BIG (0, b) = some t := by
    refine loop_ex (fun o => ∃ t : Str, t.length = n + 12 ∧ o = some t) 12 BIG (fun d st => ∃ t : Str, t.length = n + 12 ∧ d ≤ 12 ∧ st = (((12 - d : Nat) : Int), t)) _ ⟨b, hb, Nat.le_refl _, by rfl⟩ (by unfold BIG; omega) ?_ ?_
    · rintro d st ⟨t, ht, hd, rfl⟩
      have e2 : w64 (((12 - (d + 1) : Nat) : Int) + 1) = ((12 - d : Nat) : Int) := (w64_add (a := 12 - (d + 1)) (b := 1) (by omega)).trans (by omega)
      have e3 : w64 ((n : Int) + ((12 - (d + 1) : Nat) : Int)) = ((n + (12 - (d + 1)) : Nat) : Int) := w64_add (by omega)
      by_cases c : 12 - (d + 1) < nonce0.length
      · refine .inl ⟨(((12 - d : Nat) : Int), t.set (n + (12 - (d + 1))) (sg nonce0 ((12 - (d + 1) : Nat) : Int))), ?_, _, by simpa using ht, by omega, rfl⟩
        unfold halberdlaw5_GcmParts.b1
        simp only [e1, e2, e3, Int.toNat_natCast]
        clear e1 e2 e3
        refine if_i (by omega) (if_i (by omega) (if_i (by omega) (if_i (by omega) (if_i (by omega) (ltt_i fun m hm => ltt_i fun i hi => ?_)))))
        rw [hm, hi]
      · refine .inr ⟨t, ?_, t, ht, rfl⟩
        unfold halberdlaw5_GcmParts.b1
        exact if_i (by simp only; omega) (if_n (by simp only; omega) rfl)
    · rintro st ⟨t, ht, hd, rfl⟩
      exact ⟨t, if_n (by simp only; omega) rfl, t, ht, rfl⟩
  clear e1
  refine if_i (by omega) (bind_i hl (bind_i hl2 ?_))
  iterate 6 refine if_i (by omega) ?_
  refine ltt_i fun key hkey => ltt_i fun iv hiv => ?_
  have hkl : key.length = n := by rw [hkey, sub_length (by omega)]; omega
  have hnl : iv.length = 12 := by rw [hiv, sub_length (by omega)]; omega
  have hk : okKey key := by unfold okKey; omega
  clear hkey hiv hl hl2 hb hb2 hj
  have hse : sealE key iv [] s = (xo key iv 2 s ++ tagE key iv [] (xo key iv 2 s), 0) := by unfold sealE; rw [if_pos ⟨hk, hnl, by simp, by omega⟩]
  have h1 := Seal_eq key iv [] s
  rw [hse] at h1
  have l1 : (xo key iv 2 s ++ tagE key iv [] (xo key iv 2 s)).length = s.length + 16 := by rw [List.length_append, xo_length, tagE_length]
  have hXa : ∀ i, i < s.length → (xo key iv 2 s).getD i 0#8 = xoB key iv 2 s i := fun i hi => xo_at key iv 2 s i hi
  have hXl := xo_length key iv 2 s
  clear hse
  generalize tagE key iv [] (xo key iv 2 s) = T at l1 h1
  generalize xo key iv 2 s = X at hXa hXl h1 l1
  have e3 : w64 ((s.length : Int) + 16) = ((s.length + 16 : Nat) : Int) := w64_add (b := 16) (by omega)
  rw [e3]
  clear e3
  refine bind_i h1 (bind_i (v := 0) rfl (if_n (by decide) (if_n (by simp only; omega) ?_)))
  refine bind_i (v := .inl ()) (loop_fn (fun k => ((16 * k : Nat) : Int)) ((s.length + 15) / 16) _ (by omega) rfl (fun k hk2 => ?_) ?_) rfl
  · have hks : 16 * k < s.length := by omega
    have e2 : w64 (2 + w64 (((16 * k : Nat) : Int).tdiv 16)) = ((2 + k : Nat) : Int) := by
      have : w64 (((16 * k : Nat) : Int).tdiv 16) = (k : Int) := (w64_div (a := 16 * k) (b := 16) (by omega)).trans (by omega)
      rw [this]
      exact w64_add (a := 2) (by omega)
    have e4 : w64 (((16 * k : Nat) : Int) + 16) = ((16 * (k + 1) : Nat) : Int) := (w64_add (b := 16) (by omega)).trans (by omega)
    have hbl : (iv ++ bytesI ((2 + k : Nat) : Int) 4).length = 16 := by rw [List.length_append, bytesI_length]; omega
    unfold halberdlaw5_GcmParts.b2
    refine if_i (by omega) (ltt_i fun k1 hk1 => ?_)
    rw [e2] at hk1
    subst hk1
    rw [bytes4 _ (by omega), e4]
    clear e2 e4
    have hbE : blockE key (iv ++ bytesI ((2 + k : Nat) : Int) 4) = ((ek key (cb iv (2 + k))).toList, 0) := by
      rw [blockE_pos ⟨hk, hbl⟩]; rfl
    have hB := Block_eq key (iv ++ bytesI ((2 + k : Nat) : Int) 4)
    rw [hbE] at hB
    clear hbE
    refine if_i (bytesI_length _ _) (if_i (by rw [bytesI_length]; omega) ?_)
    clear hbl
    refine bind_i hB (bind_i (v := 0) rfl (if_n (by decide) (if_n (by simp) ?_)))
    clear hB
    have hXa2 : ∀ j, j < 16 → 16 * k + j < s.length → X.getD (16 * k + j) 0#8 = s.getD (16 * k + j) 0#8 ^^^ vg (ek key (cb iv (2 + k))) j := fun j h1 h2 => by
      rw [hXa _ h2]
      unfold xoB
      rw [show (16 * k + j) / 16 = k by omega, show (16 * k + j) % 16 = j by omega]
    generalize ek key (cb iv (2 + k)) = V at hXa2
    exact bind_i (parts_b3 s X T V k (by omega) hks hXl hXa2) (ltt_i fun i hi => by rw [hi])
  · exact if_n (by show ¬ (((16 * ((s.length + 15) / 16) : Nat) : Int) < _); omega) rfl
end Go.Proofs
end

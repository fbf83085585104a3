/-
  Part KGL3 of the proofs of this seat: F14, GcmL3.
-/
import Derived.Test.YtfdnfkpalbihaaaK2
import Derived.Test.YtfdnfkpalbihaaaKG2
import Derived.Test.YtfdnfkpalbihaaaKG3
section
namespace Go.Proofs
open Go Go.Kx
set_option linter.unusedVariables false
set_option linter.unusedSimpArgs false
def halberdlaw5_GhashSums.b0 (s_ : Str) (t_ : Str) (k_1 : Int) (s0 : Int × List (BitVec 8)) : Option ((Int × List (BitVec 8)) ⊕ (List (BitVec 8))) :=
  if s0.1 < k_1 then (if 0 ≤ s0.1 ∧ s0.1 < ((s_).length : Int) then (if 0 ≤ s0.1 ∧ s0.1 < ((t_).length : Int) then (if 0 ≤ s0.1 ∧ s0.1 < ((k_1).toNat : Int) then (if (s0.1).toNat < (s0.2).length then (ltt (s0.2.set ((s0.1).toNat) ((sg s_ s0.1) ^^^ (sg t_ s0.1))) fun (m_1 : List (BitVec 8)) => (ltt (w64 (s0.1 + 1)) fun (i1 : Int) => (some (.inl (i1, m_1))))) else none) else none) else none) else none) else (some (.inr s0.2))

def halberdlaw5_GhashSums.b1 (r_2 : Str × Int) (r_3 : Str × Int) (r_4 : Str × Int) (s1 : Int) : Option ((Int) ⊕ ((Unit) ⊕ (Bool))) :=
  if s1 < 16 then (if 0 ≤ s1 ∧ s1 < ((r_4.1).length : Int) then (if 0 ≤ s1 ∧ s1 < ((r_2.1).length : Int) then (if 0 ≤ s1 ∧ s1 < ((r_3.1).length : Int) then (if (sg r_4.1 s1) ≠ ((sg r_2.1 s1) ^^^ (sg r_3.1 s1)) then (some (.inr (.inr false))) else (some (.inl (w64 (s1 + 1))))) else none) else none) else none) else (some (.inr (.inl ())))

def halberdlaw5_GhashSums (h : Str) (s_ : Str) (t_ : Str) : Option (Bool) :=
  (halberdlaw5_awake).bind fun (r_1 : Bool) => (if (!r_1) = true then (some false) else (if ((h).length : Int) ≠ 16 then (some true) else (ltt (w64 ((w64 ((min (min ((s_).length : Int) ((t_).length : Int)) 320).tdiv 16)) * 16)) fun (k_1 : Int) => (if 0 ≤ k_1 ∧ k_1 ≤ 17592186044416 then ((loop (halberdlaw5_GhashSums.b0 s_ t_ k_1) BIG (0, List.replicate ((k_1).toNat) 0#8)).bind fun (t_1 : List (BitVec 8)) => (if 0 ≤ k_1 then (if (k_1).toNat ≤ (s_).length then ((gcm_Hash h (sub s_ 0 ((k_1).toNat))).bind fun (r_2 : Str × Int) => (if 0 ≤ k_1 then (if (k_1).toNat ≤ (t_).length then ((gcm_Hash h (sub t_ 0 ((k_1).toNat))).bind fun (r_3 : Str × Int) => (if (t_1).length = (k_1).toNat then ((gcm_Hash h t_1).bind fun (r_4 : Str × Int) => ((halberdlaw0_Num r_2.2).bind fun (r_5 : Int) => (if r_5 ≠ 0 then (some false) else ((halberdlaw0_Num r_3.2).bind fun (r_6 : Int) => (if r_6 ≠ 0 then (some false) else ((halberdlaw0_Num r_4.2).bind fun (r_7 : Int) => (if r_7 ≠ 0 then (some false) else (if ((r_2.1).length : Int) ≠ 16 then (some false) else (if ((r_3.1).length : Int) ≠ 16 then (some false) else (if ((r_4.1).length : Int) ≠ 16 then (some false) else ((loop (halberdlaw5_GhashSums.b1 r_2 r_3 r_4) BIG 0).bind fun (t_2 : (Unit) ⊕ (Bool)) => (match t_2 with | .inl t_2 => (some true) | .inr rv => some rv)))))))))))) else none)) else none) else none)) else none) else none)) else none))))

set_option maxHeartbeats 4000000 in
set_option maxRecDepth 20000 in
theorem F14_calls (h : Str) (s_ : Str) (t_ : Str) (r : Bool) (H : halberdlaw5_GhashSums h s_ t_ = some r) :
    Does Try.prog 14 [vs h, vs s_, vs t_] [] [] (Γ := Unit) (fun g => vb r) (fun g => []) := by
  intro w hmem hro hd
  refine calls_of (N := 112) (m0 := [(0, vs h), (1, vs s_), (2, vs t_)]) Try.func14 rfl Try.ntmps14 (argM_ok [vs h, vs s_, vs t_]) rfl hmem hro hd ?_
  unfold halberdlaw5_GhashSums at H
  refine TC_seq ?_
  refine TC_region ?_
  refine TL_v rfl rfl rfl (V_assign rfl) ?_
  refine TL_nil ?_
  refine TX_next ?_
  refine TC_seq ?_
  refine TC_seq ?_
  refine TC_region ?_
  obtain ⟨r_1, hr_1, H⟩ := bind_elim H
  refine TL_e rfl rfl rfl (E_call (Γ := Unit) (val := fun g => vb r_1) (mem := fun g => []) (vs := []) (Lin := []) (Ro := []) (is := []) rfl Try.call41 (F41_calls r_1 hr_1) rfl trivial) (fun g_1 => ?_)
  refine TL_v rfl rfl rfl (V_un rfl (fun w => notB w r_1)) ?_
  refine TL_nil ?_
  refine TX_next ?_
  refine TC_cond (b := (!r_1)) rfl (fun hc => ?_) (fun hc => ?_)
  · replace H := ite_t hc H
    refine TC_seq ?_
    refine TC_region ?_
    refine TL_v rfl rfl rfl (V_assign rfl) ?_
    refine TL_nil ?_
    refine TX_next ?_
    refine TC_ret ?_
    refine TX_then_ret ?_
    have hrv := Option.some.inj H
    subst hrv
    exact TX_ret (rs := [.tmp 6]) (vs := [vb false]) rfl ⟨rfl, trivial⟩ (fun w' hs' => ⟨(), rfl, Step.left (Step.pulled (is := []) (A := []) hs' rfl)⟩)
  · replace H := ite_f (Bool.eq_false_iff.1 hc) H
    refine TC_skip ?_
    refine TX_next ?_
    refine TC_seq ?_
    refine TC_seq ?_
    refine TC_region ?_
    refine TL_v rfl rfl rfl (V_move rfl) ?_
    refine TL_v rfl rfl rfl (V_len_str rfl Try.underlying9) ?_
    refine TL_v rfl rfl rfl (V_bin rfl rfl (fun w => neqI w ((h).length : Int) 16)) ?_
    refine TL_nil ?_
    refine TX_next ?_
    refine TC_cond (b := (decide (((h).length : Int) ≠ 16))) rfl (fun hc => ?_) (fun hc => ?_)
    · replace H := ite_t (of_decide_eq_true hc) H
      refine TC_seq ?_
      refine TC_region ?_
      refine TL_v rfl rfl rfl (V_assign rfl) ?_
      refine TL_nil ?_
      refine TX_next ?_
      refine TC_ret ?_
      refine TX_then_ret ?_
      have hrv := Option.some.inj H
      subst hrv
      exact TX_ret (rs := [.tmp 6]) (vs := [vb true]) rfl ⟨rfl, trivial⟩ (fun w' hs' => ⟨(), rfl, Step.left (Step.pulled (is := []) (A := []) hs' rfl)⟩)
    · replace H := ite_f (of_decide_eq_false hc) H
      refine TC_skip ?_
      refine TX_next ?_
      refine TC_seq ?_
      refine TC_region ?_
      refine TL_v rfl rfl rfl (V_move rfl) ?_
      refine TL_v rfl rfl rfl (V_len_str rfl Try.underlying9) ?_
      refine TL_v rfl rfl rfl (V_move rfl) ?_
      refine TL_v rfl rfl rfl (V_len_str rfl Try.underlying9) ?_
      refine TL_v rfl rfl rfl (V_min3 rfl rfl rfl) ?_
      refine TL_v rfl rfl rfl (V_bin rfl rfl (fun w => quoI w (min (min ((s_).length : Int) ((t_).length : Int)) 320) 16 (by decide))) ?_
      refine TL_v rfl rfl rfl (V_bin rfl rfl (fun w => mulI w (w64 ((min (min ((s_).length : Int) ((t_).length : Int)) 320).tdiv 16)) 16)) ?_
      refine TL_v rfl rfl rfl (V_assign rfl) ?_
      obtain ⟨k_1, hk_1, H⟩ := ltt_elim H
      refine TL_re (d := 7) (v := vi (w64 ((w64 ((min (min ((s_).length : Int) ((t_).length : Int)) 320).tdiv 16)) * 16))) (v' := vi k_1) rfl (congrArg vi hk_1) ?_
      refine TL_nil ?_
      refine TX_next ?_
      refine TC_seq ?_
      refine TC_region ?_
      refine TL_v rfl rfl rfl (V_move rfl) ?_
      obtain ⟨h1, H⟩ := if_elim H
      refine TL_e rfl rfl rfl (E_mk1 rfl rfl Try.underlying30 TryI.inf5 (z := v8 0#8) rfl rfl rfl (B := 1) rfl h1.1 (Int.le_refl _) (by have := h1; omega) (by have := h1; omega) (n' := (k_1).toNat) (c' := (k_1).toNat) rfl rfl (cs := e8 (List.replicate ((k_1).toNat) 0#8)) (rep_map (f := v8))) (fun b1 => ?_)
      refine TL_v rfl rfl rfl (V_assign rfl) ?_
      refine TL_nil ?_
      refine TX_next ?_
      refine TC_seq ?_
      refine TC_seq ?_
      refine TC_region ?_
      refine TL_v rfl rfl rfl (V_assign rfl) ?_
      refine TL_nil ?_
      refine TX_next ?_
      refine TC_block ?_
      obtain ⟨t_1, Hl, H⟩ := bind_elim H
      refine TC.sub (m' := [(0, vs h), (1, vs s_), (2, vs t_), (7, vi k_1), (8, sl (some (b1, 0)) ((k_1).toNat) ((k_1).toNat)), (9, vi 0)]) ⟨rfl, rfl, rfl, rfl, rfl, rfl, trivial⟩ ?_
      refine TC.pull (is := [0]) (L' := [⟨some (b1, 0), e8 (List.replicate ((k_1).toNat) 0#8)⟩]) rfl ?_
      refine TC_loopL (id := 0) (body := (halberdlaw5_GhashSums.b0 s_ t_ k_1)) (σ := Int × List (BitVec 8)) (Γ := Unit) (Γx := Unit) (fun s0 g0_ => [(0, vs h), (1, vs s_), (2, vs t_), (7, vi k_1), (8, sl (some (b1, 0)) ((k_1).toNat) ((k_1).toNat)), (9, vi s0.1)]) (fun s0 g0_ => [⟨some (b1, 0), e8 s0.2⟩]) (fun t g => [(0, vs h), (1, vs s_), (2, vs t_), (7, vi k_1), (8, sl (some (b1, 0)) ((k_1).toNat) ((k_1).toNat))]) (fun t g => [⟨some (b1, 0), e8 t⟩]) ?_ BIG (0, List.replicate ((k_1).toNat) 0#8) () t_1 Hl ?_
      · intro s0 g0_ r1 H K hK hE
        unfold halberdlaw5_GhashSums.b0 at H
        refine TC_seq ?_
        refine TC_seq ?_
        refine TC_region ?_
        refine TL_v rfl rfl rfl (V_move rfl) ?_
        refine TL_v rfl rfl rfl (V_move rfl) ?_
        refine TL_v rfl rfl rfl (V_bin rfl rfl (fun w => lssI w s0.1 k_1)) ?_
        refine TL_nil ?_
        refine TX_next ?_
        refine TC_cond (b := (decide (s0.1 < k_1))) rfl (fun hc => ?_) (fun hc => ?_)
        · replace H := ite_t (of_decide_eq_true hc) H
          refine TC_skip ?_
          refine TX_next ?_
          refine TC_seq ?_
          refine TC_block ?_
          obtain ⟨h2, H⟩ := if_elim H
          obtain ⟨h3, H⟩ := if_elim H
          obtain ⟨h4, H⟩ := if_elim H
          obtain ⟨h5, H⟩ := if_elim H
          obtain ⟨m_1, hm_1, H⟩ := ltt_elim H
          refine TA_begin [⟨some (b1, 0), e8 s0.2⟩] 10 (by kernel_rfl) (N := 11) rfl ?_
          refine TA_take (i := 0) (is := [0]) (done' := #[true, false, false, false, false, false, false, false, false, false, false]) rfl rfl rfl rfl (by kernel_rfl) (QP.block (QP.then (QP.then (QP.block (QP.then QP.body))))) (by kernel_rfl) rfl (V_move rfl) ?_
          refine TA_take (i := 1) (is := [0]) (done' := #[true, true, false, false, false, false, false, false, false, false, false]) rfl rfl rfl rfl (by kernel_rfl) (QP.block (QP.then (QP.then (QP.block (QP.then QP.body))))) (by kernel_rfl) rfl (V_move rfl) ?_
          refine TA_take (i := 2) (is := [0]) (done' := #[true, true, true, false, false, false, false, false, false, false, false]) rfl rfl rfl rfl (by kernel_rfl) (QP.block (QP.then (QP.then (QP.block (QP.then QP.body))))) (by kernel_rfl) rfl (V_move rfl) ?_
          refine TA_take (i := 3) (is := [0]) (done' := #[true, true, true, true, false, false, false, false, false, false, false]) rfl rfl rfl rfl (by kernel_rfl) (QP.block (QP.then (QP.then (QP.block (QP.then QP.body))))) (by kernel_rfl) rfl (V_move rfl) ?_
          refine TA_take (i := 4) (is := [0]) (done' := #[true, true, true, true, true, false, false, false, false, false, false]) rfl rfl rfl rfl (by kernel_rfl) (QP.block (QP.then (QP.then (QP.block (QP.then QP.body))))) (by kernel_rfl) rfl (V_idxStr rfl rfl (i := s0.1) Try.underlying9 h2.1 h2.2) ?_
          refine TA_take (i := 5) (is := [0]) (done' := #[true, true, true, true, true, true, false, false, false, false, false]) rfl rfl rfl rfl (by kernel_rfl) (QP.block (QP.then (QP.then (QP.block (QP.then QP.body))))) (by kernel_rfl) rfl (V_move rfl) ?_
          refine TA_take (i := 6) (is := [0]) (done' := #[true, true, true, true, true, true, true, false, false, false, false]) rfl rfl rfl rfl (by kernel_rfl) (QP.block (QP.then (QP.then (QP.block (QP.then QP.body))))) (by kernel_rfl) rfl (V_move rfl) ?_
          refine TA_take (i := 7) (is := [0]) (done' := #[true, true, true, true, true, true, true, true, false, false, false]) rfl rfl rfl rfl (by kernel_rfl) (QP.block (QP.then (QP.then (QP.block (QP.then QP.body))))) (by kernel_rfl) rfl (V_idxStr rfl rfl (i := s0.1) Try.underlying9 h3.1 h3.2) ?_
          refine TA_take (i := 8) (is := [0]) (done' := #[true, true, true, true, true, true, true, true, true, false, false]) rfl rfl rfl rfl (by kernel_rfl) (QP.block (QP.then (QP.then (QP.block (QP.then QP.body))))) (by kernel_rfl) rfl (V_bin rfl rfl (fun w => xor8 w (sg s_ s0.1) (sg t_ s0.1))) ?_
          refine TA_take (i := 9) (is := [0]) (done' := #[true, true, true, true, true, true, true, true, true, true, false]) rfl rfl rfl rfl (by kernel_rfl) (QP.block (QP.then (QP.then (QP.block (QP.then QP.body))))) (by kernel_rfl) rfl (V_idxSl (i := s0.1) rfl rfl Try.underlying30 TryI.inf5 rfl (fun _ h => by cases h) h4.1 h4.2 (k := (s0.1).toNat) (km1 _)) ?_
          refine TA_all (rs := [10]) (by kernel_rfl) rfl ?_
          refine ⟨?_, trivial⟩
          refine TO_n (is := []) (R := fun _ => []) (done' := #[true, true, true, true, true, true, true, true, true, true, true]) rfl rfl rfl (by kernel_rfl) (E_store (j := 0) rfl rfl TryI.inf5 rfl rfl rfl (by simpa using h5) (cs' := e8 (s0.2.set ((s0.1).toNat) ((sg s_ s0.1) ^^^ (sg t_ s0.1)))) (set_map (f := v8) (l := s0.2) (k := ((s0.1).toNat)) (x := ((sg s_ s0.1) ^^^ (sg t_ s0.1))))) (fun h => by cases h) (fun _ => ?_)
          refine TA_reE (j := 0) (A := some (b1, 0)) (cs := e8 (s0.2.set ((s0.1).toNat) ((sg s_ s0.1) ^^^ (sg t_ s0.1)))) (cs' := e8 m_1) rfl (congrArg (e8) hm_1) ?_
          refine TA_done (by kernel_rfl) ?_ 0
          refine TX_block_normal ?_
          refine TX_next ?_
          refine TC_region ?_
          refine TL_v rfl rfl rfl (V_move rfl) ?_
          refine TL_v rfl rfl rfl (V_bin rfl rfl (fun w => addI w s0.1 1)) ?_
          refine TL_v rfl rfl rfl (V_assign rfl) ?_
          obtain ⟨i1, hi1, H⟩ := ltt_elim H
          refine TL_re (d := 9) (v := vi (w64 (s0.1 + 1))) (v' := vi i1) rfl (congrArg vi hi1) ?_
          refine TL_nil ?_
          refine TX.sub (m' := [(0, vs h), (1, vs s_), (2, vs t_), (7, vi k_1), (8, sl (some (b1, 0)) ((k_1).toNat) ((k_1).toNat)), (9, vi i1)]) ⟨rfl, rfl, rfl, rfl, rfl, rfl, trivial⟩ ?_
          refine TX.pull (is := [0]) (L' := [⟨some (b1, 0), e8 m_1⟩]) rfl ?_
          obtain rfl := Option.some.inj H
          exact fun a w hs => hK (i1, m_1) rfl () a w hs
        · replace H := ite_f (of_decide_eq_false hc) H
          refine TC_exit ?_
          refine TX_then_exit ?_
          refine TX_then_exit ?_
          refine TX.sub (m' := [(0, vs h), (1, vs s_), (2, vs t_), (7, vi k_1), (8, sl (some (b1, 0)) ((k_1).toNat) ((k_1).toNat))]) ⟨rfl, rfl, rfl, rfl, rfl, trivial⟩ ?_
          refine TX.pull (is := [0]) (L' := [⟨some (b1, 0), e8 s0.2⟩]) rfl ?_
          obtain rfl := Option.some.inj H
          exact hE s0.2 rfl ()
      · intro g
        refine TX_block_exit ?_
        refine TX_next ?_
        refine TC_seq ?_
        refine TC_region ?_
        refine TL_v rfl rfl rfl (V_move rfl) ?_
        refine TL_v rfl rfl rfl (V_move rfl) ?_
        refine TL_v rfl rfl rfl (V_move rfl) ?_
        obtain ⟨h6, H⟩ := if_elim H
        obtain ⟨h7, H⟩ := if_elim H
        refine TL_v rfl rfl rfl (V_sliceStr (l := 0) (h := (k_1).toNat) rfl Try.underlying9 Bnd.none' (Bnd.some' (i := k_1) rfl h6) (Nat.zero_le _) h7) ?_
        obtain ⟨r_2, hr_2, H⟩ := bind_elim H
        refine TL_e rfl rfl rfl (E_call (Γ := Unit) (val := fun g => Value.tuple [vs r_2.1, vi r_2.2].toArray) (mem := fun g => []) (vs := [vs h, vs (sub s_ 0 ((k_1).toNat))]) (Lin := []) (Ro := []) (is := []) rfl Try.call39 (F39_calls h (sub s_ 0 ((k_1).toNat)) r_2 hr_2) rfl trivial) (fun g_2 => ?_)
        refine TL_v rfl rfl rfl (V_move rfl) ?_
        refine TL_v rfl rfl rfl (V_extract (vs := [vs r_2.1, vi r_2.2]) rfl rfl) ?_
        refine TL_v rfl rfl rfl (V_extract (vs := [vs r_2.1, vi r_2.2]) rfl rfl) ?_
        refine TL_v rfl rfl rfl (V_assign rfl) ?_
        refine TL_v rfl rfl rfl (V_assign rfl) ?_
        refine TL_nil ?_
        refine TX_next ?_
        refine TC_seq ?_
        refine TC_region ?_
        refine TL_v rfl rfl rfl (V_move rfl) ?_
        refine TL_v rfl rfl rfl (V_move rfl) ?_
        refine TL_v rfl rfl rfl (V_move rfl) ?_
        obtain ⟨h8, H⟩ := if_elim H
        obtain ⟨h9, H⟩ := if_elim H
        refine TL_v rfl rfl rfl (V_sliceStr (l := 0) (h := (k_1).toNat) rfl Try.underlying9 Bnd.none' (Bnd.some' (i := k_1) rfl h8) (Nat.zero_le _) h9) ?_
        obtain ⟨r_3, hr_3, H⟩ := bind_elim H
        refine TL_e rfl rfl rfl (E_call (Γ := Unit) (val := fun g => Value.tuple [vs r_3.1, vi r_3.2].toArray) (mem := fun g => []) (vs := [vs h, vs (sub t_ 0 ((k_1).toNat))]) (Lin := []) (Ro := []) (is := []) rfl Try.call39 (F39_calls h (sub t_ 0 ((k_1).toNat)) r_3 hr_3) rfl trivial) (fun g_3 => ?_)
        refine TL_v rfl rfl rfl (V_move rfl) ?_
        refine TL_v rfl rfl rfl (V_extract (vs := [vs r_3.1, vi r_3.2]) rfl rfl) ?_
        refine TL_v rfl rfl rfl (V_extract (vs := [vs r_3.1, vi r_3.2]) rfl rfl) ?_
        refine TL_v rfl rfl rfl (V_assign rfl) ?_
        refine TL_v rfl rfl rfl (V_assign rfl) ?_
        refine TL_nil ?_
        refine TX_next ?_
        refine TC_seq ?_
        refine TC_region ?_
        refine TL_v rfl rfl rfl (V_move rfl) ?_
        refine TL_v rfl rfl rfl (V_move rfl) ?_
        obtain ⟨h10, H⟩ := if_elim H
        refine TL_v rfl rfl rfl (V_b2s rfl Try.underlying30 Try.underlying5 Try.underlying9 (Src.own (j := 0) rfl) h10) ?_
        obtain ⟨r_4, hr_4, H⟩ := bind_elim H
        refine TL_e rfl rfl rfl (E_call (Γ := Unit) (val := fun g => Value.tuple [vs r_4.1, vi r_4.2].toArray) (mem := fun g => []) (vs := [vs h, vs t_1]) (Lin := []) (Ro := []) (is := []) rfl Try.call39 (F39_calls h t_1 r_4 hr_4) rfl trivial) (fun g_4 => ?_)
        refine TL_v rfl rfl rfl (V_move rfl) ?_
        refine TL_v rfl rfl rfl (V_extract (vs := [vs r_4.1, vi r_4.2]) rfl rfl) ?_
        refine TL_v rfl rfl rfl (V_extract (vs := [vs r_4.1, vi r_4.2]) rfl rfl) ?_
        refine TL_v rfl rfl rfl (V_assign rfl) ?_
        refine TL_v rfl rfl rfl (V_assign rfl) ?_
        refine TL_nil ?_
        refine TX_next ?_
        refine TC.sub (m' := [(10, vs r_2.1), (11, vi r_2.2), (12, vs r_3.1), (13, vi r_3.2), (14, vs r_4.1), (15, vi r_4.2)]) ⟨rfl, rfl, rfl, rfl, rfl, rfl, trivial⟩ ?_
        refine TC_seq ?_
        refine TC_seq ?_
        refine TC_region ?_
        refine TL_v rfl rfl rfl (V_move rfl) ?_
        obtain ⟨r_5, hr_5, H⟩ := bind_elim H
        refine TL_e rfl rfl rfl (E_call (Γ := Unit) (val := fun g => vi r_5) (mem := fun g => []) (vs := [vi r_2.2]) (Lin := []) (Ro := []) (is := []) rfl Try.call25 (F25_calls r_2.2 r_5 hr_5) rfl trivial) (fun g_5 => ?_)
        refine TL_v rfl rfl rfl (V_bin rfl rfl (fun w => neqI w r_5 0)) ?_
        refine TL_v rfl rfl rfl (V_move rfl) ?_
        refine TL_fork (d := 72) (b := (decide (r_5 ≠ 0))) rfl (fun hc => ?_) (fun hc => ?_)
        · replace H := ite_t (of_decide_eq_true hc) H
          refine TL_skip rfl rfl rfl rfl rfl rfl rfl ?_
          refine TL_skip rfl rfl rfl rfl rfl rfl rfl ?_
          refine TL_skip rfl rfl rfl rfl rfl rfl rfl ?_
          refine TL_v rfl rfl rfl (V_pick (b := true) rfl rfl) ?_
          refine TL_v rfl rfl rfl (V_move rfl) ?_
          refine TL_skip rfl rfl rfl rfl rfl rfl rfl ?_
          refine TL_skip rfl rfl rfl rfl rfl rfl rfl ?_
          refine TL_skip rfl rfl rfl rfl rfl rfl rfl ?_
          refine TL_v rfl rfl rfl (V_pick (b := true) rfl rfl) ?_
          refine TL_v rfl rfl rfl (V_move rfl) ?_
          refine TL_skip rfl rfl rfl rfl rfl rfl rfl ?_
          refine TL_skip rfl rfl rfl rfl rfl rfl rfl ?_
          refine TL_skip rfl rfl rfl rfl rfl rfl rfl ?_
          refine TL_v rfl rfl rfl (V_pick (b := true) rfl rfl) ?_
          refine TL_v rfl rfl rfl (V_move rfl) ?_
          refine TL_skip rfl rfl rfl rfl rfl rfl rfl ?_
          refine TL_skip rfl rfl rfl rfl rfl rfl rfl ?_
          refine TL_skip rfl rfl rfl rfl rfl rfl rfl ?_
          refine TL_v rfl rfl rfl (V_pick (b := true) rfl rfl) ?_
          refine TL_v rfl rfl rfl (V_move rfl) ?_
          refine TL_skip rfl rfl rfl rfl rfl rfl rfl ?_
          refine TL_skip rfl rfl rfl rfl rfl rfl rfl ?_
          refine TL_skip rfl rfl rfl rfl rfl rfl rfl ?_
          refine TL_v rfl rfl rfl (V_pick (b := true) rfl rfl) ?_
          refine TL_nil ?_
          refine TX_next ?_
          refine TC.sub (m' := [(10, vs r_2.1), (12, vs r_3.1), (14, vs r_4.1), (96, vb true)]) ⟨rfl, rfl, rfl, rfl, trivial⟩ ?_
          refine TC_cond_t rfl ?_
          refine TC_seq ?_
          refine TC_region ?_
          refine TL_v rfl rfl rfl (V_assign rfl) ?_
          refine TL_nil ?_
          refine TX_next ?_
          refine TC_ret ?_
          refine TX_then_ret ?_
          have hrv := Option.some.inj H
          subst hrv
          exact TX_ret (rs := [.tmp 6]) (vs := [vb false]) rfl ⟨rfl, trivial⟩ (fun w' hs' => ⟨(), rfl, Step.left (Step.pulled (is := []) (A := []) hs' rfl)⟩)
        · replace H := ite_f (of_decide_eq_false hc) H
          refine TL_want rfl rfl rfl rfl rfl rfl (V_move rfl) ?_
          obtain ⟨r_6, hr_6, H⟩ := bind_elim H
          refine TL_wantE rfl rfl rfl rfl rfl rfl (E_call (Γ := Unit) (val := fun g => vi r_6) (mem := fun g => []) (vs := [vi r_3.2]) (Lin := []) (Ro := []) (is := []) rfl Try.call25 (F25_calls r_3.2 r_6 hr_6) rfl trivial) (fun g_6 => ?_)
          refine TL_want rfl rfl rfl rfl rfl rfl (V_bin rfl rfl (fun w => neqI w r_6 0)) ?_
          refine TL_v rfl rfl rfl (V_pick (b := false) rfl rfl) ?_
          refine TL_v rfl rfl rfl (V_move rfl) ?_
          refine TL_fork (d := 77) (b := (decide (r_6 ≠ 0))) rfl (fun hc => ?_) (fun hc => ?_)
          · replace H := ite_t (of_decide_eq_true hc) H
            refine TL_skip rfl rfl rfl rfl rfl rfl rfl ?_
            refine TL_skip rfl rfl rfl rfl rfl rfl rfl ?_
            refine TL_skip rfl rfl rfl rfl rfl rfl rfl ?_
            refine TL_v rfl rfl rfl (V_pick (b := true) rfl rfl) ?_
            refine TL_v rfl rfl rfl (V_move rfl) ?_
            refine TL_skip rfl rfl rfl rfl rfl rfl rfl ?_
            refine TL_skip rfl rfl rfl rfl rfl rfl rfl ?_
            refine TL_skip rfl rfl rfl rfl rfl rfl rfl ?_
            refine TL_v rfl rfl rfl (V_pick (b := true) rfl rfl) ?_
            refine TL_v rfl rfl rfl (V_move rfl) ?_
            refine TL_skip rfl rfl rfl rfl rfl rfl rfl ?_
            refine TL_skip rfl rfl rfl rfl rfl rfl rfl ?_
            refine TL_skip rfl rfl rfl rfl rfl rfl rfl ?_
            refine TL_v rfl rfl rfl (V_pick (b := true) rfl rfl) ?_
            refine TL_v rfl rfl rfl (V_move rfl) ?_
            refine TL_skip rfl rfl rfl rfl rfl rfl rfl ?_
            refine TL_skip rfl rfl rfl rfl rfl rfl rfl ?_
            refine TL_skip rfl rfl rfl rfl rfl rfl rfl ?_
            refine TL_v rfl rfl rfl (V_pick (b := true) rfl rfl) ?_
            refine TL_nil ?_
            refine TX_next ?_
            refine TC.sub (m' := [(10, vs r_2.1), (12, vs r_3.1), (14, vs r_4.1), (96, vb true)]) ⟨rfl, rfl, rfl, rfl, trivial⟩ ?_
            refine TC_cond_t rfl ?_
            refine TC_seq ?_
            refine TC_region ?_
            refine TL_v rfl rfl rfl (V_assign rfl) ?_
            refine TL_nil ?_
            refine TX_next ?_
            refine TC_ret ?_
            refine TX_then_ret ?_
            have hrv := Option.some.inj H
            subst hrv
            exact TX_ret (rs := [.tmp 6]) (vs := [vb false]) rfl ⟨rfl, trivial⟩ (fun w' hs' => ⟨(), rfl, Step.left (Step.pulled (is := []) (A := []) hs' rfl)⟩)
          · replace H := ite_f (of_decide_eq_false hc) H
            refine TL_want rfl rfl rfl rfl rfl rfl (V_move rfl) ?_
            obtain ⟨r_7, hr_7, H⟩ := bind_elim H
            refine TL_wantE rfl rfl rfl rfl rfl rfl (E_call (Γ := Unit) (val := fun g => vi r_7) (mem := fun g => []) (vs := [vi r_4.2]) (Lin := []) (Ro := []) (is := []) rfl Try.call25 (F25_calls r_4.2 r_7 hr_7) rfl trivial) (fun g_7 => ?_)
            refine TL_want rfl rfl rfl rfl rfl rfl (V_bin rfl rfl (fun w => neqI w r_7 0)) ?_
            refine TL_v rfl rfl rfl (V_pick (b := false) rfl rfl) ?_
            refine TL_v rfl rfl rfl (V_move rfl) ?_
            refine TL_fork (d := 82) (b := (decide (r_7 ≠ 0))) rfl (fun hc => ?_) (fun hc => ?_)
            · replace H := ite_t (of_decide_eq_true hc) H
              refine TL_skip rfl rfl rfl rfl rfl rfl rfl ?_
              refine TL_skip rfl rfl rfl rfl rfl rfl rfl ?_
              refine TL_skip rfl rfl rfl rfl rfl rfl rfl ?_
              refine TL_v rfl rfl rfl (V_pick (b := true) rfl rfl) ?_
              refine TL_v rfl rfl rfl (V_move rfl) ?_
              refine TL_skip rfl rfl rfl rfl rfl rfl rfl ?_
              refine TL_skip rfl rfl rfl rfl rfl rfl rfl ?_
              refine TL_skip rfl rfl rfl rfl rfl rfl rfl ?_
              refine TL_v rfl rfl rfl (V_pick (b := true) rfl rfl) ?_
              refine TL_v rfl rfl rfl (V_move rfl) ?_
              refine TL_skip rfl rfl rfl rfl rfl rfl rfl ?_
              refine TL_skip rfl rfl rfl rfl rfl rfl rfl ?_
              refine TL_skip rfl rfl rfl rfl rfl rfl rfl ?_
              refine TL_v rfl rfl rfl (V_pick (b := true) rfl rfl) ?_
              refine TL_nil ?_
              refine TX_next ?_
              refine TC.sub (m' := [(10, vs r_2.1), (12, vs r_3.1), (14, vs r_4.1), (96, vb true)]) ⟨rfl, rfl, rfl, rfl, trivial⟩ ?_
              refine TC_cond_t rfl ?_
              refine TC_seq ?_
              refine TC_region ?_
              refine TL_v rfl rfl rfl (V_assign rfl) ?_
              refine TL_nil ?_
              refine TX_next ?_
              refine TC_ret ?_
              refine TX_then_ret ?_
              have hrv := Option.some.inj H
              subst hrv
              exact TX_ret (rs := [.tmp 6]) (vs := [vb false]) rfl ⟨rfl, trivial⟩ (fun w' hs' => ⟨(), rfl, Step.left (Step.pulled (is := []) (A := []) hs' rfl)⟩)
            · replace H := ite_f (of_decide_eq_false hc) H
              refine TL_want rfl rfl rfl rfl rfl rfl (V_move rfl) ?_
              refine TL_want rfl rfl rfl rfl rfl rfl (V_len_str rfl Try.underlying9) ?_
              refine TL_want rfl rfl rfl rfl rfl rfl (V_bin rfl rfl (fun w => neqI w ((r_2.1).length : Int) 16)) ?_
              refine TL_v rfl rfl rfl (V_pick (b := false) rfl rfl) ?_
              refine TL_v rfl rfl rfl (V_move rfl) ?_
              refine TL_fork (d := 87) (b := (decide (((r_2.1).length : Int) ≠ 16))) rfl (fun hc => ?_) (fun hc => ?_)
              · replace H := ite_t (of_decide_eq_true hc) H
                refine TL_skip rfl rfl rfl rfl rfl rfl rfl ?_
                refine TL_skip rfl rfl rfl rfl rfl rfl rfl ?_
                refine TL_skip rfl rfl rfl rfl rfl rfl rfl ?_
                refine TL_v rfl rfl rfl (V_pick (b := true) rfl rfl) ?_
                refine TL_v rfl rfl rfl (V_move rfl) ?_
                refine TL_skip rfl rfl rfl rfl rfl rfl rfl ?_
                refine TL_skip rfl rfl rfl rfl rfl rfl rfl ?_
                refine TL_skip rfl rfl rfl rfl rfl rfl rfl ?_
                refine TL_v rfl rfl rfl (V_pick (b := true) rfl rfl) ?_
                refine TL_nil ?_
                refine TX_next ?_
                refine TC.sub (m' := [(10, vs r_2.1), (12, vs r_3.1), (14, vs r_4.1), (96, vb true)]) ⟨rfl, rfl, rfl, rfl, trivial⟩ ?_
                refine TC_cond_t rfl ?_
                refine TC_seq ?_
                refine TC_region ?_
                refine TL_v rfl rfl rfl (V_assign rfl) ?_
                refine TL_nil ?_
                refine TX_next ?_
                refine TC_ret ?_
                refine TX_then_ret ?_
                have hrv := Option.some.inj H
                subst hrv
                exact TX_ret (rs := [.tmp 6]) (vs := [vb false]) rfl ⟨rfl, trivial⟩ (fun w' hs' => ⟨(), rfl, Step.left (Step.pulled (is := []) (A := []) hs' rfl)⟩)
              · replace H := ite_f (of_decide_eq_false hc) H
                refine TL_want rfl rfl rfl rfl rfl rfl (V_move rfl) ?_
                refine TL_want rfl rfl rfl rfl rfl rfl (V_len_str rfl Try.underlying9) ?_
                refine TL_want rfl rfl rfl rfl rfl rfl (V_bin rfl rfl (fun w => neqI w ((r_3.1).length : Int) 16)) ?_
                refine TL_v rfl rfl rfl (V_pick (b := false) rfl rfl) ?_
                refine TL_v rfl rfl rfl (V_move rfl) ?_
                refine TL_fork (d := 92) (b := (decide (((r_3.1).length : Int) ≠ 16))) rfl (fun hc => ?_) (fun hc => ?_)
                · replace H := ite_t (of_decide_eq_true hc) H
                  refine TL_skip rfl rfl rfl rfl rfl rfl rfl ?_
                  refine TL_skip rfl rfl rfl rfl rfl rfl rfl ?_
                  refine TL_skip rfl rfl rfl rfl rfl rfl rfl ?_
                  refine TL_v rfl rfl rfl (V_pick (b := true) rfl rfl) ?_
                  refine TL_nil ?_
                  refine TX_next ?_
                  refine TC.sub (m' := [(10, vs r_2.1), (12, vs r_3.1), (14, vs r_4.1), (96, vb true)]) ⟨rfl, rfl, rfl, rfl, trivial⟩ ?_
                  refine TC_cond_t rfl ?_
                  refine TC_seq ?_
                  refine TC_region ?_
                  refine TL_v rfl rfl rfl (V_assign rfl) ?_
                  refine TL_nil ?_
                  refine TX_next ?_
                  refine TC_ret ?_
                  refine TX_then_ret ?_
                  have hrv := Option.some.inj H
                  subst hrv
                  exact TX_ret (rs := [.tmp 6]) (vs := [vb false]) rfl ⟨rfl, trivial⟩ (fun w' hs' => ⟨(), rfl, Step.left (Step.pulled (is := []) (A := []) hs' rfl)⟩)
                · replace H := ite_f (of_decide_eq_false hc) H
                  refine TL_want rfl rfl rfl rfl rfl rfl (V_move rfl) ?_
                  refine TL_want rfl rfl rfl rfl rfl rfl (V_len_str rfl Try.underlying9) ?_
                  refine TL_want rfl rfl rfl rfl rfl rfl (V_bin rfl rfl (fun w => neqI w ((r_4.1).length : Int) 16)) ?_
                  refine TL_v rfl rfl rfl (V_pick (b := false) rfl rfl) ?_
                  refine TL_nil ?_
                  refine TX_next ?_
                  refine TC.sub (m' := [(10, vs r_2.1), (12, vs r_3.1), (14, vs r_4.1), (96, vb (decide (((r_4.1).length : Int) ≠ 16)))]) ⟨rfl, rfl, rfl, rfl, trivial⟩ ?_
                  refine TC_cond (b := (decide (((r_4.1).length : Int) ≠ 16))) rfl (fun hc => ?_) (fun hc => ?_)
                  · replace H := ite_t (of_decide_eq_true hc) H
                    refine TC_seq ?_
                    refine TC_region ?_
                    refine TL_v rfl rfl rfl (V_assign rfl) ?_
                    refine TL_nil ?_
                    refine TX_next ?_
                    refine TC_ret ?_
                    refine TX_then_ret ?_
                    have hrv := Option.some.inj H
                    subst hrv
                    exact TX_ret (rs := [.tmp 6]) (vs := [vb false]) rfl ⟨rfl, trivial⟩ (fun w' hs' => ⟨(), rfl, Step.left (Step.pulled (is := []) (A := []) hs' rfl)⟩)
                  · replace H := ite_f (of_decide_eq_false hc) H
                    refine TC_skip ?_
                    refine TX_next ?_
                    refine TC_seq ?_
                    refine TC_seq ?_
                    refine TC_region ?_
                    refine TL_v rfl rfl rfl (V_assign rfl) ?_
                    refine TL_nil ?_
                    refine TX_next ?_
                    refine TC_block ?_
                    obtain ⟨t_2, Hl, H⟩ := bind_elim H
                    refine TC.sub (m' := [(10, vs r_2.1), (12, vs r_3.1), (14, vs r_4.1), (16, vi 0)]) ⟨rfl, rfl, rfl, rfl, trivial⟩ ?_
                    refine TC.pull (is := []) (L' := []) rfl ?_
                    refine TC_loopR (id := 2) (body := (halberdlaw5_GhashSums.b1 r_2 r_3 r_4)) (σ := Int) (Γ := Unit) (Γx := Unit) (fun s1 g1_ => [(10, vs r_2.1), (12, vs r_3.1), (14, vs r_4.1), (16, vi s1)]) (fun s1 g1_ => []) (fun t g => []) (fun t g => []) r ?_ BIG 0 () t_2 Hl ?_
                    · intro s1 g1_ r1 H K hK hE hR1
                      unfold halberdlaw5_GhashSums.b1 at H
                      refine TC_seq ?_
                      refine TC_seq ?_
                      refine TC_region ?_
                      refine TL_v rfl rfl rfl (V_move rfl) ?_
                      refine TL_v rfl rfl rfl (V_bin rfl rfl (fun w => lssI w s1 16)) ?_
                      refine TL_nil ?_
                      refine TX_next ?_
                      refine TC_cond (b := (decide (s1 < 16))) rfl (fun hc => ?_) (fun hc => ?_)
                      · replace H := ite_t (of_decide_eq_true hc) H
                        refine TC_skip ?_
                        refine TX_next ?_
                        refine TC_seq ?_
                        refine TC_block ?_
                        refine TC_seq ?_
                        obtain ⟨h11, H⟩ := if_elim H
                        obtain ⟨h12, H⟩ := if_elim H
                        obtain ⟨h13, H⟩ := if_elim H
                        refine TA_begin [] 11 (by kernel_rfl) (N := 11) rfl ?_
                        refine TA_take (i := 0) (is := []) (done' := #[true, false, false, false, false, false, false, false, false, false, false]) rfl rfl rfl rfl (by kernel_rfl) (QP.then (QP.block (QP.then (QP.then (QP.block (QP.then QP.body)))))) (by kernel_rfl) rfl (V_move rfl) ?_
                        refine TA_take (i := 1) (is := []) (done' := #[true, true, false, false, false, false, false, false, false, false, false]) rfl rfl rfl rfl (by kernel_rfl) (QP.then (QP.block (QP.then (QP.then (QP.block (QP.then QP.body)))))) (by kernel_rfl) rfl (V_move rfl) ?_
                        refine TA_take (i := 2) (is := []) (done' := #[true, true, true, false, false, false, false, false, false, false, false]) rfl rfl rfl rfl (by kernel_rfl) (QP.then (QP.block (QP.then (QP.then (QP.block (QP.then QP.body)))))) (by kernel_rfl) rfl (V_idxStr rfl rfl (i := s1) Try.underlying9 h11.1 h11.2) ?_
                        refine TA_take (i := 3) (is := []) (done' := #[true, true, true, true, false, false, false, false, false, false, false]) rfl rfl rfl rfl (by kernel_rfl) (QP.then (QP.block (QP.then (QP.then (QP.block (QP.then QP.body)))))) (by kernel_rfl) rfl (V_move rfl) ?_
                        refine TA_take (i := 4) (is := []) (done' := #[true, true, true, true, true, false, false, false, false, false, false]) rfl rfl rfl rfl (by kernel_rfl) (QP.then (QP.block (QP.then (QP.then (QP.block (QP.then QP.body)))))) (by kernel_rfl) rfl (V_move rfl) ?_
                        refine TA_take (i := 5) (is := []) (done' := #[true, true, true, true, true, true, false, false, false, false, false]) rfl rfl rfl rfl (by kernel_rfl) (QP.then (QP.block (QP.then (QP.then (QP.block (QP.then QP.body)))))) (by kernel_rfl) rfl (V_idxStr rfl rfl (i := s1) Try.underlying9 h12.1 h12.2) ?_
                        refine TA_take (i := 6) (is := []) (done' := #[true, true, true, true, true, true, true, false, false, false, false]) rfl rfl rfl rfl (by kernel_rfl) (QP.then (QP.block (QP.then (QP.then (QP.block (QP.then QP.body)))))) (by kernel_rfl) rfl (V_move rfl) ?_
                        refine TA_take (i := 7) (is := []) (done' := #[true, true, true, true, true, true, true, true, false, false, false]) rfl rfl rfl rfl (by kernel_rfl) (QP.then (QP.block (QP.then (QP.then (QP.block (QP.then QP.body)))))) (by kernel_rfl) rfl (V_move rfl) ?_
                        refine TA_take (i := 8) (is := []) (done' := #[true, true, true, true, true, true, true, true, true, false, false]) rfl rfl rfl rfl (by kernel_rfl) (QP.then (QP.block (QP.then (QP.then (QP.block (QP.then QP.body)))))) (by kernel_rfl) rfl (V_idxStr rfl rfl (i := s1) Try.underlying9 h13.1 h13.2) ?_
                        refine TA_take (i := 9) (is := []) (done' := #[true, true, true, true, true, true, true, true, true, true, false]) rfl rfl rfl rfl (by kernel_rfl) (QP.then (QP.block (QP.then (QP.then (QP.block (QP.then QP.body)))))) (by kernel_rfl) rfl (V_bin rfl rfl (fun w => xor8 w (sg r_2.1 s1) (sg r_3.1 s1))) ?_
                        refine TA_take (i := 10) (is := []) (done' := #[true, true, true, true, true, true, true, true, true, true, true]) rfl rfl rfl rfl (by kernel_rfl) (QP.then (QP.block (QP.then (QP.then (QP.block (QP.then QP.body)))))) (by kernel_rfl) rfl (V_bin rfl rfl (fun w => neq8 w (sg r_4.1 s1) ((sg r_2.1 s1) ^^^ (sg r_3.1 s1)))) ?_
                        refine TA_done (by kernel_rfl) ?_ 0
                        refine TX_next ?_
                        refine TC_cond (b := (decide ((sg r_4.1 s1) ≠ ((sg r_2.1 s1) ^^^ (sg r_3.1 s1))))) rfl (fun hc => ?_) (fun hc => ?_)
                        · replace H := ite_t (of_decide_eq_true hc) H
                          refine TC_seq ?_
                          refine TC_region ?_
                          refine TL_v rfl rfl rfl (V_assign rfl) ?_
                          refine TL_nil ?_
                          refine TX_next ?_
                          refine TC_ret ?_
                          refine TX_block_ret ?_
                          refine TX_then_ret ?_
                          refine TX_then_ret ?_
                          refine TX_block_ret ?_
                          refine TX_then_ret ?_
                          have hrv := (hR1 _ (Option.some.inj H).symm)
                          subst hrv
                          exact TX_ret (rs := [.tmp 6]) (vs := [vb false]) rfl ⟨rfl, trivial⟩ (fun w' hs' => ⟨(), rfl, Step.left (Step.pulled (is := []) (A := []) hs' rfl)⟩)
                        · replace H := ite_f (of_decide_eq_false hc) H
                          refine TC_skip ?_
                          refine TX_block_normal ?_
                          refine TX_next ?_
                          refine TC_region ?_
                          refine TL_v rfl rfl rfl (V_move rfl) ?_
                          refine TL_v rfl rfl rfl (V_bin rfl rfl (fun w => addI w s1 1)) ?_
                          refine TL_v rfl rfl rfl (V_assign rfl) ?_
                          refine TL_nil ?_
                          refine TX.sub (m' := [(10, vs r_2.1), (12, vs r_3.1), (14, vs r_4.1), (16, vi (w64 (s1 + 1)))]) ⟨rfl, rfl, rfl, rfl, trivial⟩ ?_
                          refine TX.pull (is := []) (L' := []) rfl ?_
                          obtain rfl := Option.some.inj H
                          exact fun a w hs => hK (w64 (s1 + 1)) rfl () a w hs
                      · replace H := ite_f (of_decide_eq_false hc) H
                        refine TC_exit ?_
                        refine TX_then_exit ?_
                        refine TX_then_exit ?_
                        refine TX.sub (m' := []) trivial ?_
                        refine TX.pull (is := []) (L' := []) rfl ?_
                        obtain rfl := Option.some.inj H
                        exact hE () rfl ()
                    · rcases t_2 with t_2 | rv
                      · intro gx2
                        dsimp only at H
                        refine TX_block_exit ?_
                        refine TX_next ?_
                        refine TC_seq ?_
                        refine TC_region ?_
                        refine TL_v rfl rfl rfl (V_assign rfl) ?_
                        refine TL_nil ?_
                        refine TX_next ?_
                        refine TC_ret ?_
                        have hrv := Option.some.inj H
                        subst hrv
                        exact TX_ret (rs := [.tmp 6]) (vs := [vb true]) rfl ⟨rfl, trivial⟩ (fun w' hs' => ⟨(), rfl, Step.left (Step.pulled (is := []) (A := []) hs' rfl)⟩)
                      · exact (Option.some.inj H)

end Go.Proofs
end

section
/-
  Sums of blocks.
-/
namespace Go.Proofs
open Go Go.Kx
set_option linter.unusedVariables false
set_option linter.unusedSimpArgs false
/-! Sums. -/
theorem be8_xor (s t x : Str) (a : Nat) : ∀ n, (∀ i, i < n → x.getD (a + i) 0#8 = s.getD (a + i) 0#8 ^^^ t.getD (a + i) 0#8) → be8 x a n = be8 s a n ^^^ be8 t a n
  | 0, _ => by simp [be8]
  | n + 1, h => by
    simp only [be8]
    rw [be8_xor s t x a n (fun i hi => h i (by omega)), h n (by omega)]
    apply BitVec.eq_of_getLsbD_eq
    intro i hi
    simp only [BitVec.getLsbD_or, BitVec.getLsbD_xor, BitVec.getLsbD_shiftLeft, BitVec.getLsbD_setWidth]
    by_cases c : i < 8
    · simp [c, hi]
    · have h1 : ∀ y : BitVec 8, y.getLsbD i = false := fun y => BitVec.getLsbD_of_ge y i (by omega)
      simp [c, hi, h1]
theorem ghs_xr (h : E2) (s t x : Str) (n : Nat) (hx : ∀ i, i < 16 * n → x.getD i 0#8 = s.getD i 0#8 ^^^ t.getD i 0#8) : ∀ k, k ≤ n → iter (gh h x) k z2 = xr (iter (gh h s) k z2) (iter (gh h t) k z2)
  | 0, _ => by simp [iter, xr_zero]
  | k + 1, hk => by
    show gh h x k (iter (gh h x) k z2) = xr (gh h s k (iter (gh h s) k z2)) (gh h t k (iter (gh h t) k z2))
    rw [ghs_xr h s t x n hx k (by omega)]
    unfold gh
    have hl : ld x (16 * k) = xr (ld s (16 * k)) (ld t (16 * k)) := by
      unfold ld xr
      rw [be8_xor s t x _ 8 (fun i hi => hx _ (by omega)), be8_xor s t x _ 8 (fun i hi => hx _ (by omega))]
    rw [hl, xr_swap, prod_xr]
theorem by16_xr (a b : E2) (i : Nat) (hi : i < 16) : (by16 (xr a b)).getD i 0#8 = (by16 a).getD i 0#8 ^^^ (by16 b).getD i 0#8 := by
  rw [byV_at _ i hi, byV_at _ i hi, byV_at _ i hi]
  unfold xr
  split
  · rw [BitVec.ushiftRight_xor_distrib, BitVec.setWidth_xor]
  · rw [BitVec.ushiftRight_xor_distrib, BitVec.setWidth_xor]
theorem GhashSums_true (h s t : Str) : halberdlaw5_GhashSums h s t = some true := by
  unfold halberdlaw5_GhashSums
  refine bind_i awake5 (if_n (by decide) ?_)
  by_cases c1 : (h.length : Int) ≠ 16
  · exact if_i c1 rfl
  refine if_n c1 (ltt_i fun k1 hk1 => ?_)
  have hh : h.length = 16 := by omega
  obtain ⟨q, hq, hqs⟩ : ∃ q : Nat, k1 = ((16 * q : Nat) : Int) ∧ 16 * q ≤ s.length ∧ 16 * q ≤ t.length ∧ q ≤ 20 := by
    refine ⟨min (min s.length t.length) 320 / 16, ?_, by omega, by omega, by omega⟩
    have e0 : min (min (s.length : Int) (t.length : Int)) 320 = ((min (min s.length t.length) 320 : Nat) : Int) := by omega
    rw [hk1, e0, show (16 : Int) = ((16 : Nat) : Int) from rfl, w64_div (by omega), w64_mul (by omega), Nat.mul_comm]
  clear hk1
  subst hq
  simp only [Int.toNat_natCast]
  let X : Nat → Str := fun m => (List.range (16 * q)).map fun i => if i < m then s.getD i 0#8 ^^^ t.getD i 0#8 else 0#8
  have hXl : ∀ m, (X m).length = 16 * q := fun m => by simp [X]
  refine if_i (by omega) (bind_i (v := X (16 * q)) (loop_fn (fun k => ((k : Int), X k)) (16 * q) _ (by omega) ?_ (fun k hk => ?_) ?_) ?_)
  · refine Prod.ext rfl (List.ext_getElem (by simp [X]) fun i h1 h2 => by simp [X])
  · have e1 : w64 ((k : Int) + 1) = ((k + 1 : Nat) : Int) := w64_add (b := 1) (by omega)
    have hX := hXl k
    unfold halberdlaw5_GhashSums.b0
    simp only [e1, Int.toNat_natCast, sg_nat]
    clear e1
    refine if_i (by omega) (if_i (by omega) (if_i (by omega) (if_i (by omega) (if_i (by omega) (ltt_i fun m hm => ltt_i fun i hi => ?_)))))
    have : m = X (k + 1) := by
      rw [hm]
      refine List.ext_getElem (by simp [X]) fun i h1 h2 => ?_
      simp only [X, List.getElem_set, List.getElem_map, List.getElem_range]
      by_cases c : k = i
      · subst c; rw [if_pos rfl, if_pos (by omega)]
      · rw [if_neg c]
        by_cases c2 : i < k
        · rw [if_pos c2, if_pos (by omega)]
        · rw [if_neg c2, if_neg (by omega)]
    rw [hi, this]
  · exact if_n (by show ¬ (((16 * q : Nat) : Int) < _); omega) rfl
  · have hX := hXl (16 * q)
    have sl1 : (sub s 0 (16 * q)).length = 16 * q := by rw [sub_length (by omega)]; omega
    have sl2 : (sub t 0 (16 * q)).length = 16 * q := by rw [sub_length (by omega)]; omega
    have g : ∀ u : Str, u.length = 16 * q → GhE h u = (by16 (iter (gh (ld h 0) u) q z2), 0) := fun u hu => by
      unfold GhE ghs
      rw [if_pos ⟨hh, by omega⟩, hu, Nat.mul_div_cancel_left _ (by decide)]
    have hxr := ghs_xr (ld h 0) (sub s 0 (16 * q)) (sub t 0 (16 * q)) (X (16 * q)) q (fun i hi => by
      rw [sub_getD _ _ _ _ (by omega), sub_getD _ _ _ _ (by omega), Nat.zero_add]
      simp only [X, List.getD_eq_getElem?_getD, List.getElem?_map, List.getElem?_range hi, Option.map_some, Option.getD_some, if_pos hi]) q (Nat.le_refl _)
    have h1 := Hash_eq5 h (sub s 0 (16 * q)) (by omega)
    have h2 := Hash_eq5 h (sub t 0 (16 * q)) (by omega)
    have h3 := Hash_eq5 h (X (16 * q)) (by omega)
    rw [g _ sl1] at h1
    rw [g _ sl2] at h2
    rw [g _ hX, hxr] at h3
    refine if_i (by omega) (if_i (by omega) (bind_i h1 (if_i (by omega) (if_i (by omega) (bind_i h2 (if_i hX (bind_i h3 ?_)))))))
    generalize iter (gh (ld h 0) (sub s 0 (16 * q))) q z2 = A
    generalize iter (gh (ld h 0) (sub t 0 (16 * q))) q z2 = B
    have la := by16_length A
    have lb := by16_length B
    have lc := by16_length (xr A B)
    refine bind_i (v := 0) rfl (if_n (by decide) (bind_i (v := 0) rfl (if_n (by decide) (bind_i (v := 0) rfl (if_n (by decide) (if_n (by simp only; omega) (if_n (by simp only; omega) (if_n (by simp only; omega) ?_))))))))
    refine bind_i (v := .inl ()) (loop_fn (fun k => (k : Int)) 16 _ (by omega) rfl (fun k hk => ?_) ?_) rfl
    · have e1 : w64 ((k : Int) + 1) = ((k + 1 : Nat) : Int) := w64_add (b := 1) (by omega)
      unfold halberdlaw5_GhashSums.b1
      simp only [e1, sg_nat]
      clear e1
      exact if_i (by omega) (if_i (by omega) (if_i (by omega) (if_i (by omega) (if_n (by rw [by16_xr A B k hk]; simp) rfl))))
    · exact if_n (by show ¬ (((16 : Nat) : Int) < _); omega) rfl
end Go.Proofs
end

/-
  Part KH1 of the proofs of this seat: F61, F50, F51, F44, F57, F55, F49, F25, F42, F43, F47, F56, F40, F46, F23.
-/
import Derived.Test.YtfihcdfpjleimaaK2
import Derived.Test.YtfihcdfpjleimaaKS3
section
namespace Go.Proofs
open Go Go.Kx
set_option linter.unusedVariables false
set_option linter.unusedSimpArgs false
def hkdf_pads.b0 (j1 : Int) (s0 : Int × List (BitVec 8) × List (BitVec 8)) : Option ((Int × List (BitVec 8) × List (BitVec 8)) ⊕ (List (BitVec 8) × List (BitVec 8))) :=
  if s0.1 < j1 then (if 0 ≤ s0.1 ∧ s0.1 < ((j1).toNat : Int) then (if (s0.1).toNat < (s0.2.1).length then (if 0 ≤ s0.1 ∧ s0.1 < ((j1).toNat : Int) then (if (s0.1).toNat < (s0.2.1).length then (ltt (s0.2.1.set ((s0.1).toNat) ((lg s0.2.1 ((s0.1).toNat)) ^^^ 54#8)) fun (m_3 : List (BitVec 8)) => (if 0 ≤ s0.1 ∧ s0.1 < ((j1).toNat : Int) then (if (s0.1).toNat < (s0.2.2).length then (if 0 ≤ s0.1 ∧ s0.1 < ((j1).toNat : Int) then (if (s0.1).toNat < (s0.2.2).length then (ltt (s0.2.2.set ((s0.1).toNat) ((lg s0.2.2 ((s0.1).toNat)) ^^^ 92#8)) fun (m_4 : List (BitVec 8)) => (some (.inl (w64 (s0.1 + 1), m_3, m_4)))) else none) else none) else none) else none)) else none) else none) else none) else none) else (some (.inr (s0.2.1, s0.2.2)))

def hkdf_pads (bits : Int) (key : Str) : Option (Str × Str) :=
  ltt (w64 (bits.tdiv 4)) fun (n1 : Int) => ((if bits = 384 then (some 128) else (some n1)).bind fun (j1 : Int) => ((if j1 < ((key).length : Int) then ((sha_Sum bits key).bind fun (r_1 : Str × Int) => (some r_1.1)) else (some key)).bind fun (j2 : Str) => (if 0 ≤ j1 ∧ j1 ≤ 17592186044416 then (if 0 ≤ j1 ∧ j1 ≤ 17592186044416 then (if (j1).toNat ≤ (List.replicate ((j1).toNat) 0#8).length then (ltt (splice (List.replicate ((j1).toNat) 0#8) 0 (j2.take (min ((j2).length) ((j1).toNat)))) fun (m_1 : List (BitVec 8)) => (if (j1).toNat ≤ (List.replicate ((j1).toNat) 0#8).length then (ltt (splice (List.replicate ((j1).toNat) 0#8) 0 (j2.take (min ((j2).length) ((j1).toNat)))) fun (m_2 : List (BitVec 8)) => ((loop (hkdf_pads.b0 j1) BIG (0, m_1, m_2)).bind fun (t_1 : List (BitVec 8) × List (BitVec 8)) => (if (t_1.1).length = (j1).toNat then (if (t_1.2).length = (j1).toNat then (some (t_1.1, t_1.2)) else none) else none))) else none)) else none) else none) else none)))

set_option maxHeartbeats 4000000 in
set_option maxRecDepth 20000 in
theorem F61_calls (bits : Int) (key : Str) (r : Str × Str) (H : hkdf_pads bits key = some r) :
    Does Try.prog 61 [vi bits, vs key] [] [] (Γ := Unit) (fun g => Value.tuple [vs r.1, vs r.2].toArray) (fun g => []) := by
  intro w hmem hro hd
  refine calls_of (N := 55) (m0 := [(0, vi bits), (1, vs key)]) Try.func61 rfl Try.ntmps61 (argM_ok [vi bits, vs key]) rfl hmem hro hd ?_
  unfold hkdf_pads at H
  refine TC_seq ?_
  refine TC_region ?_
  refine TL_v rfl rfl rfl (V_assign rfl) ?_
  refine TL_v rfl rfl rfl (V_assign rfl) ?_
  refine TL_nil ?_
  refine TX_next ?_
  refine TC_seq ?_
  refine TC_region ?_
  refine TL_v rfl rfl rfl (V_move rfl) ?_
  refine TL_v rfl rfl rfl (V_bin rfl rfl (fun w => quoI w bits 4 (by decide))) ?_
  refine TL_v rfl rfl rfl (V_assign rfl) ?_
  obtain ⟨n1, hn1, H⟩ := ltt_elim H
  refine TL_re (d := 6) (v := vi (w64 (bits.tdiv 4))) (v' := vi n1) rfl (congrArg vi hn1) ?_
  refine TL_nil ?_
  refine TX_next ?_
  refine TC_seq ?_
  refine TC_seq ?_
  refine TC_region ?_
  refine TL_v rfl rfl rfl (V_move rfl) ?_
  refine TL_v rfl rfl rfl (V_bin rfl rfl (fun w => eqlI w bits 384)) ?_
  refine TL_nil ?_
  refine TX_next ?_
  obtain ⟨j1, Hj, H⟩ := bind_elim H
  refine TC_join (Γ := Unit) (fun gj1 => [(0, vi bits), (1, vs key), (6, vi j1)]) (fun gj1 => []) ?_ ?_
  · intro gj1
    refine TX_next ?_
    refine TC_seq ?_
    refine TC_seq ?_
    refine TC_region ?_
    refine TL_v rfl rfl rfl (V_move rfl) ?_
    refine TL_v rfl rfl rfl (V_len_str rfl Try.underlying9) ?_
    refine TL_v rfl rfl rfl (V_move rfl) ?_
    refine TL_v rfl rfl rfl (V_bin rfl rfl (fun w => gtrI w ((key).length : Int) j1)) ?_
    refine TL_nil ?_
    refine TX_next ?_
    obtain ⟨j2, Hj, H⟩ := bind_elim H
    refine TC_join (Γ := Unit) (fun gj2 => [(1, vs j2), (6, vi j1)]) (fun gj2 => []) ?_ ?_
    · intro gj2
      refine TX_next ?_
      refine TC_seq ?_
      obtain ⟨h1, H⟩ := if_elim H
      obtain ⟨h2, H⟩ := if_elim H
      refine TC_join (Γ := Nat × Nat) (fun gd1 => [(1, vs j2), (6, vi j1), (7, sl (some (gd1.1, 0)) ((j1).toNat) ((j1).toNat)), (8, sl (some (gd1.2, 0)) ((j1).toNat) ((j1).toNat))]) (fun gd1 => [⟨some (gd1.1, 0), e8 (List.replicate ((j1).toNat) 0#8)⟩, ⟨some (gd1.2, 0), e8 (List.replicate ((j1).toNat) 0#8)⟩]) ?_ ?_
      · intro gd1
        obtain ⟨b1, hgd⟩ : ∃ z, z = gd1.1 := ⟨_, rfl⟩; rw [← hgd]; clear hgd
        obtain ⟨b2, hgd⟩ : ∃ z, z = gd1.2 := ⟨_, rfl⟩; rw [← hgd]; clear hgd
        refine TX_next ?_
        refine TC_seq ?_
        refine TC_region ?_
        refine TL_v rfl rfl rfl (V_move rfl) ?_
        refine TL_v rfl rfl rfl (V_move rfl) ?_
        obtain ⟨h3, H⟩ := if_elim H
        refine TL_e rfl rfl rfl (E_copyStr (o := 0) (j := 0) (copyA rfl) rfl (by simp) Try.underlying49 TryI.inf5 rfl rfl (copy_list h3) (cs' := e8 (splice (List.replicate ((j1).toNat) 0#8) 0 (j2.take (min ((j2).length) ((j1).toNat))))) splice_map) (fun _ => ?_)
        obtain ⟨m_1, hm_1, H⟩ := ltt_elim H
        refine TL_reE (j := 0) (A := some (b1, 0)) (cs := e8 (splice (List.replicate ((j1).toNat) 0#8) 0 (j2.take (min ((j2).length) ((j1).toNat))))) (cs' := e8 m_1) rfl (congrArg (e8) hm_1) ?_
        refine TL_nil ?_
        refine TX_next ?_
        refine TC_seq ?_
        refine TC_region ?_
        refine TL_v rfl rfl rfl (V_move rfl) ?_
        refine TL_v rfl rfl rfl (V_move rfl) ?_
        obtain ⟨h4, H⟩ := if_elim H
        refine TL_e rfl rfl rfl (E_copyStr (o := 0) (j := 1) (copyA rfl) rfl (by simp) Try.underlying49 TryI.inf5 rfl rfl (copy_list h4) (cs' := e8 (splice (List.replicate ((j1).toNat) 0#8) 0 (j2.take (min ((j2).length) ((j1).toNat))))) splice_map) (fun _ => ?_)
        obtain ⟨m_2, hm_2, H⟩ := ltt_elim H
        refine TL_reE (j := 1) (A := some (b2, 0)) (cs := e8 (splice (List.replicate ((j1).toNat) 0#8) 0 (j2.take (min ((j2).length) ((j1).toNat))))) (cs' := e8 m_2) rfl (congrArg (e8) hm_2) ?_
        refine TL_nil ?_
        refine TX_next ?_
        refine TC_seq ?_
        refine TC_seq ?_
        refine TC_region ?_
        refine TL_v rfl rfl rfl (V_move rfl) ?_
        refine TL_v rfl rfl rfl (V_move rfl) ?_
        refine TL_nil ?_
        refine TX_next ?_
        refine TC_block ?_
        obtain ⟨t_1, Hl, H⟩ := bind_elim H
        refine TC.sub (m' := [(7, sl (some (b1, 0)) ((j1).toNat) ((j1).toNat)), (8, sl (some (b2, 0)) ((j1).toNat) ((j1).toNat)), (34, vi j1), (35, vi 0)]) ⟨rfl, rfl, rfl, rfl, trivial⟩ ?_
        refine TC.pull (is := [0, 0]) (L' := [⟨some (b1, 0), e8 m_1⟩, ⟨some (b2, 0), e8 m_2⟩]) rfl ?_
        refine TC_loopL (id := 0) (body := (hkdf_pads.b0 j1)) (σ := Int × List (BitVec 8) × List (BitVec 8)) (Γ := Unit) (Γx := Unit) (fun s0 g0_ => [(7, sl (some (b1, 0)) ((j1).toNat) ((j1).toNat)), (8, sl (some (b2, 0)) ((j1).toNat) ((j1).toNat)), (34, vi j1), (35, vi s0.1)]) (fun s0 g0_ => [⟨some (b1, 0), e8 s0.2.1⟩, ⟨some (b2, 0), e8 s0.2.2⟩]) (fun t g => [(7, sl (some (b1, 0)) ((j1).toNat) ((j1).toNat)), (8, sl (some (b2, 0)) ((j1).toNat) ((j1).toNat))]) (fun t g => [⟨some (b1, 0), e8 t.1⟩, ⟨some (b2, 0), e8 t.2⟩]) ?_ BIG (0, m_1, m_2) () t_1 Hl ?_
        · intro s0 g0_ r1 H K hK hE
          unfold hkdf_pads.b0 at H
          refine TC_seq ?_
          refine TC_region ?_
          refine TL_v rfl rfl rfl (V_bin rfl rfl (fun w => lssI w s0.1 j1)) ?_
          refine TL_nil ?_
          refine TX_next ?_
          refine TC_seq ?_
          refine TC_cond (b := (decide (s0.1 < j1))) rfl (fun hc => ?_) (fun hc => ?_)
          · replace H := ite_t (of_decide_eq_true hc) H
            refine TC_skip ?_
            refine TX_next ?_
            refine TC_seq ?_
            refine TC_block ?_
            refine TC_seq ?_
            refine TC_region ?_
            refine TL_v rfl rfl rfl (V_move rfl) ?_
            refine TL_v rfl rfl rfl (V_assign rfl) ?_
            refine TL_nil ?_
            refine TX_next ?_
            refine TC_seq ?_
            refine TC_region ?_
            refine TL_v rfl rfl rfl (V_move rfl) ?_
            refine TL_v rfl rfl rfl (V_move rfl) ?_
            obtain ⟨h5, H⟩ := if_elim H
            obtain ⟨h6, H⟩ := if_elim H
            refine TL_v rfl rfl rfl (V_idxSl (i := s0.1) rfl rfl Try.underlying49 TryI.inf5 rfl (fun _ h => by cases h) h5.1 h5.2 (k := (s0.1).toNat) (km1 _)) ?_
            refine TL_v rfl rfl rfl (V_load rfl (Src.own (j := 0) rfl) (get_map (f := v8) (l := s0.2.1) h6) Try.isAgg5) ?_
            refine TL_v rfl rfl rfl (V_bin rfl rfl (fun w => xor8 w (lg s0.2.1 ((s0.1).toNat)) 54#8)) ?_
            obtain ⟨h7, H⟩ := if_elim H
            obtain ⟨h8, H⟩ := if_elim H
            refine TL_v rfl rfl rfl (V_idxSl (i := s0.1) rfl rfl Try.underlying49 TryI.inf5 rfl (fun _ h => by cases h) h7.1 h7.2 (k := (s0.1).toNat) (km1 _)) ?_
            refine TL_n rfl rfl (E_store (j := 0) rfl rfl TryI.inf5 rfl rfl rfl (by simpa using h8) (cs' := e8 (s0.2.1.set ((s0.1).toNat) ((lg s0.2.1 ((s0.1).toNat)) ^^^ 54#8))) (set_map (f := v8) (l := s0.2.1) (k := ((s0.1).toNat)) (x := ((lg s0.2.1 ((s0.1).toNat)) ^^^ 54#8)))) (fun _ => ?_)
            obtain ⟨m_3, hm_3, H⟩ := ltt_elim H
            refine TL_reE (j := 0) (A := some (b1, 0)) (cs := e8 (s0.2.1.set ((s0.1).toNat) ((lg s0.2.1 ((s0.1).toNat)) ^^^ 54#8))) (cs' := e8 m_3) rfl (congrArg (e8) hm_3) ?_
            refine TL_nil ?_
            refine TX_next ?_
            refine TC_region ?_
            refine TL_v rfl rfl rfl (V_move rfl) ?_
            refine TL_v rfl rfl rfl (V_move rfl) ?_
            obtain ⟨h9, H⟩ := if_elim H
            obtain ⟨h10, H⟩ := if_elim H
            refine TL_v rfl rfl rfl (V_idxSl (i := s0.1) rfl rfl Try.underlying49 TryI.inf5 rfl (fun _ h => by cases h) h9.1 h9.2 (k := (s0.1).toNat) (km1 _)) ?_
            refine TL_v rfl rfl rfl (V_load rfl (Src.own (j := 1) rfl) (get_map (f := v8) (l := s0.2.2) h10) Try.isAgg5) ?_
            refine TL_v rfl rfl rfl (V_bin rfl rfl (fun w => xor8 w (lg s0.2.2 ((s0.1).toNat)) 92#8)) ?_
            obtain ⟨h11, H⟩ := if_elim H
            obtain ⟨h12, H⟩ := if_elim H
            refine TL_v rfl rfl rfl (V_idxSl (i := s0.1) rfl rfl Try.underlying49 TryI.inf5 rfl (fun _ h => by cases h) h11.1 h11.2 (k := (s0.1).toNat) (km1 _)) ?_
            refine TL_n rfl rfl (E_store (j := 1) rfl rfl TryI.inf5 rfl rfl rfl (by simpa using h12) (cs' := e8 (s0.2.2.set ((s0.1).toNat) ((lg s0.2.2 ((s0.1).toNat)) ^^^ 92#8))) (set_map (f := v8) (l := s0.2.2) (k := ((s0.1).toNat)) (x := ((lg s0.2.2 ((s0.1).toNat)) ^^^ 92#8)))) (fun _ => ?_)
            obtain ⟨m_4, hm_4, H⟩ := ltt_elim H
            refine TL_reE (j := 1) (A := some (b2, 0)) (cs := e8 (s0.2.2.set ((s0.1).toNat) ((lg s0.2.2 ((s0.1).toNat)) ^^^ 92#8))) (cs' := e8 m_4) rfl (congrArg (e8) hm_4) ?_
            refine TL_nil ?_
            refine TX_block_normal ?_
            refine TX_next ?_
            refine TC_region ?_
            refine TL_v rfl rfl rfl (V_bin rfl rfl (fun w => addI w s0.1 1)) ?_
            refine TL_v rfl rfl rfl (V_move rfl) ?_
            refine TL_nil ?_
            refine TX.sub (m' := [(7, sl (some (b1, 0)) ((j1).toNat) ((j1).toNat)), (8, sl (some (b2, 0)) ((j1).toNat) ((j1).toNat)), (34, vi j1), (35, vi (w64 (s0.1 + 1)))]) ⟨rfl, rfl, rfl, rfl, trivial⟩ ?_
            refine TX.pull (is := [0, 0]) (L' := [⟨some (b1, 0), e8 m_3⟩, ⟨some (b2, 0), e8 m_4⟩]) rfl ?_
            obtain rfl := Option.some.inj H
            exact fun a w hs => hK (w64 (s0.1 + 1), m_3, m_4) rfl () a w hs
          · replace H := ite_f (of_decide_eq_false hc) H
            refine TC_exit ?_
            refine TX_then_exit ?_
            refine TX_then_exit ?_
            refine TX.sub (m' := [(7, sl (some (b1, 0)) ((j1).toNat) ((j1).toNat)), (8, sl (some (b2, 0)) ((j1).toNat) ((j1).toNat))]) ⟨rfl, rfl, trivial⟩ ?_
            refine TX.pull (is := [0, 0]) (L' := [⟨some (b1, 0), e8 s0.2.1⟩, ⟨some (b2, 0), e8 s0.2.2⟩]) rfl ?_
            obtain rfl := Option.some.inj H
            exact hE (s0.2.1, s0.2.2) rfl ()
        · intro g
          refine TX_block_exit ?_
          refine TX_next ?_
          refine TC_seq ?_
          obtain ⟨h13, H⟩ := if_elim H
          obtain ⟨h14, H⟩ := if_elim H
          refine TA_begin [⟨some (b1, 0), e8 t_1.1⟩, ⟨some (b2, 0), e8 t_1.2⟩] 6 (by kernel_rfl) (N := 6) rfl ?_
          refine TA_take (i := 0) (is := [0, 0]) (done' := #[true, false, false, false, false, false]) rfl rfl rfl rfl (by kernel_rfl) (QP.then QP.body) (by kernel_rfl) rfl (V_move rfl) ?_
          refine TA_take (i := 1) (is := [0, 0]) (done' := #[true, true, false, false, false, false]) rfl rfl rfl rfl (by kernel_rfl) (QP.then QP.body) (by kernel_rfl) rfl (V_b2s rfl Try.underlying49 Try.underlying5 Try.underlying9 (Src.own (j := 0) rfl) h13) ?_
          refine TA_take (i := 2) (is := [0, 0]) (done' := #[true, true, true, false, false, false]) rfl rfl rfl rfl (by kernel_rfl) (QP.then QP.body) (by kernel_rfl) rfl (V_move rfl) ?_
          refine TA_take (i := 3) (is := [0, 0]) (done' := #[true, true, true, true, false, false]) rfl rfl rfl rfl (by kernel_rfl) (QP.then QP.body) (by kernel_rfl) rfl (V_b2s rfl Try.underlying49 Try.underlying5 Try.underlying9 (Src.own (j := 1) rfl) h14) ?_
          refine TA_take (i := 4) (is := [0, 0]) (done' := #[true, true, true, true, true, false]) rfl rfl rfl rfl (by kernel_rfl) (QP.then QP.body) (by kernel_rfl) rfl (V_assign rfl) ?_
          refine TA_take (i := 5) (is := [0, 0]) (done' := #[true, true, true, true, true, true]) rfl rfl rfl rfl (by kernel_rfl) (QP.then QP.body) (by kernel_rfl) rfl (V_assign rfl) ?_
          refine TA_done (by kernel_rfl) ?_ 0
          refine TX_next ?_
          refine TC_ret ?_
          have hrv := Option.some.inj H
          subst hrv
          exact TX_ret (rs := [.tmp 4, .tmp 5]) (vs := [vs t_1.1, vs t_1.2]) rfl ⟨rfl, rfl, trivial⟩ (fun w' hs' => ⟨(), rfl, Step.left (Step.pulled (is := []) (A := []) hs' rfl)⟩)
      · intro hJ
        clear H
        refine TA_begin [] 6 (by kernel_rfl) (N := 6) rfl ?_
        refine TA_take (i := 0) (is := []) (done' := #[true, false, false, false, false, false]) rfl rfl rfl rfl (by kernel_rfl) (QP.then QP.body) (by kernel_rfl) rfl (V_move rfl) ?_
        refine TA_take (i := 2) (is := []) (done' := #[true, false, true, false, false, false]) rfl rfl rfl rfl (by kernel_rfl) (QP.then QP.body) (by kernel_rfl) rfl (V_move rfl) ?_
        refine TA_all (rs := [1, 3]) (by kernel_rfl) rfl ?_
        refine ⟨?_, ?_, trivial⟩
        · skip
          refine TO_e (is := []) (done' := #[true, true, true, false, false, false]) rfl rfl rfl rfl (by kernel_rfl) (E_mk1 rfl rfl Try.underlying49 TryI.inf5 (z := v8 0#8) rfl rfl rfl (B := 1) rfl h1.1 (Int.le_refl _) (by have := h1; omega) (by have := h1; omega) (n' := (j1).toNat) (c' := (j1).toNat) rfl rfl (cs := e8 (List.replicate ((j1).toNat) 0#8)) (rep_map (f := v8))) (fun _ _ => rfl) (fun b1 => ?_)
          refine TA_more (Lr2 := [⟨some (b1, 0), e8 (List.replicate ((j1).toNat) 0#8)⟩]) (is := []) (is2 := [0]) rfl rfl ?_
          refine TA_take (i := 4) (is := [0]) (done' := #[true, true, true, false, true, false]) rfl rfl rfl rfl (by kernel_rfl) (QP.then QP.body) (by kernel_rfl) rfl (V_assign rfl) ?_
          refine TA_all (rs := [3]) (by kernel_rfl) rfl ?_
          refine ⟨?_, trivial⟩
          refine TO_e (is := [1]) (done' := #[true, true, true, true, true, false]) rfl rfl rfl rfl (by kernel_rfl) (E_mk1 rfl rfl Try.underlying49 TryI.inf5 (z := v8 0#8) rfl rfl rfl (B := 1) rfl h2.1 (Int.le_refl _) (by have := h2; omega) (by have := h2; omega) (n' := (j1).toNat) (c' := (j1).toNat) rfl rfl (cs := e8 (List.replicate ((j1).toNat) 0#8)) (rep_map (f := v8))) (fun _ _ => rfl) (fun b2 => ?_)
          refine TA_more (Lr2 := [⟨some (b2, 0), e8 (List.replicate ((j1).toNat) 0#8)⟩, ⟨some (b1, 0), e8 (List.replicate ((j1).toNat) 0#8)⟩]) (is := [1]) (is2 := [0, 0]) rfl rfl ?_
          refine TA_take (i := 5) (is := [0, 0]) (done' := #[true, true, true, true, true, true]) rfl rfl rfl rfl (by kernel_rfl) (QP.then QP.body) (by kernel_rfl) rfl (V_assign rfl) ?_
          refine TA_done (by kernel_rfl) ?_ 0
          refine TX.sub (m' := [(1, vs j2), (6, vi j1), (7, sl (some (b1, 0)) ((j1).toNat) ((j1).toNat)), (8, sl (some (b2, 0)) ((j1).toNat) ((j1).toNat))]) ⟨rfl, rfl, rfl, rfl, trivial⟩ ?_
          refine TX.pull (is := [1, 0]) (L' := [⟨some (b1, 0), e8 (List.replicate ((j1).toNat) 0#8)⟩, ⟨some (b2, 0), e8 (List.replicate ((j1).toNat) 0#8)⟩]) rfl ?_
          exact hJ (b1, b2)
        · skip
          refine TO_e (is := []) (done' := #[true, false, true, true, false, false]) rfl rfl rfl rfl (by kernel_rfl) (E_mk1 rfl rfl Try.underlying49 TryI.inf5 (z := v8 0#8) rfl rfl rfl (B := 1) rfl h2.1 (Int.le_refl _) (by have := h2; omega) (by have := h2; omega) (n' := (j1).toNat) (c' := (j1).toNat) rfl rfl (cs := e8 (List.replicate ((j1).toNat) 0#8)) (rep_map (f := v8))) (fun _ _ => rfl) (fun b2 => ?_)
          refine TA_more (Lr2 := [⟨some (b2, 0), e8 (List.replicate ((j1).toNat) 0#8)⟩]) (is := []) (is2 := [0]) rfl rfl ?_
          refine TA_all (rs := [1]) (by kernel_rfl) rfl ?_
          refine ⟨?_, trivial⟩
          refine TO_e (is := [1]) (done' := #[true, true, true, true, false, false]) rfl rfl rfl rfl (by kernel_rfl) (E_mk1 rfl rfl Try.underlying49 TryI.inf5 (z := v8 0#8) rfl rfl rfl (B := 1) rfl h1.1 (Int.le_refl _) (by have := h1; omega) (by have := h1; omega) (n' := (j1).toNat) (c' := (j1).toNat) rfl rfl (cs := e8 (List.replicate ((j1).toNat) 0#8)) (rep_map (f := v8))) (fun _ _ => rfl) (fun b1 => ?_)
          refine TA_more (Lr2 := [⟨some (b1, 0), e8 (List.replicate ((j1).toNat) 0#8)⟩, ⟨some (b2, 0), e8 (List.replicate ((j1).toNat) 0#8)⟩]) (is := [1]) (is2 := [0, 0]) rfl rfl ?_
          refine TA_take (i := 4) (is := [0, 0]) (done' := #[true, true, true, true, true, false]) rfl rfl rfl rfl (by kernel_rfl) (QP.then QP.body) (by kernel_rfl) rfl (V_assign rfl) ?_
          refine TA_take (i := 5) (is := [0, 0]) (done' := #[true, true, true, true, true, true]) rfl rfl rfl rfl (by kernel_rfl) (QP.then QP.body) (by kernel_rfl) rfl (V_assign rfl) ?_
          refine TA_done (by kernel_rfl) ?_ 0
          refine TX.sub (m' := [(1, vs j2), (6, vi j1), (7, sl (some (b1, 0)) ((j1).toNat) ((j1).toNat)), (8, sl (some (b2, 0)) ((j1).toNat) ((j1).toNat))]) ⟨rfl, rfl, rfl, rfl, trivial⟩ ?_
          refine TX.pull (is := [0, 0]) (L' := [⟨some (b1, 0), e8 (List.replicate ((j1).toNat) 0#8)⟩, ⟨some (b2, 0), e8 (List.replicate ((j1).toNat) 0#8)⟩]) rfl ?_
          exact hJ (b1, b2)
    · intro hJ
      replace H := Hj
      refine TC_cond (b := (decide (j1 < ((key).length : Int)))) rfl (fun hc => ?_) (fun hc => ?_)
      · replace H := ite_t (of_decide_eq_true hc) H
        refine TC_region ?_
        refine TL_v rfl rfl rfl (V_move rfl) ?_
        refine TL_v rfl rfl rfl (V_move rfl) ?_
        obtain ⟨r_1, hr_1, H⟩ := bind_elim H
        refine TL_e rfl rfl rfl (E_call (Γ := Unit) (val := fun g => Value.tuple [vs r_1.1, vi r_1.2].toArray) (mem := fun g => []) (vs := [vi bits, vs key]) (Lin := []) (Ro := []) (is := []) rfl Try.call48 (F48_calls bits key r_1 hr_1) rfl trivial) (fun g_1 => ?_)
        refine TL_v rfl rfl rfl (V_move rfl) ?_
        refine TL_v rfl rfl rfl (V_extract (vs := [vs r_1.1, vi r_1.2]) rfl rfl) ?_
        refine TL_v rfl rfl rfl (V_extract (vs := [vs r_1.1, vi r_1.2]) rfl rfl) ?_
        refine TL_v rfl rfl rfl (V_assign rfl) ?_
        refine TL_nil ?_
        refine TX.sub (m' := [(1, vs r_1.1), (6, vi j1)]) ⟨rfl, rfl, trivial⟩ ?_
        refine TX.pull (is := []) (L' := []) rfl ?_
        obtain rfl := Option.some.inj H
        exact hJ ()
      · replace H := ite_f (of_decide_eq_false hc) H
        refine TC_skip ?_
        refine TX.sub (m' := [(1, vs key), (6, vi j1)]) ⟨rfl, rfl, trivial⟩ ?_
        refine TX.pull (is := []) (L' := []) rfl ?_
        obtain rfl := Option.some.inj H
        exact hJ ()
  · intro hJ
    replace H := Hj
    refine TC_cond (b := (decide (bits = 384))) rfl (fun hc => ?_) (fun hc => ?_)
    · replace H := ite_t (of_decide_eq_true hc) H
      refine TC_region ?_
      refine TL_v rfl rfl rfl (V_assign rfl) ?_
      refine TL_nil ?_
      refine TX.sub (m' := [(0, vi bits), (1, vs key), (6, vi 128)]) ⟨rfl, rfl, rfl, trivial⟩ ?_
      refine TX.pull (is := []) (L' := []) rfl ?_
      obtain rfl := Option.some.inj H
      exact hJ ()
    · replace H := ite_f (of_decide_eq_false hc) H
      refine TC_skip ?_
      refine TX.sub (m' := [(0, vi bits), (1, vs key), (6, vi n1)]) ⟨rfl, rfl, rfl, trivial⟩ ?_
      refine TX.pull (is := []) (L' := []) rfl ?_
      obtain rfl := Option.some.inj H
      exact hJ ()

end Go.Proofs
end

section
namespace Go.Proofs
open Go Go.Kx
set_option linter.unusedVariables false
set_option linter.unusedSimpArgs false
def hkdf_newMac (bits : Int) (key : Str) : Option ((Unit) ⊕ (Int × Vector (BitVec 64) 8 × Vector (BitVec 64) 80 × List (BitVec 8) × BitVec 64 × Int × Vector (BitVec 64) 8 × Vector (BitVec 64) 80 × List (BitVec 8) × BitVec 64)) :=
  (sha_New bits).bind fun (r_1 : (Unit) ⊕ (Int × Vector (BitVec 64) 8 × Vector (BitVec 64) 80 × List (BitVec 8))) => (match r_1 with | .inl r_1 => (some (.inl ())) | .inr r_1 => ((sha_New bits).bind fun (r_2 : (Unit) ⊕ (Int × Vector (BitVec 64) 8 × Vector (BitVec 64) 80 × List (BitVec 8))) => (match r_2 with | .inl r_2 => (none) | .inr r_2 => ((hkdf_pads bits key).bind fun (r_3 : Str × Str) => ((sha_Hash_Write r_1.1 r_1.2.1 r_1.2.2.1 r_1.2.2.2 0#64 r_3.1).bind fun (r_4 : Vector (BitVec 64) 8 × List (BitVec 8) × BitVec 64) => ((sha_Hash_Write r_2.1 r_2.2.1 r_2.2.2.1 r_2.2.2.2 0#64 r_3.2).bind fun (r_5 : Vector (BitVec 64) 8 × List (BitVec 8) × BitVec 64) => (some (.inr (r_1.1, r_4.1, r_1.2.2.1, r_4.2.1, r_4.2.2, r_2.1, r_5.1, r_2.2.2.1, r_5.2.1, r_5.2.2)))))))))

set_option maxHeartbeats 4000000 in
set_option maxRecDepth 20000 in
theorem F50_calls (bits : Int) (key : Str) (r : (Unit) ⊕ (Int × Vector (BitVec 64) 8 × Vector (BitVec 64) 80 × List (BitVec 8) × BitVec 64 × Int × Vector (BitVec 64) 8 × Vector (BitVec 64) 80 × List (BitVec 8) × BitVec 64)) (H : hkdf_newMac bits key = some r) :
    Does Try.prog 50 [vi bits, vs key] [] [] (Γ := Unit × (Nat × Nat × Adr × List (BitVec 8) × Adr × List (BitVec 8))) (fun g => match r with | .inl r => Value.tuple [Value.agg (flat [(1, [Value.pointer none]), (1, [Value.pointer none])]).toArray, vi 300].toArray | .inr r => Value.tuple [Value.agg (flat [(1, [ptr (some (g.2.1, 0)) 0]), (1, [ptr (some (g.2.2.1, 0)) 0])]).toArray, vi 0].toArray) (fun g => match r with | .inl r => [] | .inr r => [⟨some (g.2.1, 0), [vi r.1]⟩, ⟨some (g.2.1, 1), e64 r.2.1.toList⟩, ⟨some (g.2.1, 9), e64 r.2.2.1.toList⟩, ⟨some (g.2.1, 89), [sl g.2.2.2.1 ((r.2.2.2.1).length) ((r.2.2.2.1 ++ g.2.2.2.2.1).length)]⟩, ⟨g.2.2.2.1, e8 (r.2.2.2.1 ++ g.2.2.2.2.1)⟩, ⟨some (g.2.1, 90), [v64 r.2.2.2.2.1]⟩, ⟨some (g.2.2.1, 0), [vi r.2.2.2.2.2.1]⟩, ⟨some (g.2.2.1, 1), e64 r.2.2.2.2.2.2.1.toList⟩, ⟨some (g.2.2.1, 9), e64 r.2.2.2.2.2.2.2.1.toList⟩, ⟨some (g.2.2.1, 89), [sl g.2.2.2.2.2.1 ((r.2.2.2.2.2.2.2.2.1).length) ((r.2.2.2.2.2.2.2.2.1 ++ g.2.2.2.2.2.2).length)]⟩, ⟨g.2.2.2.2.2.1, e8 (r.2.2.2.2.2.2.2.2.1 ++ g.2.2.2.2.2.2)⟩, ⟨some (g.2.2.1, 90), [v64 r.2.2.2.2.2.2.2.2.2]⟩]) := by
  intro w hmem hro hd
  refine calls_of (N := 40) (m0 := [(0, vi bits), (1, vs key)]) Try.func50 rfl Try.ntmps50 (argM_ok [vi bits, vs key]) rfl hmem hro hd ?_
  unfold hkdf_newMac at H
  refine TC_seq ?_
  refine TC_region ?_
  refine TL_e rfl rfl rfl (E_allocP [(1, [Value.pointer none]), (1, [Value.pointer none])] TryI.inf63 TryI.zer63 ⟨rfl, rfl, trivial⟩) (fun b1 => ?_)
  refine TL_v rfl rfl rfl (V_assign rfl) ?_
  refine TL_nil ?_
  refine TX_next ?_
  refine TC_seq ?_
  refine TC_region ?_
  refine TL_v rfl rfl rfl (V_move rfl) ?_
  obtain ⟨r_1, hr_1, H⟩ := bind_elim H
  rcases r_1 with r_1 | r_1
  · dsimp only at H
    refine TL_e rfl rfl rfl (E_call (Γ := Unit × (Nat × Adr)) (val := fun g => Value.tuple [Value.pointer none, vi 200].toArray) (mem := fun g => []) (vs := [vi bits]) (Lin := []) (Ro := []) (is := []) rfl Try.call58 (F58_calls bits (.inl r_1) hr_1) rfl trivial) (fun g_1 => ?_)
    refine TL_v rfl rfl rfl (V_move rfl) ?_
    refine TL_v rfl rfl rfl (V_extract (vs := [Value.pointer none, vi 200]) rfl rfl) ?_
    refine TL_v rfl rfl rfl (V_extract (vs := [Value.pointer none, vi 200]) rfl rfl) ?_
    refine TL_v rfl rfl rfl (V_assign rfl) ?_
    refine TL_v rfl rfl rfl (V_assign rfl) ?_
    refine TL_nil ?_
    refine TX_next ?_
    refine TC_seq ?_
    refine TC_seq ?_
    refine TC_region ?_
    refine TL_v rfl rfl rfl (V_move rfl) ?_
    refine TL_v rfl rfl rfl (V_bin rfl rfl (fun w => neqI w 200 0)) ?_
    refine TL_nil ?_
    refine TX_next ?_
    refine TC_cond_t rfl ?_
    refine TC_seq ?_
    refine TC_region ?_
    refine TL_v rfl rfl rfl (V_buildStruct (pv := []) (pl := [(0, 1), (1, 1)]) rfl rfl Try.underlying63 TryI.inf63 TryI.places63 TryI.zer63 (cs := flat [(1, [Value.pointer none]), (1, [Value.pointer none])]) (by kernel_rfl)) ?_
    refine TL_n rfl rfl (E_storeParts (b := b1) (o := 0) (n := 2) (is := [0, 0]) [(1, [Value.pointer none]), (1, [Value.pointer none])] [(1, [Value.pointer none]), (1, [Value.pointer none])] rfl rfl rfl TryI.inf63 rfl ⟨rfl, rfl, trivial⟩ ⟨rfl, rfl, trivial⟩ (flat_len ⟨rfl, rfl, trivial⟩ rfl) (flat_len ⟨rfl, rfl, trivial⟩ rfl) (flat_onec ⟨(OneC.cons rfl OneC.nil), (OneC.cons rfl OneC.nil), trivial⟩)) (fun _ => ?_)
    refine TL_v rfl rfl rfl (V_assign rfl) ?_
    refine TL_nil ?_
    refine TX_next ?_
    refine TC_ret ?_
    refine TX_then_ret ?_
    have hrv := Option.some.inj H
    subst hrv
    exact TX_ret (rs := [.cell 4 63, .tmp 5]) (vs := [Value.agg (flat [(1, [Value.pointer none]), (1, [Value.pointer none])]).toArray, vi 300]) rfl ⟨(Res_agg (n := 2) (cs := flat [(1, [Value.pointer none]), (1, [Value.pointer none])]) rfl (by simp) (SrcEnts (b := b1) [(1, [Value.pointer none]), (1, [Value.pointer none])] 0 ⟨rfl, rfl, trivial⟩ (AllSrc.all (M := ents b1 0 [(1, [Value.pointer none]), (1, [Value.pointer none])]) ⟨Src.own (j := 0) rfl, Src.own (j := 1) rfl, trivial⟩)) Try.isAgg63 TryI.inf63 rfl (by simp [flat])), rfl, trivial⟩ (fun w' hs' => ⟨((), ((default : Nat), (default : Nat), (default : Adr), (default : List (BitVec 8)), (default : Adr), (default : List (BitVec 8)))), rfl, Step.left (Step.pulled (is := []) (A := []) hs' rfl)⟩)
  · dsimp only at H
    refine TL_e rfl rfl rfl (E_call (Γ := Unit × (Nat × Adr)) (val := fun g => Value.tuple [ptr (some (g.2.1, 0)) 0, vi 0].toArray) (mem := fun g => [⟨some (g.2.1, 0), [vi r_1.1]⟩, ⟨some (g.2.1, 1), e64 r_1.2.1.toList⟩, ⟨some (g.2.1, 9), e64 r_1.2.2.1.toList⟩, ⟨some (g.2.1, 89), [sl g.2.2 ((r_1.2.2.2).length) ((r_1.2.2.2 ++ ([] : List (BitVec 8))).length)]⟩, ⟨g.2.2, e8 (r_1.2.2.2 ++ ([] : List (BitVec 8)))⟩, ⟨some (g.2.1, 90), [v64 0#64]⟩]) (vs := [vi bits]) (Lin := []) (Ro := []) (is := []) rfl Try.call58 (F58_calls bits (.inr r_1) hr_1) rfl trivial) (fun g_2 => ?_)
    refine TL_v rfl rfl rfl (V_move rfl) ?_
    refine TL_v rfl rfl rfl (V_extract (vs := [ptr (some (g_2.2.1, 0)) 0, vi 0]) rfl rfl) ?_
    refine TL_v rfl rfl rfl (V_extract (vs := [ptr (some (g_2.2.1, 0)) 0, vi 0]) rfl rfl) ?_
    refine TL_v rfl rfl rfl (V_assign rfl) ?_
    refine TL_v rfl rfl rfl (V_assign rfl) ?_
    refine TL_nil ?_
    refine TX_next ?_
    refine TC_seq ?_
    refine TC_seq ?_
    refine TC_region ?_
    refine TL_v rfl rfl rfl (V_move rfl) ?_
    refine TL_v rfl rfl rfl (V_bin rfl rfl (fun w => neqI w 0 0)) ?_
    refine TL_nil ?_
    refine TX_next ?_
    refine TC_cond_f rfl ?_
    refine TC_skip ?_
    refine TX_next ?_
    refine TC_seq ?_
    refine TC_region ?_
    refine TL_v rfl rfl rfl (V_move rfl) ?_
    obtain ⟨r_2, hr_2, H⟩ := bind_elim H
    rcases r_2 with r_2 | r_2
    · exact absurd (show (none : Option _) = some _ from H) (fun h => by cases h)
    · dsimp only at H
      refine TL_e rfl rfl rfl (E_call (Γ := Unit × (Nat × Adr)) (val := fun g => Value.tuple [ptr (some (g.2.1, 0)) 0, vi 0].toArray) (mem := fun g => [⟨some (g.2.1, 0), [vi r_2.1]⟩, ⟨some (g.2.1, 1), e64 r_2.2.1.toList⟩, ⟨some (g.2.1, 9), e64 r_2.2.2.1.toList⟩, ⟨some (g.2.1, 89), [sl g.2.2 ((r_2.2.2.2).length) ((r_2.2.2.2 ++ ([] : List (BitVec 8))).length)]⟩, ⟨g.2.2, e8 (r_2.2.2.2 ++ ([] : List (BitVec 8)))⟩, ⟨some (g.2.1, 90), [v64 0#64]⟩]) (vs := [vi bits]) (Lin := []) (Ro := []) (is := []) rfl Try.call58 (F58_calls bits (.inr r_2) hr_2) rfl trivial) (fun g_3 => ?_)
      refine TL_v rfl rfl rfl (V_move rfl) ?_
      refine TL_v rfl rfl rfl (V_extract (vs := [ptr (some (g_3.2.1, 0)) 0, vi 0]) rfl rfl) ?_
      refine TL_v rfl rfl rfl (V_extract (vs := [ptr (some (g_3.2.1, 0)) 0, vi 0]) rfl rfl) ?_
      refine TL_v rfl rfl rfl (V_assign rfl) ?_
      refine TL_v rfl rfl rfl (V_assign rfl) ?_
      refine TL_nil ?_
      refine TX_next ?_
      refine TC_seq ?_
      refine TC_region ?_
      refine TL_v rfl rfl rfl (V_move rfl) ?_
      refine TL_v rfl rfl rfl (V_move rfl) ?_
      obtain ⟨r_3, hr_3, H⟩ := bind_elim H
      refine TL_e rfl rfl rfl (E_call (Γ := Unit) (val := fun g => Value.tuple [vs r_3.1, vs r_3.2].toArray) (mem := fun g => []) (vs := [vi bits, vs key]) (Lin := []) (Ro := []) (is := []) rfl Try.call61 (F61_calls bits key r_3 hr_3) rfl trivial) (fun g_4 => ?_)
      refine TL_v rfl rfl rfl (V_move rfl) ?_
      refine TL_v rfl rfl rfl (V_extract (vs := [vs r_3.1, vs r_3.2]) rfl rfl) ?_
      refine TL_v rfl rfl rfl (V_extract (vs := [vs r_3.1, vs r_3.2]) rfl rfl) ?_
      refine TL_v rfl rfl rfl (V_assign rfl) ?_
      refine TL_v rfl rfl rfl (V_assign rfl) ?_
      refine TL_nil ?_
      refine TX_next ?_
      refine TC_seq ?_
      refine TC_region ?_
      refine TL_v rfl rfl rfl (V_move rfl) ?_
      refine TL_v rfl rfl rfl (V_move rfl) ?_
      obtain ⟨r_4, hr_4, H⟩ := bind_elim H
      refine TL_e rfl rfl rfl (E_call (Γ := Adr × List (BitVec 8)) (val := fun g => Value.tuple [].toArray) (mem := fun g => [⟨some (g_2.2.1, 1), e64 r_4.1.toList⟩, ⟨some (g_2.2.1, 89), [sl g.1 ((r_4.2.1).length) ((r_4.2.1 ++ g.2).length)]⟩, ⟨g.1, e8 (r_4.2.1 ++ g.2)⟩, ⟨some (g_2.2.1, 90), [v64 r_4.2.2]⟩]) (vs := [ptr (some (g_2.2.1, 0)) 0, vs r_3.1]) (Lin := [⟨some (g_2.2.1, 1), e64 r_1.2.1.toList⟩, ⟨some (g_2.2.1, 89), [sl g_2.2.2 ((r_1.2.2.2).length) ((r_1.2.2.2 ++ ([] : List (BitVec 8))).length)]⟩, ⟨some (g_2.2.1, 90), [v64 0#64]⟩, ⟨g_2.2.2, e8 (r_1.2.2.2 ++ ([] : List (BitVec 8)))⟩]) (Ro := [⟨some (g_2.2.1, 0), [vi r_1.1]⟩, ⟨some (g_2.2.1, 9), e64 r_1.2.2.1.toList⟩]) (is := [7, 8, 9, 8]) rfl Try.call59 (F59_calls g_2.2.1 0 g_2.2.2 ([] : List (BitVec 8)) r_1.1 r_1.2.1 r_1.2.2.1 r_1.2.2.2 0#64 r_3.1 r_4 hr_4) rfl ⟨SrcD.own (j := 6) rfl, SrcD.own (j := 7) rfl, trivial⟩) (fun g_5 => ?_)
      refine TL_nil ?_
      refine TX_next ?_
      refine TC.sub (m' := [(4, ptr (some (b1, 0)) 0), (6, ptr (some (g_2.2.1, 0)) 0), (8, ptr (some (g_3.2.1, 0)) 0), (11, vs r_3.2)]) ⟨rfl, rfl, rfl, rfl, trivial⟩ ?_
      refine TC_seq ?_
      refine TC_region ?_
      refine TL_v rfl rfl rfl (V_move rfl) ?_
      refine TL_v rfl rfl rfl (V_move rfl) ?_
      obtain ⟨r_5, hr_5, H⟩ := bind_elim H
      refine TL_e rfl rfl rfl (E_call (Γ := Adr × List (BitVec 8)) (val := fun g => Value.tuple [].toArray) (mem := fun g => [⟨some (g_3.2.1, 1), e64 r_5.1.toList⟩, ⟨some (g_3.2.1, 89), [sl g.1 ((r_5.2.1).length) ((r_5.2.1 ++ g.2).length)]⟩, ⟨g.1, e8 (r_5.2.1 ++ g.2)⟩, ⟨some (g_3.2.1, 90), [v64 r_5.2.2]⟩]) (vs := [ptr (some (g_3.2.1, 0)) 0, vs r_3.2]) (Lin := [⟨some (g_3.2.1, 1), e64 r_2.2.1.toList⟩, ⟨some (g_3.2.1, 89), [sl g_3.2.2 ((r_2.2.2.2).length) ((r_2.2.2.2 ++ ([] : List (BitVec 8))).length)]⟩, ⟨some (g_3.2.1, 90), [v64 0#64]⟩, ⟨g_3.2.2, e8 (r_2.2.2.2 ++ ([] : List (BitVec 8)))⟩]) (Ro := [⟨some (g_3.2.1, 0), [vi r_2.1]⟩, ⟨some (g_3.2.1, 9), e64 r_2.2.2.1.toList⟩]) (is := [5, 6, 7, 6]) rfl Try.call59 (F59_calls g_3.2.1 0 g_3.2.2 ([] : List (BitVec 8)) r_2.1 r_2.2.1 r_2.2.2.1 r_2.2.2.2 0#64 r_3.2 r_5 hr_5) rfl ⟨SrcD.own (j := 4) rfl, SrcD.own (j := 5) rfl, trivial⟩) (fun g_6 => ?_)
      refine TL_nil ?_
      refine TX_next ?_
      refine TC_seq ?_
      refine TC_region ?_
      refine TL_v rfl rfl rfl (V_move rfl) ?_
      refine TL_v rfl rfl rfl (V_move rfl) ?_
      refine TL_v rfl rfl rfl (V_buildStruct (pv := [(0, ptr (some (g_2.2.1, 0)) 0), (1, ptr (some (g_3.2.1, 0)) 0)]) (pl := [(0, 1), (1, 1)]) rfl rfl Try.underlying63 TryI.inf63 TryI.places63 TryI.zer63 (cs := flat [(1, [ptr (some (g_2.2.1, 0)) 0]), (1, [ptr (some (g_3.2.1, 0)) 0])]) (by kernel_rfl)) ?_
      refine TL_n rfl rfl (E_storeParts (b := b1) (o := 0) (n := 2) (is := [12, 12]) [(1, [Value.pointer none]), (1, [Value.pointer none])] [(1, [ptr (some (g_2.2.1, 0)) 0]), (1, [ptr (some (g_3.2.1, 0)) 0])] rfl rfl rfl TryI.inf63 rfl ⟨rfl, rfl, trivial⟩ ⟨rfl, rfl, trivial⟩ (flat_len ⟨rfl, rfl, trivial⟩ rfl) (flat_len ⟨rfl, rfl, trivial⟩ rfl) (flat_onec ⟨(OneC.cons rfl OneC.nil), (OneC.cons rfl OneC.nil), trivial⟩)) (fun _ => ?_)
      refine TL_v rfl rfl rfl (V_assign rfl) ?_
      refine TL_nil ?_
      refine TX_next ?_
      refine TC_ret ?_
      have hrv := Option.some.inj H
      subst hrv
      exact TX_ret (rs := [.cell 4 63, .tmp 5]) (vs := [Value.agg (flat [(1, [ptr (some (g_2.2.1, 0)) 0]), (1, [ptr (some (g_3.2.1, 0)) 0])]).toArray, vi 0]) rfl ⟨(Res_agg (n := 2) (cs := flat [(1, [ptr (some (g_2.2.1, 0)) 0]), (1, [ptr (some (g_3.2.1, 0)) 0])]) rfl (by simp) (SrcEnts (b := b1) [(1, [ptr (some (g_2.2.1, 0)) 0]), (1, [ptr (some (g_3.2.1, 0)) 0])] 0 ⟨rfl, rfl, trivial⟩ (AllSrc.all (M := ents b1 0 [(1, [ptr (some (g_2.2.1, 0)) 0]), (1, [ptr (some (g_3.2.1, 0)) 0])]) ⟨Src.own (j := 0) rfl, Src.own (j := 1) rfl, trivial⟩)) Try.isAgg63 TryI.inf63 rfl (by simp [flat])), rfl, trivial⟩ (fun w' hs' => ⟨((), (g_2.2.1, g_3.2.1, g_5.1, g_5.2, g_6.1, g_6.2)), rfl, Step.left (Step.pulled (is := [12, 6, 11, 6, 6, 6, 6, 2, 5, 2, 2, 2]) (A := [⟨some (g_2.2.1, 0), [vi r_1.1]⟩, ⟨some (g_2.2.1, 1), e64 r_4.1.toList⟩, ⟨some (g_2.2.1, 9), e64 r_1.2.2.1.toList⟩, ⟨some (g_2.2.1, 89), [sl g_5.1 ((r_4.2.1).length) ((r_4.2.1 ++ g_5.2).length)]⟩, ⟨g_5.1, e8 (r_4.2.1 ++ g_5.2)⟩, ⟨some (g_2.2.1, 90), [v64 r_4.2.2]⟩, ⟨some (g_3.2.1, 0), [vi r_2.1]⟩, ⟨some (g_3.2.1, 1), e64 r_5.1.toList⟩, ⟨some (g_3.2.1, 9), e64 r_2.2.2.1.toList⟩, ⟨some (g_3.2.1, 89), [sl g_6.1 ((r_5.2.1).length) ((r_5.2.1 ++ g_6.2).length)]⟩, ⟨g_6.1, e8 (r_5.2.1 ++ g_6.2)⟩, ⟨some (g_3.2.1, 90), [v64 r_5.2.2]⟩]) hs' rfl)⟩)

end Go.Proofs
end

section
namespace Go.Proofs
open Go Go.Kx
set_option linter.unusedVariables false
set_option linter.unusedSimpArgs false
def hkdf_mac_of (m_inner_n : Int) (m_inner_h : Vector (BitVec 64) 8) (m_inner_k : Vector (BitVec 64) 80) (m_inner_rest : List (BitVec 8)) (m_inner_all : BitVec 64) (m_outer_n : Int) (m_outer_h : Vector (BitVec 64) 8) (m_outer_k : Vector (BitVec 64) 80) (m_outer_rest : List (BitVec 8)) (m_outer_all : BitVec 64) (s_ : Str) : Option (Str) :=
  (sha_Hash_Fork m_inner_n m_inner_h m_inner_k m_inner_rest m_inner_all).bind fun (r_1 : Int × Vector (BitVec 64) 8 × Vector (BitVec 64) 80 × List (BitVec 8) × BitVec 64) => ((sha_Hash_Fork m_outer_n m_outer_h m_outer_k m_outer_rest m_outer_all).bind fun (r_2 : Int × Vector (BitVec 64) 8 × Vector (BitVec 64) 80 × List (BitVec 8) × BitVec 64) => ((sha_Hash_Write r_1.1 r_1.2.1 r_1.2.2.1 r_1.2.2.2.1 r_1.2.2.2.2 s_).bind fun (r_3 : Vector (BitVec 64) 8 × List (BitVec 8) × BitVec 64) => ((sha_Hash_Sum r_1.1 r_3.1 r_1.2.2.1 r_3.2.1 r_3.2.2).bind fun (r_4 : Str) => ((sha_Hash_Write r_2.1 r_2.2.1 r_2.2.2.1 r_2.2.2.2.1 r_2.2.2.2.2 r_4).bind fun (r_5 : Vector (BitVec 64) 8 × List (BitVec 8) × BitVec 64) => ((sha_Hash_Sum r_2.1 r_5.1 r_2.2.2.1 r_5.2.1 r_5.2.2).bind fun (r_6 : Str) => (some r_6))))))

set_option maxHeartbeats 4000000 in
set_option maxRecDepth 20000 in
theorem F51_calls (bm_inner : Nat) (obm_inner : Nat) (Am_inner_rest : Adr) (cm_inner_rest : Nat) (bm_outer : Nat) (obm_outer : Nat) (Am_outer_rest : Adr) (cm_outer_rest : Nat) (m_inner_n : Int) (m_inner_h : Vector (BitVec 64) 8) (m_inner_k : Vector (BitVec 64) 80) (m_inner_rest : List (BitVec 8)) (m_inner_all : BitVec 64) (m_outer_n : Int) (m_outer_h : Vector (BitVec 64) 8) (m_outer_k : Vector (BitVec 64) 80) (m_outer_rest : List (BitVec 8)) (m_outer_all : BitVec 64) (s_ : Str) (hcm_inner_rest : (m_inner_rest).length ≤ cm_inner_rest) (hcm_outer_rest : (m_outer_rest).length ≤ cm_outer_rest) (r : Str) (H : hkdf_mac_of m_inner_n m_inner_h m_inner_k m_inner_rest m_inner_all m_outer_n m_outer_h m_outer_k m_outer_rest m_outer_all s_ = some r) :
    Does Try.prog 51 [Value.agg (flat [(1, [ptr (some (bm_inner, obm_inner)) 0]), (1, [ptr (some (bm_outer, obm_outer)) 0])]).toArray, vs s_] [] [⟨some (bm_inner, obm_inner), [vi m_inner_n]⟩, ⟨some (bm_inner, obm_inner + 1), e64 m_inner_h.toList⟩, ⟨some (bm_inner, obm_inner + 9), e64 m_inner_k.toList⟩, ⟨some (bm_inner, obm_inner + 89), [sl Am_inner_rest ((m_inner_rest).length) cm_inner_rest]⟩, ⟨some (bm_inner, obm_inner + 90), [v64 m_inner_all]⟩, ⟨Am_inner_rest, e8 m_inner_rest⟩, ⟨some (bm_outer, obm_outer), [vi m_outer_n]⟩, ⟨some (bm_outer, obm_outer + 1), e64 m_outer_h.toList⟩, ⟨some (bm_outer, obm_outer + 9), e64 m_outer_k.toList⟩, ⟨some (bm_outer, obm_outer + 89), [sl Am_outer_rest ((m_outer_rest).length) cm_outer_rest]⟩, ⟨some (bm_outer, obm_outer + 90), [v64 m_outer_all]⟩, ⟨Am_outer_rest, e8 m_outer_rest⟩] (Γ := Unit) (fun g => vs r) (fun g => []) := by
  intro w hmem hro hd
  refine calls_of (N := 22) (m0 := [(0, Value.agg (flat [(1, [ptr (some (bm_inner, obm_inner)) 0]), (1, [ptr (some (bm_outer, obm_outer)) 0])]).toArray), (1, vs s_)]) Try.func51 rfl Try.ntmps51 (argM_ok [Value.agg (flat [(1, [ptr (some (bm_inner, obm_inner)) 0]), (1, [ptr (some (bm_outer, obm_outer)) 0])]).toArray, vs s_]) rfl hmem hro hd ?_
  unfold hkdf_mac_of at H
  refine TC_seq ?_
  refine TC_region ?_
  refine TL_e rfl rfl rfl (E_boxP [(1, [ptr (some (bm_inner, obm_inner)) 0]), (1, [ptr (some (bm_outer, obm_outer)) 0])] rfl rfl ⟨rfl, rfl, trivial⟩) (fun b1 => ?_)
  refine TL_v rfl rfl rfl (V_assign rfl) ?_
  refine TL_nil ?_
  refine TX_next ?_
  refine TC_seq ?_
  obtain ⟨r_1, hr_1, H⟩ := bind_elim H
  obtain ⟨r_2, hr_2, H⟩ := bind_elim H
  refine TA_begin [⟨some (b1, 0), [ptr (some (bm_inner, obm_inner)) 0]⟩, ⟨some (b1, 1), [ptr (some (bm_outer, obm_outer)) 0]⟩] 8 (by kernel_rfl) (N := 8) rfl ?_
  refine TA_take (i := 0) (is := [0, 0]) (done' := #[true, false, false, false, false, false, false, false]) rfl rfl rfl rfl (by kernel_rfl) (QP.then QP.body) (by kernel_rfl) rfl (V_fieldE rfl Try.underlying63 rfl rfl TryI.inf61 rfl (v := ptr (some (b1, 0)) 0) rfl) ?_
  refine TA_take (i := 1) (is := [0, 0]) (done' := #[true, true, false, false, false, false, false, false]) rfl rfl rfl rfl (by kernel_rfl) (QP.then QP.body) (by kernel_rfl) rfl (V_load rfl (Src.own (j := 0) rfl) rfl Try.isAgg61) ?_
  refine TA_take (i := 3) (is := [0, 0]) (done' := #[true, true, false, true, false, false, false, false]) rfl rfl rfl rfl (by kernel_rfl) (QP.then QP.body) (by kernel_rfl) rfl (V_fieldE rfl Try.underlying63 rfl rfl TryI.inf61 rfl (v := ptr (some (b1, 1)) 0) rfl) ?_
  refine TA_take (i := 4) (is := [0, 0]) (done' := #[true, true, false, true, true, false, false, false]) rfl rfl rfl rfl (by kernel_rfl) (QP.then QP.body) (by kernel_rfl) rfl (V_load rfl (Src.own (j := 1) rfl) rfl Try.isAgg61) ?_
  refine TA_all (rs := [2]) (by kernel_rfl) rfl ?_
  refine ⟨?_, trivial⟩
  refine TO_e (is := [6, 6]) (done' := #[true, true, true, true, true, false, false, false]) rfl rfl rfl rfl (by kernel_rfl) (E_call (Γ := Nat × Adr × List (BitVec 8)) (val := fun g => ptr (some (g.1, 0)) 0) (mem := fun g => [⟨some (g.1, 0), [vi r_1.1]⟩, ⟨some (g.1, 1), e64 r_1.2.1.toList⟩, ⟨some (g.1, 9), e64 r_1.2.2.1.toList⟩, ⟨some (g.1, 89), [sl g.2.1 ((r_1.2.2.2.1).length) ((r_1.2.2.2.1 ++ g.2.2).length)]⟩, ⟨g.2.1, e8 (r_1.2.2.2.1 ++ g.2.2)⟩, ⟨some (g.1, 90), [v64 r_1.2.2.2.2]⟩]) (vs := [ptr (some (bm_inner, obm_inner)) 0]) (Lin := []) (Ro := [⟨some (bm_inner, obm_inner), [vi m_inner_n]⟩, ⟨some (bm_inner, obm_inner + 1), e64 m_inner_h.toList⟩, ⟨some (bm_inner, obm_inner + 9), e64 m_inner_k.toList⟩, ⟨some (bm_inner, obm_inner + 89), [sl Am_inner_rest ((m_inner_rest).length) cm_inner_rest]⟩, ⟨some (bm_inner, obm_inner + 90), [v64 m_inner_all]⟩, ⟨Am_inner_rest, e8 m_inner_rest⟩]) (is := []) rfl Try.call62 (F62_calls bm_inner obm_inner Am_inner_rest cm_inner_rest m_inner_n m_inner_h m_inner_k m_inner_rest m_inner_all hcm_inner_rest r_1 hr_1) rfl ⟨SrcD.ro (j := 0) rfl, SrcD.ro (j := 1) rfl, SrcD.ro (j := 2) rfl, SrcD.ro (j := 3) rfl, SrcD.ro (j := 4) rfl, SrcD.ro (j := 5) rfl, trivial⟩) (fun _ _ => rfl) (fun g_1 => ?_)
  refine TA_more (Lr2 := [⟨some (g_1.1, 0), [vi r_1.1]⟩, ⟨some (g_1.1, 1), e64 r_1.2.1.toList⟩, ⟨some (g_1.1, 9), e64 r_1.2.2.1.toList⟩, ⟨some (g_1.1, 89), [sl g_1.2.1 ((r_1.2.2.2.1).length) ((r_1.2.2.2.1 ++ g_1.2.2).length)]⟩, ⟨g_1.2.1, e8 (r_1.2.2.2.1 ++ g_1.2.2)⟩, ⟨some (g_1.1, 90), [v64 r_1.2.2.2.2]⟩, ⟨some (b1, 0), [ptr (some (bm_inner, obm_inner)) 0]⟩, ⟨some (b1, 1), [ptr (some (bm_outer, obm_outer)) 0]⟩]) (is := [6, 6]) (is2 := [0, 0, 0, 0, 0, 0, 0, 0]) rfl rfl ?_
  refine TA_all (rs := [5]) (by kernel_rfl) rfl ?_
  refine ⟨?_, trivial⟩
  refine TO_e (is := [6, 6, 6, 6, 6, 6, 6, 6]) (done' := #[true, true, true, true, true, true, false, false]) rfl rfl rfl rfl (by kernel_rfl) (E_call (Γ := Nat × Adr × List (BitVec 8)) (val := fun g => ptr (some (g.1, 0)) 0) (mem := fun g => [⟨some (g.1, 0), [vi r_2.1]⟩, ⟨some (g.1, 1), e64 r_2.2.1.toList⟩, ⟨some (g.1, 9), e64 r_2.2.2.1.toList⟩, ⟨some (g.1, 89), [sl g.2.1 ((r_2.2.2.2.1).length) ((r_2.2.2.2.1 ++ g.2.2).length)]⟩, ⟨g.2.1, e8 (r_2.2.2.2.1 ++ g.2.2)⟩, ⟨some (g.1, 90), [v64 r_2.2.2.2.2]⟩]) (vs := [ptr (some (bm_outer, obm_outer)) 0]) (Lin := []) (Ro := [⟨some (bm_outer, obm_outer), [vi m_outer_n]⟩, ⟨some (bm_outer, obm_outer + 1), e64 m_outer_h.toList⟩, ⟨some (bm_outer, obm_outer + 9), e64 m_outer_k.toList⟩, ⟨some (bm_outer, obm_outer + 89), [sl Am_outer_rest ((m_outer_rest).length) cm_outer_rest]⟩, ⟨some (bm_outer, obm_outer + 90), [v64 m_outer_all]⟩, ⟨Am_outer_rest, e8 m_outer_rest⟩]) (is := []) rfl Try.call62 (F62_calls bm_outer obm_outer Am_outer_rest cm_outer_rest m_outer_n m_outer_h m_outer_k m_outer_rest m_outer_all hcm_outer_rest r_2 hr_2) rfl ⟨SrcD.ro (j := 6) rfl, SrcD.ro (j := 7) rfl, SrcD.ro (j := 8) rfl, SrcD.ro (j := 9) rfl, SrcD.ro (j := 10) rfl, SrcD.ro (j := 11) rfl, trivial⟩) (fun _ _ => rfl) (fun g_2 => ?_)
  refine TA_more (Lr2 := [⟨some (g_2.1, 0), [vi r_2.1]⟩, ⟨some (g_2.1, 1), e64 r_2.2.1.toList⟩, ⟨some (g_2.1, 9), e64 r_2.2.2.1.toList⟩, ⟨some (g_2.1, 89), [sl g_2.2.1 ((r_2.2.2.2.1).length) ((r_2.2.2.2.1 ++ g_2.2.2).length)]⟩, ⟨g_2.2.1, e8 (r_2.2.2.2.1 ++ g_2.2.2)⟩, ⟨some (g_2.1, 90), [v64 r_2.2.2.2.2]⟩, ⟨some (g_1.1, 0), [vi r_1.1]⟩, ⟨some (g_1.1, 1), e64 r_1.2.1.toList⟩, ⟨some (g_1.1, 9), e64 r_1.2.2.1.toList⟩, ⟨some (g_1.1, 89), [sl g_1.2.1 ((r_1.2.2.2.1).length) ((r_1.2.2.2.1 ++ g_1.2.2).length)]⟩, ⟨g_1.2.1, e8 (r_1.2.2.2.1 ++ g_1.2.2)⟩, ⟨some (g_1.1, 90), [v64 r_1.2.2.2.2]⟩, ⟨some (b1, 0), [ptr (some (bm_inner, obm_inner)) 0]⟩, ⟨some (b1, 1), [ptr (some (bm_outer, obm_outer)) 0]⟩]) (is := [6, 6, 6, 6, 6, 6, 6, 6]) (is2 := [0, 0, 0, 0, 0, 0, 0, 0, 0, 0, 0, 0, 0, 0]) rfl rfl ?_
  refine TA_take (i := 6) (is := [0, 0, 0, 0, 0, 0, 0, 0, 0, 0, 0, 0, 0, 0]) (done' := #[true, true, true, true, true, true, true, false]) rfl rfl rfl rfl (by kernel_rfl) (QP.then QP.body) (by kernel_rfl) rfl (V_assign rfl) ?_
  refine TA_take (i := 7) (is := [0, 0, 0, 0, 0, 0, 0, 0, 0, 0, 0, 0, 0, 0]) (done' := #[true, true, true, true, true, true, true, true]) rfl rfl rfl rfl (by kernel_rfl) (QP.then QP.body) (by kernel_rfl) rfl (V_assign rfl) ?_
  refine TA_done (by kernel_rfl) ?_ 0
  refine TX_next ?_
  refine TC_seq ?_
  refine TC_region ?_
  refine TL_v rfl rfl rfl (V_move rfl) ?_
  refine TL_v rfl rfl rfl (V_move rfl) ?_
  obtain ⟨r_3, hr_3, H⟩ := bind_elim H
  refine TL_e rfl rfl rfl (E_call (Γ := Adr × List (BitVec 8)) (val := fun g => Value.tuple [].toArray) (mem := fun g => [⟨some (g_1.1, 1), e64 r_3.1.toList⟩, ⟨some (g_1.1, 89), [sl g.1 ((r_3.2.1).length) ((r_3.2.1 ++ g.2).length)]⟩, ⟨g.1, e8 (r_3.2.1 ++ g.2)⟩, ⟨some (g_1.1, 90), [v64 r_3.2.2]⟩]) (vs := [ptr (some (g_1.1, 0)) 0, vs s_]) (Lin := [⟨some (g_1.1, 1), e64 r_1.2.1.toList⟩, ⟨some (g_1.1, 89), [sl g_1.2.1 ((r_1.2.2.2.1).length) ((r_1.2.2.2.1 ++ g_1.2.2).length)]⟩, ⟨some (g_1.1, 90), [v64 r_1.2.2.2.2]⟩, ⟨g_1.2.1, e8 (r_1.2.2.2.1 ++ g_1.2.2)⟩]) (Ro := [⟨some (g_1.1, 0), [vi r_1.1]⟩, ⟨some (g_1.1, 9), e64 r_1.2.2.1.toList⟩]) (is := [7, 8, 9, 8]) rfl Try.call59 (F59_calls g_1.1 0 g_1.2.1 g_1.2.2 r_1.1 r_1.2.1 r_1.2.2.1 r_1.2.2.2.1 r_1.2.2.2.2 s_ r_3 hr_3) rfl ⟨SrcD.own (j := 6) rfl, SrcD.own (j := 7) rfl, trivial⟩) (fun g_3 => ?_)
  refine TL_nil ?_
  refine TX_next ?_
  refine TC_seq ?_
  refine TC_region ?_
  refine TL_v rfl rfl rfl (V_move rfl) ?_
  refine TL_v rfl rfl rfl (V_move rfl) ?_
  obtain ⟨r_4, hr_4, H⟩ := bind_elim H
  refine TL_e rfl rfl rfl (E_call (Γ := Unit) (val := fun g => vs r_4) (mem := fun g => []) (vs := [ptr (some (g_1.1, 0)) 0]) (Lin := []) (Ro := [⟨some (g_1.1, 0), [vi r_1.1]⟩, ⟨some (g_1.1, 1), e64 r_3.1.toList⟩, ⟨some (g_1.1, 9), e64 r_1.2.2.1.toList⟩, ⟨some (g_1.1, 89), [sl g_3.1 ((r_3.2.1).length) ((r_3.2.1 ++ g_3.2).length)]⟩, ⟨some (g_1.1, 90), [v64 r_3.2.2]⟩, ⟨g_3.1, e8 r_3.2.1⟩]) (is := []) rfl Try.call60 (F60_calls g_1.1 0 g_3.1 ((r_3.2.1 ++ g_3.2).length) r_1.1 r_3.1 r_1.2.2.1 r_3.2.1 r_3.2.2 (row_le _ _) r_4 hr_4) rfl ⟨SrcD.own (j := 10) rfl, SrcD.own (j := 0) rfl, SrcD.own (j := 11) rfl, SrcD.own (j := 1) rfl, SrcD.own (j := 3) rfl, (srcdRow (SrcD.own (j := 2) rfl)), trivial⟩) (fun g_4 => ?_)
  obtain ⟨r_5, hr_5, H⟩ := bind_elim H
  refine TL_e rfl rfl rfl (E_call (Γ := Adr × List (BitVec 8)) (val := fun g => Value.tuple [].toArray) (mem := fun g => [⟨some (g_2.1, 1), e64 r_5.1.toList⟩, ⟨some (g_2.1, 89), [sl g.1 ((r_5.2.1).length) ((r_5.2.1 ++ g.2).length)]⟩, ⟨g.1, e8 (r_5.2.1 ++ g.2)⟩, ⟨some (g_2.1, 90), [v64 r_5.2.2]⟩]) (vs := [ptr (some (g_2.1, 0)) 0, vs r_4]) (Lin := [⟨some (g_2.1, 1), e64 r_2.2.1.toList⟩, ⟨some (g_2.1, 89), [sl g_2.2.1 ((r_2.2.2.2.1).length) ((r_2.2.2.2.1 ++ g_2.2.2).length)]⟩, ⟨some (g_2.1, 90), [v64 r_2.2.2.2.2]⟩, ⟨g_2.2.1, e8 (r_2.2.2.2.1 ++ g_2.2.2)⟩]) (Ro := [⟨some (g_2.1, 0), [vi r_2.1]⟩, ⟨some (g_2.1, 9), e64 r_2.2.2.1.toList⟩]) (is := [5, 6, 7, 6]) rfl Try.call59 (F59_calls g_2.1 0 g_2.2.1 g_2.2.2 r_2.1 r_2.2.1 r_2.2.2.1 r_2.2.2.2.1 r_2.2.2.2.2 r_4 r_5 hr_5) rfl ⟨SrcD.own (j := 4) rfl, SrcD.own (j := 5) rfl, trivial⟩) (fun g_5 => ?_)
  refine TL_nil ?_
  refine TX_next ?_
  refine TC_seq ?_
  refine TC_region ?_
  refine TL_v rfl rfl rfl (V_move rfl) ?_
  obtain ⟨r_6, hr_6, H⟩ := bind_elim H
  refine TL_e rfl rfl rfl (E_call (Γ := Unit) (val := fun g => vs r_6) (mem := fun g => []) (vs := [ptr (some (g_2.1, 0)) 0]) (Lin := []) (Ro := [⟨some (g_2.1, 0), [vi r_2.1]⟩, ⟨some (g_2.1, 1), e64 r_5.1.toList⟩, ⟨some (g_2.1, 9), e64 r_2.2.2.1.toList⟩, ⟨some (g_2.1, 89), [sl g_5.1 ((r_5.2.1).length) ((r_5.2.1 ++ g_5.2).length)]⟩, ⟨some (g_2.1, 90), [v64 r_5.2.2]⟩, ⟨g_5.1, e8 r_5.2.1⟩]) (is := []) rfl Try.call60 (F60_calls g_2.1 0 g_5.1 ((r_5.2.1 ++ g_5.2).length) r_2.1 r_5.1 r_2.2.2.1 r_5.2.1 r_5.2.2 (row_le _ _) r_6 hr_6) rfl ⟨SrcD.own (j := 8) rfl, SrcD.own (j := 0) rfl, SrcD.own (j := 9) rfl, SrcD.own (j := 1) rfl, SrcD.own (j := 3) rfl, (srcdRow (SrcD.own (j := 2) rfl)), trivial⟩) (fun g_6 => ?_)
  refine TL_v rfl rfl rfl (V_assign rfl) ?_
  refine TL_nil ?_
  refine TX_next ?_
  refine TC_ret ?_
  have hrv := Option.some.inj H
  subst hrv
  exact TX_ret (rs := [.tmp 4]) (vs := [vs r_6]) rfl ⟨rfl, trivial⟩ (fun w' hs' => ⟨(), rfl, Step.left (Step.pulled (is := []) (A := []) hs' rfl)⟩)

end Go.Proofs
end

section
namespace Go.Proofs
open Go Go.Kx
set_option linter.unusedVariables false
set_option linter.unusedSimpArgs false
def halberdref1_xored.b0 (s_ : Str) (b : BitVec 8) (size : Int) (s0 : Int × List (BitVec 8)) : Option ((Int × List (BitVec 8)) ⊕ (List (BitVec 8))) :=
  if s0.1 < size then (if 0 ≤ s0.1 ∧ s0.1 < ((size).toNat : Int) then (if (s0.1).toNat < (s0.2).length then (ltt (s0.2.set ((s0.1).toNat) b) fun (m_1 : List (BitVec 8)) => (if s0.1 < ((s_).length : Int) then (if 0 ≤ s0.1 ∧ s0.1 < ((s_).length : Int) then (if 0 ≤ s0.1 ∧ s0.1 < ((size).toNat : Int) then (if (s0.1).toNat < (m_1).length then (ltt (m_1.set ((s0.1).toNat) ((sg s_ s0.1) ^^^ b)) fun (m_2 : List (BitVec 8)) => (ltt (w64 (s0.1 + 1)) fun (i1 : Int) => (some (.inl (i1, m_2))))) else none) else none) else none) else (ltt (w64 (s0.1 + 1)) fun (i2 : Int) => (some (.inl (i2, m_1)))))) else none) else none) else (some (.inr s0.2))

def halberdref1_xored (s_ : Str) (b : BitVec 8) (size : Int) : Option (Str) :=
  if 0 ≤ size ∧ size ≤ 17592186044416 then ((loop (halberdref1_xored.b0 s_ b size) BIG (0, List.replicate ((size).toNat) 0#8)).bind fun (t_1 : List (BitVec 8)) => (if (t_1).length = (size).toNat then (some t_1) else none)) else none

set_option maxHeartbeats 4000000 in
set_option maxRecDepth 20000 in
theorem F44_calls (s_ : Str) (b : BitVec 8) (size : Int) (r : Str) (H : halberdref1_xored s_ b size = some r) :
    Does Try.prog 44 [vs s_, v8 b, vi size] [] [] (Γ := Unit) (fun g => vs r) (fun g => []) := by
  intro w hmem hro hd
  refine calls_of (N := 34) (m0 := [(0, vs s_), (1, v8 b), (2, vi size)]) Try.func44 rfl Try.ntmps44 (argM_ok [vs s_, v8 b, vi size]) rfl hmem hro hd ?_
  unfold halberdref1_xored at H
  refine TC_seq ?_
  refine TC_region ?_
  refine TL_v rfl rfl rfl (V_assign rfl) ?_
  refine TL_nil ?_
  refine TX_next ?_
  refine TC_seq ?_
  refine TC_region ?_
  refine TL_v rfl rfl rfl (V_move rfl) ?_
  obtain ⟨h1, H⟩ := if_elim H
  refine TL_e rfl rfl rfl (E_mk1 rfl rfl Try.underlying49 TryI.inf5 (z := v8 0#8) rfl rfl rfl (B := 1) rfl h1.1 (Int.le_refl _) (by have := h1; omega) (by have := h1; omega) (n' := (size).toNat) (c' := (size).toNat) rfl rfl (cs := e8 (List.replicate ((size).toNat) 0#8)) (rep_map (f := v8))) (fun b1 => ?_)
  refine TL_v rfl rfl rfl (V_assign rfl) ?_
  refine TL_nil ?_
  refine TX_next ?_
  refine TC_seq ?_
  refine TC_seq ?_
  refine TC_region ?_
  refine TL_v rfl rfl rfl (V_assign rfl) ?_
  refine TL_nil ?_
  refine TX_next ?_
  refine TC_block ?_
  obtain ⟨t_1, Hl, H⟩ := bind_elim H
  refine TC.sub (m' := [(0, vs s_), (1, v8 b), (2, vi size), (7, sl (some (b1, 0)) ((size).toNat) ((size).toNat)), (8, vi 0)]) ⟨rfl, rfl, rfl, rfl, rfl, trivial⟩ ?_
  refine TC.pull (is := [0]) (L' := [⟨some (b1, 0), e8 (List.replicate ((size).toNat) 0#8)⟩]) rfl ?_
  refine TC_loopL (id := 0) (body := (halberdref1_xored.b0 s_ b size)) (σ := Int × List (BitVec 8)) (Γ := Unit) (Γx := Unit) (fun s0 g0_ => [(0, vs s_), (1, v8 b), (2, vi size), (7, sl (some (b1, 0)) ((size).toNat) ((size).toNat)), (8, vi s0.1)]) (fun s0 g0_ => [⟨some (b1, 0), e8 s0.2⟩]) (fun t g => [(7, sl (some (b1, 0)) ((size).toNat) ((size).toNat))]) (fun t g => [⟨some (b1, 0), e8 t⟩]) ?_ BIG (0, List.replicate ((size).toNat) 0#8) () t_1 Hl ?_
  · intro s0 g0_ r1 H K hK hE
    unfold halberdref1_xored.b0 at H
    refine TC_seq ?_
    refine TC_seq ?_
    refine TC_region ?_
    refine TL_v rfl rfl rfl (V_move rfl) ?_
    refine TL_v rfl rfl rfl (V_move rfl) ?_
    refine TL_v rfl rfl rfl (V_bin rfl rfl (fun w => lssI w s0.1 size)) ?_
    refine TL_nil ?_
    refine TX_next ?_
    refine TC_cond (b := (decide (s0.1 < size))) rfl (fun hc => ?_) (fun hc => ?_)
    · replace H := ite_t (of_decide_eq_true hc) H
      refine TC_skip ?_
      refine TX_next ?_
      refine TC_seq ?_
      refine TC_block ?_
      refine TC_seq ?_
      refine TC_region ?_
      refine TL_v rfl rfl rfl (V_move rfl) ?_
      refine TL_v rfl rfl rfl (V_move rfl) ?_
      refine TL_v rfl rfl rfl (V_move rfl) ?_
      obtain ⟨h2, H⟩ := if_elim H
      obtain ⟨h3, H⟩ := if_elim H
      refine TL_v rfl rfl rfl (V_idxSl (i := s0.1) rfl rfl Try.underlying49 TryI.inf5 rfl (fun _ h => by cases h) h2.1 h2.2 (k := (s0.1).toNat) (km1 _)) ?_
      refine TL_n rfl rfl (E_store (j := 0) rfl rfl TryI.inf5 rfl rfl rfl (by simpa using h3) (cs' := e8 (s0.2.set ((s0.1).toNat) b)) (set_map (f := v8) (l := s0.2) (k := ((s0.1).toNat)) (x := b))) (fun _ => ?_)
      obtain ⟨m_1, hm_1, H⟩ := ltt_elim H
      refine TL_reE (j := 0) (A := some (b1, 0)) (cs := e8 (s0.2.set ((s0.1).toNat) b)) (cs' := e8 m_1) rfl (congrArg (e8) hm_1) ?_
      refine TL_nil ?_
      refine TX_next ?_
      refine TC_seq ?_
      refine TC_region ?_
      refine TL_v rfl rfl rfl (V_move rfl) ?_
      refine TL_v rfl rfl rfl (V_move rfl) ?_
      refine TL_v rfl rfl rfl (V_len_str rfl Try.underlying9) ?_
      refine TL_v rfl rfl rfl (V_bin rfl rfl (fun w => lssI w s0.1 ((s_).length : Int))) ?_
      refine TL_nil ?_
      refine TX_next ?_
      refine TC_cond (b := (decide (s0.1 < ((s_).length : Int)))) rfl (fun hc => ?_) (fun hc => ?_)
      · replace H := ite_t (of_decide_eq_true hc) H
        refine TC_region ?_
        refine TL_v rfl rfl rfl (V_move rfl) ?_
        refine TL_v rfl rfl rfl (V_move rfl) ?_
        refine TL_v rfl rfl rfl (V_move rfl) ?_
        refine TL_v rfl rfl rfl (V_move rfl) ?_
        obtain ⟨h4, H⟩ := if_elim H
        refine TL_v rfl rfl rfl (V_idxStr rfl rfl (i := s0.1) Try.underlying9 h4.1 h4.2) ?_
        refine TL_v rfl rfl rfl (V_move rfl) ?_
        refine TL_v rfl rfl rfl (V_bin rfl rfl (fun w => xor8 w (sg s_ s0.1) b)) ?_
        obtain ⟨h5, H⟩ := if_elim H
        obtain ⟨h6, H⟩ := if_elim H
        refine TL_v rfl rfl rfl (V_idxSl (i := s0.1) rfl rfl Try.underlying49 TryI.inf5 rfl (fun _ h => by cases h) h5.1 h5.2 (k := (s0.1).toNat) (km1 _)) ?_
        refine TL_n rfl rfl (E_store (j := 0) rfl rfl TryI.inf5 rfl rfl rfl (by simpa using h6) (cs' := e8 (m_1.set ((s0.1).toNat) ((sg s_ s0.1) ^^^ b))) (set_map (f := v8) (l := m_1) (k := ((s0.1).toNat)) (x := ((sg s_ s0.1) ^^^ b)))) (fun _ => ?_)
        obtain ⟨m_2, hm_2, H⟩ := ltt_elim H
        refine TL_reE (j := 0) (A := some (b1, 0)) (cs := e8 (m_1.set ((s0.1).toNat) ((sg s_ s0.1) ^^^ b))) (cs' := e8 m_2) rfl (congrArg (e8) hm_2) ?_
        refine TL_nil ?_
        refine TX_block_normal ?_
        refine TX_next ?_
        refine TC_region ?_
        refine TL_v rfl rfl rfl (V_move rfl) ?_
        refine TL_v rfl rfl rfl (V_bin rfl rfl (fun w => addI w s0.1 1)) ?_
        refine TL_v rfl rfl rfl (V_assign rfl) ?_
        obtain ⟨i1, hi1, H⟩ := ltt_elim H
        refine TL_re (d := 8) (v := vi (w64 (s0.1 + 1))) (v' := vi i1) rfl (congrArg vi hi1) ?_
        refine TL_nil ?_
        refine TX.sub (m' := [(0, vs s_), (1, v8 b), (2, vi size), (7, sl (some (b1, 0)) ((size).toNat) ((size).toNat)), (8, vi i1)]) ⟨rfl, rfl, rfl, rfl, rfl, trivial⟩ ?_
        refine TX.pull (is := [0]) (L' := [⟨some (b1, 0), e8 m_2⟩]) rfl ?_
        obtain rfl := Option.some.inj H
        exact fun a w hs => hK (i1, m_2) rfl () a w hs
      · replace H := ite_f (of_decide_eq_false hc) H
        refine TC_skip ?_
        refine TX_block_normal ?_
        refine TX_next ?_
        refine TC_region ?_
        refine TL_v rfl rfl rfl (V_move rfl) ?_
        refine TL_v rfl rfl rfl (V_bin rfl rfl (fun w => addI w s0.1 1)) ?_
        refine TL_v rfl rfl rfl (V_assign rfl) ?_
        obtain ⟨i2, hi2, H⟩ := ltt_elim H
        refine TL_re (d := 8) (v := vi (w64 (s0.1 + 1))) (v' := vi i2) rfl (congrArg vi hi2) ?_
        refine TL_nil ?_
        refine TX.sub (m' := [(0, vs s_), (1, v8 b), (2, vi size), (7, sl (some (b1, 0)) ((size).toNat) ((size).toNat)), (8, vi i2)]) ⟨rfl, rfl, rfl, rfl, rfl, trivial⟩ ?_
        refine TX.pull (is := [0]) (L' := [⟨some (b1, 0), e8 m_1⟩]) rfl ?_
        obtain rfl := Option.some.inj H
        exact fun a w hs => hK (i2, m_1) rfl () a w hs
    · replace H := ite_f (of_decide_eq_false hc) H
      refine TC_exit ?_
      refine TX_then_exit ?_
      refine TX_then_exit ?_
      refine TX.sub (m' := [(7, sl (some (b1, 0)) ((size).toNat) ((size).toNat))]) ⟨rfl, trivial⟩ ?_
      refine TX.pull (is := [0]) (L' := [⟨some (b1, 0), e8 s0.2⟩]) rfl ?_
      obtain rfl := Option.some.inj H
      exact hE s0.2 rfl ()
  · intro g
    refine TX_block_exit ?_
    refine TX_next ?_
    refine TC_seq ?_
    refine TC_region ?_
    refine TL_v rfl rfl rfl (V_move rfl) ?_
    obtain ⟨h7, H⟩ := if_elim H
    refine TL_v rfl rfl rfl (V_b2s rfl Try.underlying49 Try.underlying5 Try.underlying9 (Src.own (j := 0) rfl) h7) ?_
    refine TL_v rfl rfl rfl (V_assign rfl) ?_
    refine TL_nil ?_
    refine TX_next ?_
    refine TC_ret ?_
    have hrv := Option.some.inj H
    subst hrv
    exact TX_ret (rs := [.tmp 6]) (vs := [vs t_1]) rfl ⟨rfl, trivial⟩ (fun w' hs' => ⟨(), rfl, Step.left (Step.pulled (is := []) (A := []) hs' rfl)⟩)

end Go.Proofs
end

section
namespace Go.Proofs
open Go Go.Kx
set_option linter.unusedVariables false
set_option linter.unusedSimpArgs false
def wire_Bytes (x : Int) (size : Int) : Option (Str) :=
  ltt (decide (size = 4)) fun (x1 : Bool) => (if x1 = true then (if (([] : List (BitVec 8))).length + (([BitVec.ofInt 8 (shrI' x 24)] : List (BitVec 8))).length ≤ 140737488355328 then (ltt (([] : List (BitVec 8)) ++ ([BitVec.ofInt 8 (shrI' x 24)] : List (BitVec 8))) fun (l1 : List (BitVec 8)) => (if (l1).length + (([BitVec.ofInt 8 (shrI' x 16)] : List (BitVec 8))).length ≤ 140737488355328 then (ltt (l1 ++ ([BitVec.ofInt 8 (shrI' x 16)] : List (BitVec 8))) fun (l2 : List (BitVec 8)) => (if (l2).length + (([BitVec.ofInt 8 (shrI' x 8)] : List (BitVec 8))).length ≤ 140737488355328 then (ltt (l2 ++ ([BitVec.ofInt 8 (shrI' x 8)] : List (BitVec 8))) fun (l3 : List (BitVec 8)) => (if (l3).length + (([BitVec.ofInt 8 x] : List (BitVec 8))).length ≤ 140737488355328 then (ltt (l3 ++ ([BitVec.ofInt 8 x] : List (BitVec 8))) fun (l4 : List (BitVec 8)) => (some l4)) else none)) else none)) else none)) else none) else (ltt (decide (size = 3)) fun (x2 : Bool) => (if x2 = true then (if (([] : List (BitVec 8))).length + (([BitVec.ofInt 8 (shrI' x 16)] : List (BitVec 8))).length ≤ 140737488355328 then (ltt (([] : List (BitVec 8)) ++ ([BitVec.ofInt 8 (shrI' x 16)] : List (BitVec 8))) fun (l5 : List (BitVec 8)) => (if (l5).length + (([BitVec.ofInt 8 (shrI' x 8)] : List (BitVec 8))).length ≤ 140737488355328 then (ltt (l5 ++ ([BitVec.ofInt 8 (shrI' x 8)] : List (BitVec 8))) fun (l6 : List (BitVec 8)) => (if (l6).length + (([BitVec.ofInt 8 x] : List (BitVec 8))).length ≤ 140737488355328 then (ltt (l6 ++ ([BitVec.ofInt 8 x] : List (BitVec 8))) fun (l7 : List (BitVec 8)) => (some l7)) else none)) else none)) else none) else (ltt (decide (size = 2)) fun (x3 : Bool) => (if x3 = true then (if (([] : List (BitVec 8))).length + (([BitVec.ofInt 8 (shrI' x 8)] : List (BitVec 8))).length ≤ 140737488355328 then (ltt (([] : List (BitVec 8)) ++ ([BitVec.ofInt 8 (shrI' x 8)] : List (BitVec 8))) fun (l8 : List (BitVec 8)) => (if (l8).length + (([BitVec.ofInt 8 x] : List (BitVec 8))).length ≤ 140737488355328 then (ltt (l8 ++ ([BitVec.ofInt 8 x] : List (BitVec 8))) fun (l9 : List (BitVec 8)) => (some l9)) else none)) else none) else (if (([] : List (BitVec 8))).length + (([BitVec.ofInt 8 x] : List (BitVec 8))).length ≤ 140737488355328 then (ltt (([] : List (BitVec 8)) ++ ([BitVec.ofInt 8 x] : List (BitVec 8))) fun (l10 : List (BitVec 8)) => (some l10)) else none))))))

set_option maxHeartbeats 4000000 in
set_option maxRecDepth 20000 in
theorem F57_calls (x : Int) (size : Int) (r : Str) (H : wire_Bytes x size = some r) :
    Does Try.prog 57 [vi x, vi size] [] [] (Γ := Unit) (fun g => vs r) (fun g => []) := by
  intro w hmem hro hd
  refine calls_of (N := 38) (m0 := [(0, vi x), (1, vi size)]) Try.func57 rfl Try.ntmps57 (argM_ok [vi x, vi size]) rfl hmem hro hd ?_
  unfold wire_Bytes at H
  refine TC_seq ?_
  refine TC_region ?_
  refine TL_v rfl rfl rfl (V_assign rfl) ?_
  refine TL_nil ?_
  refine TX_next ?_
  refine TC_seq ?_
  refine TC_region ?_
  refine TL_e rfl rfl rfl (E_nilS rfl (z := e8 (([] : List (BitVec 8)) ++ ([] : List (BitVec 8)))) rfl) (fun A1 => ?_)
  refine TL_nil ?_
  refine TX_next ?_
  refine TC_seq ?_
  refine TC_seq ?_
  refine TC_region ?_
  refine TL_v rfl rfl rfl (V_move rfl) ?_
  refine TL_nil ?_
  refine TX_next ?_
  refine TC_block ?_
  refine TC_seq ?_
  refine TC_block ?_
  refine TC_seq ?_
  refine TC_block ?_
  refine TC_seq ?_
  refine TC_block ?_
  refine TC_seq ?_
  refine TC_block ?_
  refine TC_seq ?_
  refine TC_seq ?_
  refine TC_seq ?_
  refine TC_region ?_
  refine TL_v rfl rfl rfl (V_bin rfl rfl (fun w => eqlI w size 4)) ?_
  refine TL_v rfl rfl rfl (V_assign rfl) ?_
  obtain ⟨x1, hx1, H⟩ := ltt_elim H
  refine TL_re (d := 7) (v := vb (decide (size = 4))) (v' := vb x1) rfl (congrArg vb hx1) ?_
  refine TL_nil ?_
  refine TX_next ?_
  refine TC_cond (b := x1) rfl (fun hc => ?_) (fun hc => ?_)
  · replace H := ite_t hc H
    refine TC_exit ?_
    refine TX_then_exit ?_
    refine TX_then_exit ?_
    refine TX_block_exit ?_
    refine TX_next ?_
    refine TC_region ?_
    refine TL_v rfl rfl rfl (V_move rfl) ?_
    refine TL_v rfl rfl rfl (V_move rfl) ?_
    refine TL_v rfl rfl rfl (V_bin rfl rfl (fun w => shrI w x .u64 24 (by decide))) ?_
    refine TL_v rfl rfl rfl (V_conv rfl (fun w => cvI8 w _ _ Try.underlying5 (TryI.und3) .i64 (shrI' x 24))) ?_
    refine TL_e rfl rfl rfl (E_buildSlice (pv := [(0, v8 (BitVec.ofInt 8 (shrI' x 24)))]) rfl rfl Try.underlying49 TryI.inf5 (s := 1) rfl TryI.zer5 rfl rfl rfl (cs := e8 ([BitVec.ofInt 8 (shrI' x 24)] : List (BitVec 8))) (by kernel_rfl)) (fun b1 => ?_)
    refine TL_re (d := 17) (v := sl (some (b1, 0)) 1 1) (v' := sl (some (b1, 0)) ((([BitVec.ofInt 8 (shrI' x 24)] : List (BitVec 8))).length) 1) rfl (congrArg (fun n => sl (some (b1, 0)) n 1) rfl) ?_
    obtain ⟨h1, H⟩ := if_elim H
    obtain ⟨l1, hl1, H⟩ := ltt_elim H
    refine TL_e rfl rfl rfl (E_app1 (f := v8) (j := 1) (l := ([] : List (BitVec 8))) (sp := ([] : List (BitVec 8))) (ds := ([BitVec.ofInt 8 (shrI' x 24)] : List (BitVec 8))) 0#8 (Src.own (j := 0) rfl) rfl rfl rfl (fun _ => rfl) Try.underlying49 Try.underlying49 TryI.inf5 rfl TryI.zer5 (B' := 1) rfl (by have := h1; omega) (by have := h1; omega) hl1) (fun q1 => ?_)
    refine TL_v rfl rfl rfl (V_assign rfl) ?_
    refine TL_nil ?_
    refine TX_block_normal ?_
    refine TX_next ?_
    refine TC_region ?_
    refine TL_v rfl rfl rfl (V_move rfl) ?_
    refine TL_v rfl rfl rfl (V_move rfl) ?_
    refine TL_v rfl rfl rfl (V_bin rfl rfl (fun w => shrI w x .u64 16 (by decide))) ?_
    refine TL_v rfl rfl rfl (V_conv rfl (fun w => cvI8 w _ _ Try.underlying5 (TryI.und3) .i64 (shrI' x 16))) ?_
    refine TL_e rfl rfl rfl (E_buildSlice (pv := [(0, v8 (BitVec.ofInt 8 (shrI' x 16)))]) rfl rfl Try.underlying49 TryI.inf5 (s := 1) rfl TryI.zer5 rfl rfl rfl (cs := e8 ([BitVec.ofInt 8 (shrI' x 16)] : List (BitVec 8))) (by kernel_rfl)) (fun b2 => ?_)
    refine TL_re (d := 23) (v := sl (some (b2, 0)) 1 1) (v' := sl (some (b2, 0)) ((([BitVec.ofInt 8 (shrI' x 16)] : List (BitVec 8))).length) 1) rfl (congrArg (fun n => sl (some (b2, 0)) n 1) rfl) ?_
    obtain ⟨h2, H⟩ := if_elim H
    obtain ⟨l2, hl2, H⟩ := ltt_elim H
    refine TL_e rfl rfl rfl (E_app1 (f := v8) (j := 2) (l := l1) (sp := q1.2) (ds := ([BitVec.ofInt 8 (shrI' x 16)] : List (BitVec 8))) 0#8 (Src.own (j := 0) rfl) rfl rfl rfl (fun _ => rfl) Try.underlying49 Try.underlying49 TryI.inf5 rfl TryI.zer5 (B' := 1) rfl (by have := h2; omega) (by have := h2; omega) hl2) (fun q2 => ?_)
    refine TL_v rfl rfl rfl (V_assign rfl) ?_
    refine TL_nil ?_
    refine TX_block_normal ?_
    refine TX_next ?_
    refine TC_region ?_
    refine TL_v rfl rfl rfl (V_move rfl) ?_
    refine TL_v rfl rfl rfl (V_move rfl) ?_
    refine TL_v rfl rfl rfl (V_bin rfl rfl (fun w => shrI w x .u64 8 (by decide))) ?_
    refine TL_v rfl rfl rfl (V_conv rfl (fun w => cvI8 w _ _ Try.underlying5 (TryI.und3) .i64 (shrI' x 8))) ?_
    refine TL_e rfl rfl rfl (E_buildSlice (pv := [(0, v8 (BitVec.ofInt 8 (shrI' x 8)))]) rfl rfl Try.underlying49 TryI.inf5 (s := 1) rfl TryI.zer5 rfl rfl rfl (cs := e8 ([BitVec.ofInt 8 (shrI' x 8)] : List (BitVec 8))) (by kernel_rfl)) (fun b3 => ?_)
    refine TL_re (d := 29) (v := sl (some (b3, 0)) 1 1) (v' := sl (some (b3, 0)) ((([BitVec.ofInt 8 (shrI' x 8)] : List (BitVec 8))).length) 1) rfl (congrArg (fun n => sl (some (b3, 0)) n 1) rfl) ?_
    obtain ⟨h3, H⟩ := if_elim H
    obtain ⟨l3, hl3, H⟩ := ltt_elim H
    refine TL_e rfl rfl rfl (E_app1 (f := v8) (j := 3) (l := l2) (sp := q2.2) (ds := ([BitVec.ofInt 8 (shrI' x 8)] : List (BitVec 8))) 0#8 (Src.own (j := 0) rfl) rfl rfl rfl (fun _ => rfl) Try.underlying49 Try.underlying49 TryI.inf5 rfl TryI.zer5 (B' := 1) rfl (by have := h3; omega) (by have := h3; omega) hl3) (fun q3 => ?_)
    refine TL_v rfl rfl rfl (V_assign rfl) ?_
    refine TL_nil ?_
    refine TX_block_normal ?_
    refine TX_next ?_
    refine TC.sub (m' := [(0, vi x), (5, sl q3.1 ((l3).length) ((l3 ++ q3.2).length))]) ⟨rfl, rfl, trivial⟩ ?_
    refine TC_seq ?_
    refine TC_region ?_
    refine TL_v rfl rfl rfl (V_move rfl) ?_
    refine TL_v rfl rfl rfl (V_move rfl) ?_
    refine TL_v rfl rfl rfl (V_conv rfl (fun w => cvI8 w _ _ Try.underlying5 (TryI.und3) .i64 x)) ?_
    refine TL_e rfl rfl rfl (E_buildSlice (pv := [(0, v8 (BitVec.ofInt 8 x))]) rfl rfl Try.underlying49 TryI.inf5 (s := 1) rfl TryI.zer5 rfl rfl rfl (cs := e8 ([BitVec.ofInt 8 x] : List (BitVec 8))) (by kernel_rfl)) (fun b4 => ?_)
    refine TL_re (d := 34) (v := sl (some (b4, 0)) 1 1) (v' := sl (some (b4, 0)) ((([BitVec.ofInt 8 x] : List (BitVec 8))).length) 1) rfl (congrArg (fun n => sl (some (b4, 0)) n 1) rfl) ?_
    obtain ⟨h4, H⟩ := if_elim H
    obtain ⟨l4, hl4, H⟩ := ltt_elim H
    refine TL_e rfl rfl rfl (E_app1 (f := v8) (j := 4) (l := l3) (sp := q3.2) (ds := ([BitVec.ofInt 8 x] : List (BitVec 8))) 0#8 (Src.own (j := 0) rfl) rfl rfl rfl (fun _ => rfl) Try.underlying49 Try.underlying49 TryI.inf5 rfl TryI.zer5 (B' := 1) rfl (by have := h4; omega) (by have := h4; omega) hl4) (fun q4 => ?_)
    refine TL_v rfl rfl rfl (V_assign rfl) ?_
    refine TL_nil ?_
    refine TX_next ?_
    refine TC_exit ?_
    refine TX_block_exit ?_
    refine TX_next ?_
    refine TC_seq ?_
    refine TC_region ?_
    refine TL_v rfl rfl rfl (V_move rfl) ?_
    refine TL_v rfl rfl rfl (V_b2s rfl Try.underlying49 Try.underlying5 Try.underlying9 (srcRow (Src.own (j := 4) rfl)) rfl) ?_
    refine TL_v rfl rfl rfl (V_assign rfl) ?_
    refine TL_nil ?_
    refine TX_next ?_
    refine TC_ret ?_
    have hrv := Option.some.inj H
    subst hrv
    exact TX_ret (rs := [.tmp 4]) (vs := [vs l4]) rfl ⟨rfl, trivial⟩ (fun w' hs' => ⟨(), rfl, Step.left (Step.pulled (is := []) (A := []) hs' rfl)⟩)
  · replace H := ite_f (Bool.eq_false_iff.1 hc) H
    refine TC_skip ?_
    refine TX_next ?_
    refine TC_seq ?_
    refine TC_seq ?_
    refine TC_region ?_
    refine TL_v rfl rfl rfl (V_bin rfl rfl (fun w => eqlI w size 3)) ?_
    refine TL_v rfl rfl rfl (V_assign rfl) ?_
    obtain ⟨x2, hx2, H⟩ := ltt_elim H
    refine TL_re (d := 9) (v := vb (decide (size = 3))) (v' := vb x2) rfl (congrArg vb hx2) ?_
    refine TL_nil ?_
    refine TX_next ?_
    refine TC_cond (b := x2) rfl (fun hc => ?_) (fun hc => ?_)
    · replace H := ite_t hc H
      refine TC_exit ?_
      refine TX_then_exit ?_
      refine TX_then_exit ?_
      refine TX_block_other rfl ?_
      refine TX_then_exit ?_
      refine TX_block_exit ?_
      refine TX_next ?_
      refine TC_region ?_
      refine TL_v rfl rfl rfl (V_move rfl) ?_
      refine TL_v rfl rfl rfl (V_move rfl) ?_
      refine TL_v rfl rfl rfl (V_bin rfl rfl (fun w => shrI w x .u64 16 (by decide))) ?_
      refine TL_v rfl rfl rfl (V_conv rfl (fun w => cvI8 w _ _ Try.underlying5 (TryI.und3) .i64 (shrI' x 16))) ?_
      refine TL_e rfl rfl rfl (E_buildSlice (pv := [(0, v8 (BitVec.ofInt 8 (shrI' x 16)))]) rfl rfl Try.underlying49 TryI.inf5 (s := 1) rfl TryI.zer5 rfl rfl rfl (cs := e8 ([BitVec.ofInt 8 (shrI' x 16)] : List (BitVec 8))) (by kernel_rfl)) (fun b5 => ?_)
      refine TL_re (d := 23) (v := sl (some (b5, 0)) 1 1) (v' := sl (some (b5, 0)) ((([BitVec.ofInt 8 (shrI' x 16)] : List (BitVec 8))).length) 1) rfl (congrArg (fun n => sl (some (b5, 0)) n 1) rfl) ?_
      obtain ⟨h5, H⟩ := if_elim H
      obtain ⟨l5, hl5, H⟩ := ltt_elim H
      refine TL_e rfl rfl rfl (E_app1 (f := v8) (j := 1) (l := ([] : List (BitVec 8))) (sp := ([] : List (BitVec 8))) (ds := ([BitVec.ofInt 8 (shrI' x 16)] : List (BitVec 8))) 0#8 (Src.own (j := 0) rfl) rfl rfl rfl (fun _ => rfl) Try.underlying49 Try.underlying49 TryI.inf5 rfl TryI.zer5 (B' := 1) rfl (by have := h5; omega) (by have := h5; omega) hl5) (fun q5 => ?_)
      refine TL_v rfl rfl rfl (V_assign rfl) ?_
      refine TL_nil ?_
      refine TX_block_normal ?_
      refine TX_next ?_
      refine TC_region ?_
      refine TL_v rfl rfl rfl (V_move rfl) ?_
      refine TL_v rfl rfl rfl (V_move rfl) ?_
      refine TL_v rfl rfl rfl (V_bin rfl rfl (fun w => shrI w x .u64 8 (by decide))) ?_
      refine TL_v rfl rfl rfl (V_conv rfl (fun w => cvI8 w _ _ Try.underlying5 (TryI.und3) .i64 (shrI' x 8))) ?_
      refine TL_e rfl rfl rfl (E_buildSlice (pv := [(0, v8 (BitVec.ofInt 8 (shrI' x 8)))]) rfl rfl Try.underlying49 TryI.inf5 (s := 1) rfl TryI.zer5 rfl rfl rfl (cs := e8 ([BitVec.ofInt 8 (shrI' x 8)] : List (BitVec 8))) (by kernel_rfl)) (fun b6 => ?_)
      refine TL_re (d := 29) (v := sl (some (b6, 0)) 1 1) (v' := sl (some (b6, 0)) ((([BitVec.ofInt 8 (shrI' x 8)] : List (BitVec 8))).length) 1) rfl (congrArg (fun n => sl (some (b6, 0)) n 1) rfl) ?_
      obtain ⟨h6, H⟩ := if_elim H
      obtain ⟨l6, hl6, H⟩ := ltt_elim H
      refine TL_e rfl rfl rfl (E_app1 (f := v8) (j := 2) (l := l5) (sp := q5.2) (ds := ([BitVec.ofInt 8 (shrI' x 8)] : List (BitVec 8))) 0#8 (Src.own (j := 0) rfl) rfl rfl rfl (fun _ => rfl) Try.underlying49 Try.underlying49 TryI.inf5 rfl TryI.zer5 (B' := 1) rfl (by have := h6; omega) (by have := h6; omega) hl6) (fun q6 => ?_)
      refine TL_v rfl rfl rfl (V_assign rfl) ?_
      refine TL_nil ?_
      refine TX_block_normal ?_
      refine TX_next ?_
      refine TC_seq ?_
      refine TC_region ?_
      refine TL_v rfl rfl rfl (V_move rfl) ?_
      refine TL_v rfl rfl rfl (V_move rfl) ?_
      refine TL_v rfl rfl rfl (V_conv rfl (fun w => cvI8 w _ _ Try.underlying5 (TryI.und3) .i64 x)) ?_
      refine TL_e rfl rfl rfl (E_buildSlice (pv := [(0, v8 (BitVec.ofInt 8 x))]) rfl rfl Try.underlying49 TryI.inf5 (s := 1) rfl TryI.zer5 rfl rfl rfl (cs := e8 ([BitVec.ofInt 8 x] : List (BitVec 8))) (by kernel_rfl)) (fun b7 => ?_)
      refine TL_re (d := 34) (v := sl (some (b7, 0)) 1 1) (v' := sl (some (b7, 0)) ((([BitVec.ofInt 8 x] : List (BitVec 8))).length) 1) rfl (congrArg (fun n => sl (some (b7, 0)) n 1) rfl) ?_
      obtain ⟨h7, H⟩ := if_elim H
      obtain ⟨l7, hl7, H⟩ := ltt_elim H
      refine TL_e rfl rfl rfl (E_app1 (f := v8) (j := 3) (l := l6) (sp := q6.2) (ds := ([BitVec.ofInt 8 x] : List (BitVec 8))) 0#8 (Src.own (j := 0) rfl) rfl rfl rfl (fun _ => rfl) Try.underlying49 Try.underlying49 TryI.inf5 rfl TryI.zer5 (B' := 1) rfl (by have := h7; omega) (by have := h7; omega) hl7) (fun q7 => ?_)
      refine TL_v rfl rfl rfl (V_assign rfl) ?_
      refine TL_nil ?_
      refine TX_next ?_
      refine TC.sub (m' := [(5, sl q7.1 ((l7).length) ((l7 ++ q7.2).length))]) ⟨rfl, trivial⟩ ?_
      refine TC_exit ?_
      refine TX_block_exit ?_
      refine TX_next ?_
      refine TC_seq ?_
      refine TC_region ?_
      refine TL_v rfl rfl rfl (V_move rfl) ?_
      refine TL_v rfl rfl rfl (V_b2s rfl Try.underlying49 Try.underlying5 Try.underlying9 (srcRow (Src.own (j := 3) rfl)) rfl) ?_
      refine TL_v rfl rfl rfl (V_assign rfl) ?_
      refine TL_nil ?_
      refine TX_next ?_
      refine TC_ret ?_
      have hrv := Option.some.inj H
      subst hrv
      exact TX_ret (rs := [.tmp 4]) (vs := [vs l7]) rfl ⟨rfl, trivial⟩ (fun w' hs' => ⟨(), rfl, Step.left (Step.pulled (is := []) (A := []) hs' rfl)⟩)
    · replace H := ite_f (Bool.eq_false_iff.1 hc) H
      refine TC_skip ?_
      refine TX_next ?_
      refine TC_seq ?_
      refine TC_region ?_
      refine TL_v rfl rfl rfl (V_bin rfl rfl (fun w => eqlI w size 2)) ?_
      refine TL_v rfl rfl rfl (V_assign rfl) ?_
      obtain ⟨x3, hx3, H⟩ := ltt_elim H
      refine TL_re (d := 11) (v := vb (decide (size = 2))) (v' := vb x3) rfl (congrArg vb hx3) ?_
      refine TL_nil ?_
      refine TX_next ?_
      refine TC_cond (b := x3) rfl (fun hc => ?_) (fun hc => ?_)
      · replace H := ite_t hc H
        refine TC_exit ?_
        refine TX_then_exit ?_
        refine TX_block_other rfl ?_
        refine TX_then_exit ?_
        refine TX_block_other rfl ?_
        refine TX_then_exit ?_
        refine TX_block_exit ?_
        refine TX_next ?_
        refine TC_region ?_
        refine TL_v rfl rfl rfl (V_move rfl) ?_
        refine TL_v rfl rfl rfl (V_move rfl) ?_
        refine TL_v rfl rfl rfl (V_bin rfl rfl (fun w => shrI w x .u64 8 (by decide))) ?_
        refine TL_v rfl rfl rfl (V_conv rfl (fun w => cvI8 w _ _ Try.underlying5 (TryI.und3) .i64 (shrI' x 8))) ?_
        refine TL_e rfl rfl rfl (E_buildSlice (pv := [(0, v8 (BitVec.ofInt 8 (shrI' x 8)))]) rfl rfl Try.underlying49 TryI.inf5 (s := 1) rfl TryI.zer5 rfl rfl rfl (cs := e8 ([BitVec.ofInt 8 (shrI' x 8)] : List (BitVec 8))) (by kernel_rfl)) (fun b8 => ?_)
        refine TL_re (d := 29) (v := sl (some (b8, 0)) 1 1) (v' := sl (some (b8, 0)) ((([BitVec.ofInt 8 (shrI' x 8)] : List (BitVec 8))).length) 1) rfl (congrArg (fun n => sl (some (b8, 0)) n 1) rfl) ?_
        obtain ⟨h8, H⟩ := if_elim H
        obtain ⟨l8, hl8, H⟩ := ltt_elim H
        refine TL_e rfl rfl rfl (E_app1 (f := v8) (j := 1) (l := ([] : List (BitVec 8))) (sp := ([] : List (BitVec 8))) (ds := ([BitVec.ofInt 8 (shrI' x 8)] : List (BitVec 8))) 0#8 (Src.own (j := 0) rfl) rfl rfl rfl (fun _ => rfl) Try.underlying49 Try.underlying49 TryI.inf5 rfl TryI.zer5 (B' := 1) rfl (by have := h8; omega) (by have := h8; omega) hl8) (fun q8 => ?_)
        refine TL_v rfl rfl rfl (V_assign rfl) ?_
        refine TL_nil ?_
        refine TX_block_normal ?_
        refine TX_next ?_
        refine TC_seq ?_
        refine TC_region ?_
        refine TL_v rfl rfl rfl (V_move rfl) ?_
        refine TL_v rfl rfl rfl (V_move rfl) ?_
        refine TL_v rfl rfl rfl (V_conv rfl (fun w => cvI8 w _ _ Try.underlying5 (TryI.und3) .i64 x)) ?_
        refine TL_e rfl rfl rfl (E_buildSlice (pv := [(0, v8 (BitVec.ofInt 8 x))]) rfl rfl Try.underlying49 TryI.inf5 (s := 1) rfl TryI.zer5 rfl rfl rfl (cs := e8 ([BitVec.ofInt 8 x] : List (BitVec 8))) (by kernel_rfl)) (fun b9 => ?_)
        refine TL_re (d := 34) (v := sl (some (b9, 0)) 1 1) (v' := sl (some (b9, 0)) ((([BitVec.ofInt 8 x] : List (BitVec 8))).length) 1) rfl (congrArg (fun n => sl (some (b9, 0)) n 1) rfl) ?_
        obtain ⟨h9, H⟩ := if_elim H
        obtain ⟨l9, hl9, H⟩ := ltt_elim H
        refine TL_e rfl rfl rfl (E_app1 (f := v8) (j := 2) (l := l8) (sp := q8.2) (ds := ([BitVec.ofInt 8 x] : List (BitVec 8))) 0#8 (Src.own (j := 0) rfl) rfl rfl rfl (fun _ => rfl) Try.underlying49 Try.underlying49 TryI.inf5 rfl TryI.zer5 (B' := 1) rfl (by have := h9; omega) (by have := h9; omega) hl9) (fun q9 => ?_)
        refine TL_v rfl rfl rfl (V_assign rfl) ?_
        refine TL_nil ?_
        refine TX_next ?_
        refine TC_exit ?_
        refine TX_block_exit ?_
        refine TX_next ?_
        refine TC_seq ?_
        refine TC_region ?_
        refine TL_v rfl rfl rfl (V_move rfl) ?_
        refine TL_v rfl rfl rfl (V_b2s rfl Try.underlying49 Try.underlying5 Try.underlying9 (srcRow (Src.own (j := 2) rfl)) rfl) ?_
        refine TL_v rfl rfl rfl (V_assign rfl) ?_
        refine TL_nil ?_
        refine TX_next ?_
        refine TC.sub (m' := [(4, vs l9)]) ⟨rfl, trivial⟩ ?_
        refine TC_ret ?_
        have hrv := Option.some.inj H
        subst hrv
        exact TX_ret (rs := [.tmp 4]) (vs := [vs l9]) rfl ⟨rfl, trivial⟩ (fun w' hs' => ⟨(), rfl, Step.left (Step.pulled (is := []) (A := []) hs' rfl)⟩)
      · replace H := ite_f (Bool.eq_false_iff.1 hc) H
        refine TC_skip ?_
        refine TX_next ?_
        refine TC_exit ?_
        refine TX_block_other rfl ?_
        refine TX_then_exit ?_
        refine TX_block_other rfl ?_
        refine TX_then_exit ?_
        refine TX_block_other rfl ?_
        refine TX_then_exit ?_
        refine TX_block_exit ?_
        refine TX_next ?_
        refine TC_seq ?_
        refine TC_region ?_
        refine TL_v rfl rfl rfl (V_move rfl) ?_
        refine TL_v rfl rfl rfl (V_move rfl) ?_
        refine TL_v rfl rfl rfl (V_conv rfl (fun w => cvI8 w _ _ Try.underlying5 (TryI.und3) .i64 x)) ?_
        refine TL_e rfl rfl rfl (E_buildSlice (pv := [(0, v8 (BitVec.ofInt 8 x))]) rfl rfl Try.underlying49 TryI.inf5 (s := 1) rfl TryI.zer5 rfl rfl rfl (cs := e8 ([BitVec.ofInt 8 x] : List (BitVec 8))) (by kernel_rfl)) (fun b10 => ?_)
        refine TL_re (d := 34) (v := sl (some (b10, 0)) 1 1) (v' := sl (some (b10, 0)) ((([BitVec.ofInt 8 x] : List (BitVec 8))).length) 1) rfl (congrArg (fun n => sl (some (b10, 0)) n 1) rfl) ?_
        obtain ⟨h10, H⟩ := if_elim H
        obtain ⟨l10, hl10, H⟩ := ltt_elim H
        refine TL_e rfl rfl rfl (E_app1 (f := v8) (j := 1) (l := ([] : List (BitVec 8))) (sp := ([] : List (BitVec 8))) (ds := ([BitVec.ofInt 8 x] : List (BitVec 8))) 0#8 (Src.own (j := 0) rfl) rfl rfl rfl (fun _ => rfl) Try.underlying49 Try.underlying49 TryI.inf5 rfl TryI.zer5 (B' := 1) rfl (by have := h10; omega) (by have := h10; omega) hl10) (fun q10 => ?_)
        refine TL_v rfl rfl rfl (V_assign rfl) ?_
        refine TL_nil ?_
        refine TX_next ?_
        refine TC_exit ?_
        refine TX_block_exit ?_
        refine TX_next ?_
        refine TC_seq ?_
        refine TC_region ?_
        refine TL_v rfl rfl rfl (V_move rfl) ?_
        refine TL_v rfl rfl rfl (V_b2s rfl Try.underlying49 Try.underlying5 Try.underlying9 (srcRow (Src.own (j := 1) rfl)) rfl) ?_
        refine TL_v rfl rfl rfl (V_assign rfl) ?_
        refine TL_nil ?_
        refine TX_next ?_
        refine TC_ret ?_
        have hrv := Option.some.inj H
        subst hrv
        exact TX_ret (rs := [.tmp 4]) (vs := [vs l10]) rfl ⟨rfl, trivial⟩ (fun w' hs' => ⟨(), rfl, Step.left (Step.pulled (is := []) (A := []) hs' rfl)⟩)

end Go.Proofs
end

section
namespace Go.Proofs
open Go Go.Kx
set_option linter.unusedVariables false
set_option linter.unusedSimpArgs false
def wire_PutVec (s_ : Str) (size : Int) : Option (Str × Int) :=
  if size < 1 then (some (([] : Str), 101)) else (if 3 < size then (some (([] : Str), 101)) else (if 0 ≤ w64 (8 * size) then (if (shrI' ((s_).length : Int) (w64 (8 * size))) ≠ 0 then (some (([] : Str), 101)) else ((wire_Bytes ((s_).length : Int) size).bind fun (r_1 : Str) => (if (r_1).length + (s_).length ≤ 4611686018427387904 then (some (r_1 ++ s_, 0)) else none))) else none))

set_option maxHeartbeats 4000000 in
set_option maxRecDepth 20000 in
theorem F55_calls (s_ : Str) (size : Int) (r : Str × Int) (H : wire_PutVec s_ size = some r) :
    Does Try.prog 55 [vs s_, vi size] [] [] (Γ := Unit) (fun g => Value.tuple [vs r.1, vi r.2].toArray) (fun g => []) := by
  intro w hmem hro hd
  refine calls_of (N := 26) (m0 := [(0, vs s_), (1, vi size)]) Try.func55 rfl Try.ntmps55 (argM_ok [vs s_, vi size]) rfl hmem hro hd ?_
  unfold wire_PutVec at H
  refine TC_seq ?_
  refine TC_region ?_
  refine TL_v rfl rfl rfl (V_assign rfl) ?_
  refine TL_v rfl rfl rfl (V_assign rfl) ?_
  refine TL_nil ?_
  refine TX_next ?_
  refine TC_seq ?_
  refine TC_seq ?_
  refine TC_region ?_
  refine TL_v rfl rfl rfl (V_move rfl) ?_
  refine TL_v rfl rfl rfl (V_bin rfl rfl (fun w => lssI w size 1)) ?_
  refine TL_v rfl rfl rfl (V_move rfl) ?_
  refine TL_fork (d := 8) (b := (decide (size < 1))) rfl (fun hc => ?_) (fun hc => ?_)
  · replace H := ite_t (of_decide_eq_true hc) H
    refine TL_skip rfl rfl rfl rfl rfl rfl rfl ?_
    refine TL_skip rfl rfl rfl rfl rfl rfl rfl ?_
    refine TL_v rfl rfl rfl (V_pick (b := true) rfl rfl) ?_
    refine TL_v rfl rfl rfl (V_move rfl) ?_
    refine TL_skip rfl rfl rfl rfl rfl rfl rfl ?_
    refine TL_skip rfl rfl rfl rfl rfl rfl rfl ?_
    refine TL_skip rfl rfl rfl rfl rfl rfl rfl ?_
    refine TL_skip rfl rfl rfl rfl rfl rfl rfl ?_
    refine TL_skip rfl rfl rfl rfl rfl rfl rfl ?_
    refine TL_skip rfl rfl rfl rfl rfl rfl rfl ?_
    refine TL_v rfl rfl rfl (V_pick (b := true) rfl rfl) ?_
    refine TL_nil ?_
    refine TX_next ?_
    refine TC_cond_t rfl ?_
    refine TC_seq ?_
    refine TC_region ?_
    refine TL_v rfl rfl rfl (V_assign rfl) ?_
    refine TL_v rfl rfl rfl (V_assign rfl) ?_
    refine TL_nil ?_
    refine TX_next ?_
    refine TC_ret ?_
    refine TX_then_ret ?_
    have hrv := Option.some.inj H
    subst hrv
    exact TX_ret (rs := [.tmp 4, .tmp 5]) (vs := [vs ([] : Str), vi 101]) rfl ⟨rfl, rfl, trivial⟩ (fun w' hs' => ⟨(), rfl, Step.left (Step.pulled (is := []) (A := []) hs' rfl)⟩)
  · replace H := ite_f (of_decide_eq_false hc) H
    refine TL_want rfl rfl rfl rfl rfl rfl (V_move rfl) ?_
    refine TL_want rfl rfl rfl rfl rfl rfl (V_bin rfl rfl (fun w => gtrI w size 3)) ?_
    refine TL_v rfl rfl rfl (V_pick (b := false) rfl rfl) ?_
    refine TL_v rfl rfl rfl (V_move rfl) ?_
    refine TL_fork (d := 12) (b := (decide (3 < size))) rfl (fun hc => ?_) (fun hc => ?_)
    · replace H := ite_t (of_decide_eq_true hc) H
      refine TL_skip rfl rfl rfl rfl rfl rfl rfl ?_
      refine TL_skip rfl rfl rfl rfl rfl rfl rfl ?_
      refine TL_skip rfl rfl rfl rfl rfl rfl rfl ?_
      refine TL_skip rfl rfl rfl rfl rfl rfl rfl ?_
      refine TL_skip rfl rfl rfl rfl rfl rfl rfl ?_
      refine TL_skip rfl rfl rfl rfl rfl rfl rfl ?_
      refine TL_v rfl rfl rfl (V_pick (b := true) rfl rfl) ?_
      refine TL_nil ?_
      refine TX_next ?_
      refine TC_cond_t rfl ?_
      refine TC_seq ?_
      refine TC_region ?_
      refine TL_v rfl rfl rfl (V_assign rfl) ?_
      refine TL_v rfl rfl rfl (V_assign rfl) ?_
      refine TL_nil ?_
      refine TX_next ?_
      refine TC_ret ?_
      refine TX_then_ret ?_
      have hrv := Option.some.inj H
      subst hrv
      exact TX_ret (rs := [.tmp 4, .tmp 5]) (vs := [vs ([] : Str), vi 101]) rfl ⟨rfl, rfl, trivial⟩ (fun w' hs' => ⟨(), rfl, Step.left (Step.pulled (is := []) (A := []) hs' rfl)⟩)
    · replace H := ite_f (of_decide_eq_false hc) H
      refine TL_want rfl rfl rfl rfl rfl rfl (V_move rfl) ?_
      refine TL_want rfl rfl rfl rfl rfl rfl (V_len_str rfl Try.underlying9) ?_
      refine TL_want rfl rfl rfl rfl rfl rfl (V_move rfl) ?_
      refine TL_want rfl rfl rfl rfl rfl rfl (V_bin rfl rfl (fun w => mulI w 8 size)) ?_
      obtain ⟨h1, H⟩ := if_elim H
      refine TL_want rfl rfl rfl rfl rfl rfl (V_bin rfl rfl (fun w => shrI w ((s_).length : Int) .i64 (w64 (8 * size)) h1)) ?_
      refine TL_want rfl rfl rfl rfl rfl rfl (V_bin rfl rfl (fun w => neqI w (shrI' ((s_).length : Int) (w64 (8 * size))) 0)) ?_
      refine TL_v rfl rfl rfl (V_pick (b := false) rfl rfl) ?_
      refine TL_nil ?_
      refine TX_next ?_
      refine TC_cond (b := (decide ((shrI' ((s_).length : Int) (w64 (8 * size))) ≠ 0))) rfl (fun hc => ?_) (fun hc => ?_)
      · replace H := ite_t (of_decide_eq_true hc) H
        refine TC_seq ?_
        refine TC_region ?_
        refine TL_v rfl rfl rfl (V_assign rfl) ?_
        refine TL_v rfl rfl rfl (V_assign rfl) ?_
        refine TL_nil ?_
        refine TX_next ?_
        refine TC_ret ?_
        refine TX_then_ret ?_
        have hrv := Option.some.inj H
        subst hrv
        exact TX_ret (rs := [.tmp 4, .tmp 5]) (vs := [vs ([] : Str), vi 101]) rfl ⟨rfl, rfl, trivial⟩ (fun w' hs' => ⟨(), rfl, Step.left (Step.pulled (is := []) (A := []) hs' rfl)⟩)
      · replace H := ite_f (of_decide_eq_false hc) H
        refine TC_skip ?_
        refine TX_next ?_
        refine TC_seq ?_
        refine TC_region ?_
        refine TL_v rfl rfl rfl (V_move rfl) ?_
        refine TL_v rfl rfl rfl (V_len_str rfl Try.underlying9) ?_
        refine TL_v rfl rfl rfl (V_move rfl) ?_
        obtain ⟨r_1, hr_1, H⟩ := bind_elim H
        refine TL_e rfl rfl rfl (E_call (Γ := Unit) (val := fun g => vs r_1) (mem := fun g => []) (vs := [vi ((s_).length : Int), vi size]) (Lin := []) (Ro := []) (is := []) rfl Try.call57 (F57_calls ((s_).length : Int) size r_1 hr_1) rfl trivial) (fun g_1 => ?_)
        refine TL_v rfl rfl rfl (V_move rfl) ?_
        obtain ⟨h2, H⟩ := if_elim H
        refine TL_v rfl rfl rfl (V_bin rfl rfl (fun w => addS w r_1 s_ h2)) ?_
        refine TL_v rfl rfl rfl (V_assign rfl) ?_
        refine TL_v rfl rfl rfl (V_assign rfl) ?_
        refine TL_nil ?_
        refine TX_next ?_
        refine TC_ret ?_
        have hrv := Option.some.inj H
        subst hrv
        exact TX_ret (rs := [.tmp 4, .tmp 5]) (vs := [vs (r_1 ++ s_), vi 0]) rfl ⟨rfl, rfl, trivial⟩ (fun w' hs' => ⟨(), rfl, Step.left (Step.pulled (is := []) (A := []) hs' rfl)⟩)

end Go.Proofs
end

section
namespace Go.Proofs
open Go Go.Kx
set_option linter.unusedVariables false
set_option linter.unusedSimpArgs false
def halberdref1_may (bits : Int) : Option (Bool) :=
  if bits = 256 then (some true) else (ltt (decide (bits = 384)) fun (x1 : Bool) => (some x1))

set_option maxHeartbeats 4000000 in
set_option maxRecDepth 20000 in
theorem F49_calls (bits : Int) (r : Bool) (H : halberdref1_may bits = some r) :
    Does Try.prog 49 [vi bits] [] [] (Γ := Unit) (fun g => vb r) (fun g => []) := by
  intro w hmem hro hd
  refine calls_of (N := 9) (m0 := [(0, vi bits)]) Try.func49 rfl Try.ntmps49 (argM_ok [vi bits]) rfl hmem hro hd ?_
  unfold halberdref1_may at H
  refine TC_seq ?_
  refine TC_region ?_
  refine TL_v rfl rfl rfl (V_assign rfl) ?_
  refine TL_nil ?_
  refine TX_next ?_
  refine TC_seq ?_
  refine TC_region ?_
  refine TL_v rfl rfl rfl (V_move rfl) ?_
  refine TL_v rfl rfl rfl (V_bin rfl rfl (fun w => eqlI w bits 256)) ?_
  refine TL_v rfl rfl rfl (V_move rfl) ?_
  refine TL_fork (d := 5) (b := (decide (bits = 256))) rfl (fun hc => ?_) (fun hc => ?_)
  · replace H := ite_t (of_decide_eq_true hc) H
    refine TL_skip rfl rfl rfl rfl rfl rfl rfl ?_
    refine TL_skip rfl rfl rfl rfl rfl rfl rfl ?_
    refine TL_v rfl rfl rfl (V_pick (b := true) rfl rfl) ?_
    refine TL_v rfl rfl rfl (V_assign rfl) ?_
    refine TL_nil ?_
    refine TX_next ?_
    refine TC_ret ?_
    have hrv := Option.some.inj H
    subst hrv
    exact TX_ret (rs := [.tmp 2]) (vs := [vb true]) rfl ⟨rfl, trivial⟩ (fun w' hs' => ⟨(), rfl, Step.left (Step.pulled (is := []) (A := []) hs' rfl)⟩)
  · replace H := ite_f (of_decide_eq_false hc) H
    refine TL_want rfl rfl rfl rfl rfl rfl (V_move rfl) ?_
    refine TL_want rfl rfl rfl rfl rfl rfl (V_bin rfl rfl (fun w => eqlI w bits 384)) ?_
    refine TL_v rfl rfl rfl (V_pick (b := false) rfl rfl) ?_
    refine TL_v rfl rfl rfl (V_assign rfl) ?_
    obtain ⟨x1, hx1, H⟩ := ltt_elim H
    refine TL_re (d := 2) (v := vb (decide (bits = 384))) (v' := vb x1) rfl (congrArg vb hx1) ?_
    refine TL_nil ?_
    refine TX_next ?_
    refine TC_ret ?_
    have hrv := Option.some.inj H
    subst hrv
    exact TX_ret (rs := [.tmp 2]) (vs := [vb x1]) rfl ⟨rfl, trivial⟩ (fun w' hs' => ⟨(), rfl, Step.left (Step.pulled (is := []) (A := []) hs' rfl)⟩)

end Go.Proofs
end

section
namespace Go.Proofs
open Go Go.Kx
set_option linter.unusedVariables false
set_option linter.unusedSimpArgs false
def halberdref1_Mac (bits : Int) (key : Str) (s_ : Str) : Option (Str) :=
  (if bits = 384 then (some 128) else (some 64)).bind fun (j1 : Int) => ((if j1 < ((key).length : Int) then ((halberdref1_Hash bits key).bind fun (r_5 : Str) => (some r_5)) else (some key)).bind fun (j2 : Str) => ((halberdref1_xored j2 92#8 j1).bind fun (r_1 : Str) => ((halberdref1_xored j2 54#8 j1).bind fun (r_2 : Str) => (if (r_2).length + (s_).length ≤ 4611686018427387904 then ((halberdref1_Hash bits (r_2 ++ s_)).bind fun (r_3 : Str) => (if (r_1).length + (r_3).length ≤ 4611686018427387904 then ((halberdref1_Hash bits (r_1 ++ r_3)).bind fun (r_4 : Str) => (some r_4)) else none)) else none))))

set_option maxHeartbeats 4000000 in
set_option maxRecDepth 20000 in
theorem F25_calls (bits : Int) (key : Str) (s_ : Str) (r : Str) (H : halberdref1_Mac bits key s_ = some r) :
    Does Try.prog 25 [vi bits, vs key, vs s_] [] [] (Γ := Unit) (fun g => vs r) (fun g => []) := by
  intro w hmem hro hd
  refine calls_of (N := 30) (m0 := [(0, vi bits), (1, vs key), (2, vs s_)]) Try.func25 rfl Try.ntmps25 (argM_ok [vi bits, vs key, vs s_]) rfl hmem hro hd ?_
  unfold halberdref1_Mac at H
  refine TC_seq ?_
  refine TC_region ?_
  refine TL_v rfl rfl rfl (V_assign rfl) ?_
  refine TL_nil ?_
  refine TX_next ?_
  refine TC_seq ?_
  refine TC_region ?_
  refine TL_v rfl rfl rfl (V_assign rfl) ?_
  refine TL_nil ?_
  refine TX_next ?_
  refine TC_seq ?_
  refine TC_seq ?_
  refine TC_region ?_
  refine TL_v rfl rfl rfl (V_move rfl) ?_
  refine TL_v rfl rfl rfl (V_bin rfl rfl (fun w => eqlI w bits 384)) ?_
  refine TL_nil ?_
  refine TX_next ?_
  obtain ⟨j1, Hj, H⟩ := bind_elim H
  refine TC_join (Γ := Unit) (fun gj1 => [(0, vi bits), (1, vs key), (2, vs s_), (7, vi j1)]) (fun gj1 => []) ?_ ?_
  · intro gj1
    refine TX_next ?_
    refine TC_seq ?_
    refine TC_seq ?_
    refine TC_region ?_
    refine TL_v rfl rfl rfl (V_move rfl) ?_
    refine TL_v rfl rfl rfl (V_len_str rfl Try.underlying9) ?_
    refine TL_v rfl rfl rfl (V_move rfl) ?_
    refine TL_v rfl rfl rfl (V_bin rfl rfl (fun w => gtrI w ((key).length : Int) j1)) ?_
    refine TL_nil ?_
    refine TX_next ?_
    obtain ⟨j2, Hj, H⟩ := bind_elim H
    refine TC_join (Γ := Unit) (fun gj2 => [(0, vi bits), (1, vs j2), (2, vs s_), (7, vi j1)]) (fun gj2 => []) ?_ ?_
    · intro gj2
      refine TX_next ?_
      refine TC_seq ?_
      refine TC_region ?_
      refine TL_v rfl rfl rfl (V_move rfl) ?_
      refine TL_v rfl rfl rfl (V_move rfl) ?_
      refine TL_v rfl rfl rfl (V_move rfl) ?_
      obtain ⟨r_1, hr_1, H⟩ := bind_elim H
      refine TL_e rfl rfl rfl (E_call (Γ := Unit) (val := fun g => vs r_1) (mem := fun g => []) (vs := [vs j2, v8 92#8, vi j1]) (Lin := []) (Ro := []) (is := []) rfl Try.call44 (F44_calls j2 92#8 j1 r_1 hr_1) rfl trivial) (fun g_1 => ?_)
      refine TL_v rfl rfl rfl (V_move rfl) ?_
      refine TL_v rfl rfl rfl (V_move rfl) ?_
      refine TL_v rfl rfl rfl (V_move rfl) ?_
      obtain ⟨r_2, hr_2, H⟩ := bind_elim H
      refine TL_e rfl rfl rfl (E_call (Γ := Unit) (val := fun g => vs r_2) (mem := fun g => []) (vs := [vs j2, v8 54#8, vi j1]) (Lin := []) (Ro := []) (is := []) rfl Try.call44 (F44_calls j2 54#8 j1 r_2 hr_2) rfl trivial) (fun g_2 => ?_)
      refine TL_v rfl rfl rfl (V_move rfl) ?_
      obtain ⟨h1, H⟩ := if_elim H
      refine TL_v rfl rfl rfl (V_bin rfl rfl (fun w => addS w r_2 s_ h1)) ?_
      obtain ⟨r_3, hr_3, H⟩ := bind_elim H
      refine TL_e rfl rfl rfl (E_call (Γ := Unit) (val := fun g => vs r_3) (mem := fun g => []) (vs := [vi bits, vs (r_2 ++ s_)]) (Lin := []) (Ro := []) (is := []) rfl Try.call31 (F31_calls bits (r_2 ++ s_) r_3 hr_3) rfl trivial) (fun g_3 => ?_)
      obtain ⟨h2, H⟩ := if_elim H
      refine TL_v rfl rfl rfl (V_bin rfl rfl (fun w => addS w r_1 r_3 h2)) ?_
      obtain ⟨r_4, hr_4, H⟩ := bind_elim H
      refine TL_e rfl rfl rfl (E_call (Γ := Unit) (val := fun g => vs r_4) (mem := fun g => []) (vs := [vi bits, vs (r_1 ++ r_3)]) (Lin := []) (Ro := []) (is := []) rfl Try.call31 (F31_calls bits (r_1 ++ r_3) r_4 hr_4) rfl trivial) (fun g_4 => ?_)
      refine TL_v rfl rfl rfl (V_assign rfl) ?_
      refine TL_nil ?_
      refine TX_next ?_
      refine TC_ret ?_
      have hrv := Option.some.inj H
      subst hrv
      exact TX_ret (rs := [.tmp 6]) (vs := [vs r_4]) rfl ⟨rfl, trivial⟩ (fun w' hs' => ⟨(), rfl, Step.left (Step.pulled (is := []) (A := []) hs' rfl)⟩)
    · intro hJ
      replace H := Hj
      refine TC_cond (b := (decide (j1 < ((key).length : Int)))) rfl (fun hc => ?_) (fun hc => ?_)
      · replace H := ite_t (of_decide_eq_true hc) H
        refine TC_region ?_
        refine TL_v rfl rfl rfl (V_move rfl) ?_
        refine TL_v rfl rfl rfl (V_move rfl) ?_
        obtain ⟨r_5, hr_5, H⟩ := bind_elim H
        refine TL_e rfl rfl rfl (E_call (Γ := Unit) (val := fun g => vs r_5) (mem := fun g => []) (vs := [vi bits, vs key]) (Lin := []) (Ro := []) (is := []) rfl Try.call31 (F31_calls bits key r_5 hr_5) rfl trivial) (fun g_5 => ?_)
        refine TL_v rfl rfl rfl (V_assign rfl) ?_
        refine TL_nil ?_
        refine TX.sub (m' := [(0, vi bits), (1, vs r_5), (2, vs s_), (7, vi j1)]) ⟨rfl, rfl, rfl, rfl, trivial⟩ ?_
        refine TX.pull (is := []) (L' := []) rfl ?_
        obtain rfl := Option.some.inj H
        exact hJ ()
      · replace H := ite_f (of_decide_eq_false hc) H
        refine TC_skip ?_
        refine TX.sub (m' := [(0, vi bits), (1, vs key), (2, vs s_), (7, vi j1)]) ⟨rfl, rfl, rfl, rfl, trivial⟩ ?_
        refine TX.pull (is := []) (L' := []) rfl ?_
        obtain rfl := Option.some.inj H
        exact hJ ()
  · intro hJ
    replace H := Hj
    refine TC_cond (b := (decide (bits = 384))) rfl (fun hc => ?_) (fun hc => ?_)
    · replace H := ite_t (of_decide_eq_true hc) H
      refine TC_region ?_
      refine TL_v rfl rfl rfl (V_assign rfl) ?_
      refine TL_nil ?_
      refine TX.sub (m' := [(0, vi bits), (1, vs key), (2, vs s_), (7, vi 128)]) ⟨rfl, rfl, rfl, rfl, trivial⟩ ?_
      refine TX.pull (is := []) (L' := []) rfl ?_
      obtain rfl := Option.some.inj H
      exact hJ ()
    · replace H := ite_f (of_decide_eq_false hc) H
      refine TC_skip ?_
      refine TX.sub (m' := [(0, vi bits), (1, vs key), (2, vs s_), (7, vi 64)]) ⟨rfl, rfl, rfl, rfl, trivial⟩ ?_
      refine TX.pull (is := []) (L' := []) rfl ?_
      obtain rfl := Option.some.inj H
      exact hJ ()

end Go.Proofs
end

section
namespace Go.Proofs
open Go Go.Kx
set_option linter.unusedVariables false
set_option linter.unusedSimpArgs false
def halberdref1_V (s_ : Str) (size : Int) : Option (Str) :=
  (halberdref1_Be ((s_).length : Int) size).bind fun (r_1 : Str) => (if (r_1).length + (s_).length ≤ 4611686018427387904 then (some (r_1 ++ s_)) else none)

set_option maxHeartbeats 4000000 in
set_option maxRecDepth 20000 in
theorem F42_calls (s_ : Str) (size : Int) (r : Str) (H : halberdref1_V s_ size = some r) :
    Does Try.prog 42 [vs s_, vi size] [] [] (Γ := Unit) (fun g => vs r) (fun g => []) := by
  intro w hmem hro hd
  refine calls_of (N := 11) (m0 := [(0, vs s_), (1, vi size)]) Try.func42 rfl Try.ntmps42 (argM_ok [vs s_, vi size]) rfl hmem hro hd ?_
  unfold halberdref1_V at H
  refine TC_seq ?_
  refine TC_region ?_
  refine TL_v rfl rfl rfl (V_assign rfl) ?_
  refine TL_nil ?_
  refine TX_next ?_
  refine TC_seq ?_
  refine TC_region ?_
  refine TL_v rfl rfl rfl (V_move rfl) ?_
  refine TL_v rfl rfl rfl (V_len_str rfl Try.underlying9) ?_
  refine TL_v rfl rfl rfl (V_move rfl) ?_
  obtain ⟨r_1, hr_1, H⟩ := bind_elim H
  refine TL_e rfl rfl rfl (E_call (Γ := Unit) (val := fun g => vs r_1) (mem := fun g => []) (vs := [vi ((s_).length : Int), vi size]) (Lin := []) (Ro := []) (is := []) rfl Try.call41 (F41_calls ((s_).length : Int) size r_1 hr_1) rfl trivial) (fun g_1 => ?_)
  refine TL_v rfl rfl rfl (V_move rfl) ?_
  obtain ⟨h1, H⟩ := if_elim H
  refine TL_v rfl rfl rfl (V_bin rfl rfl (fun w => addS w r_1 s_ h1)) ?_
  refine TL_v rfl rfl rfl (V_assign rfl) ?_
  refine TL_nil ?_
  refine TX_next ?_
  refine TC_ret ?_
  have hrv := Option.some.inj H
  subst hrv
  exact TX_ret (rs := [.tmp 4]) (vs := [vs (r_1 ++ s_)]) rfl ⟨rfl, trivial⟩ (fun w' hs' => ⟨(), rfl, Step.left (Step.pulled (is := []) (A := []) hs' rfl)⟩)

end Go.Proofs
end

section
namespace Go.Proofs
open Go Go.Kx
set_option linter.unusedVariables false
set_option linter.unusedSimpArgs false
def hkdf_Hmac (bits : Int) (key : Str) (s_ : Str) : Option (Str × Int) :=
  (hkdf_newMac bits key).bind fun (r_1 : (Unit) ⊕ (Int × Vector (BitVec 64) 8 × Vector (BitVec 64) 80 × List (BitVec 8) × BitVec 64 × Int × Vector (BitVec 64) 8 × Vector (BitVec 64) 80 × List (BitVec 8) × BitVec 64)) => (match r_1 with | .inl r_1 => (some (([] : Str), 300)) | .inr r_1 => ((hkdf_mac_of r_1.1 r_1.2.1 r_1.2.2.1 r_1.2.2.2.1 r_1.2.2.2.2.1 r_1.2.2.2.2.2.1 r_1.2.2.2.2.2.2.1 r_1.2.2.2.2.2.2.2.1 r_1.2.2.2.2.2.2.2.2.1 r_1.2.2.2.2.2.2.2.2.2 s_).bind fun (r_2 : Str) => (some (r_2, 0))))

set_option maxHeartbeats 4000000 in
set_option maxRecDepth 20000 in
theorem F43_calls (bits : Int) (key : Str) (s_ : Str) (r : Str × Int) (H : hkdf_Hmac bits key s_ = some r) :
    Does Try.prog 43 [vi bits, vs key, vs s_] [] [] (Γ := Unit) (fun g => Value.tuple [vs r.1, vi r.2].toArray) (fun g => []) := by
  intro w hmem hro hd
  refine calls_of (N := 22) (m0 := [(0, vi bits), (1, vs key), (2, vs s_)]) Try.func43 rfl Try.ntmps43 (argM_ok [vi bits, vs key, vs s_]) rfl hmem hro hd ?_
  unfold hkdf_Hmac at H
  refine TC_seq ?_
  refine TC_region ?_
  refine TL_v rfl rfl rfl (V_assign rfl) ?_
  refine TL_v rfl rfl rfl (V_assign rfl) ?_
  refine TL_nil ?_
  refine TX_next ?_
  refine TC_seq ?_
  refine TC_region ?_
  refine TL_v rfl rfl rfl (V_move rfl) ?_
  refine TL_v rfl rfl rfl (V_move rfl) ?_
  obtain ⟨r_1, hr_1, H⟩ := bind_elim H
  rcases r_1 with r_1 | r_1
  · dsimp only at H
    refine TL_e rfl rfl rfl (E_call (Γ := Unit × (Nat × Nat × Adr × List (BitVec 8) × Adr × List (BitVec 8))) (val := fun g => Value.tuple [Value.agg (flat [(1, [Value.pointer none]), (1, [Value.pointer none])]).toArray, vi 300].toArray) (mem := fun g => []) (vs := [vi bits, vs key]) (Lin := []) (Ro := []) (is := []) rfl Try.call50 (F50_calls bits key (.inl r_1) hr_1) rfl trivial) (fun g_1 => ?_)
    refine TL_v rfl rfl rfl (V_move rfl) ?_
    refine TL_v rfl rfl rfl (V_extract (vs := [Value.agg (flat [(1, [Value.pointer none]), (1, [Value.pointer none])]).toArray, vi 300]) rfl rfl) ?_
    refine TL_v rfl rfl rfl (V_extract (vs := [Value.agg (flat [(1, [Value.pointer none]), (1, [Value.pointer none])]).toArray, vi 300]) rfl rfl) ?_
    refine TL_e rfl rfl rfl (E_allocP [(1, [Value.pointer none]), (1, [Value.pointer none])] TryI.inf63 TryI.zer63 ⟨rfl, rfl, trivial⟩) (fun b1 => ?_)
    refine TL_n rfl rfl (E_storeParts (b := b1) (o := 0) (n := 2) (is := [0, 0]) [(1, [Value.pointer none]), (1, [Value.pointer none])] [(1, [Value.pointer none]), (1, [Value.pointer none])] rfl rfl rfl TryI.inf63 rfl ⟨rfl, rfl, trivial⟩ ⟨rfl, rfl, trivial⟩ (flat_len ⟨rfl, rfl, trivial⟩ rfl) (flat_len ⟨rfl, rfl, trivial⟩ rfl) (flat_onec ⟨(OneC.cons rfl OneC.nil), (OneC.cons rfl OneC.nil), trivial⟩)) (fun _ => ?_)
    refine TL_v rfl rfl rfl (V_assign rfl) ?_
    refine TL_nil ?_
    refine TX_next ?_
    refine TC_seq ?_
    refine TC_seq ?_
    refine TC_region ?_
    refine TL_v rfl rfl rfl (V_move rfl) ?_
    refine TL_v rfl rfl rfl (V_bin rfl rfl (fun w => neqI w 300 0)) ?_
    refine TL_nil ?_
    refine TX_next ?_
    refine TC_cond_t rfl ?_
    refine TC_seq ?_
    refine TC_region ?_
    refine TL_v rfl rfl rfl (V_move rfl) ?_
    refine TL_v rfl rfl rfl (V_assign rfl) ?_
    refine TL_v rfl rfl rfl (V_assign rfl) ?_
    refine TL_nil ?_
    refine TX_next ?_
    refine TC_ret ?_
    refine TX_then_ret ?_
    have hrv := Option.some.inj H
    subst hrv
    exact TX_ret (rs := [.tmp 6, .tmp 7]) (vs := [vs ([] : Str), vi 300]) rfl ⟨rfl, rfl, trivial⟩ (fun w' hs' => ⟨(), rfl, Step.left (Step.pulled (is := []) (A := []) hs' rfl)⟩)
  · dsimp only at H
    refine TL_e rfl rfl rfl (E_call (Γ := Unit × (Nat × Nat × Adr × List (BitVec 8) × Adr × List (BitVec 8))) (val := fun g => Value.tuple [Value.agg (flat [(1, [ptr (some (g.2.1, 0)) 0]), (1, [ptr (some (g.2.2.1, 0)) 0])]).toArray, vi 0].toArray) (mem := fun g => [⟨some (g.2.1, 0), [vi r_1.1]⟩, ⟨some (g.2.1, 1), e64 r_1.2.1.toList⟩, ⟨some (g.2.1, 9), e64 r_1.2.2.1.toList⟩, ⟨some (g.2.1, 89), [sl g.2.2.2.1 ((r_1.2.2.2.1).length) ((r_1.2.2.2.1 ++ g.2.2.2.2.1).length)]⟩, ⟨g.2.2.2.1, e8 (r_1.2.2.2.1 ++ g.2.2.2.2.1)⟩, ⟨some (g.2.1, 90), [v64 r_1.2.2.2.2.1]⟩, ⟨some (g.2.2.1, 0), [vi r_1.2.2.2.2.2.1]⟩, ⟨some (g.2.2.1, 1), e64 r_1.2.2.2.2.2.2.1.toList⟩, ⟨some (g.2.2.1, 9), e64 r_1.2.2.2.2.2.2.2.1.toList⟩, ⟨some (g.2.2.1, 89), [sl g.2.2.2.2.2.1 ((r_1.2.2.2.2.2.2.2.2.1).length) ((r_1.2.2.2.2.2.2.2.2.1 ++ g.2.2.2.2.2.2).length)]⟩, ⟨g.2.2.2.2.2.1, e8 (r_1.2.2.2.2.2.2.2.2.1 ++ g.2.2.2.2.2.2)⟩, ⟨some (g.2.2.1, 90), [v64 r_1.2.2.2.2.2.2.2.2.2]⟩]) (vs := [vi bits, vs key]) (Lin := []) (Ro := []) (is := []) rfl Try.call50 (F50_calls bits key (.inr r_1) hr_1) rfl trivial) (fun g_2 => ?_)
    refine TL_v rfl rfl rfl (V_move rfl) ?_
    refine TL_v rfl rfl rfl (V_extract (vs := [Value.agg (flat [(1, [ptr (some (g_2.2.1, 0)) 0]), (1, [ptr (some (g_2.2.2.1, 0)) 0])]).toArray, vi 0]) rfl rfl) ?_
    refine TL_v rfl rfl rfl (V_extract (vs := [Value.agg (flat [(1, [ptr (some (g_2.2.1, 0)) 0]), (1, [ptr (some (g_2.2.2.1, 0)) 0])]).toArray, vi 0]) rfl rfl) ?_
    refine TL_e rfl rfl rfl (E_allocP [(1, [Value.pointer none]), (1, [Value.pointer none])] TryI.inf63 TryI.zer63 ⟨rfl, rfl, trivial⟩) (fun b2 => ?_)
    refine TL_n rfl rfl (E_storeParts (b := b2) (o := 0) (n := 2) (is := [0, 0]) [(1, [Value.pointer none]), (1, [Value.pointer none])] [(1, [ptr (some (g_2.2.1, 0)) 0]), (1, [ptr (some (g_2.2.2.1, 0)) 0])] rfl rfl rfl TryI.inf63 rfl ⟨rfl, rfl, trivial⟩ ⟨rfl, rfl, trivial⟩ (flat_len ⟨rfl, rfl, trivial⟩ rfl) (flat_len ⟨rfl, rfl, trivial⟩ rfl) (flat_onec ⟨(OneC.cons rfl OneC.nil), (OneC.cons rfl OneC.nil), trivial⟩)) (fun _ => ?_)
    refine TL_v rfl rfl rfl (V_assign rfl) ?_
    refine TL_nil ?_
    refine TX_next ?_
    refine TC_seq ?_
    refine TC_seq ?_
    refine TC_region ?_
    refine TL_v rfl rfl rfl (V_move rfl) ?_
    refine TL_v rfl rfl rfl (V_bin rfl rfl (fun w => neqI w 0 0)) ?_
    refine TL_nil ?_
    refine TX_next ?_
    refine TC_cond_f rfl ?_
    refine TC_skip ?_
    refine TX_next ?_
    refine TC_seq ?_
    refine TC_region ?_
    refine TL_v rfl rfl rfl (V_loadAgg (n := 2) (cs := flat [(1, [ptr (some (g_2.2.1, 0)) 0]), (1, [ptr (some (g_2.2.2.1, 0)) 0])]) rfl (by simp) (SrcEnts (b := b2) [(1, [ptr (some (g_2.2.1, 0)) 0]), (1, [ptr (some (g_2.2.2.1, 0)) 0])] 0 ⟨rfl, rfl, trivial⟩ (AllSrc.all (M := ents b2 0 [(1, [ptr (some (g_2.2.1, 0)) 0]), (1, [ptr (some (g_2.2.2.1, 0)) 0])]) ⟨Src.own (j := 0) rfl, Src.own (j := 1) rfl, trivial⟩)) Try.isAgg63 TryI.inf63 rfl (flat_len ⟨rfl, rfl, trivial⟩ rfl)) ?_
    refine TL_v rfl rfl rfl (V_move rfl) ?_
    obtain ⟨r_2, hr_2, H⟩ := bind_elim H
    refine TL_e rfl rfl rfl (E_call (Γ := Unit) (val := fun g => vs r_2) (mem := fun g => []) (vs := [Value.agg (flat [(1, [ptr (some (g_2.2.1, 0)) 0]), (1, [ptr (some (g_2.2.2.1, 0)) 0])]).toArray, vs s_]) (Lin := []) (Ro := [⟨some (g_2.2.1, 0), [vi r_1.1]⟩, ⟨some (g_2.2.1, 1), e64 r_1.2.1.toList⟩, ⟨some (g_2.2.1, 9), e64 r_1.2.2.1.toList⟩, ⟨some (g_2.2.1, 89), [sl g_2.2.2.2.1 ((r_1.2.2.2.1).length) ((r_1.2.2.2.1 ++ g_2.2.2.2.2.1).length)]⟩, ⟨some (g_2.2.1, 90), [v64 r_1.2.2.2.2.1]⟩, ⟨g_2.2.2.2.1, e8 r_1.2.2.2.1⟩, ⟨some (g_2.2.2.1, 0), [vi r_1.2.2.2.2.2.1]⟩, ⟨some (g_2.2.2.1, 1), e64 r_1.2.2.2.2.2.2.1.toList⟩, ⟨some (g_2.2.2.1, 9), e64 r_1.2.2.2.2.2.2.2.1.toList⟩, ⟨some (g_2.2.2.1, 89), [sl g_2.2.2.2.2.2.1 ((r_1.2.2.2.2.2.2.2.2.1).length) ((r_1.2.2.2.2.2.2.2.2.1 ++ g_2.2.2.2.2.2.2).length)]⟩, ⟨some (g_2.2.2.1, 90), [v64 r_1.2.2.2.2.2.2.2.2.2]⟩, ⟨g_2.2.2.2.2.2.1, e8 r_1.2.2.2.2.2.2.2.2.1⟩]) (is := []) rfl Try.call51 (F51_calls g_2.2.1 0 g_2.2.2.2.1 ((r_1.2.2.2.1 ++ g_2.2.2.2.2.1).length) g_2.2.2.1 0 g_2.2.2.2.2.2.1 ((r_1.2.2.2.2.2.2.2.2.1 ++ g_2.2.2.2.2.2.2).length) r_1.1 r_1.2.1 r_1.2.2.1 r_1.2.2.2.1 r_1.2.2.2.2.1 r_1.2.2.2.2.2.1 r_1.2.2.2.2.2.2.1 r_1.2.2.2.2.2.2.2.1 r_1.2.2.2.2.2.2.2.2.1 r_1.2.2.2.2.2.2.2.2.2 s_ (row_le _ _) (row_le _ _) r_2 hr_2) rfl ⟨SrcD.own (j := 2) rfl, SrcD.own (j := 3) rfl, SrcD.own (j := 4) rfl, SrcD.own (j := 5) rfl, SrcD.own (j := 7) rfl, (srcdRow (SrcD.own (j := 6) rfl)), SrcD.own (j := 8) rfl, SrcD.own (j := 9) rfl, SrcD.own (j := 10) rfl, SrcD.own (j := 11) rfl, SrcD.own (j := 13) rfl, (srcdRow (SrcD.own (j := 12) rfl)), trivial⟩) (fun g_3 => ?_)
    refine TL_v rfl rfl rfl (V_assign rfl) ?_
    refine TL_v rfl rfl rfl (V_assign rfl) ?_
    refine TL_nil ?_
    refine TX_next ?_
    refine TC_ret ?_
    have hrv := Option.some.inj H
    subst hrv
    exact TX_ret (rs := [.tmp 6, .tmp 7]) (vs := [vs r_2, vi 0]) rfl ⟨rfl, rfl, trivial⟩ (fun w' hs' => ⟨(), rfl, Step.left (Step.pulled (is := []) (A := []) hs' rfl)⟩)

end Go.Proofs
end

section
namespace Go.Proofs
open Go Go.Kx
set_option linter.unusedVariables false
set_option linter.unusedSimpArgs false
def hkdf_Extract (bits : Int) (salt : Str) (key : Str) : Option (Str × Int) :=
  (hkdf_Hmac bits salt key).bind fun (r_1 : Str × Int) => (some (r_1.1, r_1.2))

set_option maxHeartbeats 4000000 in
set_option maxRecDepth 20000 in
theorem F47_calls (bits : Int) (salt : Str) (key : Str) (r : Str × Int) (H : hkdf_Extract bits salt key = some r) :
    Does Try.prog 47 [vi bits, vs salt, vs key] [] [] (Γ := Unit) (fun g => Value.tuple [vs r.1, vi r.2].toArray) (fun g => []) := by
  intro w hmem hro hd
  refine calls_of (N := 14) (m0 := [(0, vi bits), (1, vs salt), (2, vs key)]) Try.func47 rfl Try.ntmps47 (argM_ok [vi bits, vs salt, vs key]) rfl hmem hro hd ?_
  unfold hkdf_Extract at H
  refine TC_seq ?_
  refine TC_region ?_
  refine TL_v rfl rfl rfl (V_assign rfl) ?_
  refine TL_v rfl rfl rfl (V_assign rfl) ?_
  refine TL_nil ?_
  refine TX_next ?_
  refine TC_seq ?_
  refine TC_region ?_
  refine TL_v rfl rfl rfl (V_move rfl) ?_
  refine TL_v rfl rfl rfl (V_move rfl) ?_
  refine TL_v rfl rfl rfl (V_move rfl) ?_
  obtain ⟨r_1, hr_1, H⟩ := bind_elim H
  refine TL_e rfl rfl rfl (E_call (Γ := Unit) (val := fun g => Value.tuple [vs r_1.1, vi r_1.2].toArray) (mem := fun g => []) (vs := [vi bits, vs salt, vs key]) (Lin := []) (Ro := []) (is := []) rfl Try.call43 (F43_calls bits salt key r_1 hr_1) rfl trivial) (fun g_1 => ?_)
  refine TL_v rfl rfl rfl (V_extract (vs := [vs r_1.1, vi r_1.2]) rfl rfl) ?_
  refine TL_v rfl rfl rfl (V_extract (vs := [vs r_1.1, vi r_1.2]) rfl rfl) ?_
  refine TL_v rfl rfl rfl (V_assign rfl) ?_
  refine TL_v rfl rfl rfl (V_assign rfl) ?_
  refine TL_nil ?_
  refine TX_next ?_
  refine TC_ret ?_
  have hrv := Option.some.inj H
  subst hrv
  exact TX_ret (rs := [.tmp 6, .tmp 7]) (vs := [vs r_1.1, vi r_1.2]) rfl ⟨rfl, rfl, trivial⟩ (fun w' hs' => ⟨(), rfl, Step.left (Step.pulled (is := []) (A := []) hs' rfl)⟩)

end Go.Proofs
end

section
namespace Go.Proofs
open Go Go.Kx
set_option linter.unusedVariables false
set_option linter.unusedSimpArgs false
def hkdf_Expand.b0 (info : Str) (size : Int) (r_1 : Int × Vector (BitVec 64) 8 × Vector (BitVec 64) 80 × List (BitVec 8) × BitVec 64 × Int × Vector (BitVec 64) 8 × Vector (BitVec 64) 80 × List (BitVec 8) × BitVec 64) (s0 : Str × Str × Int) : Option ((Str × Str × Int) ⊕ (Str)) :=
  if ((s0.1).length : Int) < size then (if (s0.2.1).length + (info).length ≤ 4611686018427387904 then (if (([BitVec.ofInt 8 s0.2.2] : List (BitVec 8))).length = 1 then (if (s0.2.1 ++ info).length + (([BitVec.ofInt 8 s0.2.2] : List (BitVec 8))).length ≤ 4611686018427387904 then ((hkdf_mac_of r_1.1 r_1.2.1 r_1.2.2.1 r_1.2.2.2.1 r_1.2.2.2.2.1 r_1.2.2.2.2.2.1 r_1.2.2.2.2.2.2.1 r_1.2.2.2.2.2.2.2.1 r_1.2.2.2.2.2.2.2.2.1 r_1.2.2.2.2.2.2.2.2.2 ((s0.2.1 ++ info) ++ ([BitVec.ofInt 8 s0.2.2] : List (BitVec 8)))).bind fun (r_2 : Str) => (if (s0.1).length + (r_2).length ≤ 4611686018427387904 then (ltt (w64 (s0.2.2 + 1)) fun (i1 : Int) => (some (.inl (s0.1 ++ r_2, r_2, i1)))) else none)) else none) else none) else none) else (some (.inr s0.1))

def hkdf_Expand (bits : Int) (key : Str) (info : Str) (size : Int) : Option (Str × Int) :=
  (hkdf_newMac bits key).bind fun (r_1 : (Unit) ⊕ (Int × Vector (BitVec 64) 8 × Vector (BitVec 64) 80 × List (BitVec 8) × BitVec 64 × Int × Vector (BitVec 64) 8 × Vector (BitVec 64) 80 × List (BitVec 8) × BitVec 64)) => (match r_1 with | .inl r_1 => (some (([] : Str), 300)) | .inr r_1 => (if size < 0 then (some (([] : Str), 300)) else (if (w64 ((w64 (255 * bits)).tdiv 8)) < size then (some (([] : Str), 300)) else ((loop (hkdf_Expand.b0 info size r_1) BIG (([] : Str), ([] : Str), 1)).bind fun (t_1 : Str) => (if 0 ≤ size then (if (size).toNat ≤ (t_1).length then (ltt (sub t_1 0 ((size).toNat)) fun (x1 : Str) => (some (x1, 0))) else none) else none)))))

set_option maxHeartbeats 4000000 in
set_option maxRecDepth 20000 in
theorem F56_calls (bits : Int) (key : Str) (info : Str) (size : Int) (r : Str × Int) (H : hkdf_Expand bits key info size = some r) :
    Does Try.prog 56 [vi bits, vs key, vs info, vi size] [] [] (Γ := Unit) (fun g => Value.tuple [vs r.1, vi r.2].toArray) (fun g => []) := by
  intro w hmem hro hd
  refine calls_of (N := 56) (m0 := [(0, vi bits), (1, vs key), (2, vs info), (3, vi size)]) Try.func56 rfl Try.ntmps56 (argM_ok [vi bits, vs key, vs info, vi size]) rfl hmem hro hd ?_
  unfold hkdf_Expand at H
  refine TC_seq ?_
  refine TC_region ?_
  refine TL_v rfl rfl rfl (V_assign rfl) ?_
  refine TL_v rfl rfl rfl (V_assign rfl) ?_
  refine TL_nil ?_
  refine TX_next ?_
  refine TC_seq ?_
  refine TC_region ?_
  refine TL_v rfl rfl rfl (V_move rfl) ?_
  refine TL_v rfl rfl rfl (V_move rfl) ?_
  obtain ⟨r_1, hr_1, H⟩ := bind_elim H
  rcases r_1 with r_1 | r_1
  · dsimp only at H
    refine TL_e rfl rfl rfl (E_call (Γ := Unit × (Nat × Nat × Adr × List (BitVec 8) × Adr × List (BitVec 8))) (val := fun g => Value.tuple [Value.agg (flat [(1, [Value.pointer none]), (1, [Value.pointer none])]).toArray, vi 300].toArray) (mem := fun g => []) (vs := [vi bits, vs key]) (Lin := []) (Ro := []) (is := []) rfl Try.call50 (F50_calls bits key (.inl r_1) hr_1) rfl trivial) (fun g_1 => ?_)
    refine TL_v rfl rfl rfl (V_move rfl) ?_
    refine TL_v rfl rfl rfl (V_extract (vs := [Value.agg (flat [(1, [Value.pointer none]), (1, [Value.pointer none])]).toArray, vi 300]) rfl rfl) ?_
    refine TL_v rfl rfl rfl (V_extract (vs := [Value.agg (flat [(1, [Value.pointer none]), (1, [Value.pointer none])]).toArray, vi 300]) rfl rfl) ?_
    refine TL_e rfl rfl rfl (E_allocP [(1, [Value.pointer none]), (1, [Value.pointer none])] TryI.inf63 TryI.zer63 ⟨rfl, rfl, trivial⟩) (fun b1 => ?_)
    refine TL_n rfl rfl (E_storeParts (b := b1) (o := 0) (n := 2) (is := [0, 0]) [(1, [Value.pointer none]), (1, [Value.pointer none])] [(1, [Value.pointer none]), (1, [Value.pointer none])] rfl rfl rfl TryI.inf63 rfl ⟨rfl, rfl, trivial⟩ ⟨rfl, rfl, trivial⟩ (flat_len ⟨rfl, rfl, trivial⟩ rfl) (flat_len ⟨rfl, rfl, trivial⟩ rfl) (flat_onec ⟨(OneC.cons rfl OneC.nil), (OneC.cons rfl OneC.nil), trivial⟩)) (fun _ => ?_)
    refine TL_v rfl rfl rfl (V_assign rfl) ?_
    refine TL_nil ?_
    refine TX_next ?_
    refine TC_seq ?_
    refine TC_seq ?_
    refine TC_region ?_
    refine TL_v rfl rfl rfl (V_move rfl) ?_
    refine TL_v rfl rfl rfl (V_bin rfl rfl (fun w => neqI w 300 0)) ?_
    refine TL_v rfl rfl rfl (V_move rfl) ?_
    refine TL_skip rfl rfl rfl rfl rfl rfl rfl ?_
    refine TL_skip rfl rfl rfl rfl rfl rfl rfl ?_
    refine TL_v rfl rfl rfl (V_pick (b := true) rfl rfl) ?_
    refine TL_v rfl rfl rfl (V_move rfl) ?_
    refine TL_skip rfl rfl rfl rfl rfl rfl rfl ?_
    refine TL_skip rfl rfl rfl rfl rfl rfl rfl ?_
    refine TL_skip rfl rfl rfl rfl rfl rfl rfl ?_
    refine TL_skip rfl rfl rfl rfl rfl rfl rfl ?_
    refine TL_skip rfl rfl rfl rfl rfl rfl rfl ?_
    refine TL_v rfl rfl rfl (V_pick (b := true) rfl rfl) ?_
    refine TL_nil ?_
    refine TX_next ?_
    refine TC_cond_t rfl ?_
    refine TC_seq ?_
    refine TC_region ?_
    refine TL_v rfl rfl rfl (V_assign rfl) ?_
    refine TL_v rfl rfl rfl (V_assign rfl) ?_
    refine TL_nil ?_
    refine TX_next ?_
    refine TC_ret ?_
    refine TX_then_ret ?_
    have hrv := Option.some.inj H
    subst hrv
    exact TX_ret (rs := [.tmp 8, .tmp 9]) (vs := [vs ([] : Str), vi 300]) rfl ⟨rfl, rfl, trivial⟩ (fun w' hs' => ⟨(), rfl, Step.left (Step.pulled (is := []) (A := []) hs' rfl)⟩)
  · dsimp only at H
    refine TL_e rfl rfl rfl (E_call (Γ := Unit × (Nat × Nat × Adr × List (BitVec 8) × Adr × List (BitVec 8))) (val := fun g => Value.tuple [Value.agg (flat [(1, [ptr (some (g.2.1, 0)) 0]), (1, [ptr (some (g.2.2.1, 0)) 0])]).toArray, vi 0].toArray) (mem := fun g => [⟨some (g.2.1, 0), [vi r_1.1]⟩, ⟨some (g.2.1, 1), e64 r_1.2.1.toList⟩, ⟨some (g.2.1, 9), e64 r_1.2.2.1.toList⟩, ⟨some (g.2.1, 89), [sl g.2.2.2.1 ((r_1.2.2.2.1).length) ((r_1.2.2.2.1 ++ g.2.2.2.2.1).length)]⟩, ⟨g.2.2.2.1, e8 (r_1.2.2.2.1 ++ g.2.2.2.2.1)⟩, ⟨some (g.2.1, 90), [v64 r_1.2.2.2.2.1]⟩, ⟨some (g.2.2.1, 0), [vi r_1.2.2.2.2.2.1]⟩, ⟨some (g.2.2.1, 1), e64 r_1.2.2.2.2.2.2.1.toList⟩, ⟨some (g.2.2.1, 9), e64 r_1.2.2.2.2.2.2.2.1.toList⟩, ⟨some (g.2.2.1, 89), [sl g.2.2.2.2.2.1 ((r_1.2.2.2.2.2.2.2.2.1).length) ((r_1.2.2.2.2.2.2.2.2.1 ++ g.2.2.2.2.2.2).length)]⟩, ⟨g.2.2.2.2.2.1, e8 (r_1.2.2.2.2.2.2.2.2.1 ++ g.2.2.2.2.2.2)⟩, ⟨some (g.2.2.1, 90), [v64 r_1.2.2.2.2.2.2.2.2.2]⟩]) (vs := [vi bits, vs key]) (Lin := []) (Ro := []) (is := []) rfl Try.call50 (F50_calls bits key (.inr r_1) hr_1) rfl trivial) (fun g_2 => ?_)
    refine TL_v rfl rfl rfl (V_move rfl) ?_
    refine TL_v rfl rfl rfl (V_extract (vs := [Value.agg (flat [(1, [ptr (some (g_2.2.1, 0)) 0]), (1, [ptr (some (g_2.2.2.1, 0)) 0])]).toArray, vi 0]) rfl rfl) ?_
    refine TL_v rfl rfl rfl (V_extract (vs := [Value.agg (flat [(1, [ptr (some (g_2.2.1, 0)) 0]), (1, [ptr (some (g_2.2.2.1, 0)) 0])]).toArray, vi 0]) rfl rfl) ?_
    refine TL_e rfl rfl rfl (E_allocP [(1, [Value.pointer none]), (1, [Value.pointer none])] TryI.inf63 TryI.zer63 ⟨rfl, rfl, trivial⟩) (fun b2 => ?_)
    refine TL_n rfl rfl (E_storeParts (b := b2) (o := 0) (n := 2) (is := [0, 0]) [(1, [Value.pointer none]), (1, [Value.pointer none])] [(1, [ptr (some (g_2.2.1, 0)) 0]), (1, [ptr (some (g_2.2.2.1, 0)) 0])] rfl rfl rfl TryI.inf63 rfl ⟨rfl, rfl, trivial⟩ ⟨rfl, rfl, trivial⟩ (flat_len ⟨rfl, rfl, trivial⟩ rfl) (flat_len ⟨rfl, rfl, trivial⟩ rfl) (flat_onec ⟨(OneC.cons rfl OneC.nil), (OneC.cons rfl OneC.nil), trivial⟩)) (fun _ => ?_)
    refine TL_v rfl rfl rfl (V_assign rfl) ?_
    refine TL_nil ?_
    refine TX_next ?_
    refine TC_seq ?_
    refine TC_seq ?_
    refine TC_region ?_
    refine TL_v rfl rfl rfl (V_move rfl) ?_
    refine TL_v rfl rfl rfl (V_bin rfl rfl (fun w => neqI w 0 0)) ?_
    refine TL_v rfl rfl rfl (V_move rfl) ?_
    refine TL_want rfl rfl rfl rfl rfl rfl (V_move rfl) ?_
    refine TL_want rfl rfl rfl rfl rfl rfl (V_bin rfl rfl (fun w => lssI w size 0)) ?_
    refine TL_v rfl rfl rfl (V_pick (b := false) rfl rfl) ?_
    refine TL_v rfl rfl rfl (V_move rfl) ?_
    refine TL_fork (d := 27) (b := (decide (size < 0))) rfl (fun hc => ?_) (fun hc => ?_)
    · replace H := ite_t (of_decide_eq_true hc) H
      refine TL_skip rfl rfl rfl rfl rfl rfl rfl ?_
      refine TL_skip rfl rfl rfl rfl rfl rfl rfl ?_
      refine TL_skip rfl rfl rfl rfl rfl rfl rfl ?_
      refine TL_skip rfl rfl rfl rfl rfl rfl rfl ?_
      refine TL_skip rfl rfl rfl rfl rfl rfl rfl ?_
      refine TL_v rfl rfl rfl (V_pick (b := true) rfl rfl) ?_
      refine TL_nil ?_
      refine TX_next ?_
      refine TC_cond_t rfl ?_
      refine TC_seq ?_
      refine TC_region ?_
      refine TL_v rfl rfl rfl (V_assign rfl) ?_
      refine TL_v rfl rfl rfl (V_assign rfl) ?_
      refine TL_nil ?_
      refine TX_next ?_
      refine TC_ret ?_
      refine TX_then_ret ?_
      have hrv := Option.some.inj H
      subst hrv
      exact TX_ret (rs := [.tmp 8, .tmp 9]) (vs := [vs ([] : Str), vi 300]) rfl ⟨rfl, rfl, trivial⟩ (fun w' hs' => ⟨(), rfl, Step.left (Step.pulled (is := []) (A := []) hs' rfl)⟩)
    · replace H := ite_f (of_decide_eq_false hc) H
      refine TL_want rfl rfl rfl rfl rfl rfl (V_move rfl) ?_
      refine TL_want rfl rfl rfl rfl rfl rfl (V_move rfl) ?_
      refine TL_want rfl rfl rfl rfl rfl rfl (V_bin rfl rfl (fun w => mulI w 255 bits)) ?_
      refine TL_want rfl rfl rfl rfl rfl rfl (V_bin rfl rfl (fun w => quoI w (w64 (255 * bits)) 8 (by decide))) ?_
      refine TL_want rfl rfl rfl rfl rfl rfl (V_bin rfl rfl (fun w => gtrI w size (w64 ((w64 (255 * bits)).tdiv 8)))) ?_
      refine TL_v rfl rfl rfl (V_pick (b := false) rfl rfl) ?_
      refine TL_nil ?_
      refine TX_next ?_
      refine TC_cond (b := (decide ((w64 ((w64 (255 * bits)).tdiv 8)) < size))) rfl (fun hc => ?_) (fun hc => ?_)
      · replace H := ite_t (of_decide_eq_true hc) H
        refine TC_seq ?_
        refine TC_region ?_
        refine TL_v rfl rfl rfl (V_assign rfl) ?_
        refine TL_v rfl rfl rfl (V_assign rfl) ?_
        refine TL_nil ?_
        refine TX_next ?_
        refine TC_ret ?_
        refine TX_then_ret ?_
        have hrv := Option.some.inj H
        subst hrv
        exact TX_ret (rs := [.tmp 8, .tmp 9]) (vs := [vs ([] : Str), vi 300]) rfl ⟨rfl, rfl, trivial⟩ (fun w' hs' => ⟨(), rfl, Step.left (Step.pulled (is := []) (A := []) hs' rfl)⟩)
      · replace H := ite_f (of_decide_eq_false hc) H
        refine TC_skip ?_
        refine TX_next ?_
        refine TC_seq ?_
        refine TC_region ?_
        refine TL_v rfl rfl rfl (V_assign rfl) ?_
        refine TL_v rfl rfl rfl (V_assign rfl) ?_
        refine TL_nil ?_
        refine TX_next ?_
        refine TC_seq ?_
        refine TC_seq ?_
        refine TC_region ?_
        refine TL_v rfl rfl rfl (V_assign rfl) ?_
        refine TL_nil ?_
        refine TX_next ?_
        refine TC.sub (m' := [(2, vs info), (3, vi size), (10, ptr (some (b2, 0)) 0), (12, vs ([] : Str)), (13, vs ([] : Str)), (14, vi 1)]) ⟨rfl, rfl, rfl, rfl, rfl, rfl, trivial⟩ ?_
        refine TC_block ?_
        obtain ⟨t_1, Hl, H⟩ := bind_elim H
        refine TC.sub (m' := [(2, vs info), (3, vi size), (10, ptr (some (b2, 0)) 0), (12, vs ([] : Str)), (13, vs ([] : Str)), (14, vi 1)]) ⟨rfl, rfl, rfl, rfl, rfl, rfl, trivial⟩ ?_
        refine TC.pull (is := [0, 1, 1, 1, 1, 1, 1, 0, 0, 0, 0, 0, 0, 0]) (L' := [⟨some (b2, 0), [ptr (some (g_2.2.1, 0)) 0]⟩, ⟨some (g_2.2.1, 0), [vi r_1.1]⟩, ⟨some (g_2.2.1, 1), e64 r_1.2.1.toList⟩, ⟨some (g_2.2.1, 9), e64 r_1.2.2.1.toList⟩, ⟨some (g_2.2.1, 89), [sl g_2.2.2.2.1 ((r_1.2.2.2.1).length) ((r_1.2.2.2.1 ++ g_2.2.2.2.2.1).length)]⟩, ⟨g_2.2.2.2.1, e8 (r_1.2.2.2.1 ++ g_2.2.2.2.2.1)⟩, ⟨some (g_2.2.1, 90), [v64 r_1.2.2.2.2.1]⟩, ⟨some (b2, 1), [ptr (some (g_2.2.2.1, 0)) 0]⟩, ⟨some (g_2.2.2.1, 0), [vi r_1.2.2.2.2.2.1]⟩, ⟨some (g_2.2.2.1, 1), e64 r_1.2.2.2.2.2.2.1.toList⟩, ⟨some (g_2.2.2.1, 9), e64 r_1.2.2.2.2.2.2.2.1.toList⟩, ⟨some (g_2.2.2.1, 89), [sl g_2.2.2.2.2.2.1 ((r_1.2.2.2.2.2.2.2.2.1).length) ((r_1.2.2.2.2.2.2.2.2.1 ++ g_2.2.2.2.2.2.2).length)]⟩, ⟨g_2.2.2.2.2.2.1, e8 (r_1.2.2.2.2.2.2.2.2.1 ++ g_2.2.2.2.2.2.2)⟩, ⟨some (g_2.2.2.1, 90), [v64 r_1.2.2.2.2.2.2.2.2.2]⟩]) rfl ?_
        refine TC_loopL (id := 0) (body := (hkdf_Expand.b0 info size r_1)) (σ := Str × Str × Int) (Γ := Unit) (Γx := Unit) (fun s0 g0_ => [(2, vs info), (3, vi size), (10, ptr (some (b2, 0)) 0), (12, vs s0.1), (13, vs s0.2.1), (14, vi s0.2.2)]) (fun s0 g0_ => [⟨some (b2, 0), [ptr (some (g_2.2.1, 0)) 0]⟩, ⟨some (g_2.2.1, 0), [vi r_1.1]⟩, ⟨some (g_2.2.1, 1), e64 r_1.2.1.toList⟩, ⟨some (g_2.2.1, 9), e64 r_1.2.2.1.toList⟩, ⟨some (g_2.2.1, 89), [sl g_2.2.2.2.1 ((r_1.2.2.2.1).length) ((r_1.2.2.2.1 ++ g_2.2.2.2.2.1).length)]⟩, ⟨g_2.2.2.2.1, e8 (r_1.2.2.2.1 ++ g_2.2.2.2.2.1)⟩, ⟨some (g_2.2.1, 90), [v64 r_1.2.2.2.2.1]⟩, ⟨some (b2, 1), [ptr (some (g_2.2.2.1, 0)) 0]⟩, ⟨some (g_2.2.2.1, 0), [vi r_1.2.2.2.2.2.1]⟩, ⟨some (g_2.2.2.1, 1), e64 r_1.2.2.2.2.2.2.1.toList⟩, ⟨some (g_2.2.2.1, 9), e64 r_1.2.2.2.2.2.2.2.1.toList⟩, ⟨some (g_2.2.2.1, 89), [sl g_2.2.2.2.2.2.1 ((r_1.2.2.2.2.2.2.2.2.1).length) ((r_1.2.2.2.2.2.2.2.2.1 ++ g_2.2.2.2.2.2.2).length)]⟩, ⟨g_2.2.2.2.2.2.1, e8 (r_1.2.2.2.2.2.2.2.2.1 ++ g_2.2.2.2.2.2.2)⟩, ⟨some (g_2.2.2.1, 90), [v64 r_1.2.2.2.2.2.2.2.2.2]⟩]) (fun t g => [(3, vi size), (12, vs t)]) (fun t g => []) ?_ BIG (([] : Str), ([] : Str), 1) () t_1 Hl ?_
        · intro s0 g0_ r1 H K hK hE
          unfold hkdf_Expand.b0 at H
          refine TC_seq ?_
          refine TC_seq ?_
          refine TC_region ?_
          refine TL_v rfl rfl rfl (V_move rfl) ?_
          refine TL_v rfl rfl rfl (V_len_str rfl Try.underlying9) ?_
          refine TL_v rfl rfl rfl (V_move rfl) ?_
          refine TL_v rfl rfl rfl (V_bin rfl rfl (fun w => lssI w ((s0.1).length : Int) size)) ?_
          refine TL_nil ?_
          refine TX_next ?_
          refine TC_cond (b := (decide (((s0.1).length : Int) < size))) rfl (fun hc => ?_) (fun hc => ?_)
          · replace H := ite_t (of_decide_eq_true hc) H
            refine TC_skip ?_
            refine TX_next ?_
            refine TC_seq ?_
            refine TC_block ?_
            refine TC_seq ?_
            refine TC_region ?_
            refine TL_v rfl rfl rfl (V_loadAgg (n := 2) (cs := flat [(1, [ptr (some (g_2.2.1, 0)) 0]), (1, [ptr (some (g_2.2.2.1, 0)) 0])]) rfl (by simp) (SrcEnts (b := b2) [(1, [ptr (some (g_2.2.1, 0)) 0]), (1, [ptr (some (g_2.2.2.1, 0)) 0])] 0 ⟨rfl, rfl, trivial⟩ (AllSrc.all (M := ents b2 0 [(1, [ptr (some (g_2.2.1, 0)) 0]), (1, [ptr (some (g_2.2.2.1, 0)) 0])]) ⟨Src.own (j := 0) rfl, Src.own (j := 7) rfl, trivial⟩)) Try.isAgg63 TryI.inf63 rfl (flat_len ⟨rfl, rfl, trivial⟩ rfl)) ?_
            refine TL_v rfl rfl rfl (V_move rfl) ?_
            refine TL_v rfl rfl rfl (V_move rfl) ?_
            obtain ⟨h1, H⟩ := if_elim H
            refine TL_v rfl rfl rfl (V_bin rfl rfl (fun w => addS w s0.2.1 info h1)) ?_
            refine TL_v rfl rfl rfl (V_move rfl) ?_
            refine TL_v rfl rfl rfl (V_conv rfl (fun w => cvI8 w _ _ Try.underlying5 (TryI.und3) .i64 s0.2.2)) ?_
            refine TL_e rfl rfl rfl (E_buildSlice (pv := [(0, v8 (BitVec.ofInt 8 s0.2.2))]) rfl rfl Try.underlying49 TryI.inf5 (s := 1) rfl TryI.zer5 rfl rfl rfl (cs := e8 ([BitVec.ofInt 8 s0.2.2] : List (BitVec 8))) (by kernel_rfl)) (fun b3 => ?_)
            obtain ⟨h2, H⟩ := if_elim H
            refine TL_v rfl rfl rfl (V_b2s rfl Try.underlying49 Try.underlying5 Try.underlying9 (Src.own (j := 0) rfl) h2) ?_
            obtain ⟨h3, H⟩ := if_elim H
            refine TL_v rfl rfl rfl (V_bin rfl rfl (fun w => addS w (s0.2.1 ++ info) ([BitVec.ofInt 8 s0.2.2] : List (BitVec 8)) h3)) ?_
            obtain ⟨r_2, hr_2, H⟩ := bind_elim H
            refine TL_e rfl rfl rfl (E_call (Γ := Unit) (val := fun g => vs r_2) (mem := fun g => []) (vs := [Value.agg (flat [(1, [ptr (some (g_2.2.1, 0)) 0]), (1, [ptr (some (g_2.2.2.1, 0)) 0])]).toArray, vs ((s0.2.1 ++ info) ++ ([BitVec.ofInt 8 s0.2.2] : List (BitVec 8)))]) (Lin := []) (Ro := [⟨some (g_2.2.1, 0), [vi r_1.1]⟩, ⟨some (g_2.2.1, 1), e64 r_1.2.1.toList⟩, ⟨some (g_2.2.1, 9), e64 r_1.2.2.1.toList⟩, ⟨some (g_2.2.1, 89), [sl g_2.2.2.2.1 ((r_1.2.2.2.1).length) ((r_1.2.2.2.1 ++ g_2.2.2.2.2.1).length)]⟩, ⟨some (g_2.2.1, 90), [v64 r_1.2.2.2.2.1]⟩, ⟨g_2.2.2.2.1, e8 r_1.2.2.2.1⟩, ⟨some (g_2.2.2.1, 0), [vi r_1.2.2.2.2.2.1]⟩, ⟨some (g_2.2.2.1, 1), e64 r_1.2.2.2.2.2.2.1.toList⟩, ⟨some (g_2.2.2.1, 9), e64 r_1.2.2.2.2.2.2.2.1.toList⟩, ⟨some (g_2.2.2.1, 89), [sl g_2.2.2.2.2.2.1 ((r_1.2.2.2.2.2.2.2.2.1).length) ((r_1.2.2.2.2.2.2.2.2.1 ++ g_2.2.2.2.2.2.2).length)]⟩, ⟨some (g_2.2.2.1, 90), [v64 r_1.2.2.2.2.2.2.2.2.2]⟩, ⟨g_2.2.2.2.2.2.1, e8 r_1.2.2.2.2.2.2.2.2.1⟩]) (is := []) rfl Try.call51 (F51_calls g_2.2.1 0 g_2.2.2.2.1 ((r_1.2.2.2.1 ++ g_2.2.2.2.2.1).length) g_2.2.2.1 0 g_2.2.2.2.2.2.1 ((r_1.2.2.2.2.2.2.2.2.1 ++ g_2.2.2.2.2.2.2).length) r_1.1 r_1.2.1 r_1.2.2.1 r_1.2.2.2.1 r_1.2.2.2.2.1 r_1.2.2.2.2.2.1 r_1.2.2.2.2.2.2.1 r_1.2.2.2.2.2.2.2.1 r_1.2.2.2.2.2.2.2.2.1 r_1.2.2.2.2.2.2.2.2.2 ((s0.2.1 ++ info) ++ ([BitVec.ofInt 8 s0.2.2] : List (BitVec 8))) (row_le _ _) (row_le _ _) r_2 hr_2) rfl ⟨SrcD.own (j := 2) rfl, SrcD.own (j := 3) rfl, SrcD.own (j := 4) rfl, SrcD.own (j := 5) rfl, SrcD.own (j := 7) rfl, (srcdRow (SrcD.own (j := 6) rfl)), SrcD.own (j := 9) rfl, SrcD.own (j := 10) rfl, SrcD.own (j := 11) rfl, SrcD.own (j := 12) rfl, SrcD.own (j := 14) rfl, (srcdRow (SrcD.own (j := 13) rfl)), trivial⟩) (fun g_3 => ?_)
            refine TL_v rfl rfl rfl (V_assign rfl) ?_
            refine TL_nil ?_
            refine TX_next ?_
            refine TC_region ?_
            refine TL_v rfl rfl rfl (V_move rfl) ?_
            refine TL_v rfl rfl rfl (V_move rfl) ?_
            obtain ⟨h4, H⟩ := if_elim H
            refine TL_v rfl rfl rfl (V_bin rfl rfl (fun w => addS w s0.1 r_2 h4)) ?_
            refine TL_v rfl rfl rfl (V_assign rfl) ?_
            refine TL_nil ?_
            refine TX_block_normal ?_
            refine TX_next ?_
            refine TC_region ?_
            refine TL_v rfl rfl rfl (V_move rfl) ?_
            refine TL_v rfl rfl rfl (V_bin rfl rfl (fun w => addI w s0.2.2 1)) ?_
            refine TL_v rfl rfl rfl (V_assign rfl) ?_
            obtain ⟨i1, hi1, H⟩ := ltt_elim H
            refine TL_re (d := 14) (v := vi (w64 (s0.2.2 + 1))) (v' := vi i1) rfl (congrArg vi hi1) ?_
            refine TL_nil ?_
            refine TX.sub (m' := [(2, vs info), (3, vi size), (10, ptr (some (b2, 0)) 0), (12, vs (s0.1 ++ r_2)), (13, vs r_2), (14, vi i1)]) ⟨rfl, rfl, rfl, rfl, rfl, rfl, trivial⟩ ?_
            refine TX.pull (is := [1, 1, 1, 1, 1, 1, 1, 1, 1, 1, 1, 1, 1, 1]) (L' := [⟨some (b2, 0), [ptr (some (g_2.2.1, 0)) 0]⟩, ⟨some (g_2.2.1, 0), [vi r_1.1]⟩, ⟨some (g_2.2.1, 1), e64 r_1.2.1.toList⟩, ⟨some (g_2.2.1, 9), e64 r_1.2.2.1.toList⟩, ⟨some (g_2.2.1, 89), [sl g_2.2.2.2.1 ((r_1.2.2.2.1).length) ((r_1.2.2.2.1 ++ g_2.2.2.2.2.1).length)]⟩, ⟨g_2.2.2.2.1, e8 (r_1.2.2.2.1 ++ g_2.2.2.2.2.1)⟩, ⟨some (g_2.2.1, 90), [v64 r_1.2.2.2.2.1]⟩, ⟨some (b2, 1), [ptr (some (g_2.2.2.1, 0)) 0]⟩, ⟨some (g_2.2.2.1, 0), [vi r_1.2.2.2.2.2.1]⟩, ⟨some (g_2.2.2.1, 1), e64 r_1.2.2.2.2.2.2.1.toList⟩, ⟨some (g_2.2.2.1, 9), e64 r_1.2.2.2.2.2.2.2.1.toList⟩, ⟨some (g_2.2.2.1, 89), [sl g_2.2.2.2.2.2.1 ((r_1.2.2.2.2.2.2.2.2.1).length) ((r_1.2.2.2.2.2.2.2.2.1 ++ g_2.2.2.2.2.2.2).length)]⟩, ⟨g_2.2.2.2.2.2.1, e8 (r_1.2.2.2.2.2.2.2.2.1 ++ g_2.2.2.2.2.2.2)⟩, ⟨some (g_2.2.2.1, 90), [v64 r_1.2.2.2.2.2.2.2.2.2]⟩]) rfl ?_
            obtain rfl := Option.some.inj H
            exact fun a w hs => hK (s0.1 ++ r_2, r_2, i1) rfl () a w hs
          · replace H := ite_f (of_decide_eq_false hc) H
            refine TC_exit ?_
            refine TX_then_exit ?_
            refine TX_then_exit ?_
            refine TX.sub (m' := [(3, vi size), (12, vs s0.1)]) ⟨rfl, rfl, trivial⟩ ?_
            refine TX.pull (is := []) (L' := []) rfl ?_
            obtain rfl := Option.some.inj H
            exact hE s0.1 rfl ()
        · intro g
          refine TX_block_exit ?_
          refine TX_next ?_
          refine TC_seq ?_
          refine TC_region ?_
          refine TL_v rfl rfl rfl (V_move rfl) ?_
          refine TL_v rfl rfl rfl (V_move rfl) ?_
          obtain ⟨h5, H⟩ := if_elim H
          obtain ⟨h6, H⟩ := if_elim H
          refine TL_v rfl rfl rfl (V_sliceStr (l := 0) (h := (size).toNat) rfl Try.underlying9 Bnd.none' (Bnd.some' (i := size) rfl h5) (Nat.zero_le _) h6) ?_
          refine TL_v rfl rfl rfl (V_assign rfl) ?_
          obtain ⟨x1, hx1, H⟩ := ltt_elim H
          refine TL_re (d := 8) (v := vs (sub t_1 0 ((size).toNat))) (v' := vs x1) rfl (congrArg vs hx1) ?_
          refine TL_v rfl rfl rfl (V_assign rfl) ?_
          refine TL_nil ?_
          refine TX_next ?_
          refine TC_ret ?_
          have hrv := Option.some.inj H
          subst hrv
          exact TX_ret (rs := [.tmp 8, .tmp 9]) (vs := [vs x1, vi 0]) rfl ⟨rfl, rfl, trivial⟩ (fun w' hs' => ⟨(), rfl, Step.left (Step.pulled (is := []) (A := []) hs' rfl)⟩)

end Go.Proofs
end

section
namespace Go.Proofs
open Go Go.Kx
set_option linter.unusedVariables false
set_option linter.unusedSimpArgs false
def halberdref1_Expand.b0 (bits : Int) (key : Str) (info : Str) (size : Int) (s0 : Str × Str × Int) : Option ((Str × Str × Int) ⊕ (Str)) :=
  if ((s0.1).length : Int) < size then (if (s0.2.1).length + (info).length ≤ 4611686018427387904 then (if (([BitVec.ofInt 8 s0.2.2] : List (BitVec 8))).length = 1 then (if (s0.2.1 ++ info).length + (([BitVec.ofInt 8 s0.2.2] : List (BitVec 8))).length ≤ 4611686018427387904 then ((halberdref1_Mac bits key ((s0.2.1 ++ info) ++ ([BitVec.ofInt 8 s0.2.2] : List (BitVec 8)))).bind fun (r_2 : Str) => (if (s0.1).length + (r_2).length ≤ 4611686018427387904 then (ltt (w64 (s0.2.2 + 1)) fun (i1 : Int) => (some (.inl (s0.1 ++ r_2, r_2, i1)))) else none)) else none) else none) else none) else (some (.inr s0.1))

def halberdref1_Expand (bits : Int) (key : Str) (info : Str) (size : Int) : Option (Str × Int) :=
  (halberdref1_may bits).bind fun (r_1 : Bool) => (if (!r_1) = true then (some (([] : Str), 300)) else (if size < 0 then (some (([] : Str), 300)) else (if (w64 ((w64 (255 * bits)).tdiv 8)) < size then (some (([] : Str), 300)) else ((loop (halberdref1_Expand.b0 bits key info size) BIG (([] : Str), ([] : Str), 1)).bind fun (t_1 : Str) => (if 0 ≤ size then (if (size).toNat ≤ (t_1).length then (ltt (sub t_1 0 ((size).toNat)) fun (x1 : Str) => (some (x1, 0))) else none) else none)))))

set_option maxHeartbeats 4000000 in
set_option maxRecDepth 20000 in
theorem F40_calls (bits : Int) (key : Str) (info : Str) (size : Int) (r : Str × Int) (H : halberdref1_Expand bits key info size = some r) :
    Does Try.prog 40 [vi bits, vs key, vs info, vi size] [] [] (Γ := Unit) (fun g => Value.tuple [vs r.1, vi r.2].toArray) (fun g => []) := by
  intro w hmem hro hd
  refine calls_of (N := 50) (m0 := [(0, vi bits), (1, vs key), (2, vs info), (3, vi size)]) Try.func40 rfl Try.ntmps40 (argM_ok [vi bits, vs key, vs info, vi size]) rfl hmem hro hd ?_
  unfold halberdref1_Expand at H
  refine TC_seq ?_
  refine TC_region ?_
  refine TL_v rfl rfl rfl (V_assign rfl) ?_
  refine TL_v rfl rfl rfl (V_assign rfl) ?_
  refine TL_nil ?_
  refine TX_next ?_
  refine TC_seq ?_
  refine TC_seq ?_
  refine TC_region ?_
  refine TL_v rfl rfl rfl (V_move rfl) ?_
  obtain ⟨r_1, hr_1, H⟩ := bind_elim H
  refine TL_e rfl rfl rfl (E_call (Γ := Unit) (val := fun g => vb r_1) (mem := fun g => []) (vs := [vi bits]) (Lin := []) (Ro := []) (is := []) rfl Try.call49 (F49_calls bits r_1 hr_1) rfl trivial) (fun g_1 => ?_)
  refine TL_v rfl rfl rfl (V_un rfl (fun w => notB w r_1)) ?_
  refine TL_v rfl rfl rfl (V_move rfl) ?_
  refine TL_fork (d := 16) (b := (!r_1)) rfl (fun hc => ?_) (fun hc => ?_)
  · replace H := ite_t hc H
    refine TL_skip rfl rfl rfl rfl rfl rfl rfl ?_
    refine TL_skip rfl rfl rfl rfl rfl rfl rfl ?_
    refine TL_v rfl rfl rfl (V_pick (b := true) rfl rfl) ?_
    refine TL_v rfl rfl rfl (V_move rfl) ?_
    refine TL_skip rfl rfl rfl rfl rfl rfl rfl ?_
    refine TL_skip rfl rfl rfl rfl rfl rfl rfl ?_
    refine TL_skip rfl rfl rfl rfl rfl rfl rfl ?_
    refine TL_skip rfl rfl rfl rfl rfl rfl rfl ?_
    refine TL_skip rfl rfl rfl rfl rfl rfl rfl ?_
    refine TL_v rfl rfl rfl (V_pick (b := true) rfl rfl) ?_
    refine TL_nil ?_
    refine TX_next ?_
    refine TC_cond_t rfl ?_
    refine TC_seq ?_
    refine TC_region ?_
    refine TL_v rfl rfl rfl (V_assign rfl) ?_
    refine TL_v rfl rfl rfl (V_assign rfl) ?_
    refine TL_nil ?_
    refine TX_next ?_
    refine TC_ret ?_
    refine TX_then_ret ?_
    have hrv := Option.some.inj H
    subst hrv
    exact TX_ret (rs := [.tmp 8, .tmp 9]) (vs := [vs ([] : Str), vi 300]) rfl ⟨rfl, rfl, trivial⟩ (fun w' hs' => ⟨(), rfl, Step.left (Step.pulled (is := []) (A := []) hs' rfl)⟩)
  · replace H := ite_f (Bool.eq_false_iff.1 hc) H
    refine TL_want rfl rfl rfl rfl rfl rfl (V_move rfl) ?_
    refine TL_want rfl rfl rfl rfl rfl rfl (V_bin rfl rfl (fun w => lssI w size 0)) ?_
    refine TL_v rfl rfl rfl (V_pick (b := false) rfl rfl) ?_
    refine TL_v rfl rfl rfl (V_move rfl) ?_
    refine TL_fork (d := 20) (b := (decide (size < 0))) rfl (fun hc => ?_) (fun hc => ?_)
    · replace H := ite_t (of_decide_eq_true hc) H
      refine TL_skip rfl rfl rfl rfl rfl rfl rfl ?_
      refine TL_skip rfl rfl rfl rfl rfl rfl rfl ?_
      refine TL_skip rfl rfl rfl rfl rfl rfl rfl ?_
      refine TL_skip rfl rfl rfl rfl rfl rfl rfl ?_
      refine TL_skip rfl rfl rfl rfl rfl rfl rfl ?_
      refine TL_v rfl rfl rfl (V_pick (b := true) rfl rfl) ?_
      refine TL_nil ?_
      refine TX_next ?_
      refine TC_cond_t rfl ?_
      refine TC_seq ?_
      refine TC_region ?_
      refine TL_v rfl rfl rfl (V_assign rfl) ?_
      refine TL_v rfl rfl rfl (V_assign rfl) ?_
      refine TL_nil ?_
      refine TX_next ?_
      refine TC_ret ?_
      refine TX_then_ret ?_
      have hrv := Option.some.inj H
      subst hrv
      exact TX_ret (rs := [.tmp 8, .tmp 9]) (vs := [vs ([] : Str), vi 300]) rfl ⟨rfl, rfl, trivial⟩ (fun w' hs' => ⟨(), rfl, Step.left (Step.pulled (is := []) (A := []) hs' rfl)⟩)
    · replace H := ite_f (of_decide_eq_false hc) H
      refine TL_want rfl rfl rfl rfl rfl rfl (V_move rfl) ?_
      refine TL_want rfl rfl rfl rfl rfl rfl (V_move rfl) ?_
      refine TL_want rfl rfl rfl rfl rfl rfl (V_bin rfl rfl (fun w => mulI w 255 bits)) ?_
      refine TL_want rfl rfl rfl rfl rfl rfl (V_bin rfl rfl (fun w => quoI w (w64 (255 * bits)) 8 (by decide))) ?_
      refine TL_want rfl rfl rfl rfl rfl rfl (V_bin rfl rfl (fun w => gtrI w size (w64 ((w64 (255 * bits)).tdiv 8)))) ?_
      refine TL_v rfl rfl rfl (V_pick (b := false) rfl rfl) ?_
      refine TL_nil ?_
      refine TX_next ?_
      refine TC_cond (b := (decide ((w64 ((w64 (255 * bits)).tdiv 8)) < size))) rfl (fun hc => ?_) (fun hc => ?_)
      · replace H := ite_t (of_decide_eq_true hc) H
        refine TC_seq ?_
        refine TC_region ?_
        refine TL_v rfl rfl rfl (V_assign rfl) ?_
        refine TL_v rfl rfl rfl (V_assign rfl) ?_
        refine TL_nil ?_
        refine TX_next ?_
        refine TC_ret ?_
        refine TX_then_ret ?_
        have hrv := Option.some.inj H
        subst hrv
        exact TX_ret (rs := [.tmp 8, .tmp 9]) (vs := [vs ([] : Str), vi 300]) rfl ⟨rfl, rfl, trivial⟩ (fun w' hs' => ⟨(), rfl, Step.left (Step.pulled (is := []) (A := []) hs' rfl)⟩)
      · replace H := ite_f (of_decide_eq_false hc) H
        refine TC_skip ?_
        refine TX_next ?_
        refine TC_seq ?_
        refine TC_region ?_
        refine TL_v rfl rfl rfl (V_assign rfl) ?_
        refine TL_v rfl rfl rfl (V_assign rfl) ?_
        refine TL_nil ?_
        refine TX_next ?_
        refine TC_seq ?_
        refine TC_seq ?_
        refine TC_region ?_
        refine TL_v rfl rfl rfl (V_assign rfl) ?_
        refine TL_nil ?_
        refine TX_next ?_
        refine TC_block ?_
        obtain ⟨t_1, Hl, H⟩ := bind_elim H
        refine TC.sub (m' := [(0, vi bits), (1, vs key), (2, vs info), (3, vi size), (10, vs ([] : Str)), (11, vs ([] : Str)), (12, vi 1)]) ⟨rfl, rfl, rfl, rfl, rfl, rfl, rfl, trivial⟩ ?_
        refine TC.pull (is := []) (L' := []) rfl ?_
        refine TC_loopL (id := 0) (body := (halberdref1_Expand.b0 bits key info size)) (σ := Str × Str × Int) (Γ := Unit) (Γx := Unit) (fun s0 g0_ => [(0, vi bits), (1, vs key), (2, vs info), (3, vi size), (10, vs s0.1), (11, vs s0.2.1), (12, vi s0.2.2)]) (fun s0 g0_ => []) (fun t g => [(3, vi size), (10, vs t)]) (fun t g => []) ?_ BIG (([] : Str), ([] : Str), 1) () t_1 Hl ?_
        · intro s0 g0_ r1 H K hK hE
          unfold halberdref1_Expand.b0 at H
          refine TC_seq ?_
          refine TC_seq ?_
          refine TC_region ?_
          refine TL_v rfl rfl rfl (V_move rfl) ?_
          refine TL_v rfl rfl rfl (V_len_str rfl Try.underlying9) ?_
          refine TL_v rfl rfl rfl (V_move rfl) ?_
          refine TL_v rfl rfl rfl (V_bin rfl rfl (fun w => lssI w ((s0.1).length : Int) size)) ?_
          refine TL_nil ?_
          refine TX_next ?_
          refine TC_cond (b := (decide (((s0.1).length : Int) < size))) rfl (fun hc => ?_) (fun hc => ?_)
          · replace H := ite_t (of_decide_eq_true hc) H
            refine TC_skip ?_
            refine TX_next ?_
            refine TC_seq ?_
            refine TC_block ?_
            refine TC_seq ?_
            refine TC_region ?_
            refine TL_v rfl rfl rfl (V_move rfl) ?_
            refine TL_v rfl rfl rfl (V_move rfl) ?_
            refine TL_v rfl rfl rfl (V_move rfl) ?_
            refine TL_v rfl rfl rfl (V_move rfl) ?_
            obtain ⟨h1, H⟩ := if_elim H
            refine TL_v rfl rfl rfl (V_bin rfl rfl (fun w => addS w s0.2.1 info h1)) ?_
            refine TL_v rfl rfl rfl (V_move rfl) ?_
            refine TL_v rfl rfl rfl (V_conv rfl (fun w => cvI8 w _ _ Try.underlying5 (TryI.und3) .i64 s0.2.2)) ?_
            refine TL_e rfl rfl rfl (E_buildSlice (pv := [(0, v8 (BitVec.ofInt 8 s0.2.2))]) rfl rfl Try.underlying49 TryI.inf5 (s := 1) rfl TryI.zer5 rfl rfl rfl (cs := e8 ([BitVec.ofInt 8 s0.2.2] : List (BitVec 8))) (by kernel_rfl)) (fun b1 => ?_)
            obtain ⟨h2, H⟩ := if_elim H
            refine TL_v rfl rfl rfl (V_b2s rfl Try.underlying49 Try.underlying5 Try.underlying9 (Src.own (j := 0) rfl) h2) ?_
            obtain ⟨h3, H⟩ := if_elim H
            refine TL_v rfl rfl rfl (V_bin rfl rfl (fun w => addS w (s0.2.1 ++ info) ([BitVec.ofInt 8 s0.2.2] : List (BitVec 8)) h3)) ?_
            obtain ⟨r_2, hr_2, H⟩ := bind_elim H
            refine TL_e rfl rfl rfl (E_call (Γ := Unit) (val := fun g => vs r_2) (mem := fun g => []) (vs := [vi bits, vs key, vs ((s0.2.1 ++ info) ++ ([BitVec.ofInt 8 s0.2.2] : List (BitVec 8)))]) (Lin := []) (Ro := []) (is := []) rfl Try.call25 (F25_calls bits key ((s0.2.1 ++ info) ++ ([BitVec.ofInt 8 s0.2.2] : List (BitVec 8))) r_2 hr_2) rfl trivial) (fun g_2 => ?_)
            refine TL_v rfl rfl rfl (V_assign rfl) ?_
            refine TL_nil ?_
            refine TX_next ?_
            refine TC_region ?_
            refine TL_v rfl rfl rfl (V_move rfl) ?_
            refine TL_v rfl rfl rfl (V_move rfl) ?_
            obtain ⟨h4, H⟩ := if_elim H
            refine TL_v rfl rfl rfl (V_bin rfl rfl (fun w => addS w s0.1 r_2 h4)) ?_
            refine TL_v rfl rfl rfl (V_assign rfl) ?_
            refine TL_nil ?_
            refine TX_block_normal ?_
            refine TX_next ?_
            refine TC_region ?_
            refine TL_v rfl rfl rfl (V_move rfl) ?_
            refine TL_v rfl rfl rfl (V_bin rfl rfl (fun w => addI w s0.2.2 1)) ?_
            refine TL_v rfl rfl rfl (V_assign rfl) ?_
            obtain ⟨i1, hi1, H⟩ := ltt_elim H
            refine TL_re (d := 12) (v := vi (w64 (s0.2.2 + 1))) (v' := vi i1) rfl (congrArg vi hi1) ?_
            refine TL_nil ?_
            refine TX.sub (m' := [(0, vi bits), (1, vs key), (2, vs info), (3, vi size), (10, vs (s0.1 ++ r_2)), (11, vs r_2), (12, vi i1)]) ⟨rfl, rfl, rfl, rfl, rfl, rfl, rfl, trivial⟩ ?_
            refine TX.pull (is := []) (L' := []) rfl ?_
            obtain rfl := Option.some.inj H
            exact fun a w hs => hK (s0.1 ++ r_2, r_2, i1) rfl () a w hs
          · replace H := ite_f (of_decide_eq_false hc) H
            refine TC_exit ?_
            refine TX_then_exit ?_
            refine TX_then_exit ?_
            refine TX.sub (m' := [(3, vi size), (10, vs s0.1)]) ⟨rfl, rfl, trivial⟩ ?_
            refine TX.pull (is := []) (L' := []) rfl ?_
            obtain rfl := Option.some.inj H
            exact hE s0.1 rfl ()
        · intro g
          refine TX_block_exit ?_
          refine TX_next ?_
          refine TC_seq ?_
          refine TC_region ?_
          refine TL_v rfl rfl rfl (V_move rfl) ?_
          refine TL_v rfl rfl rfl (V_move rfl) ?_
          obtain ⟨h5, H⟩ := if_elim H
          obtain ⟨h6, H⟩ := if_elim H
          refine TL_v rfl rfl rfl (V_sliceStr (l := 0) (h := (size).toNat) rfl Try.underlying9 Bnd.none' (Bnd.some' (i := size) rfl h5) (Nat.zero_le _) h6) ?_
          refine TL_v rfl rfl rfl (V_assign rfl) ?_
          obtain ⟨x1, hx1, H⟩ := ltt_elim H
          refine TL_re (d := 8) (v := vs (sub t_1 0 ((size).toNat))) (v' := vs x1) rfl (congrArg vs hx1) ?_
          refine TL_v rfl rfl rfl (V_assign rfl) ?_
          refine TL_nil ?_
          refine TX_next ?_
          refine TC_ret ?_
          have hrv := Option.some.inj H
          subst hrv
          exact TX_ret (rs := [.tmp 8, .tmp 9]) (vs := [vs x1, vi 0]) rfl ⟨rfl, rfl, trivial⟩ (fun w' hs' => ⟨(), rfl, Step.left (Step.pulled (is := []) (A := []) hs' rfl)⟩)

end Go.Proofs
end

section
namespace Go.Proofs
open Go Go.Kx
set_option linter.unusedVariables false
set_option linter.unusedSimpArgs false
def hkdf_Label (bits : Int) (key : Str) (label : Str) (context : Str) (size : Int) : Option (Str × Int) :=
  if 249 < ((label).length : Int) then (some (([] : Str), 300)) else (if 255 < ((context).length : Int) then (some (([] : Str), 300)) else (if size < 0 then (some (([] : Str), 300)) else (if 65535 < size then (some (([] : Str), 300)) else (if (([116#8, 108#8, 115#8, 49#8, 51#8, 32#8] : Str)).length + (label).length ≤ 4611686018427387904 then ((wire_PutVec (([116#8, 108#8, 115#8, 49#8, 51#8, 32#8] : Str) ++ label) 1).bind fun (r_1 : Str × Int) => ((wire_PutVec context 1).bind fun (r_2 : Str × Int) => ((wire_Bytes size 2).bind fun (r_3 : Str) => (if (r_3).length + (r_1.1).length ≤ 4611686018427387904 then (if (r_3 ++ r_1.1).length + (r_2.1).length ≤ 4611686018427387904 then ((hkdf_Expand bits key ((r_3 ++ r_1.1) ++ r_2.1) size).bind fun (r_4 : Str × Int) => (some (r_4.1, r_4.2))) else none) else none)))) else none))))

set_option maxHeartbeats 4000000 in
set_option maxRecDepth 20000 in
theorem F46_calls (bits : Int) (key : Str) (label : Str) (context : Str) (size : Int) (r : Str × Int) (H : hkdf_Label bits key label context size = some r) :
    Does Try.prog 46 [vi bits, vs key, vs label, vs context, vi size] [] [] (Γ := Unit) (fun g => Value.tuple [vs r.1, vi r.2].toArray) (fun g => []) := by
  intro w hmem hro hd
  refine calls_of (N := 55) (m0 := [(0, vi bits), (1, vs key), (2, vs label), (3, vs context), (4, vi size)]) Try.func46 rfl Try.ntmps46 (argM_ok [vi bits, vs key, vs label, vs context, vi size]) rfl hmem hro hd ?_
  unfold hkdf_Label at H
  refine TC_seq ?_
  refine TC_region ?_
  refine TL_v rfl rfl rfl (V_assign rfl) ?_
  refine TL_v rfl rfl rfl (V_assign rfl) ?_
  refine TL_nil ?_
  refine TX_next ?_
  refine TC_seq ?_
  refine TC_seq ?_
  refine TC_region ?_
  refine TL_v rfl rfl rfl (V_move rfl) ?_
  refine TL_v rfl rfl rfl (V_len_str rfl Try.underlying9) ?_
  refine TL_v rfl rfl rfl (V_bin rfl rfl (fun w => gtrI w ((label).length : Int) 249)) ?_
  refine TL_v rfl rfl rfl (V_move rfl) ?_
  refine TL_fork (d := 19) (b := (decide (249 < ((label).length : Int)))) rfl (fun hc => ?_) (fun hc => ?_)
  · replace H := ite_t (of_decide_eq_true hc) H
    refine TL_skip rfl rfl rfl rfl rfl rfl rfl ?_
    refine TL_skip rfl rfl rfl rfl rfl rfl rfl ?_
    refine TL_skip rfl rfl rfl rfl rfl rfl rfl ?_
    refine TL_v rfl rfl rfl (V_pick (b := true) rfl rfl) ?_
    refine TL_v rfl rfl rfl (V_move rfl) ?_
    refine TL_skip rfl rfl rfl rfl rfl rfl rfl ?_
    refine TL_skip rfl rfl rfl rfl rfl rfl rfl ?_
    refine TL_v rfl rfl rfl (V_pick (b := true) rfl rfl) ?_
    refine TL_v rfl rfl rfl (V_move rfl) ?_
    refine TL_skip rfl rfl rfl rfl rfl rfl rfl ?_
    refine TL_skip rfl rfl rfl rfl rfl rfl rfl ?_
    refine TL_v rfl rfl rfl (V_pick (b := true) rfl rfl) ?_
    refine TL_nil ?_
    refine TX_next ?_
    refine TC_cond_t rfl ?_
    refine TC_seq ?_
    refine TC_region ?_
    refine TL_v rfl rfl rfl (V_assign rfl) ?_
    refine TL_v rfl rfl rfl (V_assign rfl) ?_
    refine TL_nil ?_
    refine TX_next ?_
    refine TC_ret ?_
    refine TX_then_ret ?_
    have hrv := Option.some.inj H
    subst hrv
    exact TX_ret (rs := [.tmp 10, .tmp 11]) (vs := [vs ([] : Str), vi 300]) rfl ⟨rfl, rfl, trivial⟩ (fun w' hs' => ⟨(), rfl, Step.left (Step.pulled (is := []) (A := []) hs' rfl)⟩)
  · replace H := ite_f (of_decide_eq_false hc) H
    refine TL_want rfl rfl rfl rfl rfl rfl (V_move rfl) ?_
    refine TL_want rfl rfl rfl rfl rfl rfl (V_len_str rfl Try.underlying9) ?_
    refine TL_want rfl rfl rfl rfl rfl rfl (V_bin rfl rfl (fun w => gtrI w ((context).length : Int) 255)) ?_
    refine TL_v rfl rfl rfl (V_pick (b := false) rfl rfl) ?_
    refine TL_v rfl rfl rfl (V_move rfl) ?_
    refine TL_fork (d := 24) (b := (decide (255 < ((context).length : Int)))) rfl (fun hc => ?_) (fun hc => ?_)
    · replace H := ite_t (of_decide_eq_true hc) H
      refine TL_skip rfl rfl rfl rfl rfl rfl rfl ?_
      refine TL_skip rfl rfl rfl rfl rfl rfl rfl ?_
      refine TL_v rfl rfl rfl (V_pick (b := true) rfl rfl) ?_
      refine TL_v rfl rfl rfl (V_move rfl) ?_
      refine TL_skip rfl rfl rfl rfl rfl rfl rfl ?_
      refine TL_skip rfl rfl rfl rfl rfl rfl rfl ?_
      refine TL_v rfl rfl rfl (V_pick (b := true) rfl rfl) ?_
      refine TL_nil ?_
      refine TX_next ?_
      refine TC_cond_t rfl ?_
      refine TC_seq ?_
      refine TC_region ?_
      refine TL_v rfl rfl rfl (V_assign rfl) ?_
      refine TL_v rfl rfl rfl (V_assign rfl) ?_
      refine TL_nil ?_
      refine TX_next ?_
      refine TC_ret ?_
      refine TX_then_ret ?_
      have hrv := Option.some.inj H
      subst hrv
      exact TX_ret (rs := [.tmp 10, .tmp 11]) (vs := [vs ([] : Str), vi 300]) rfl ⟨rfl, rfl, trivial⟩ (fun w' hs' => ⟨(), rfl, Step.left (Step.pulled (is := []) (A := []) hs' rfl)⟩)
    · replace H := ite_f (of_decide_eq_false hc) H
      refine TL_want rfl rfl rfl rfl rfl rfl (V_move rfl) ?_
      refine TL_want rfl rfl rfl rfl rfl rfl (V_bin rfl rfl (fun w => lssI w size 0)) ?_
      refine TL_v rfl rfl rfl (V_pick (b := false) rfl rfl) ?_
      refine TL_v rfl rfl rfl (V_move rfl) ?_
      refine TL_fork (d := 28) (b := (decide (size < 0))) rfl (fun hc => ?_) (fun hc => ?_)
      · replace H := ite_t (of_decide_eq_true hc) H
        refine TL_skip rfl rfl rfl rfl rfl rfl rfl ?_
        refine TL_skip rfl rfl rfl rfl rfl rfl rfl ?_
        refine TL_v rfl rfl rfl (V_pick (b := true) rfl rfl) ?_
        refine TL_nil ?_
        refine TX_next ?_
        refine TC_cond_t rfl ?_
        refine TC_seq ?_
        refine TC_region ?_
        refine TL_v rfl rfl rfl (V_assign rfl) ?_
        refine TL_v rfl rfl rfl (V_assign rfl) ?_
        refine TL_nil ?_
        refine TX_next ?_
        refine TC_ret ?_
        refine TX_then_ret ?_
        have hrv := Option.some.inj H
        subst hrv
        exact TX_ret (rs := [.tmp 10, .tmp 11]) (vs := [vs ([] : Str), vi 300]) rfl ⟨rfl, rfl, trivial⟩ (fun w' hs' => ⟨(), rfl, Step.left (Step.pulled (is := []) (A := []) hs' rfl)⟩)
      · replace H := ite_f (of_decide_eq_false hc) H
        refine TL_want rfl rfl rfl rfl rfl rfl (V_move rfl) ?_
        refine TL_want rfl rfl rfl rfl rfl rfl (V_bin rfl rfl (fun w => gtrI w size 65535)) ?_
        refine TL_v rfl rfl rfl (V_pick (b := false) rfl rfl) ?_
        refine TL_nil ?_
        refine TX_next ?_
        refine TC_cond (b := (decide (65535 < size))) rfl (fun hc => ?_) (fun hc => ?_)
        · replace H := ite_t (of_decide_eq_true hc) H
          refine TC_seq ?_
          refine TC_region ?_
          refine TL_v rfl rfl rfl (V_assign rfl) ?_
          refine TL_v rfl rfl rfl (V_assign rfl) ?_
          refine TL_nil ?_
          refine TX_next ?_
          refine TC_ret ?_
          refine TX_then_ret ?_
          have hrv := Option.some.inj H
          subst hrv
          exact TX_ret (rs := [.tmp 10, .tmp 11]) (vs := [vs ([] : Str), vi 300]) rfl ⟨rfl, rfl, trivial⟩ (fun w' hs' => ⟨(), rfl, Step.left (Step.pulled (is := []) (A := []) hs' rfl)⟩)
        · replace H := ite_f (of_decide_eq_false hc) H
          refine TC_skip ?_
          refine TX_next ?_
          refine TC_seq ?_
          refine TC_region ?_
          refine TL_v rfl rfl rfl (V_move rfl) ?_
          obtain ⟨h1, H⟩ := if_elim H
          refine TL_v rfl rfl rfl (V_bin rfl rfl (fun w => addS w ([116#8, 108#8, 115#8, 49#8, 51#8, 32#8] : Str) label h1)) ?_
          obtain ⟨r_1, hr_1, H⟩ := bind_elim H
          refine TL_e rfl rfl rfl (E_call (Γ := Unit) (val := fun g => Value.tuple [vs r_1.1, vi r_1.2].toArray) (mem := fun g => []) (vs := [vs (([116#8, 108#8, 115#8, 49#8, 51#8, 32#8] : Str) ++ label), vi 1]) (Lin := []) (Ro := []) (is := []) rfl Try.call55 (F55_calls (([116#8, 108#8, 115#8, 49#8, 51#8, 32#8] : Str) ++ label) 1 r_1 hr_1) rfl trivial) (fun g_1 => ?_)
          refine TL_v rfl rfl rfl (V_move rfl) ?_
          refine TL_v rfl rfl rfl (V_extract (vs := [vs r_1.1, vi r_1.2]) rfl rfl) ?_
          refine TL_v rfl rfl rfl (V_extract (vs := [vs r_1.1, vi r_1.2]) rfl rfl) ?_
          refine TL_v rfl rfl rfl (V_assign rfl) ?_
          refine TL_v rfl rfl rfl (V_assign rfl) ?_
          refine TL_nil ?_
          refine TX_next ?_
          refine TC.sub (m' := [(0, vi bits), (1, vs key), (3, vs context), (4, vi size), (12, vs r_1.1)]) ⟨rfl, rfl, rfl, rfl, rfl, trivial⟩ ?_
          refine TC_seq ?_
          refine TC_region ?_
          refine TL_v rfl rfl rfl (V_move rfl) ?_
          obtain ⟨r_2, hr_2, H⟩ := bind_elim H
          refine TL_e rfl rfl rfl (E_call (Γ := Unit) (val := fun g => Value.tuple [vs r_2.1, vi r_2.2].toArray) (mem := fun g => []) (vs := [vs context, vi 1]) (Lin := []) (Ro := []) (is := []) rfl Try.call55 (F55_calls context 1 r_2 hr_2) rfl trivial) (fun g_2 => ?_)
          refine TL_v rfl rfl rfl (V_move rfl) ?_
          refine TL_v rfl rfl rfl (V_extract (vs := [vs r_2.1, vi r_2.2]) rfl rfl) ?_
          refine TL_v rfl rfl rfl (V_extract (vs := [vs r_2.1, vi r_2.2]) rfl rfl) ?_
          refine TL_v rfl rfl rfl (V_assign rfl) ?_
          refine TL_v rfl rfl rfl (V_assign rfl) ?_
          refine TL_nil ?_
          refine TX_next ?_
          refine TC_seq ?_
          refine TC_region ?_
          refine TL_v rfl rfl rfl (V_move rfl) ?_
          refine TL_v rfl rfl rfl (V_move rfl) ?_
          refine TL_v rfl rfl rfl (V_move rfl) ?_
          obtain ⟨r_3, hr_3, H⟩ := bind_elim H
          refine TL_e rfl rfl rfl (E_call (Γ := Unit) (val := fun g => vs r_3) (mem := fun g => []) (vs := [vi size, vi 2]) (Lin := []) (Ro := []) (is := []) rfl Try.call57 (F57_calls size 2 r_3 hr_3) rfl trivial) (fun g_3 => ?_)
          refine TL_v rfl rfl rfl (V_move rfl) ?_
          obtain ⟨h2, H⟩ := if_elim H
          refine TL_v rfl rfl rfl (V_bin rfl rfl (fun w => addS w r_3 r_1.1 h2)) ?_
          refine TL_v rfl rfl rfl (V_move rfl) ?_
          obtain ⟨h3, H⟩ := if_elim H
          refine TL_v rfl rfl rfl (V_bin rfl rfl (fun w => addS w (r_3 ++ r_1.1) r_2.1 h3)) ?_
          refine TL_v rfl rfl rfl (V_move rfl) ?_
          obtain ⟨r_4, hr_4, H⟩ := bind_elim H
          refine TL_e rfl rfl rfl (E_call (Γ := Unit) (val := fun g => Value.tuple [vs r_4.1, vi r_4.2].toArray) (mem := fun g => []) (vs := [vi bits, vs key, vs ((r_3 ++ r_1.1) ++ r_2.1), vi size]) (Lin := []) (Ro := []) (is := []) rfl Try.call56 (F56_calls bits key ((r_3 ++ r_1.1) ++ r_2.1) size r_4 hr_4) rfl trivial) (fun g_4 => ?_)
          refine TL_v rfl rfl rfl (V_extract (vs := [vs r_4.1, vi r_4.2]) rfl rfl) ?_
          refine TL_v rfl rfl rfl (V_extract (vs := [vs r_4.1, vi r_4.2]) rfl rfl) ?_
          refine TL_v rfl rfl rfl (V_assign rfl) ?_
          refine TL_v rfl rfl rfl (V_assign rfl) ?_
          refine TL_nil ?_
          refine TX_next ?_
          refine TC_ret ?_
          have hrv := Option.some.inj H
          subst hrv
          exact TX_ret (rs := [.tmp 10, .tmp 11]) (vs := [vs r_4.1, vi r_4.2]) rfl ⟨rfl, rfl, trivial⟩ (fun w' hs' => ⟨(), rfl, Step.left (Step.pulled (is := []) (A := []) hs' rfl)⟩)

end Go.Proofs
end

section
namespace Go.Proofs
open Go Go.Kx
set_option linter.unusedVariables false
set_option linter.unusedSimpArgs false
def halberdref1_Label (bits : Int) (key : Str) (label : Str) (context : Str) (size : Int) : Option (Str × Int) :=
  if 249 < ((label).length : Int) then (some (([] : Str), 300)) else (if 255 < ((context).length : Int) then (some (([] : Str), 300)) else (if size < 0 then (some (([] : Str), 300)) else (if 65535 < size then (some (([] : Str), 300)) else ((halberdref1_Be size 2).bind fun (r_1 : Str) => (if (([116#8, 108#8, 115#8, 49#8, 51#8, 32#8] : Str)).length + (label).length ≤ 4611686018427387904 then ((halberdref1_V (([116#8, 108#8, 115#8, 49#8, 51#8, 32#8] : Str) ++ label) 1).bind fun (r_2 : Str) => (if (r_1).length + (r_2).length ≤ 4611686018427387904 then ((halberdref1_V context 1).bind fun (r_3 : Str) => (if (r_1 ++ r_2).length + (r_3).length ≤ 4611686018427387904 then ((halberdref1_Expand bits key ((r_1 ++ r_2) ++ r_3) size).bind fun (r_4 : Str × Int) => (some (r_4.1, r_4.2))) else none)) else none)) else none)))))

set_option maxHeartbeats 4000000 in
set_option maxRecDepth 20000 in
theorem F23_calls (bits : Int) (key : Str) (label : Str) (context : Str) (size : Int) (r : Str × Int) (H : halberdref1_Label bits key label context size = some r) :
    Does Try.prog 23 [vi bits, vs key, vs label, vs context, vi size] [] [] (Γ := Unit) (fun g => Value.tuple [vs r.1, vi r.2].toArray) (fun g => []) := by
  intro w hmem hro hd
  refine calls_of (N := 43) (m0 := [(0, vi bits), (1, vs key), (2, vs label), (3, vs context), (4, vi size)]) Try.func23 rfl Try.ntmps23 (argM_ok [vi bits, vs key, vs label, vs context, vi size]) rfl hmem hro hd ?_
  unfold halberdref1_Label at H
  refine TC_seq ?_
  refine TC_region ?_
  refine TL_v rfl rfl rfl (V_assign rfl) ?_
  refine TL_v rfl rfl rfl (V_assign rfl) ?_
  refine TL_nil ?_
  refine TX_next ?_
  refine TC_seq ?_
  refine TC_seq ?_
  refine TC_region ?_
  refine TL_v rfl rfl rfl (V_move rfl) ?_
  refine TL_v rfl rfl rfl (V_len_str rfl Try.underlying9) ?_
  refine TL_v rfl rfl rfl (V_bin rfl rfl (fun w => gtrI w ((label).length : Int) 249)) ?_
  refine TL_v rfl rfl rfl (V_move rfl) ?_
  refine TL_fork (d := 15) (b := (decide (249 < ((label).length : Int)))) rfl (fun hc => ?_) (fun hc => ?_)
  · replace H := ite_t (of_decide_eq_true hc) H
    refine TL_skip rfl rfl rfl rfl rfl rfl rfl ?_
    refine TL_skip rfl rfl rfl rfl rfl rfl rfl ?_
    refine TL_skip rfl rfl rfl rfl rfl rfl rfl ?_
    refine TL_v rfl rfl rfl (V_pick (b := true) rfl rfl) ?_
    refine TL_v rfl rfl rfl (V_move rfl) ?_
    refine TL_skip rfl rfl rfl rfl rfl rfl rfl ?_
    refine TL_skip rfl rfl rfl rfl rfl rfl rfl ?_
    refine TL_v rfl rfl rfl (V_pick (b := true) rfl rfl) ?_
    refine TL_v rfl rfl rfl (V_move rfl) ?_
    refine TL_skip rfl rfl rfl rfl rfl rfl rfl ?_
    refine TL_skip rfl rfl rfl rfl rfl rfl rfl ?_
    refine TL_v rfl rfl rfl (V_pick (b := true) rfl rfl) ?_
    refine TL_nil ?_
    refine TX_next ?_
    refine TC_cond_t rfl ?_
    refine TC_seq ?_
    refine TC_region ?_
    refine TL_v rfl rfl rfl (V_assign rfl) ?_
    refine TL_v rfl rfl rfl (V_assign rfl) ?_
    refine TL_nil ?_
    refine TX_next ?_
    refine TC_ret ?_
    refine TX_then_ret ?_
    have hrv := Option.some.inj H
    subst hrv
    exact TX_ret (rs := [.tmp 10, .tmp 11]) (vs := [vs ([] : Str), vi 300]) rfl ⟨rfl, rfl, trivial⟩ (fun w' hs' => ⟨(), rfl, Step.left (Step.pulled (is := []) (A := []) hs' rfl)⟩)
  · replace H := ite_f (of_decide_eq_false hc) H
    refine TL_want rfl rfl rfl rfl rfl rfl (V_move rfl) ?_
    refine TL_want rfl rfl rfl rfl rfl rfl (V_len_str rfl Try.underlying9) ?_
    refine TL_want rfl rfl rfl rfl rfl rfl (V_bin rfl rfl (fun w => gtrI w ((context).length : Int) 255)) ?_
    refine TL_v rfl rfl rfl (V_pick (b := false) rfl rfl) ?_
    refine TL_v rfl rfl rfl (V_move rfl) ?_
    refine TL_fork (d := 20) (b := (decide (255 < ((context).length : Int)))) rfl (fun hc => ?_) (fun hc => ?_)
    · replace H := ite_t (of_decide_eq_true hc) H
      refine TL_skip rfl rfl rfl rfl rfl rfl rfl ?_
      refine TL_skip rfl rfl rfl rfl rfl rfl rfl ?_
      refine TL_v rfl rfl rfl (V_pick (b := true) rfl rfl) ?_
      refine TL_v rfl rfl rfl (V_move rfl) ?_
      refine TL_skip rfl rfl rfl rfl rfl rfl rfl ?_
      refine TL_skip rfl rfl rfl rfl rfl rfl rfl ?_
      refine TL_v rfl rfl rfl (V_pick (b := true) rfl rfl) ?_
      refine TL_nil ?_
      refine TX_next ?_
      refine TC_cond_t rfl ?_
      refine TC_seq ?_
      refine TC_region ?_
      refine TL_v rfl rfl rfl (V_assign rfl) ?_
      refine TL_v rfl rfl rfl (V_assign rfl) ?_
      refine TL_nil ?_
      refine TX_next ?_
      refine TC_ret ?_
      refine TX_then_ret ?_
      have hrv := Option.some.inj H
      subst hrv
      exact TX_ret (rs := [.tmp 10, .tmp 11]) (vs := [vs ([] : Str), vi 300]) rfl ⟨rfl, rfl, trivial⟩ (fun w' hs' => ⟨(), rfl, Step.left (Step.pulled (is := []) (A := []) hs' rfl)⟩)
    · replace H := ite_f (of_decide_eq_false hc) H
      refine TL_want rfl rfl rfl rfl rfl rfl (V_move rfl) ?_
      refine TL_want rfl rfl rfl rfl rfl rfl (V_bin rfl rfl (fun w => lssI w size 0)) ?_
      refine TL_v rfl rfl rfl (V_pick (b := false) rfl rfl) ?_
      refine TL_v rfl rfl rfl (V_move rfl) ?_
      refine TL_fork (d := 24) (b := (decide (size < 0))) rfl (fun hc => ?_) (fun hc => ?_)
      · replace H := ite_t (of_decide_eq_true hc) H
        refine TL_skip rfl rfl rfl rfl rfl rfl rfl ?_
        refine TL_skip rfl rfl rfl rfl rfl rfl rfl ?_
        refine TL_v rfl rfl rfl (V_pick (b := true) rfl rfl) ?_
        refine TL_nil ?_
        refine TX_next ?_
        refine TC_cond_t rfl ?_
        refine TC_seq ?_
        refine TC_region ?_
        refine TL_v rfl rfl rfl (V_assign rfl) ?_
        refine TL_v rfl rfl rfl (V_assign rfl) ?_
        refine TL_nil ?_
        refine TX_next ?_
        refine TC_ret ?_
        refine TX_then_ret ?_
        have hrv := Option.some.inj H
        subst hrv
        exact TX_ret (rs := [.tmp 10, .tmp 11]) (vs := [vs ([] : Str), vi 300]) rfl ⟨rfl, rfl, trivial⟩ (fun w' hs' => ⟨(), rfl, Step.left (Step.pulled (is := []) (A := []) hs' rfl)⟩)
      · replace H := ite_f (of_decide_eq_false hc) H
        refine TL_want rfl rfl rfl rfl rfl rfl (V_move rfl) ?_
        refine TL_want rfl rfl rfl rfl rfl rfl (V_bin rfl rfl (fun w => gtrI w size 65535)) ?_
        refine TL_v rfl rfl rfl (V_pick (b := false) rfl rfl) ?_
        refine TL_nil ?_
        refine TX_next ?_
        refine TC_cond (b := (decide (65535 < size))) rfl (fun hc => ?_) (fun hc => ?_)
        · replace H := ite_t (of_decide_eq_true hc) H
          refine TC_seq ?_
          refine TC_region ?_
          refine TL_v rfl rfl rfl (V_assign rfl) ?_
          refine TL_v rfl rfl rfl (V_assign rfl) ?_
          refine TL_nil ?_
          refine TX_next ?_
          refine TC_ret ?_
          refine TX_then_ret ?_
          have hrv := Option.some.inj H
          subst hrv
          exact TX_ret (rs := [.tmp 10, .tmp 11]) (vs := [vs ([] : Str), vi 300]) rfl ⟨rfl, rfl, trivial⟩ (fun w' hs' => ⟨(), rfl, Step.left (Step.pulled (is := []) (A := []) hs' rfl)⟩)
        · replace H := ite_f (of_decide_eq_false hc) H
          refine TC_skip ?_
          refine TX_next ?_
          refine TC_seq ?_
          refine TC_region ?_
          refine TL_v rfl rfl rfl (V_move rfl) ?_
          refine TL_v rfl rfl rfl (V_move rfl) ?_
          refine TL_v rfl rfl rfl (V_move rfl) ?_
          obtain ⟨r_1, hr_1, H⟩ := bind_elim H
          refine TL_e rfl rfl rfl (E_call (Γ := Unit) (val := fun g => vs r_1) (mem := fun g => []) (vs := [vi size, vi 2]) (Lin := []) (Ro := []) (is := []) rfl Try.call41 (F41_calls size 2 r_1 hr_1) rfl trivial) (fun g_1 => ?_)
          refine TL_v rfl rfl rfl (V_move rfl) ?_
          obtain ⟨h1, H⟩ := if_elim H
          refine TL_v rfl rfl rfl (V_bin rfl rfl (fun w => addS w ([116#8, 108#8, 115#8, 49#8, 51#8, 32#8] : Str) label h1)) ?_
          obtain ⟨r_2, hr_2, H⟩ := bind_elim H
          refine TL_e rfl rfl rfl (E_call (Γ := Unit) (val := fun g => vs r_2) (mem := fun g => []) (vs := [vs (([116#8, 108#8, 115#8, 49#8, 51#8, 32#8] : Str) ++ label), vi 1]) (Lin := []) (Ro := []) (is := []) rfl Try.call42 (F42_calls (([116#8, 108#8, 115#8, 49#8, 51#8, 32#8] : Str) ++ label) 1 r_2 hr_2) rfl trivial) (fun g_2 => ?_)
          obtain ⟨h2, H⟩ := if_elim H
          refine TL_v rfl rfl rfl (V_bin rfl rfl (fun w => addS w r_1 r_2 h2)) ?_
          refine TL_v rfl rfl rfl (V_move rfl) ?_
          obtain ⟨r_3, hr_3, H⟩ := bind_elim H
          refine TL_e rfl rfl rfl (E_call (Γ := Unit) (val := fun g => vs r_3) (mem := fun g => []) (vs := [vs context, vi 1]) (Lin := []) (Ro := []) (is := []) rfl Try.call42 (F42_calls context 1 r_3 hr_3) rfl trivial) (fun g_3 => ?_)
          obtain ⟨h3, H⟩ := if_elim H
          refine TL_v rfl rfl rfl (V_bin rfl rfl (fun w => addS w (r_1 ++ r_2) r_3 h3)) ?_
          refine TL_v rfl rfl rfl (V_move rfl) ?_
          obtain ⟨r_4, hr_4, H⟩ := bind_elim H
          refine TL_e rfl rfl rfl (E_call (Γ := Unit) (val := fun g => Value.tuple [vs r_4.1, vi r_4.2].toArray) (mem := fun g => []) (vs := [vi bits, vs key, vs ((r_1 ++ r_2) ++ r_3), vi size]) (Lin := []) (Ro := []) (is := []) rfl Try.call40 (F40_calls bits key ((r_1 ++ r_2) ++ r_3) size r_4 hr_4) rfl trivial) (fun g_4 => ?_)
          refine TL_v rfl rfl rfl (V_extract (vs := [vs r_4.1, vi r_4.2]) rfl rfl) ?_
          refine TL_v rfl rfl rfl (V_extract (vs := [vs r_4.1, vi r_4.2]) rfl rfl) ?_
          refine TL_v rfl rfl rfl (V_assign rfl) ?_
          refine TL_v rfl rfl rfl (V_assign rfl) ?_
          refine TL_nil ?_
          refine TX_next ?_
          refine TC.sub (m' := [(10, vs r_4.1), (11, vi r_4.2)]) ⟨rfl, rfl, trivial⟩ ?_
          refine TC_ret ?_
          have hrv := Option.some.inj H
          subst hrv
          exact TX_ret (rs := [.tmp 10, .tmp 11]) (vs := [vs r_4.1, vi r_4.2]) rfl ⟨rfl, rfl, trivial⟩ (fun w' hs' => ⟨(), rfl, Step.left (Step.pulled (is := []) (A := []) hs' rfl)⟩)

end Go.Proofs
end

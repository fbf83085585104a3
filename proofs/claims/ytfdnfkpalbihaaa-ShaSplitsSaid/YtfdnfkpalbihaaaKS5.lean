/-
  Part KS5 of the proofs of this seat: F8, F9, F11, ShaL.
-/
import Derived.Test.YtfdnfkpalbihaaaK2
import Derived.Test.YtfdnfkpalbihaaaKS3
import Derived.Test.YtfdnfkpalbihaaaKS4
section
namespace Go.Proofs
open Go Go.Kx
set_option linter.unusedVariables false
set_option linter.unusedSimpArgs false
def halberdlaw2_ShaEnds.b0 (fill : Int) (k_1 : Int) (s0 : Int × List (BitVec 8)) : Option ((Int × List (BitVec 8)) ⊕ (List (BitVec 8))) :=
  if s0.1 < k_1 then (if 0 ≤ s0.1 ∧ s0.1 < ((k_1).toNat : Int) then (if (s0.1).toNat < (s0.2).length then (ltt (s0.2.set ((s0.1).toNat) (BitVec.ofInt 8 (w64 (fill + (shrI' (w64 (s0.1 * fill)) 3))))) fun (m_1 : List (BitVec 8)) => (ltt (w64 (s0.1 + 1)) fun (i1 : Int) => (some (.inl (i1, m_1))))) else none) else none) else (some (.inr s0.2))

def halberdlaw2_ShaEnds.b2 (k_1 : Int) (t_1 : List (BitVec 8)) (s2 : Int) : Option ((Int) ⊕ (Unit)) :=
  if s2 < k_1 then (if 0 ≤ w64 (s2 + 1) then (if 0 ≤ s2 then (if (w64 (s2 + 1)).toNat ≤ (k_1).toNat then (if (s2).toNat ≤ (w64 (s2 + 1)).toNat then (if (w64 (s2 + 1)).toNat ≤ (t_1).length then ((sha_Hash_Write_nil0 (sub t_1 ((s2).toNat) ((w64 (s2 + 1)).toNat))).bind fun (r_4 : Unit) => (some (.inl (w64 (s2 + 1))))) else none) else none) else none) else none) else none) else (some (.inr ()))

def halberdlaw2_ShaEnds.b3 (k_1 : Int) (t_1 : List (BitVec 8)) (r_2 : Int × Vector (BitVec 64) 8 × Vector (BitVec 64) 80 × List (BitVec 8)) (s3 : Int × Vector (BitVec 64) 8 × List (BitVec 8) × BitVec 64) : Option ((Int × Vector (BitVec 64) 8 × List (BitVec 8) × BitVec 64) ⊕ (Vector (BitVec 64) 8 × List (BitVec 8) × BitVec 64)) :=
  if s3.1 < k_1 then (if 0 ≤ w64 (s3.1 + 1) then (if 0 ≤ s3.1 then (if (w64 (s3.1 + 1)).toNat ≤ (k_1).toNat then (if (s3.1).toNat ≤ (w64 (s3.1 + 1)).toNat then (if (w64 (s3.1 + 1)).toNat ≤ (t_1).length then ((sha_Hash_Write r_2.1 s3.2.1 r_2.2.2.1 s3.2.2.1 s3.2.2.2 (sub t_1 ((s3.1).toNat) ((w64 (s3.1 + 1)).toNat))).bind fun (r_10 : Vector (BitVec 64) 8 × List (BitVec 8) × BitVec 64) => (ltt (w64 (s3.1 + 1)) fun (i2 : Int) => (some (.inl (i2, r_10.1, r_10.2.1, r_10.2.2))))) else none) else none) else none) else none) else none) else (some (.inr (s3.2.1, s3.2.2.1, s3.2.2.2)))

def halberdlaw2_ShaEnds.b1 (k_1 : Int) (t_1 : List (BitVec 8)) (s1 : Int) : Option ((Int) ⊕ ((Unit) ⊕ (Bool))) :=
  if s1 ≤ 384 then ((sha_New s1).bind fun (r_2 : (Unit) ⊕ (Int × Vector (BitVec 64) 8 × Vector (BitVec 64) 80 × List (BitVec 8))) => (match r_2 with | .inl r_2 => ((halberdlaw0_Num 200).bind fun (r_3 : Int) => (if r_3 ≠ 0 then (some (.inr (.inr false))) else ((loop (halberdlaw2_ShaEnds.b2 k_1 t_1) BIG 0).bind fun (t_3 : Unit) => (if (t_1).length = (k_1).toNat then ((sha_Sum s1 t_1).bind fun (r_5 : Str × Int) => ((halberdlaw0_Num r_5.2).bind fun (r_6 : Int) => (if r_6 ≠ 0 then (some (.inr (.inr false))) else ((sha_Hash_Sum_nil0).bind fun (r_7 : Unit) => (if ([] : Str) ≠ r_5.1 then (some (.inr (.inr false))) else (if (t_1).length = (k_1).toNat then ((halberdref1_Hash s1 t_1).bind fun (r_8 : Str) => (if r_5.1 ≠ r_8 then (some (.inr (.inr false))) else (ltt (w64 (s1 + 128)) fun (bits1 : Int) => (some (.inl bits1))))) else none)))))) else none)))) | .inr r_2 => ((halberdlaw0_Num 0).bind fun (r_9 : Int) => (if r_9 ≠ 0 then (some (.inr (.inr false))) else ((loop (halberdlaw2_ShaEnds.b3 k_1 t_1 r_2) BIG (0, r_2.2.1, r_2.2.2.2, 0#64)).bind fun (t_4 : Vector (BitVec 64) 8 × List (BitVec 8) × BitVec 64) => (if (t_1).length = (k_1).toNat then ((sha_Sum s1 t_1).bind fun (r_11 : Str × Int) => ((halberdlaw0_Num r_11.2).bind fun (r_12 : Int) => (if r_12 ≠ 0 then (some (.inr (.inr false))) else ((sha_Hash_Sum r_2.1 t_4.1 r_2.2.2.1 t_4.2.1 t_4.2.2).bind fun (r_13 : Str) => (if r_13 ≠ r_11.1 then (some (.inr (.inr false))) else (if (t_1).length = (k_1).toNat then ((halberdref1_Hash s1 t_1).bind fun (r_14 : Str) => (if r_11.1 ≠ r_14 then (some (.inr (.inr false))) else (ltt (w64 (s1 + 128)) fun (bits2 : Int) => (some (.inl bits2))))) else none)))))) else none)))))) else (some (.inr (.inl ())))

def halberdlaw2_ShaEnds (many : Int) (fill : Int) : Option (Bool) :=
  (halberdlaw2_awake).bind fun (r_1 : Bool) => (if (!r_1) = true then (some false) else (ltt (iop (· &&& ·) many 255) fun (k_1 : Int) => (if 0 ≤ k_1 ∧ k_1 ≤ 17592186044416 then ((loop (halberdlaw2_ShaEnds.b0 fill k_1) BIG (0, List.replicate ((k_1).toNat) 0#8)).bind fun (t_1 : List (BitVec 8)) => ((loop (halberdlaw2_ShaEnds.b1 k_1 t_1) BIG 256).bind fun (t_2 : (Unit) ⊕ (Bool)) => (match t_2 with | .inl t_2 => (some true) | .inr rv => some rv))) else none)))

set_option maxHeartbeats 4000000 in
set_option maxRecDepth 20000 in
theorem F8_calls (many : Int) (fill : Int) (r : Bool) (H : halberdlaw2_ShaEnds many fill = some r) :
    Does Try.prog 8 [vi many, vi fill] [] [] (Γ := Unit) (fun g => vb r) (fun g => []) := by
  intro w hmem hro hd
  refine calls_of (N := 84) (m0 := [(0, vi many), (1, vi fill)]) Try.func8 rfl Try.ntmps8 (argM_ok [vi many, vi fill]) rfl hmem hro hd ?_
  unfold halberdlaw2_ShaEnds at H
  refine TC_seq ?_
  refine TC_region ?_
  refine TL_v rfl rfl rfl (V_assign rfl) ?_
  refine TL_nil ?_
  refine TX_next ?_
  refine TC_seq ?_
  refine TC_seq ?_
  refine TC_region ?_
  obtain ⟨r_1, hr_1, H⟩ := bind_elim H
  refine TL_e rfl rfl rfl (E_call (Γ := Unit) (val := fun g => vb r_1) (mem := fun g => []) (vs := []) (Lin := []) (Ro := []) (is := []) rfl Try.call29 (F29_calls r_1 hr_1) rfl trivial) (fun g_1 => ?_)
  refine TL_v rfl rfl rfl (V_un rfl (fun w => notB w r_1)) ?_
  refine TL_nil ?_
  refine TX_next ?_
  refine TC_cond (b := (!r_1)) rfl (fun hc => ?_) (fun hc => ?_)
  · replace H := ite_t hc H
    refine TC_seq ?_
    refine TC_region ?_
    refine TL_v rfl rfl rfl (V_assign rfl) ?_
    refine TL_nil ?_
    refine TX_next ?_
    refine TC_ret ?_
    refine TX_then_ret ?_
    have hrv := Option.some.inj H
    subst hrv
    exact TX_ret (rs := [.tmp 4]) (vs := [vb false]) rfl ⟨rfl, trivial⟩ (fun w' hs' => ⟨(), rfl, Step.left (Step.pulled (is := []) (A := []) hs' rfl)⟩)
  · replace H := ite_f (Bool.eq_false_iff.1 hc) H
    refine TC_skip ?_
    refine TX_next ?_
    refine TC_seq ?_
    refine TC_region ?_
    refine TL_v rfl rfl rfl (V_move rfl) ?_
    refine TL_v rfl rfl rfl (V_bin rfl rfl (fun w => andI w many 255)) ?_
    refine TL_v rfl rfl rfl (V_assign rfl) ?_
    obtain ⟨k_1, hk_1, H⟩ := ltt_elim H
    refine TL_re (d := 5) (v := vi (iop (· &&& ·) many 255)) (v' := vi k_1) rfl (congrArg vi hk_1) ?_
    refine TL_nil ?_
    refine TX_next ?_
    refine TC_seq ?_
    refine TC_region ?_
    refine TL_v rfl rfl rfl (V_move rfl) ?_
    obtain ⟨h1, H⟩ := if_elim H
    refine TL_e rfl rfl rfl (E_mk1 rfl rfl Try.underlying30 TryI.inf5 (z := v8 0#8) rfl rfl rfl (B := 1) rfl h1.1 (Int.le_refl _) (by have := h1; omega) (by have := h1; omega) (n' := (k_1).toNat) (c' := (k_1).toNat) rfl rfl (cs := e8 (List.replicate ((k_1).toNat) 0#8)) (rep_map (f := v8))) (fun b1 => ?_)
    refine TL_v rfl rfl rfl (V_assign rfl) ?_
    refine TL_nil ?_
    refine TX_next ?_
    refine TC_seq ?_
    refine TC_seq ?_
    refine TC_region ?_
    refine TL_v rfl rfl rfl (V_assign rfl) ?_
    refine TL_nil ?_
    refine TX_next ?_
    refine TC_block ?_
    obtain ⟨t_1, Hl, H⟩ := bind_elim H
    refine TC.sub (m' := [(1, vi fill), (5, vi k_1), (6, sl (some (b1, 0)) ((k_1).toNat) ((k_1).toNat)), (7, vi 0)]) ⟨rfl, rfl, rfl, rfl, trivial⟩ ?_
    refine TC.pull (is := [0]) (L' := [⟨some (b1, 0), e8 (List.replicate ((k_1).toNat) 0#8)⟩]) rfl ?_
    refine TC_loopL (id := 0) (body := (halberdlaw2_ShaEnds.b0 fill k_1)) (σ := Int × List (BitVec 8)) (Γ := Unit) (Γx := Unit) (fun s0 g0_ => [(1, vi fill), (5, vi k_1), (6, sl (some (b1, 0)) ((k_1).toNat) ((k_1).toNat)), (7, vi s0.1)]) (fun s0 g0_ => [⟨some (b1, 0), e8 s0.2⟩]) (fun t g => [(5, vi k_1), (6, sl (some (b1, 0)) ((k_1).toNat) ((k_1).toNat))]) (fun t g => [⟨some (b1, 0), e8 t⟩]) ?_ BIG (0, List.replicate ((k_1).toNat) 0#8) () t_1 Hl ?_
    · intro s0 g0_ r1 H K hK hE
      unfold halberdlaw2_ShaEnds.b0 at H
      refine TC_seq ?_
      refine TC_seq ?_
      refine TC_region ?_
      refine TL_v rfl rfl rfl (V_move rfl) ?_
      refine TL_v rfl rfl rfl (V_move rfl) ?_
      refine TL_v rfl rfl rfl (V_bin rfl rfl (fun w => lssI w s0.1 k_1)) ?_
      refine TL_nil ?_
      refine TX_next ?_
      refine TC_cond (b := (decide (s0.1 < k_1))) rfl (fun hc => ?_) (fun hc => ?_)
      · replace H := ite_t (of_decide_eq_true hc) H
        refine TC_skip ?_
        refine TX_next ?_
        refine TC_seq ?_
        refine TC_block ?_
        refine TC_region ?_
        refine TL_v rfl rfl rfl (V_move rfl) ?_
        refine TL_v rfl rfl rfl (V_move rfl) ?_
        refine TL_v rfl rfl rfl (V_move rfl) ?_
        refine TL_v rfl rfl rfl (V_move rfl) ?_
        refine TL_v rfl rfl rfl (V_move rfl) ?_
        refine TL_v rfl rfl rfl (V_bin rfl rfl (fun w => mulI w s0.1 fill)) ?_
        refine TL_v rfl rfl rfl (V_bin rfl rfl (fun w => shrI w (w64 (s0.1 * fill)) .u64 3 (by decide))) ?_
        refine TL_v rfl rfl rfl (V_bin rfl rfl (fun w => addI w fill (shrI' (w64 (s0.1 * fill)) 3))) ?_
        refine TL_v rfl rfl rfl (V_conv rfl (fun w => cvI8 w _ _ Try.underlying5 (TryI.und3) .i64 (w64 (fill + (shrI' (w64 (s0.1 * fill)) 3))))) ?_
        obtain ⟨h2, H⟩ := if_elim H
        obtain ⟨h3, H⟩ := if_elim H
        refine TL_v rfl rfl rfl (V_idxSl (i := s0.1) rfl rfl Try.underlying30 TryI.inf5 rfl (fun _ h => by cases h) h2.1 h2.2 (k := (s0.1).toNat) (km1 _)) ?_
        refine TL_n rfl rfl (E_store (j := 0) rfl rfl TryI.inf5 rfl rfl rfl (by simpa using h3) (cs' := e8 (s0.2.set ((s0.1).toNat) (BitVec.ofInt 8 (w64 (fill + (shrI' (w64 (s0.1 * fill)) 3)))))) (set_map (f := v8) (l := s0.2) (k := ((s0.1).toNat)) (x := (BitVec.ofInt 8 (w64 (fill + (shrI' (w64 (s0.1 * fill)) 3))))))) (fun _ => ?_)
        obtain ⟨m_1, hm_1, H⟩ := ltt_elim H
        refine TL_reE (j := 0) (A := some (b1, 0)) (cs := e8 (s0.2.set ((s0.1).toNat) (BitVec.ofInt 8 (w64 (fill + (shrI' (w64 (s0.1 * fill)) 3)))))) (cs' := e8 m_1) rfl (congrArg (e8) hm_1) ?_
        refine TL_nil ?_
        refine TX_block_normal ?_
        refine TX_next ?_
        refine TC_region ?_
        refine TL_v rfl rfl rfl (V_move rfl) ?_
        refine TL_v rfl rfl rfl (V_bin rfl rfl (fun w => addI w s0.1 1)) ?_
        refine TL_v rfl rfl rfl (V_assign rfl) ?_
        obtain ⟨i1, hi1, H⟩ := ltt_elim H
        refine TL_re (d := 7) (v := vi (w64 (s0.1 + 1))) (v' := vi i1) rfl (congrArg vi hi1) ?_
        refine TL_nil ?_
        refine TX.sub (m' := [(1, vi fill), (5, vi k_1), (6, sl (some (b1, 0)) ((k_1).toNat) ((k_1).toNat)), (7, vi i1)]) ⟨rfl, rfl, rfl, rfl, trivial⟩ ?_
        refine TX.pull (is := [0]) (L' := [⟨some (b1, 0), e8 m_1⟩]) rfl ?_
        obtain rfl := Option.some.inj H
        exact fun a w hs => hK (i1, m_1) rfl () a w hs
      · replace H := ite_f (of_decide_eq_false hc) H
        refine TC_exit ?_
        refine TX_then_exit ?_
        refine TX_then_exit ?_
        refine TX.sub (m' := [(5, vi k_1), (6, sl (some (b1, 0)) ((k_1).toNat) ((k_1).toNat))]) ⟨rfl, rfl, trivial⟩ ?_
        refine TX.pull (is := [0]) (L' := [⟨some (b1, 0), e8 s0.2⟩]) rfl ?_
        obtain rfl := Option.some.inj H
        exact hE s0.2 rfl ()
    · intro g
      refine TX_block_exit ?_
      refine TX_next ?_
      refine TC_seq ?_
      refine TC_seq ?_
      refine TC_region ?_
      refine TL_v rfl rfl rfl (V_assign rfl) ?_
      refine TL_nil ?_
      refine TX_next ?_
      refine TC_block ?_
      obtain ⟨t_2, Hl, H⟩ := bind_elim H
      refine TC.sub (m' := [(5, vi k_1), (6, sl (some (b1, 0)) ((k_1).toNat) ((k_1).toNat)), (8, vi 256)]) ⟨rfl, rfl, rfl, trivial⟩ ?_
      refine TC.pull (is := [0]) (L' := [⟨some (b1, 0), e8 t_1⟩]) rfl ?_
      refine TC_loopR (id := 2) (body := (halberdlaw2_ShaEnds.b1 k_1 t_1)) (σ := Int) (Γ := Unit) (Γx := Unit) (fun s1 g1_ => [(5, vi k_1), (6, sl (some (b1, 0)) ((k_1).toNat) ((k_1).toNat)), (8, vi s1)]) (fun s1 g1_ => [⟨some (b1, 0), e8 t_1⟩]) (fun t g => []) (fun t g => []) r ?_ BIG 256 () t_2 Hl ?_
      · intro s1 g1_ r1 H K hK hE hR1
        unfold halberdlaw2_ShaEnds.b1 at H
        refine TC_seq ?_
        refine TC_seq ?_
        refine TC_region ?_
        refine TL_v rfl rfl rfl (V_move rfl) ?_
        refine TL_v rfl rfl rfl (V_bin rfl rfl (fun w => leqI w s1 384)) ?_
        refine TL_nil ?_
        refine TX_next ?_
        refine TC_cond (b := (decide (s1 ≤ 384))) rfl (fun hc => ?_) (fun hc => ?_)
        · replace H := ite_t (of_decide_eq_true hc) H
          refine TC_skip ?_
          refine TX_next ?_
          refine TC_seq ?_
          refine TC_block ?_
          refine TC_seq ?_
          refine TC_region ?_
          refine TL_v rfl rfl rfl (V_move rfl) ?_
          obtain ⟨r_2, hr_2, H⟩ := bind_elim H
          rcases r_2 with r_2 | r_2
          · dsimp only at H
            refine TL_e rfl rfl rfl (E_call (Γ := Unit × (Nat × Adr)) (val := fun g => Value.tuple [Value.pointer none, vi 200].toArray) (mem := fun g => []) (vs := [vi s1]) (Lin := []) (Ro := []) (is := []) rfl Try.call30 (F30_calls s1 (.inl r_2) hr_2) rfl trivial) (fun g_2 => ?_)
            refine TL_v rfl rfl rfl (V_move rfl) ?_
            refine TL_v rfl rfl rfl (V_extract (vs := [Value.pointer none, vi 200]) rfl rfl) ?_
            refine TL_v rfl rfl rfl (V_extract (vs := [Value.pointer none, vi 200]) rfl rfl) ?_
            refine TL_v rfl rfl rfl (V_assign rfl) ?_
            refine TL_v rfl rfl rfl (V_assign rfl) ?_
            refine TL_nil ?_
            refine TX_next ?_
            refine TC_seq ?_
            refine TC_seq ?_
            refine TC_region ?_
            refine TL_v rfl rfl rfl (V_move rfl) ?_
            obtain ⟨r_3, hr_3, H⟩ := bind_elim H
            refine TL_e rfl rfl rfl (E_call (Γ := Unit) (val := fun g => vi r_3) (mem := fun g => []) (vs := [vi 200]) (Lin := []) (Ro := []) (is := []) rfl Try.call25 (F25_calls 200 r_3 hr_3) rfl trivial) (fun g_3 => ?_)
            refine TL_v rfl rfl rfl (V_bin rfl rfl (fun w => neqI w r_3 0)) ?_
            refine TL_nil ?_
            refine TX_next ?_
            refine TC_cond (b := (decide (r_3 ≠ 0))) rfl (fun hc => ?_) (fun hc => ?_)
            · replace H := ite_t (of_decide_eq_true hc) H
              refine TC_seq ?_
              refine TC_region ?_
              refine TL_v rfl rfl rfl (V_assign rfl) ?_
              refine TL_nil ?_
              refine TX_next ?_
              refine TC_ret ?_
              refine TX_then_ret ?_
              refine TX_block_ret ?_
              refine TX_then_ret ?_
              refine TX_then_ret ?_
              refine TX_block_ret ?_
              refine TX_then_ret ?_
              have hrv := (hR1 _ (Option.some.inj H).symm)
              subst hrv
              exact TX_ret (rs := [.tmp 4]) (vs := [vb false]) rfl ⟨rfl, trivial⟩ (fun w' hs' => ⟨(), rfl, Step.left (Step.pulled (is := []) (A := []) hs' rfl)⟩)
            · replace H := ite_f (of_decide_eq_false hc) H
              refine TC_skip ?_
              refine TX_next ?_
              refine TC_seq ?_
              refine TC_seq ?_
              refine TC_region ?_
              refine TL_v rfl rfl rfl (V_assign rfl) ?_
              refine TL_nil ?_
              refine TX_next ?_
              refine TC_block ?_
              obtain ⟨t_3, Hl, H⟩ := bind_elim H
              refine TC.sub (m' := [(5, vi k_1), (6, sl (some (b1, 0)) ((k_1).toNat) ((k_1).toNat)), (8, vi s1), (9, Value.pointer none), (11, vi 0)]) ⟨rfl, rfl, rfl, rfl, rfl, trivial⟩ ?_
              refine TC.pull (is := [0]) (L' := [⟨some (b1, 0), e8 t_1⟩]) rfl ?_
              refine TC_loopL (id := 4) (body := (halberdlaw2_ShaEnds.b2 k_1 t_1)) (σ := Int) (Γ := Unit) (Γx := Unit) (fun s2 g2_ => [(5, vi k_1), (6, sl (some (b1, 0)) ((k_1).toNat) ((k_1).toNat)), (8, vi s1), (9, Value.pointer none), (11, vi s2)]) (fun s2 g2_ => [⟨some (b1, 0), e8 t_1⟩]) (fun t g => [(5, vi k_1), (6, sl (some (b1, 0)) ((k_1).toNat) ((k_1).toNat)), (8, vi s1), (9, Value.pointer none)]) (fun t g => [⟨some (b1, 0), e8 t_1⟩]) ?_ BIG 0 () t_3 Hl ?_
              · intro s2 g2_ r1 H K hK hE
                unfold halberdlaw2_ShaEnds.b2 at H
                refine TC_seq ?_
                refine TC_seq ?_
                refine TC_region ?_
                refine TL_v rfl rfl rfl (V_move rfl) ?_
                refine TL_v rfl rfl rfl (V_move rfl) ?_
                refine TL_v rfl rfl rfl (V_bin rfl rfl (fun w => lssI w s2 k_1)) ?_
                refine TL_nil ?_
                refine TX_next ?_
                refine TC_cond (b := (decide (s2 < k_1))) rfl (fun hc => ?_) (fun hc => ?_)
                · replace H := ite_t (of_decide_eq_true hc) H
                  refine TC_skip ?_
                  refine TX_next ?_
                  refine TC_seq ?_
                  refine TC_block ?_
                  refine TC_region ?_
                  refine TL_v rfl rfl rfl (V_move rfl) ?_
                  refine TL_v rfl rfl rfl (V_move rfl) ?_
                  refine TL_v rfl rfl rfl (V_move rfl) ?_
                  refine TL_v rfl rfl rfl (V_move rfl) ?_
                  refine TL_v rfl rfl rfl (V_bin rfl rfl (fun w => addI w s2 1)) ?_
                  obtain ⟨h4, H⟩ := if_elim H
                  obtain ⟨h5, H⟩ := if_elim H
                  obtain ⟨h6, H⟩ := if_elim H
                  obtain ⟨h7, H⟩ := if_elim H
                  refine TL_v rfl rfl rfl (V_sliceVw0 (l := (s2).toNat) (h := (w64 (s2 + 1)).toNat) rfl Try.underlying30 TryI.inf5 rfl (Bnd.some' (i := s2) rfl h5) (Bnd.some' (i := w64 (s2 + 1)) rfl h4) h7 h6) ?_
                  obtain ⟨h8, H⟩ := if_elim H
                  refine TL_v rfl rfl rfl (V_b2s rfl Try.underlying30 Try.underlying5 Try.underlying9 (srcVw (lst := t_1) (Src.own (j := 0) rfl) h6) (sub_length h8)) ?_
                  obtain ⟨r_4, hr_4, H⟩ := bind_elim H
                  refine TL_e rfl rfl rfl (E_call (Γ := Unit) (val := fun g => Value.tuple [].toArray) (mem := fun g => []) (vs := [Value.pointer none, vs (sub t_1 ((s2).toNat) ((w64 (s2 + 1)).toNat))]) (Lin := []) (Ro := []) (is := []) rfl Try.call32 (F32_nil0_calls (sub t_1 ((s2).toNat) ((w64 (s2 + 1)).toNat)) r_4 hr_4) rfl trivial) (fun g_4 => ?_)
                  refine TL_nil ?_
                  refine TX_block_normal ?_
                  refine TX_next ?_
                  refine TC_region ?_
                  refine TL_v rfl rfl rfl (V_move rfl) ?_
                  refine TL_v rfl rfl rfl (V_bin rfl rfl (fun w => addI w s2 1)) ?_
                  refine TL_v rfl rfl rfl (V_assign rfl) ?_
                  refine TL_nil ?_
                  refine TX.sub (m' := [(5, vi k_1), (6, sl (some (b1, 0)) ((k_1).toNat) ((k_1).toNat)), (8, vi s1), (9, Value.pointer none), (11, vi (w64 (s2 + 1)))]) ⟨rfl, rfl, rfl, rfl, rfl, trivial⟩ ?_
                  refine TX.pull (is := [0]) (L' := [⟨some (b1, 0), e8 t_1⟩]) rfl ?_
                  obtain rfl := Option.some.inj H
                  exact fun a w hs => hK (w64 (s2 + 1)) rfl () a w hs
                · replace H := ite_f (of_decide_eq_false hc) H
                  refine TC_exit ?_
                  refine TX_then_exit ?_
                  refine TX_then_exit ?_
                  refine TX.sub (m' := [(5, vi k_1), (6, sl (some (b1, 0)) ((k_1).toNat) ((k_1).toNat)), (8, vi s1), (9, Value.pointer none)]) ⟨rfl, rfl, rfl, rfl, trivial⟩ ?_
                  refine TX.pull (is := [0]) (L' := [⟨some (b1, 0), e8 t_1⟩]) rfl ?_
                  obtain rfl := Option.some.inj H
                  exact hE () rfl ()
              · intro g
                refine TX_block_exit ?_
                refine TX_next ?_
                refine TC_seq ?_
                refine TC_region ?_
                refine TL_v rfl rfl rfl (V_move rfl) ?_
                refine TL_v rfl rfl rfl (V_move rfl) ?_
                obtain ⟨h9, H⟩ := if_elim H
                refine TL_v rfl rfl rfl (V_b2s rfl Try.underlying30 Try.underlying5 Try.underlying9 (Src.own (j := 0) rfl) h9) ?_
                obtain ⟨r_5, hr_5, H⟩ := bind_elim H
                refine TL_e rfl rfl rfl (E_call (Γ := Unit) (val := fun g => Value.tuple [vs r_5.1, vi r_5.2].toArray) (mem := fun g => []) (vs := [vi s1, vs t_1]) (Lin := []) (Ro := []) (is := []) rfl Try.call27 (F27_calls s1 t_1 r_5 hr_5) rfl trivial) (fun g_5 => ?_)
                refine TL_v rfl rfl rfl (V_move rfl) ?_
                refine TL_v rfl rfl rfl (V_extract (vs := [vs r_5.1, vi r_5.2]) rfl rfl) ?_
                refine TL_v rfl rfl rfl (V_extract (vs := [vs r_5.1, vi r_5.2]) rfl rfl) ?_
                refine TL_v rfl rfl rfl (V_assign rfl) ?_
                refine TL_v rfl rfl rfl (V_assign rfl) ?_
                refine TL_nil ?_
                refine TX_next ?_
                refine TC_seq ?_
                refine TC_region ?_
                refine TL_v rfl rfl rfl (V_move rfl) ?_
                obtain ⟨r_6, hr_6, H⟩ := bind_elim H
                refine TL_e rfl rfl rfl (E_call (Γ := Unit) (val := fun g => vi r_6) (mem := fun g => []) (vs := [vi r_5.2]) (Lin := []) (Ro := []) (is := []) rfl Try.call25 (F25_calls r_5.2 r_6 hr_6) rfl trivial) (fun g_6 => ?_)
                refine TL_v rfl rfl rfl (V_bin rfl rfl (fun w => neqI w r_6 0)) ?_
                refine TL_v rfl rfl rfl (V_move rfl) ?_
                refine TL_fork (d := 70) (b := (decide (r_6 ≠ 0))) rfl (fun hc => ?_) (fun hc => ?_)
                · replace H := ite_t (of_decide_eq_true hc) H
                  refine TL_skip rfl rfl rfl rfl rfl rfl rfl ?_
                  refine TL_skip rfl rfl rfl rfl rfl rfl rfl ?_
                  refine TL_skip rfl rfl rfl rfl rfl rfl rfl ?_
                  refine TL_skip rfl rfl rfl rfl rfl rfl rfl ?_
                  refine TL_v rfl rfl rfl (V_pick (b := true) rfl rfl) ?_
                  refine TL_v rfl rfl rfl (V_move rfl) ?_
                  refine TL_skip rfl rfl rfl rfl rfl rfl rfl ?_
                  refine TL_skip rfl rfl rfl rfl rfl rfl rfl ?_
                  refine TL_skip rfl rfl rfl rfl rfl rfl rfl ?_
                  refine TL_skip rfl rfl rfl rfl rfl rfl rfl ?_
                  refine TL_skip rfl rfl rfl rfl rfl rfl rfl ?_
                  refine TL_skip rfl rfl rfl rfl rfl rfl rfl ?_
                  refine TL_v rfl rfl rfl (V_pick (b := true) rfl rfl) ?_
                  refine TL_nil ?_
                  refine TX_next ?_
                  refine TC.sub (m' := [(5, vi k_1), (6, sl (some (b1, 0)) ((k_1).toNat) ((k_1).toNat)), (8, vi s1), (83, vb true)]) ⟨rfl, rfl, rfl, rfl, trivial⟩ ?_
                  refine TC_cond_t rfl ?_
                  refine TC_seq ?_
                  refine TC_region ?_
                  refine TL_v rfl rfl rfl (V_assign rfl) ?_
                  refine TL_nil ?_
                  refine TX_next ?_
                  refine TC_ret ?_
                  refine TX_block_ret ?_
                  refine TX_then_ret ?_
                  refine TX_then_ret ?_
                  refine TX_block_ret ?_
                  refine TX_then_ret ?_
                  have hrv := (hR1 _ (Option.some.inj H).symm)
                  subst hrv
                  exact TX_ret (rs := [.tmp 4]) (vs := [vb false]) rfl ⟨rfl, trivial⟩ (fun w' hs' => ⟨(), rfl, Step.left (Step.pulled (is := []) (A := []) hs' rfl)⟩)
                · replace H := ite_f (of_decide_eq_false hc) H
                  refine TL_want rfl rfl rfl rfl rfl rfl (V_move rfl) ?_
                  obtain ⟨r_7, hr_7, H⟩ := bind_elim H
                  refine TL_wantE rfl rfl rfl rfl rfl rfl (E_call (Γ := Unit) (val := fun g => vs ([] : Str)) (mem := fun g => []) (vs := [Value.pointer none]) (Lin := []) (Ro := []) (is := []) rfl Try.call33 (F33_nil0_calls r_7 hr_7) rfl trivial) (fun g_7 => ?_)
                  refine TL_want rfl rfl rfl rfl rfl rfl (V_move rfl) ?_
                  refine TL_want rfl rfl rfl rfl rfl rfl (V_bin rfl rfl (fun w => neqS w ([] : Str) r_5.1)) ?_
                  refine TL_v rfl rfl rfl (V_pick (b := false) rfl rfl) ?_
                  refine TL_v rfl rfl rfl (V_move rfl) ?_
                  refine TL_fork (d := 76) (b := (decide (([] : Str) ≠ r_5.1))) rfl (fun hc => ?_) (fun hc => ?_)
                  · replace H := ite_t (of_decide_eq_true hc) H
                    refine TL_skip rfl rfl rfl rfl rfl rfl rfl ?_
                    refine TL_skip rfl rfl rfl rfl rfl rfl rfl ?_
                    refine TL_skip rfl rfl rfl rfl rfl rfl rfl ?_
                    refine TL_skip rfl rfl rfl rfl rfl rfl rfl ?_
                    refine TL_skip rfl rfl rfl rfl rfl rfl rfl ?_
                    refine TL_skip rfl rfl rfl rfl rfl rfl rfl ?_
                    refine TL_v rfl rfl rfl (V_pick (b := true) rfl rfl) ?_
                    refine TL_nil ?_
                    refine TX_next ?_
                    refine TC.sub (m' := [(5, vi k_1), (6, sl (some (b1, 0)) ((k_1).toNat) ((k_1).toNat)), (8, vi s1), (83, vb true)]) ⟨rfl, rfl, rfl, rfl, trivial⟩ ?_
                    refine TC_cond_t rfl ?_
                    refine TC_seq ?_
                    refine TC_region ?_
                    refine TL_v rfl rfl rfl (V_assign rfl) ?_
                    refine TL_nil ?_
                    refine TX_next ?_
                    refine TC_ret ?_
                    refine TX_block_ret ?_
                    refine TX_then_ret ?_
                    refine TX_then_ret ?_
                    refine TX_block_ret ?_
                    refine TX_then_ret ?_
                    have hrv := (hR1 _ (Option.some.inj H).symm)
                    subst hrv
                    exact TX_ret (rs := [.tmp 4]) (vs := [vb false]) rfl ⟨rfl, trivial⟩ (fun w' hs' => ⟨(), rfl, Step.left (Step.pulled (is := []) (A := []) hs' rfl)⟩)
                  · replace H := ite_f (of_decide_eq_false hc) H
                    refine TL_want rfl rfl rfl rfl rfl rfl (V_move rfl) ?_
                    refine TL_want rfl rfl rfl rfl rfl rfl (V_move rfl) ?_
                    refine TL_want rfl rfl rfl rfl rfl rfl (V_move rfl) ?_
                    obtain ⟨h10, H⟩ := if_elim H
                    refine TL_want rfl rfl rfl rfl rfl rfl (V_b2s rfl Try.underlying30 Try.underlying5 Try.underlying9 (Src.own (j := 0) rfl) h10) ?_
                    obtain ⟨r_8, hr_8, H⟩ := bind_elim H
                    refine TL_wantE rfl rfl rfl rfl rfl rfl (E_call (Γ := Unit) (val := fun g => vs r_8) (mem := fun g => []) (vs := [vi s1, vs t_1]) (Lin := []) (Ro := []) (is := []) rfl Try.call34 (F34_calls s1 t_1 r_8 hr_8) rfl trivial) (fun g_8 => ?_)
                    refine TL_want rfl rfl rfl rfl rfl rfl (V_bin rfl rfl (fun w => neqS w r_5.1 r_8)) ?_
                    refine TL_v rfl rfl rfl (V_pick (b := false) rfl rfl) ?_
                    refine TL_nil ?_
                    refine TX_next ?_
                    refine TC.sub (m' := [(5, vi k_1), (6, sl (some (b1, 0)) ((k_1).toNat) ((k_1).toNat)), (8, vi s1), (83, vb (decide (r_5.1 ≠ r_8)))]) ⟨rfl, rfl, rfl, rfl, trivial⟩ ?_
                    refine TC_cond (b := (decide (r_5.1 ≠ r_8))) rfl (fun hc => ?_) (fun hc => ?_)
                    · replace H := ite_t (of_decide_eq_true hc) H
                      refine TC_seq ?_
                      refine TC_region ?_
                      refine TL_v rfl rfl rfl (V_assign rfl) ?_
                      refine TL_nil ?_
                      refine TX_next ?_
                      refine TC_ret ?_
                      refine TX_block_ret ?_
                      refine TX_then_ret ?_
                      refine TX_then_ret ?_
                      refine TX_block_ret ?_
                      refine TX_then_ret ?_
                      have hrv := (hR1 _ (Option.some.inj H).symm)
                      subst hrv
                      exact TX_ret (rs := [.tmp 4]) (vs := [vb false]) rfl ⟨rfl, trivial⟩ (fun w' hs' => ⟨(), rfl, Step.left (Step.pulled (is := []) (A := []) hs' rfl)⟩)
                    · replace H := ite_f (of_decide_eq_false hc) H
                      refine TC_skip ?_
                      refine TX_block_normal ?_
                      refine TX_next ?_
                      refine TC_region ?_
                      refine TL_v rfl rfl rfl (V_move rfl) ?_
                      refine TL_v rfl rfl rfl (V_bin rfl rfl (fun w => addI w s1 128)) ?_
                      refine TL_v rfl rfl rfl (V_assign rfl) ?_
                      obtain ⟨bits1, hbits1, H⟩ := ltt_elim H
                      refine TL_re (d := 8) (v := vi (w64 (s1 + 128))) (v' := vi bits1) rfl (congrArg vi hbits1) ?_
                      refine TL_nil ?_
                      refine TX.sub (m' := [(5, vi k_1), (6, sl (some (b1, 0)) ((k_1).toNat) ((k_1).toNat)), (8, vi bits1)]) ⟨rfl, rfl, rfl, trivial⟩ ?_
                      refine TX.pull (is := [0]) (L' := [⟨some (b1, 0), e8 t_1⟩]) rfl ?_
                      obtain rfl := Option.some.inj H
                      exact fun a w hs => hK bits1 rfl () a w hs
          · dsimp only at H
            refine TL_e rfl rfl rfl (E_call (Γ := Unit × (Nat × Adr)) (val := fun g => Value.tuple [ptr (some (g.2.1, 0)) 0, vi 0].toArray) (mem := fun g => [⟨some (g.2.1, 0), [vi r_2.1]⟩, ⟨some (g.2.1, 1), e64 r_2.2.1.toList⟩, ⟨some (g.2.1, 9), e64 r_2.2.2.1.toList⟩, ⟨some (g.2.1, 89), [sl g.2.2 ((r_2.2.2.2).length) ((r_2.2.2.2 ++ ([] : List (BitVec 8))).length)]⟩, ⟨g.2.2, e8 (r_2.2.2.2 ++ ([] : List (BitVec 8)))⟩, ⟨some (g.2.1, 90), [v64 0#64]⟩]) (vs := [vi s1]) (Lin := []) (Ro := []) (is := []) rfl Try.call30 (F30_calls s1 (.inr r_2) hr_2) rfl trivial) (fun g_9 => ?_)
            refine TL_v rfl rfl rfl (V_move rfl) ?_
            refine TL_v rfl rfl rfl (V_extract (vs := [ptr (some (g_9.2.1, 0)) 0, vi 0]) rfl rfl) ?_
            refine TL_v rfl rfl rfl (V_extract (vs := [ptr (some (g_9.2.1, 0)) 0, vi 0]) rfl rfl) ?_
            refine TL_v rfl rfl rfl (V_assign rfl) ?_
            refine TL_v rfl rfl rfl (V_assign rfl) ?_
            refine TL_nil ?_
            refine TX_next ?_
            refine TC_seq ?_
            refine TC_seq ?_
            refine TC_region ?_
            refine TL_v rfl rfl rfl (V_move rfl) ?_
            obtain ⟨r_9, hr_9, H⟩ := bind_elim H
            refine TL_e rfl rfl rfl (E_call (Γ := Unit) (val := fun g => vi r_9) (mem := fun g => []) (vs := [vi 0]) (Lin := []) (Ro := []) (is := []) rfl Try.call25 (F25_calls 0 r_9 hr_9) rfl trivial) (fun g_10 => ?_)
            refine TL_v rfl rfl rfl (V_bin rfl rfl (fun w => neqI w r_9 0)) ?_
            refine TL_nil ?_
            refine TX_next ?_
            refine TC_cond (b := (decide (r_9 ≠ 0))) rfl (fun hc => ?_) (fun hc => ?_)
            · replace H := ite_t (of_decide_eq_true hc) H
              refine TC_seq ?_
              refine TC_region ?_
              refine TL_v rfl rfl rfl (V_assign rfl) ?_
              refine TL_nil ?_
              refine TX_next ?_
              refine TC_ret ?_
              refine TX_then_ret ?_
              refine TX_block_ret ?_
              refine TX_then_ret ?_
              refine TX_then_ret ?_
              refine TX_block_ret ?_
              refine TX_then_ret ?_
              have hrv := (hR1 _ (Option.some.inj H).symm)
              subst hrv
              exact TX_ret (rs := [.tmp 4]) (vs := [vb false]) rfl ⟨rfl, trivial⟩ (fun w' hs' => ⟨(), rfl, Step.left (Step.pulled (is := []) (A := []) hs' rfl)⟩)
            · replace H := ite_f (of_decide_eq_false hc) H
              refine TC_skip ?_
              refine TX_next ?_
              refine TC_seq ?_
              refine TC_seq ?_
              refine TC_region ?_
              refine TL_v rfl rfl rfl (V_assign rfl) ?_
              refine TL_nil ?_
              refine TX_next ?_
              refine TC_block ?_
              obtain ⟨t_4, Hl, H⟩ := bind_elim H
              refine TC.sub (m' := [(5, vi k_1), (6, sl (some (b1, 0)) ((k_1).toNat) ((k_1).toNat)), (8, vi s1), (9, ptr (some (g_9.2.1, 0)) 0), (11, vi 0)]) ⟨rfl, rfl, rfl, rfl, rfl, trivial⟩ ?_
              refine TC.pull (is := [6, 0, 0, 0, 0, 0, 0]) (L' := [⟨some (b1, 0), e8 t_1⟩, ⟨some (g_9.2.1, 0), [vi r_2.1]⟩, ⟨some (g_9.2.1, 1), e64 r_2.2.1.toList⟩, ⟨some (g_9.2.1, 9), e64 r_2.2.2.1.toList⟩, ⟨some (g_9.2.1, 89), [sl g_9.2.2 ((r_2.2.2.2).length) ((r_2.2.2.2 ++ ([] : List (BitVec 8))).length)]⟩, ⟨g_9.2.2, e8 (r_2.2.2.2 ++ ([] : List (BitVec 8)))⟩, ⟨some (g_9.2.1, 90), [v64 0#64]⟩]) rfl ?_
              refine TC_loopL (id := 4) (body := (halberdlaw2_ShaEnds.b3 k_1 t_1 r_2)) (σ := Int × Vector (BitVec 64) 8 × List (BitVec 8) × BitVec 64) (Γ := Adr × List (BitVec 8)) (Γx := Adr × List (BitVec 8)) (fun s3 g3_ => [(5, vi k_1), (6, sl (some (b1, 0)) ((k_1).toNat) ((k_1).toNat)), (8, vi s1), (9, ptr (some (g_9.2.1, 0)) 0), (11, vi s3.1)]) (fun s3 g3_ => [⟨some (b1, 0), e8 t_1⟩, ⟨some (g_9.2.1, 0), [vi r_2.1]⟩, ⟨some (g_9.2.1, 1), e64 s3.2.1.toList⟩, ⟨some (g_9.2.1, 9), e64 r_2.2.2.1.toList⟩, ⟨some (g_9.2.1, 89), [sl g3_.1 ((s3.2.2.1).length) ((s3.2.2.1 ++ g3_.2).length)]⟩, ⟨g3_.1, e8 (s3.2.2.1 ++ g3_.2)⟩, ⟨some (g_9.2.1, 90), [v64 s3.2.2.2]⟩]) (fun t g => [(5, vi k_1), (6, sl (some (b1, 0)) ((k_1).toNat) ((k_1).toNat)), (8, vi s1), (9, ptr (some (g_9.2.1, 0)) 0)]) (fun t g => [⟨some (b1, 0), e8 t_1⟩, ⟨some (g_9.2.1, 0), [vi r_2.1]⟩, ⟨some (g_9.2.1, 1), e64 t.1.toList⟩, ⟨some (g_9.2.1, 9), e64 r_2.2.2.1.toList⟩, ⟨some (g_9.2.1, 89), [sl g.1 ((t.2.1).length) ((t.2.1 ++ g.2).length)]⟩, ⟨g.1, e8 (t.2.1 ++ g.2)⟩, ⟨some (g_9.2.1, 90), [v64 t.2.2]⟩]) ?_ BIG (0, r_2.2.1, r_2.2.2.2, 0#64) (g_9.2.2, ([] : List (BitVec 8))) t_4 Hl ?_
              · intro s3 g3_ r1 H K hK hE
                unfold halberdlaw2_ShaEnds.b3 at H
                refine TC_seq ?_
                refine TC_seq ?_
                refine TC_region ?_
                refine TL_v rfl rfl rfl (V_move rfl) ?_
                refine TL_v rfl rfl rfl (V_move rfl) ?_
                refine TL_v rfl rfl rfl (V_bin rfl rfl (fun w => lssI w s3.1 k_1)) ?_
                refine TL_nil ?_
                refine TX_next ?_
                refine TC_cond (b := (decide (s3.1 < k_1))) rfl (fun hc => ?_) (fun hc => ?_)
                · replace H := ite_t (of_decide_eq_true hc) H
                  refine TC_skip ?_
                  refine TX_next ?_
                  refine TC_seq ?_
                  refine TC_block ?_
                  refine TC_region ?_
                  refine TL_v rfl rfl rfl (V_move rfl) ?_
                  refine TL_v rfl rfl rfl (V_move rfl) ?_
                  refine TL_v rfl rfl rfl (V_move rfl) ?_
                  refine TL_v rfl rfl rfl (V_move rfl) ?_
                  refine TL_v rfl rfl rfl (V_bin rfl rfl (fun w => addI w s3.1 1)) ?_
                  obtain ⟨h11, H⟩ := if_elim H
                  obtain ⟨h12, H⟩ := if_elim H
                  obtain ⟨h13, H⟩ := if_elim H
                  obtain ⟨h14, H⟩ := if_elim H
                  refine TL_v rfl rfl rfl (V_sliceVw0 (l := (s3.1).toNat) (h := (w64 (s3.1 + 1)).toNat) rfl Try.underlying30 TryI.inf5 rfl (Bnd.some' (i := s3.1) rfl h12) (Bnd.some' (i := w64 (s3.1 + 1)) rfl h11) h14 h13) ?_
                  obtain ⟨h15, H⟩ := if_elim H
                  refine TL_v rfl rfl rfl (V_b2s rfl Try.underlying30 Try.underlying5 Try.underlying9 (srcVw (lst := t_1) (Src.own (j := 0) rfl) h13) (sub_length h15)) ?_
                  obtain ⟨r_10, hr_10, H⟩ := bind_elim H
                  refine TL_e rfl rfl rfl (E_call (Γ := Adr × List (BitVec 8)) (val := fun g => Value.tuple [].toArray) (mem := fun g => [⟨some (g_9.2.1, 1), e64 r_10.1.toList⟩, ⟨some (g_9.2.1, 89), [sl g.1 ((r_10.2.1).length) ((r_10.2.1 ++ g.2).length)]⟩, ⟨g.1, e8 (r_10.2.1 ++ g.2)⟩, ⟨some (g_9.2.1, 90), [v64 r_10.2.2]⟩]) (vs := [ptr (some (g_9.2.1, 0)) 0, vs (sub t_1 ((s3.1).toNat) ((w64 (s3.1 + 1)).toNat))]) (Lin := [⟨some (g_9.2.1, 1), e64 s3.2.1.toList⟩, ⟨some (g_9.2.1, 89), [sl g3_.1 ((s3.2.2.1).length) ((s3.2.2.1 ++ g3_.2).length)]⟩, ⟨some (g_9.2.1, 90), [v64 s3.2.2.2]⟩, ⟨g3_.1, e8 (s3.2.2.1 ++ g3_.2)⟩]) (Ro := [⟨some (g_9.2.1, 0), [vi r_2.1]⟩, ⟨some (g_9.2.1, 9), e64 r_2.2.2.1.toList⟩]) (is := [2, 3, 4, 3]) rfl Try.call32 (F32_calls g_9.2.1 0 g3_.1 g3_.2 r_2.1 s3.2.1 r_2.2.2.1 s3.2.2.1 s3.2.2.2 (sub t_1 ((s3.1).toNat) ((w64 (s3.1 + 1)).toNat)) r_10 hr_10) rfl ⟨SrcD.own (j := 1) rfl, SrcD.own (j := 2) rfl, trivial⟩) (fun g_11 => ?_)
                  refine TL_nil ?_
                  refine TX_block_normal ?_
                  refine TX_next ?_
                  refine TC_region ?_
                  refine TL_v rfl rfl rfl (V_move rfl) ?_
                  refine TL_v rfl rfl rfl (V_bin rfl rfl (fun w => addI w s3.1 1)) ?_
                  refine TL_v rfl rfl rfl (V_assign rfl) ?_
                  obtain ⟨i2, hi2, H⟩ := ltt_elim H
                  refine TL_re (d := 11) (v := vi (w64 (s3.1 + 1))) (v' := vi i2) rfl (congrArg vi hi2) ?_
                  refine TL_nil ?_
                  refine TX.sub (m' := [(5, vi k_1), (6, sl (some (b1, 0)) ((k_1).toNat) ((k_1).toNat)), (8, vi s1), (9, ptr (some (g_9.2.1, 0)) 0), (11, vi i2)]) ⟨rfl, rfl, rfl, rfl, rfl, trivial⟩ ?_
                  refine TX.pull (is := [4, 4, 0, 3, 0, 0, 0]) (L' := [⟨some (b1, 0), e8 t_1⟩, ⟨some (g_9.2.1, 0), [vi r_2.1]⟩, ⟨some (g_9.2.1, 1), e64 r_10.1.toList⟩, ⟨some (g_9.2.1, 9), e64 r_2.2.2.1.toList⟩, ⟨some (g_9.2.1, 89), [sl g_11.1 ((r_10.2.1).length) ((r_10.2.1 ++ g_11.2).length)]⟩, ⟨g_11.1, e8 (r_10.2.1 ++ g_11.2)⟩, ⟨some (g_9.2.1, 90), [v64 r_10.2.2]⟩]) rfl ?_
                  obtain rfl := Option.some.inj H
                  exact fun a w hs => hK (i2, r_10.1, r_10.2.1, r_10.2.2) rfl (g_11.1, g_11.2) a w hs
                · replace H := ite_f (of_decide_eq_false hc) H
                  refine TC_exit ?_
                  refine TX_then_exit ?_
                  refine TX_then_exit ?_
                  refine TX.sub (m' := [(5, vi k_1), (6, sl (some (b1, 0)) ((k_1).toNat) ((k_1).toNat)), (8, vi s1), (9, ptr (some (g_9.2.1, 0)) 0)]) ⟨rfl, rfl, rfl, rfl, trivial⟩ ?_
                  refine TX.pull (is := [0, 0, 0, 0, 0, 0, 0]) (L' := [⟨some (b1, 0), e8 t_1⟩, ⟨some (g_9.2.1, 0), [vi r_2.1]⟩, ⟨some (g_9.2.1, 1), e64 s3.2.1.toList⟩, ⟨some (g_9.2.1, 9), e64 r_2.2.2.1.toList⟩, ⟨some (g_9.2.1, 89), [sl g3_.1 ((s3.2.2.1).length) ((s3.2.2.1 ++ g3_.2).length)]⟩, ⟨g3_.1, e8 (s3.2.2.1 ++ g3_.2)⟩, ⟨some (g_9.2.1, 90), [v64 s3.2.2.2]⟩]) rfl ?_
                  obtain rfl := Option.some.inj H
                  exact hE (s3.2.1, s3.2.2.1, s3.2.2.2) rfl (g3_.1, g3_.2)
              · intro g
                obtain ⟨gx3, hgx⟩ : ∃ z, z = g := ⟨g, rfl⟩; subst hgx
                refine TX_block_exit ?_
                refine TX_next ?_
                refine TC_seq ?_
                refine TC_region ?_
                refine TL_v rfl rfl rfl (V_move rfl) ?_
                refine TL_v rfl rfl rfl (V_move rfl) ?_
                obtain ⟨h16, H⟩ := if_elim H
                refine TL_v rfl rfl rfl (V_b2s rfl Try.underlying30 Try.underlying5 Try.underlying9 (Src.own (j := 0) rfl) h16) ?_
                obtain ⟨r_11, hr_11, H⟩ := bind_elim H
                refine TL_e rfl rfl rfl (E_call (Γ := Unit) (val := fun g => Value.tuple [vs r_11.1, vi r_11.2].toArray) (mem := fun g => []) (vs := [vi s1, vs t_1]) (Lin := []) (Ro := []) (is := []) rfl Try.call27 (F27_calls s1 t_1 r_11 hr_11) rfl trivial) (fun g_12 => ?_)
                refine TL_v rfl rfl rfl (V_move rfl) ?_
                refine TL_v rfl rfl rfl (V_extract (vs := [vs r_11.1, vi r_11.2]) rfl rfl) ?_
                refine TL_v rfl rfl rfl (V_extract (vs := [vs r_11.1, vi r_11.2]) rfl rfl) ?_
                refine TL_v rfl rfl rfl (V_assign rfl) ?_
                refine TL_v rfl rfl rfl (V_assign rfl) ?_
                refine TL_nil ?_
                refine TX_next ?_
                refine TC_seq ?_
                refine TC_region ?_
                refine TL_v rfl rfl rfl (V_move rfl) ?_
                obtain ⟨r_12, hr_12, H⟩ := bind_elim H
                refine TL_e rfl rfl rfl (E_call (Γ := Unit) (val := fun g => vi r_12) (mem := fun g => []) (vs := [vi r_11.2]) (Lin := []) (Ro := []) (is := []) rfl Try.call25 (F25_calls r_11.2 r_12 hr_12) rfl trivial) (fun g_13 => ?_)
                refine TL_v rfl rfl rfl (V_bin rfl rfl (fun w => neqI w r_12 0)) ?_
                refine TL_v rfl rfl rfl (V_move rfl) ?_
                refine TL_fork (d := 70) (b := (decide (r_12 ≠ 0))) rfl (fun hc => ?_) (fun hc => ?_)
                · replace H := ite_t (of_decide_eq_true hc) H
                  refine TL_skip rfl rfl rfl rfl rfl rfl rfl ?_
                  refine TL_skip rfl rfl rfl rfl rfl rfl rfl ?_
                  refine TL_skip rfl rfl rfl rfl rfl rfl rfl ?_
                  refine TL_skip rfl rfl rfl rfl rfl rfl rfl ?_
                  refine TL_v rfl rfl rfl (V_pick (b := true) rfl rfl) ?_
                  refine TL_v rfl rfl rfl (V_move rfl) ?_
                  refine TL_skip rfl rfl rfl rfl rfl rfl rfl ?_
                  refine TL_skip rfl rfl rfl rfl rfl rfl rfl ?_
                  refine TL_skip rfl rfl rfl rfl rfl rfl rfl ?_
                  refine TL_skip rfl rfl rfl rfl rfl rfl rfl ?_
                  refine TL_skip rfl rfl rfl rfl rfl rfl rfl ?_
                  refine TL_skip rfl rfl rfl rfl rfl rfl rfl ?_
                  refine TL_v rfl rfl rfl (V_pick (b := true) rfl rfl) ?_
                  refine TL_nil ?_
                  refine TX_next ?_
                  refine TC.sub (m' := [(5, vi k_1), (6, sl (some (b1, 0)) ((k_1).toNat) ((k_1).toNat)), (8, vi s1), (83, vb true)]) ⟨rfl, rfl, rfl, rfl, trivial⟩ ?_
                  refine TC_cond_t rfl ?_
                  refine TC_seq ?_
                  refine TC_region ?_
                  refine TL_v rfl rfl rfl (V_assign rfl) ?_
                  refine TL_nil ?_
                  refine TX_next ?_
                  refine TC_ret ?_
                  refine TX_block_ret ?_
                  refine TX_then_ret ?_
                  refine TX_then_ret ?_
                  refine TX_block_ret ?_
                  refine TX_then_ret ?_
                  have hrv := (hR1 _ (Option.some.inj H).symm)
                  subst hrv
                  exact TX_ret (rs := [.tmp 4]) (vs := [vb false]) rfl ⟨rfl, trivial⟩ (fun w' hs' => ⟨(), rfl, Step.left (Step.pulled (is := []) (A := []) hs' rfl)⟩)
                · replace H := ite_f (of_decide_eq_false hc) H
                  refine TL_want rfl rfl rfl rfl rfl rfl (V_move rfl) ?_
                  obtain ⟨r_13, hr_13, H⟩ := bind_elim H
                  refine TL_wantE rfl rfl rfl rfl rfl rfl (E_call (Γ := Unit) (val := fun g => vs r_13) (mem := fun g => []) (vs := [ptr (some (g_9.2.1, 0)) 0]) (Lin := []) (Ro := [⟨some (g_9.2.1, 0), [vi r_2.1]⟩, ⟨some (g_9.2.1, 1), e64 t_4.1.toList⟩, ⟨some (g_9.2.1, 9), e64 r_2.2.2.1.toList⟩, ⟨some (g_9.2.1, 89), [sl gx3.1 ((t_4.2.1).length) ((t_4.2.1 ++ gx3.2).length)]⟩, ⟨some (g_9.2.1, 90), [v64 t_4.2.2]⟩, ⟨gx3.1, e8 t_4.2.1⟩]) (is := []) rfl Try.call33 (F33_calls g_9.2.1 0 gx3.1 ((t_4.2.1 ++ gx3.2).length) r_2.1 t_4.1 r_2.2.2.1 t_4.2.1 t_4.2.2 (row_le _ _) r_13 hr_13) rfl ⟨SrcD.own (j := 1) rfl, SrcD.own (j := 2) rfl, SrcD.own (j := 3) rfl, SrcD.own (j := 4) rfl, SrcD.own (j := 6) rfl, (srcdRow (SrcD.own (j := 5) rfl)), trivial⟩) (fun g_14 => ?_)
                  refine TL_want rfl rfl rfl rfl rfl rfl (V_move rfl) ?_
                  refine TL_want rfl rfl rfl rfl rfl rfl (V_bin rfl rfl (fun w => neqS w r_13 r_11.1)) ?_
                  refine TL_v rfl rfl rfl (V_pick (b := false) rfl rfl) ?_
                  refine TL_v rfl rfl rfl (V_move rfl) ?_
                  refine TL_fork (d := 76) (b := (decide (r_13 ≠ r_11.1))) rfl (fun hc => ?_) (fun hc => ?_)
                  · replace H := ite_t (of_decide_eq_true hc) H
                    refine TL_skip rfl rfl rfl rfl rfl rfl rfl ?_
                    refine TL_skip rfl rfl rfl rfl rfl rfl rfl ?_
                    refine TL_skip rfl rfl rfl rfl rfl rfl rfl ?_
                    refine TL_skip rfl rfl rfl rfl rfl rfl rfl ?_
                    refine TL_skip rfl rfl rfl rfl rfl rfl rfl ?_
                    refine TL_skip rfl rfl rfl rfl rfl rfl rfl ?_
                    refine TL_v rfl rfl rfl (V_pick (b := true) rfl rfl) ?_
                    refine TL_nil ?_
                    refine TX_next ?_
                    refine TC.sub (m' := [(5, vi k_1), (6, sl (some (b1, 0)) ((k_1).toNat) ((k_1).toNat)), (8, vi s1), (83, vb true)]) ⟨rfl, rfl, rfl, rfl, trivial⟩ ?_
                    refine TC_cond_t rfl ?_
                    refine TC_seq ?_
                    refine TC_region ?_
                    refine TL_v rfl rfl rfl (V_assign rfl) ?_
                    refine TL_nil ?_
                    refine TX_next ?_
                    refine TC_ret ?_
                    refine TX_block_ret ?_
                    refine TX_then_ret ?_
                    refine TX_then_ret ?_
                    refine TX_block_ret ?_
                    refine TX_then_ret ?_
                    have hrv := (hR1 _ (Option.some.inj H).symm)
                    subst hrv
                    exact TX_ret (rs := [.tmp 4]) (vs := [vb false]) rfl ⟨rfl, trivial⟩ (fun w' hs' => ⟨(), rfl, Step.left (Step.pulled (is := []) (A := []) hs' rfl)⟩)
                  · replace H := ite_f (of_decide_eq_false hc) H
                    refine TL_want rfl rfl rfl rfl rfl rfl (V_move rfl) ?_
                    refine TL_want rfl rfl rfl rfl rfl rfl (V_move rfl) ?_
                    refine TL_want rfl rfl rfl rfl rfl rfl (V_move rfl) ?_
                    obtain ⟨h17, H⟩ := if_elim H
                    refine TL_want rfl rfl rfl rfl rfl rfl (V_b2s rfl Try.underlying30 Try.underlying5 Try.underlying9 (Src.own (j := 0) rfl) h17) ?_
                    obtain ⟨r_14, hr_14, H⟩ := bind_elim H
                    refine TL_wantE rfl rfl rfl rfl rfl rfl (E_call (Γ := Unit) (val := fun g => vs r_14) (mem := fun g => []) (vs := [vi s1, vs t_1]) (Lin := []) (Ro := []) (is := []) rfl Try.call34 (F34_calls s1 t_1 r_14 hr_14) rfl trivial) (fun g_15 => ?_)
                    refine TL_want rfl rfl rfl rfl rfl rfl (V_bin rfl rfl (fun w => neqS w r_11.1 r_14)) ?_
                    refine TL_v rfl rfl rfl (V_pick (b := false) rfl rfl) ?_
                    refine TL_nil ?_
                    refine TX_next ?_
                    refine TC.sub (m' := [(5, vi k_1), (6, sl (some (b1, 0)) ((k_1).toNat) ((k_1).toNat)), (8, vi s1), (83, vb (decide (r_11.1 ≠ r_14)))]) ⟨rfl, rfl, rfl, rfl, trivial⟩ ?_
                    refine TC_cond (b := (decide (r_11.1 ≠ r_14))) rfl (fun hc => ?_) (fun hc => ?_)
                    · replace H := ite_t (of_decide_eq_true hc) H
                      refine TC_seq ?_
                      refine TC_region ?_
                      refine TL_v rfl rfl rfl (V_assign rfl) ?_
                      refine TL_nil ?_
                      refine TX_next ?_
                      refine TC_ret ?_
                      refine TX_block_ret ?_
                      refine TX_then_ret ?_
                      refine TX_then_ret ?_
                      refine TX_block_ret ?_
                      refine TX_then_ret ?_
                      have hrv := (hR1 _ (Option.some.inj H).symm)
                      subst hrv
                      exact TX_ret (rs := [.tmp 4]) (vs := [vb false]) rfl ⟨rfl, trivial⟩ (fun w' hs' => ⟨(), rfl, Step.left (Step.pulled (is := []) (A := []) hs' rfl)⟩)
                    · replace H := ite_f (of_decide_eq_false hc) H
                      refine TC_skip ?_
                      refine TX_block_normal ?_
                      refine TX_next ?_
                      refine TC_region ?_
                      refine TL_v rfl rfl rfl (V_move rfl) ?_
                      refine TL_v rfl rfl rfl (V_bin rfl rfl (fun w => addI w s1 128)) ?_
                      refine TL_v rfl rfl rfl (V_assign rfl) ?_
                      obtain ⟨bits2, hbits2, H⟩ := ltt_elim H
                      refine TL_re (d := 8) (v := vi (w64 (s1 + 128))) (v' := vi bits2) rfl (congrArg vi hbits2) ?_
                      refine TL_nil ?_
                      refine TX.sub (m' := [(5, vi k_1), (6, sl (some (b1, 0)) ((k_1).toNat) ((k_1).toNat)), (8, vi bits2)]) ⟨rfl, rfl, rfl, trivial⟩ ?_
                      refine TX.pull (is := [0]) (L' := [⟨some (b1, 0), e8 t_1⟩]) rfl ?_
                      obtain rfl := Option.some.inj H
                      exact fun a w hs => hK bits2 rfl () a w hs
        · replace H := ite_f (of_decide_eq_false hc) H
          refine TC_exit ?_
          refine TX_then_exit ?_
          refine TX_then_exit ?_
          refine TX.sub (m' := []) trivial ?_
          refine TX.pull (is := []) (L' := []) rfl ?_
          obtain rfl := Option.some.inj H
          exact hE () rfl ()
      · rcases t_2 with t_2 | rv
        · intro gx4
          dsimp only at H
          refine TX_block_exit ?_
          refine TX_next ?_
          refine TC_seq ?_
          refine TC_region ?_
          refine TL_v rfl rfl rfl (V_assign rfl) ?_
          refine TL_nil ?_
          refine TX_next ?_
          refine TC_ret ?_
          have hrv := Option.some.inj H
          subst hrv
          exact TX_ret (rs := [.tmp 4]) (vs := [vb true]) rfl ⟨rfl, trivial⟩ (fun w' hs' => ⟨(), rfl, Step.left (Step.pulled (is := []) (A := []) hs' rfl)⟩)
        · exact (Option.some.inj H)

end Go.Proofs
end

section
namespace Go.Proofs
open Go Go.Kx
set_option linter.unusedVariables false
set_option linter.unusedSimpArgs false
def halberdlaw2_ShaForks (wide : Bool) (a_ : Str) (b : Str) (c : Str) : Option (Bool) :=
  (halberdlaw2_awake).bind fun (r_1 : Bool) => (if (!r_1) = true then (some false) else ((if wide = true then (some 384) else (some 256)).bind fun (j1 : Int) => ((sha_New j1).bind fun (r_2 : (Unit) ⊕ (Int × Vector (BitVec 64) 8 × Vector (BitVec 64) 80 × List (BitVec 8))) => (match r_2 with | .inl r_2 => ((halberdlaw0_Num 200).bind fun (r_3 : Int) => (if r_3 ≠ 0 then (some false) else ((sha_Hash_Write_nil0 a_).bind fun (r_4 : Unit) => ((sha_Hash_Fork_nil0).bind fun (r_5 : Unit) => ((sha_Hash_Fork_nil0).bind fun (r_6 : Unit) => ((sha_Hash_Write_nil0 b).bind fun (r_7 : Unit) => ((sha_Hash_Fork_nil0).bind fun (r_8 : Unit) => ((sha_Hash_Write_nil0 c).bind fun (r_9 : Unit) => ((sha_Hash_Write_nil0 c).bind fun (r_10 : Unit) => ((sha_Sum j1 a_).bind fun (r_11 : Str × Int) => (if (a_).length + (b).length ≤ 4611686018427387904 then ((sha_Sum j1 (a_ ++ b)).bind fun (r_12 : Str × Int) => (if (a_).length + (c).length ≤ 4611686018427387904 then ((sha_Sum j1 (a_ ++ c)).bind fun (r_13 : Str × Int) => (if (a_).length + (b).length ≤ 4611686018427387904 then (if (a_ ++ b).length + (c).length ≤ 4611686018427387904 then ((sha_Sum j1 ((a_ ++ b) ++ c)).bind fun (r_14 : Str × Int) => ((sha_Hash_Sum_nil0).bind fun (r_15 : Unit) => (if ([] : Str) = r_11.1 then ((sha_Hash_Sum_nil0).bind fun (r_16 : Unit) => (if ([] : Str) = r_12.1 then ((sha_Hash_Sum_nil0).bind fun (r_17 : Unit) => (if ([] : Str) = r_13.1 then ((sha_Hash_Sum_nil0).bind fun (r_18 : Unit) => (if ([] : Str) = r_14.1 then ((sha_Hash_Sum_nil0).bind fun (r_19 : Unit) => (ltt (decide (([] : Str) = r_11.1)) fun (x1 : Bool) => (some x1))) else (some false))) else (some false))) else (some false))) else (some false)))) else none) else none)) else none)) else none))))))))))) | .inr r_2 => ((halberdlaw0_Num 0).bind fun (r_20 : Int) => (if r_20 ≠ 0 then (some false) else ((sha_Hash_Write r_2.1 r_2.2.1 r_2.2.2.1 r_2.2.2.2 0#64 a_).bind fun (r_21 : Vector (BitVec 64) 8 × List (BitVec 8) × BitVec 64) => ((sha_Hash_Fork r_2.1 r_21.1 r_2.2.2.1 r_21.2.1 r_21.2.2).bind fun (r_22 : Int × Vector (BitVec 64) 8 × Vector (BitVec 64) 80 × List (BitVec 8) × BitVec 64) => ((sha_Hash_Fork r_2.1 r_21.1 r_2.2.2.1 r_21.2.1 r_21.2.2).bind fun (r_23 : Int × Vector (BitVec 64) 8 × Vector (BitVec 64) 80 × List (BitVec 8) × BitVec 64) => ((sha_Hash_Write r_22.1 r_22.2.1 r_22.2.2.1 r_22.2.2.2.1 r_22.2.2.2.2 b).bind fun (r_24 : Vector (BitVec 64) 8 × List (BitVec 8) × BitVec 64) => ((sha_Hash_Fork r_22.1 r_24.1 r_22.2.2.1 r_24.2.1 r_24.2.2).bind fun (r_25 : Int × Vector (BitVec 64) 8 × Vector (BitVec 64) 80 × List (BitVec 8) × BitVec 64) => ((sha_Hash_Write r_23.1 r_23.2.1 r_23.2.2.1 r_23.2.2.2.1 r_23.2.2.2.2 c).bind fun (r_26 : Vector (BitVec 64) 8 × List (BitVec 8) × BitVec 64) => ((sha_Hash_Write r_25.1 r_25.2.1 r_25.2.2.1 r_25.2.2.2.1 r_25.2.2.2.2 c).bind fun (r_27 : Vector (BitVec 64) 8 × List (BitVec 8) × BitVec 64) => ((sha_Sum j1 a_).bind fun (r_28 : Str × Int) => (if (a_).length + (b).length ≤ 4611686018427387904 then ((sha_Sum j1 (a_ ++ b)).bind fun (r_29 : Str × Int) => (if (a_).length + (c).length ≤ 4611686018427387904 then ((sha_Sum j1 (a_ ++ c)).bind fun (r_30 : Str × Int) => (if (a_).length + (b).length ≤ 4611686018427387904 then (if (a_ ++ b).length + (c).length ≤ 4611686018427387904 then ((sha_Sum j1 ((a_ ++ b) ++ c)).bind fun (r_31 : Str × Int) => ((sha_Hash_Sum r_2.1 r_21.1 r_2.2.2.1 r_21.2.1 r_21.2.2).bind fun (r_32 : Str) => (if r_32 = r_28.1 then ((sha_Hash_Sum r_22.1 r_24.1 r_22.2.2.1 r_24.2.1 r_24.2.2).bind fun (r_33 : Str) => (if r_33 = r_29.1 then ((sha_Hash_Sum r_23.1 r_26.1 r_23.2.2.1 r_26.2.1 r_26.2.2).bind fun (r_34 : Str) => (if r_34 = r_30.1 then ((sha_Hash_Sum r_25.1 r_27.1 r_25.2.2.1 r_27.2.1 r_27.2.2).bind fun (r_35 : Str) => (if r_35 = r_31.1 then ((sha_Hash_Sum r_2.1 r_21.1 r_2.2.2.1 r_21.2.1 r_21.2.2).bind fun (r_36 : Str) => (ltt (decide (r_36 = r_28.1)) fun (x2 : Bool) => (some x2))) else (some false))) else (some false))) else (some false))) else (some false)))) else none) else none)) else none)) else none)))))))))))))))

set_option maxHeartbeats 4000000 in
set_option maxRecDepth 20000 in
theorem F9_calls (wide : Bool) (a_ : Str) (b : Str) (c : Str) (r : Bool) (H : halberdlaw2_ShaForks wide a_ b c = some r) :
    Does Try.prog 9 [vb wide, vs a_, vs b, vs c] [] [] (Γ := Unit) (fun g => vb r) (fun g => []) := by
  intro w hmem hro hd
  refine calls_of (N := 112) (m0 := [(0, vb wide), (1, vs a_), (2, vs b), (3, vs c)]) Try.func9 rfl Try.ntmps9 (argM_ok [vb wide, vs a_, vs b, vs c]) rfl hmem hro hd ?_
  unfold halberdlaw2_ShaForks at H
  refine TC_seq ?_
  refine TC_region ?_
  refine TL_v rfl rfl rfl (V_assign rfl) ?_
  refine TL_nil ?_
  refine TX_next ?_
  refine TC_seq ?_
  refine TC_seq ?_
  refine TC_region ?_
  obtain ⟨r_1, hr_1, H⟩ := bind_elim H
  refine TL_e rfl rfl rfl (E_call (Γ := Unit) (val := fun g => vb r_1) (mem := fun g => []) (vs := []) (Lin := []) (Ro := []) (is := []) rfl Try.call29 (F29_calls r_1 hr_1) rfl trivial) (fun g_1 => ?_)
  refine TL_v rfl rfl rfl (V_un rfl (fun w => notB w r_1)) ?_
  refine TL_nil ?_
  refine TX_next ?_
  refine TC_cond (b := (!r_1)) rfl (fun hc => ?_) (fun hc => ?_)
  · replace H := ite_t hc H
    refine TC_seq ?_
    refine TC_region ?_
    refine TL_v rfl rfl rfl (V_assign rfl) ?_
    refine TL_nil ?_
    refine TX_next ?_
    refine TC_ret ?_
    refine TX_then_ret ?_
    have hrv := Option.some.inj H
    subst hrv
    exact TX_ret (rs := [.tmp 8]) (vs := [vb false]) rfl ⟨rfl, trivial⟩ (fun w' hs' => ⟨(), rfl, Step.left (Step.pulled (is := []) (A := []) hs' rfl)⟩)
  · replace H := ite_f (Bool.eq_false_iff.1 hc) H
    refine TC_skip ?_
    refine TX_next ?_
    refine TC_seq ?_
    refine TC_region ?_
    refine TL_v rfl rfl rfl (V_assign rfl) ?_
    refine TL_nil ?_
    refine TX_next ?_
    refine TC_seq ?_
    refine TC_seq ?_
    refine TC_region ?_
    refine TL_v rfl rfl rfl (V_move rfl) ?_
    refine TL_nil ?_
    refine TX_next ?_
    obtain ⟨j1, Hj, H⟩ := bind_elim H
    refine TC_join (Γ := Unit) (fun gj1 => [(1, vs a_), (2, vs b), (3, vs c), (9, vi j1)]) (fun gj1 => []) ?_ ?_
    · intro gj1
      refine TX_next ?_
      refine TC_seq ?_
      refine TC_region ?_
      refine TL_v rfl rfl rfl (V_move rfl) ?_
      obtain ⟨r_2, hr_2, H⟩ := bind_elim H
      rcases r_2 with r_2 | r_2
      · dsimp only at H
        refine TL_e rfl rfl rfl (E_call (Γ := Unit × (Nat × Adr)) (val := fun g => Value.tuple [Value.pointer none, vi 200].toArray) (mem := fun g => []) (vs := [vi j1]) (Lin := []) (Ro := []) (is := []) rfl Try.call30 (F30_calls j1 (.inl r_2) hr_2) rfl trivial) (fun g_2 => ?_)
        refine TL_v rfl rfl rfl (V_move rfl) ?_
        refine TL_v rfl rfl rfl (V_extract (vs := [Value.pointer none, vi 200]) rfl rfl) ?_
        refine TL_v rfl rfl rfl (V_extract (vs := [Value.pointer none, vi 200]) rfl rfl) ?_
        refine TL_v rfl rfl rfl (V_assign rfl) ?_
        refine TL_v rfl rfl rfl (V_assign rfl) ?_
        refine TL_nil ?_
        refine TX_next ?_
        refine TC_seq ?_
        refine TC_seq ?_
        refine TC_region ?_
        refine TL_v rfl rfl rfl (V_move rfl) ?_
        obtain ⟨r_3, hr_3, H⟩ := bind_elim H
        refine TL_e rfl rfl rfl (E_call (Γ := Unit) (val := fun g => vi r_3) (mem := fun g => []) (vs := [vi 200]) (Lin := []) (Ro := []) (is := []) rfl Try.call25 (F25_calls 200 r_3 hr_3) rfl trivial) (fun g_3 => ?_)
        refine TL_v rfl rfl rfl (V_bin rfl rfl (fun w => neqI w r_3 0)) ?_
        refine TL_nil ?_
        refine TX_next ?_
        refine TC_cond (b := (decide (r_3 ≠ 0))) rfl (fun hc => ?_) (fun hc => ?_)
        · replace H := ite_t (of_decide_eq_true hc) H
          refine TC_seq ?_
          refine TC_region ?_
          refine TL_v rfl rfl rfl (V_assign rfl) ?_
          refine TL_nil ?_
          refine TX_next ?_
          refine TC_ret ?_
          refine TX_then_ret ?_
          have hrv := Option.some.inj H
          subst hrv
          exact TX_ret (rs := [.tmp 8]) (vs := [vb false]) rfl ⟨rfl, trivial⟩ (fun w' hs' => ⟨(), rfl, Step.left (Step.pulled (is := []) (A := []) hs' rfl)⟩)
        · replace H := ite_f (of_decide_eq_false hc) H
          refine TC_skip ?_
          refine TX_next ?_
          refine TC_seq ?_
          refine TC_region ?_
          refine TL_v rfl rfl rfl (V_move rfl) ?_
          refine TL_v rfl rfl rfl (V_move rfl) ?_
          obtain ⟨r_4, hr_4, H⟩ := bind_elim H
          refine TL_e rfl rfl rfl (E_call (Γ := Unit) (val := fun g => Value.tuple [].toArray) (mem := fun g => []) (vs := [Value.pointer none, vs a_]) (Lin := []) (Ro := []) (is := []) rfl Try.call32 (F32_nil0_calls a_ r_4 hr_4) rfl trivial) (fun g_4 => ?_)
          refine TL_nil ?_
          refine TX_next ?_
          refine TC_seq ?_
          refine TC_region ?_
          refine TL_v rfl rfl rfl (V_move rfl) ?_
          obtain ⟨r_5, hr_5, H⟩ := bind_elim H
          refine TL_e rfl rfl rfl (E_call (Γ := Unit) (val := fun g => Value.pointer none) (mem := fun g => []) (vs := [Value.pointer none]) (Lin := []) (Ro := []) (is := []) rfl Try.call31 (F31_nil0_calls r_5 hr_5) rfl trivial) (fun g_5 => ?_)
          refine TL_v rfl rfl rfl (V_move rfl) ?_
          obtain ⟨r_6, hr_6, H⟩ := bind_elim H
          refine TL_e rfl rfl rfl (E_call (Γ := Unit) (val := fun g => Value.pointer none) (mem := fun g => []) (vs := [Value.pointer none]) (Lin := []) (Ro := []) (is := []) rfl Try.call31 (F31_nil0_calls r_6 hr_6) rfl trivial) (fun g_6 => ?_)
          refine TL_v rfl rfl rfl (V_assign rfl) ?_
          refine TL_v rfl rfl rfl (V_assign rfl) ?_
          refine TL_nil ?_
          refine TX_next ?_
          refine TC_seq ?_
          refine TC_region ?_
          refine TL_v rfl rfl rfl (V_move rfl) ?_
          refine TL_v rfl rfl rfl (V_move rfl) ?_
          obtain ⟨r_7, hr_7, H⟩ := bind_elim H
          refine TL_e rfl rfl rfl (E_call (Γ := Unit) (val := fun g => Value.tuple [].toArray) (mem := fun g => []) (vs := [Value.pointer none, vs b]) (Lin := []) (Ro := []) (is := []) rfl Try.call32 (F32_nil0_calls b r_7 hr_7) rfl trivial) (fun g_7 => ?_)
          refine TL_nil ?_
          refine TX_next ?_
          refine TC_seq ?_
          refine TC_region ?_
          refine TL_v rfl rfl rfl (V_move rfl) ?_
          obtain ⟨r_8, hr_8, H⟩ := bind_elim H
          refine TL_e rfl rfl rfl (E_call (Γ := Unit) (val := fun g => Value.pointer none) (mem := fun g => []) (vs := [Value.pointer none]) (Lin := []) (Ro := []) (is := []) rfl Try.call31 (F31_nil0_calls r_8 hr_8) rfl trivial) (fun g_8 => ?_)
          refine TL_v rfl rfl rfl (V_assign rfl) ?_
          refine TL_nil ?_
          refine TX_next ?_
          refine TC_seq ?_
          refine TC_region ?_
          refine TL_v rfl rfl rfl (V_move rfl) ?_
          refine TL_v rfl rfl rfl (V_move rfl) ?_
          obtain ⟨r_9, hr_9, H⟩ := bind_elim H
          refine TL_e rfl rfl rfl (E_call (Γ := Unit) (val := fun g => Value.tuple [].toArray) (mem := fun g => []) (vs := [Value.pointer none, vs c]) (Lin := []) (Ro := []) (is := []) rfl Try.call32 (F32_nil0_calls c r_9 hr_9) rfl trivial) (fun g_9 => ?_)
          refine TL_nil ?_
          refine TX_next ?_
          refine TC.sub (m' := [(1, vs a_), (2, vs b), (3, vs c), (9, vi j1), (10, Value.pointer none), (12, Value.pointer none), (13, Value.pointer none), (14, Value.pointer none)]) ⟨rfl, rfl, rfl, rfl, rfl, rfl, rfl, rfl, trivial⟩ ?_
          refine TC_seq ?_
          refine TC_region ?_
          refine TL_v rfl rfl rfl (V_move rfl) ?_
          refine TL_v rfl rfl rfl (V_move rfl) ?_
          obtain ⟨r_10, hr_10, H⟩ := bind_elim H
          refine TL_e rfl rfl rfl (E_call (Γ := Unit) (val := fun g => Value.tuple [].toArray) (mem := fun g => []) (vs := [Value.pointer none, vs c]) (Lin := []) (Ro := []) (is := []) rfl Try.call32 (F32_nil0_calls c r_10 hr_10) rfl trivial) (fun g_10 => ?_)
          refine TL_nil ?_
          refine TX_next ?_
          refine TC_seq ?_
          refine TC_region ?_
          refine TL_v rfl rfl rfl (V_move rfl) ?_
          refine TL_v rfl rfl rfl (V_move rfl) ?_
          obtain ⟨r_11, hr_11, H⟩ := bind_elim H
          refine TL_e rfl rfl rfl (E_call (Γ := Unit) (val := fun g => Value.tuple [vs r_11.1, vi r_11.2].toArray) (mem := fun g => []) (vs := [vi j1, vs a_]) (Lin := []) (Ro := []) (is := []) rfl Try.call27 (F27_calls j1 a_ r_11 hr_11) rfl trivial) (fun g_11 => ?_)
          refine TL_v rfl rfl rfl (V_move rfl) ?_
          refine TL_v rfl rfl rfl (V_extract (vs := [vs r_11.1, vi r_11.2]) rfl rfl) ?_
          refine TL_v rfl rfl rfl (V_extract (vs := [vs r_11.1, vi r_11.2]) rfl rfl) ?_
          refine TL_v rfl rfl rfl (V_assign rfl) ?_
          refine TL_v rfl rfl rfl (V_assign rfl) ?_
          refine TL_nil ?_
          refine TX_next ?_
          refine TC_seq ?_
          refine TC_region ?_
          refine TL_v rfl rfl rfl (V_move rfl) ?_
          refine TL_v rfl rfl rfl (V_move rfl) ?_
          refine TL_v rfl rfl rfl (V_move rfl) ?_
          obtain ⟨h1, H⟩ := if_elim H
          refine TL_v rfl rfl rfl (V_bin rfl rfl (fun w => addS w a_ b h1)) ?_
          obtain ⟨r_12, hr_12, H⟩ := bind_elim H
          refine TL_e rfl rfl rfl (E_call (Γ := Unit) (val := fun g => Value.tuple [vs r_12.1, vi r_12.2].toArray) (mem := fun g => []) (vs := [vi j1, vs (a_ ++ b)]) (Lin := []) (Ro := []) (is := []) rfl Try.call27 (F27_calls j1 (a_ ++ b) r_12 hr_12) rfl trivial) (fun g_12 => ?_)
          refine TL_v rfl rfl rfl (V_move rfl) ?_
          refine TL_v rfl rfl rfl (V_extract (vs := [vs r_12.1, vi r_12.2]) rfl rfl) ?_
          refine TL_v rfl rfl rfl (V_extract (vs := [vs r_12.1, vi r_12.2]) rfl rfl) ?_
          refine TL_v rfl rfl rfl (V_assign rfl) ?_
          refine TL_v rfl rfl rfl (V_assign rfl) ?_
          refine TL_nil ?_
          refine TX_next ?_
          refine TC_seq ?_
          refine TC_region ?_
          refine TL_v rfl rfl rfl (V_move rfl) ?_
          refine TL_v rfl rfl rfl (V_move rfl) ?_
          refine TL_v rfl rfl rfl (V_move rfl) ?_
          obtain ⟨h2, H⟩ := if_elim H
          refine TL_v rfl rfl rfl (V_bin rfl rfl (fun w => addS w a_ c h2)) ?_
          obtain ⟨r_13, hr_13, H⟩ := bind_elim H
          refine TL_e rfl rfl rfl (E_call (Γ := Unit) (val := fun g => Value.tuple [vs r_13.1, vi r_13.2].toArray) (mem := fun g => []) (vs := [vi j1, vs (a_ ++ c)]) (Lin := []) (Ro := []) (is := []) rfl Try.call27 (F27_calls j1 (a_ ++ c) r_13 hr_13) rfl trivial) (fun g_13 => ?_)
          refine TL_v rfl rfl rfl (V_move rfl) ?_
          refine TL_v rfl rfl rfl (V_extract (vs := [vs r_13.1, vi r_13.2]) rfl rfl) ?_
          refine TL_v rfl rfl rfl (V_extract (vs := [vs r_13.1, vi r_13.2]) rfl rfl) ?_
          refine TL_v rfl rfl rfl (V_assign rfl) ?_
          refine TL_v rfl rfl rfl (V_assign rfl) ?_
          refine TL_nil ?_
          refine TX_next ?_
          refine TC.sub (m' := [(1, vs a_), (2, vs b), (3, vs c), (9, vi j1), (10, Value.pointer none), (12, Value.pointer none), (13, Value.pointer none), (14, Value.pointer none), (15, vs r_11.1), (17, vs r_12.1), (19, vs r_13.1)]) ⟨rfl, rfl, rfl, rfl, rfl, rfl, rfl, rfl, rfl, rfl, rfl, trivial⟩ ?_
          refine TC_seq ?_
          refine TC_region ?_
          refine TL_v rfl rfl rfl (V_move rfl) ?_
          refine TL_v rfl rfl rfl (V_move rfl) ?_
          refine TL_v rfl rfl rfl (V_move rfl) ?_
          obtain ⟨h3, H⟩ := if_elim H
          refine TL_v rfl rfl rfl (V_bin rfl rfl (fun w => addS w a_ b h3)) ?_
          refine TL_v rfl rfl rfl (V_move rfl) ?_
          obtain ⟨h4, H⟩ := if_elim H
          refine TL_v rfl rfl rfl (V_bin rfl rfl (fun w => addS w (a_ ++ b) c h4)) ?_
          obtain ⟨r_14, hr_14, H⟩ := bind_elim H
          refine TL_e rfl rfl rfl (E_call (Γ := Unit) (val := fun g => Value.tuple [vs r_14.1, vi r_14.2].toArray) (mem := fun g => []) (vs := [vi j1, vs ((a_ ++ b) ++ c)]) (Lin := []) (Ro := []) (is := []) rfl Try.call27 (F27_calls j1 ((a_ ++ b) ++ c) r_14 hr_14) rfl trivial) (fun g_14 => ?_)
          refine TL_v rfl rfl rfl (V_move rfl) ?_
          refine TL_v rfl rfl rfl (V_extract (vs := [vs r_14.1, vi r_14.2]) rfl rfl) ?_
          refine TL_v rfl rfl rfl (V_extract (vs := [vs r_14.1, vi r_14.2]) rfl rfl) ?_
          refine TL_v rfl rfl rfl (V_assign rfl) ?_
          refine TL_v rfl rfl rfl (V_assign rfl) ?_
          refine TL_nil ?_
          refine TX_next ?_
          refine TC_seq ?_
          refine TC_region ?_
          refine TL_v rfl rfl rfl (V_move rfl) ?_
          obtain ⟨r_15, hr_15, H⟩ := bind_elim H
          refine TL_e rfl rfl rfl (E_call (Γ := Unit) (val := fun g => vs ([] : Str)) (mem := fun g => []) (vs := [Value.pointer none]) (Lin := []) (Ro := []) (is := []) rfl Try.call33 (F33_nil0_calls r_15 hr_15) rfl trivial) (fun g_15 => ?_)
          refine TL_v rfl rfl rfl (V_move rfl) ?_
          refine TL_v rfl rfl rfl (V_bin rfl rfl (fun w => eqlS w ([] : Str) r_11.1)) ?_
          refine TL_v rfl rfl rfl (V_move rfl) ?_
          refine TL_fork (d := 88) (b := (decide (([] : Str) = r_11.1))) rfl (fun hc => ?_) (fun hc => ?_)
          · replace H := ite_t (of_decide_eq_true hc) H
            refine TL_want rfl rfl rfl rfl rfl rfl (V_move rfl) ?_
            obtain ⟨r_16, hr_16, H⟩ := bind_elim H
            refine TL_wantE rfl rfl rfl rfl rfl rfl (E_call (Γ := Unit) (val := fun g => vs ([] : Str)) (mem := fun g => []) (vs := [Value.pointer none]) (Lin := []) (Ro := []) (is := []) rfl Try.call33 (F33_nil0_calls r_16 hr_16) rfl trivial) (fun g_16 => ?_)
            refine TL_want rfl rfl rfl rfl rfl rfl (V_move rfl) ?_
            refine TL_want rfl rfl rfl rfl rfl rfl (V_bin rfl rfl (fun w => eqlS w ([] : Str) r_12.1)) ?_
            refine TL_v rfl rfl rfl (V_pick (b := true) rfl rfl) ?_
            refine TL_v rfl rfl rfl (V_move rfl) ?_
            refine TL_fork (d := 94) (b := (decide (([] : Str) = r_12.1))) rfl (fun hc => ?_) (fun hc => ?_)
            · replace H := ite_t (of_decide_eq_true hc) H
              refine TL_want rfl rfl rfl rfl rfl rfl (V_move rfl) ?_
              obtain ⟨r_17, hr_17, H⟩ := bind_elim H
              refine TL_wantE rfl rfl rfl rfl rfl rfl (E_call (Γ := Unit) (val := fun g => vs ([] : Str)) (mem := fun g => []) (vs := [Value.pointer none]) (Lin := []) (Ro := []) (is := []) rfl Try.call33 (F33_nil0_calls r_17 hr_17) rfl trivial) (fun g_17 => ?_)
              refine TL_want rfl rfl rfl rfl rfl rfl (V_move rfl) ?_
              refine TL_want rfl rfl rfl rfl rfl rfl (V_bin rfl rfl (fun w => eqlS w ([] : Str) r_13.1)) ?_
              refine TL_v rfl rfl rfl (V_pick (b := true) rfl rfl) ?_
              refine TL_v rfl rfl rfl (V_move rfl) ?_
              refine TL_fork (d := 100) (b := (decide (([] : Str) = r_13.1))) rfl (fun hc => ?_) (fun hc => ?_)
              · replace H := ite_t (of_decide_eq_true hc) H
                refine TL_want rfl rfl rfl rfl rfl rfl (V_move rfl) ?_
                obtain ⟨r_18, hr_18, H⟩ := bind_elim H
                refine TL_wantE rfl rfl rfl rfl rfl rfl (E_call (Γ := Unit) (val := fun g => vs ([] : Str)) (mem := fun g => []) (vs := [Value.pointer none]) (Lin := []) (Ro := []) (is := []) rfl Try.call33 (F33_nil0_calls r_18 hr_18) rfl trivial) (fun g_18 => ?_)
                refine TL_want rfl rfl rfl rfl rfl rfl (V_move rfl) ?_
                refine TL_want rfl rfl rfl rfl rfl rfl (V_bin rfl rfl (fun w => eqlS w ([] : Str) r_14.1)) ?_
                refine TL_v rfl rfl rfl (V_pick (b := true) rfl rfl) ?_
                refine TL_v rfl rfl rfl (V_move rfl) ?_
                refine TL_fork (d := 106) (b := (decide (([] : Str) = r_14.1))) rfl (fun hc => ?_) (fun hc => ?_)
                · replace H := ite_t (of_decide_eq_true hc) H
                  refine TL_want rfl rfl rfl rfl rfl rfl (V_move rfl) ?_
                  obtain ⟨r_19, hr_19, H⟩ := bind_elim H
                  refine TL_wantE rfl rfl rfl rfl rfl rfl (E_call (Γ := Unit) (val := fun g => vs ([] : Str)) (mem := fun g => []) (vs := [Value.pointer none]) (Lin := []) (Ro := []) (is := []) rfl Try.call33 (F33_nil0_calls r_19 hr_19) rfl trivial) (fun g_19 => ?_)
                  refine TL_want rfl rfl rfl rfl rfl rfl (V_move rfl) ?_
                  refine TL_want rfl rfl rfl rfl rfl rfl (V_bin rfl rfl (fun w => eqlS w ([] : Str) r_11.1)) ?_
                  refine TL_v rfl rfl rfl (V_pick (b := true) rfl rfl) ?_
                  refine TL_v rfl rfl rfl (V_assign rfl) ?_
                  obtain ⟨x1, hx1, H⟩ := ltt_elim H
                  refine TL_re (d := 8) (v := vb (decide (([] : Str) = r_11.1))) (v' := vb x1) rfl (congrArg vb hx1) ?_
                  refine TL_nil ?_
                  refine TX_next ?_
                  refine TC.sub (m' := [(8, vb x1)]) ⟨rfl, trivial⟩ ?_
                  refine TC_ret ?_
                  have hrv := Option.some.inj H
                  subst hrv
                  exact TX_ret (rs := [.tmp 8]) (vs := [vb x1]) rfl ⟨rfl, trivial⟩ (fun w' hs' => ⟨(), rfl, Step.left (Step.pulled (is := []) (A := []) hs' rfl)⟩)
                · replace H := ite_f (of_decide_eq_false hc) H
                  refine TL_skip rfl rfl rfl rfl rfl rfl rfl ?_
                  refine TL_skip rfl rfl rfl rfl rfl rfl rfl ?_
                  refine TL_skip rfl rfl rfl rfl rfl rfl rfl ?_
                  refine TL_skip rfl rfl rfl rfl rfl rfl rfl ?_
                  refine TL_v rfl rfl rfl (V_pick (b := false) rfl rfl) ?_
                  refine TL_v rfl rfl rfl (V_assign rfl) ?_
                  refine TL_nil ?_
                  refine TX_next ?_
                  refine TC.sub (m' := [(8, vb false)]) ⟨rfl, trivial⟩ ?_
                  refine TC_ret ?_
                  have hrv := Option.some.inj H
                  subst hrv
                  exact TX_ret (rs := [.tmp 8]) (vs := [vb false]) rfl ⟨rfl, trivial⟩ (fun w' hs' => ⟨(), rfl, Step.left (Step.pulled (is := []) (A := []) hs' rfl)⟩)
              · replace H := ite_f (of_decide_eq_false hc) H
                refine TL_skip rfl rfl rfl rfl rfl rfl rfl ?_
                refine TL_skip rfl rfl rfl rfl rfl rfl rfl ?_
                refine TL_skip rfl rfl rfl rfl rfl rfl rfl ?_
                refine TL_skip rfl rfl rfl rfl rfl rfl rfl ?_
                refine TL_v rfl rfl rfl (V_pick (b := false) rfl rfl) ?_
                refine TL_v rfl rfl rfl (V_move rfl) ?_
                refine TL_skip rfl rfl rfl rfl rfl rfl rfl ?_
                refine TL_skip rfl rfl rfl rfl rfl rfl rfl ?_
                refine TL_skip rfl rfl rfl rfl rfl rfl rfl ?_
                refine TL_skip rfl rfl rfl rfl rfl rfl rfl ?_
                refine TL_v rfl rfl rfl (V_pick (b := false) rfl rfl) ?_
                refine TL_v rfl rfl rfl (V_assign rfl) ?_
                refine TL_nil ?_
                refine TX_next ?_
                refine TC.sub (m' := [(8, vb false)]) ⟨rfl, trivial⟩ ?_
                refine TC_ret ?_
                have hrv := Option.some.inj H
                subst hrv
                exact TX_ret (rs := [.tmp 8]) (vs := [vb false]) rfl ⟨rfl, trivial⟩ (fun w' hs' => ⟨(), rfl, Step.left (Step.pulled (is := []) (A := []) hs' rfl)⟩)
            · replace H := ite_f (of_decide_eq_false hc) H
              refine TL_skip rfl rfl rfl rfl rfl rfl rfl ?_
              refine TL_skip rfl rfl rfl rfl rfl rfl rfl ?_
              refine TL_skip rfl rfl rfl rfl rfl rfl rfl ?_
              refine TL_skip rfl rfl rfl rfl rfl rfl rfl ?_
              refine TL_v rfl rfl rfl (V_pick (b := false) rfl rfl) ?_
              refine TL_v rfl rfl rfl (V_move rfl) ?_
              refine TL_skip rfl rfl rfl rfl rfl rfl rfl ?_
              refine TL_skip rfl rfl rfl rfl rfl rfl rfl ?_
              refine TL_skip rfl rfl rfl rfl rfl rfl rfl ?_
              refine TL_skip rfl rfl rfl rfl rfl rfl rfl ?_
              refine TL_v rfl rfl rfl (V_pick (b := false) rfl rfl) ?_
              refine TL_v rfl rfl rfl (V_move rfl) ?_
              refine TL_skip rfl rfl rfl rfl rfl rfl rfl ?_
              refine TL_skip rfl rfl rfl rfl rfl rfl rfl ?_
              refine TL_skip rfl rfl rfl rfl rfl rfl rfl ?_
              refine TL_skip rfl rfl rfl rfl rfl rfl rfl ?_
              refine TL_v rfl rfl rfl (V_pick (b := false) rfl rfl) ?_
              refine TL_v rfl rfl rfl (V_assign rfl) ?_
              refine TL_nil ?_
              refine TX_next ?_
              refine TC.sub (m' := [(8, vb false)]) ⟨rfl, trivial⟩ ?_
              refine TC_ret ?_
              have hrv := Option.some.inj H
              subst hrv
              exact TX_ret (rs := [.tmp 8]) (vs := [vb false]) rfl ⟨rfl, trivial⟩ (fun w' hs' => ⟨(), rfl, Step.left (Step.pulled (is := []) (A := []) hs' rfl)⟩)
          · replace H := ite_f (of_decide_eq_false hc) H
            refine TL_skip rfl rfl rfl rfl rfl rfl rfl ?_
            refine TL_skip rfl rfl rfl rfl rfl rfl rfl ?_
            refine TL_skip rfl rfl rfl rfl rfl rfl rfl ?_
            refine TL_skip rfl rfl rfl rfl rfl rfl rfl ?_
            refine TL_v rfl rfl rfl (V_pick (b := false) rfl rfl) ?_
            refine TL_v rfl rfl rfl (V_move rfl) ?_
            refine TL_skip rfl rfl rfl rfl rfl rfl rfl ?_
            refine TL_skip rfl rfl rfl rfl rfl rfl rfl ?_
            refine TL_skip rfl rfl rfl rfl rfl rfl rfl ?_
            refine TL_skip rfl rfl rfl rfl rfl rfl rfl ?_
            refine TL_v rfl rfl rfl (V_pick (b := false) rfl rfl) ?_
            refine TL_v rfl rfl rfl (V_move rfl) ?_
            refine TL_skip rfl rfl rfl rfl rfl rfl rfl ?_
            refine TL_skip rfl rfl rfl rfl rfl rfl rfl ?_
            refine TL_skip rfl rfl rfl rfl rfl rfl rfl ?_
            refine TL_skip rfl rfl rfl rfl rfl rfl rfl ?_
            refine TL_v rfl rfl rfl (V_pick (b := false) rfl rfl) ?_
            refine TL_v rfl rfl rfl (V_move rfl) ?_
            refine TL_skip rfl rfl rfl rfl rfl rfl rfl ?_
            refine TL_skip rfl rfl rfl rfl rfl rfl rfl ?_
            refine TL_skip rfl rfl rfl rfl rfl rfl rfl ?_
            refine TL_skip rfl rfl rfl rfl rfl rfl rfl ?_
            refine TL_v rfl rfl rfl (V_pick (b := false) rfl rfl) ?_
            refine TL_v rfl rfl rfl (V_assign rfl) ?_
            refine TL_nil ?_
            refine TX_next ?_
            refine TC.sub (m' := [(8, vb false)]) ⟨rfl, trivial⟩ ?_
            refine TC_ret ?_
            have hrv := Option.some.inj H
            subst hrv
            exact TX_ret (rs := [.tmp 8]) (vs := [vb false]) rfl ⟨rfl, trivial⟩ (fun w' hs' => ⟨(), rfl, Step.left (Step.pulled (is := []) (A := []) hs' rfl)⟩)
      · dsimp only at H
        refine TL_e rfl rfl rfl (E_call (Γ := Unit × (Nat × Adr)) (val := fun g => Value.tuple [ptr (some (g.2.1, 0)) 0, vi 0].toArray) (mem := fun g => [⟨some (g.2.1, 0), [vi r_2.1]⟩, ⟨some (g.2.1, 1), e64 r_2.2.1.toList⟩, ⟨some (g.2.1, 9), e64 r_2.2.2.1.toList⟩, ⟨some (g.2.1, 89), [sl g.2.2 ((r_2.2.2.2).length) ((r_2.2.2.2 ++ ([] : List (BitVec 8))).length)]⟩, ⟨g.2.2, e8 (r_2.2.2.2 ++ ([] : List (BitVec 8)))⟩, ⟨some (g.2.1, 90), [v64 0#64]⟩]) (vs := [vi j1]) (Lin := []) (Ro := []) (is := []) rfl Try.call30 (F30_calls j1 (.inr r_2) hr_2) rfl trivial) (fun g_20 => ?_)
        refine TL_v rfl rfl rfl (V_move rfl) ?_
        refine TL_v rfl rfl rfl (V_extract (vs := [ptr (some (g_20.2.1, 0)) 0, vi 0]) rfl rfl) ?_
        refine TL_v rfl rfl rfl (V_extract (vs := [ptr (some (g_20.2.1, 0)) 0, vi 0]) rfl rfl) ?_
        refine TL_v rfl rfl rfl (V_assign rfl) ?_
        refine TL_v rfl rfl rfl (V_assign rfl) ?_
        refine TL_nil ?_
        refine TX_next ?_
        refine TC_seq ?_
        refine TC_seq ?_
        refine TC_region ?_
        refine TL_v rfl rfl rfl (V_move rfl) ?_
        obtain ⟨r_20, hr_20, H⟩ := bind_elim H
        refine TL_e rfl rfl rfl (E_call (Γ := Unit) (val := fun g => vi r_20) (mem := fun g => []) (vs := [vi 0]) (Lin := []) (Ro := []) (is := []) rfl Try.call25 (F25_calls 0 r_20 hr_20) rfl trivial) (fun g_21 => ?_)
        refine TL_v rfl rfl rfl (V_bin rfl rfl (fun w => neqI w r_20 0)) ?_
        refine TL_nil ?_
        refine TX_next ?_
        refine TC_cond (b := (decide (r_20 ≠ 0))) rfl (fun hc => ?_) (fun hc => ?_)
        · replace H := ite_t (of_decide_eq_true hc) H
          refine TC_seq ?_
          refine TC_region ?_
          refine TL_v rfl rfl rfl (V_assign rfl) ?_
          refine TL_nil ?_
          refine TX_next ?_
          refine TC_ret ?_
          refine TX_then_ret ?_
          have hrv := Option.some.inj H
          subst hrv
          exact TX_ret (rs := [.tmp 8]) (vs := [vb false]) rfl ⟨rfl, trivial⟩ (fun w' hs' => ⟨(), rfl, Step.left (Step.pulled (is := []) (A := []) hs' rfl)⟩)
        · replace H := ite_f (of_decide_eq_false hc) H
          refine TC_skip ?_
          refine TX_next ?_
          refine TC_seq ?_
          refine TC_region ?_
          refine TL_v rfl rfl rfl (V_move rfl) ?_
          refine TL_v rfl rfl rfl (V_move rfl) ?_
          obtain ⟨r_21, hr_21, H⟩ := bind_elim H
          refine TL_e rfl rfl rfl (E_call (Γ := Adr × List (BitVec 8)) (val := fun g => Value.tuple [].toArray) (mem := fun g => [⟨some (g_20.2.1, 1), e64 r_21.1.toList⟩, ⟨some (g_20.2.1, 89), [sl g.1 ((r_21.2.1).length) ((r_21.2.1 ++ g.2).length)]⟩, ⟨g.1, e8 (r_21.2.1 ++ g.2)⟩, ⟨some (g_20.2.1, 90), [v64 r_21.2.2]⟩]) (vs := [ptr (some (g_20.2.1, 0)) 0, vs a_]) (Lin := [⟨some (g_20.2.1, 1), e64 r_2.2.1.toList⟩, ⟨some (g_20.2.1, 89), [sl g_20.2.2 ((r_2.2.2.2).length) ((r_2.2.2.2 ++ ([] : List (BitVec 8))).length)]⟩, ⟨some (g_20.2.1, 90), [v64 0#64]⟩, ⟨g_20.2.2, e8 (r_2.2.2.2 ++ ([] : List (BitVec 8)))⟩]) (Ro := [⟨some (g_20.2.1, 0), [vi r_2.1]⟩, ⟨some (g_20.2.1, 9), e64 r_2.2.2.1.toList⟩]) (is := [1, 2, 3, 2]) rfl Try.call32 (F32_calls g_20.2.1 0 g_20.2.2 ([] : List (BitVec 8)) r_2.1 r_2.2.1 r_2.2.2.1 r_2.2.2.2 0#64 a_ r_21 hr_21) rfl ⟨SrcD.own (j := 0) rfl, SrcD.own (j := 1) rfl, trivial⟩) (fun g_22 => ?_)
          refine TL_nil ?_
          refine TX_next ?_
          refine TC_seq ?_
          refine TC_region ?_
          refine TL_v rfl rfl rfl (V_move rfl) ?_
          obtain ⟨r_22, hr_22, H⟩ := bind_elim H
          refine TL_e rfl rfl rfl (E_call (Γ := Nat × Adr × List (BitVec 8)) (val := fun g => ptr (some (g.1, 0)) 0) (mem := fun g => [⟨some (g.1, 0), [vi r_22.1]⟩, ⟨some (g.1, 1), e64 r_22.2.1.toList⟩, ⟨some (g.1, 9), e64 r_22.2.2.1.toList⟩, ⟨some (g.1, 89), [sl g.2.1 ((r_22.2.2.2.1).length) ((r_22.2.2.2.1 ++ g.2.2).length)]⟩, ⟨g.2.1, e8 (r_22.2.2.2.1 ++ g.2.2)⟩, ⟨some (g.1, 90), [v64 r_22.2.2.2.2]⟩]) (vs := [ptr (some (g_20.2.1, 0)) 0]) (Lin := []) (Ro := [⟨some (g_20.2.1, 0), [vi r_2.1]⟩, ⟨some (g_20.2.1, 1), e64 r_21.1.toList⟩, ⟨some (g_20.2.1, 9), e64 r_2.2.2.1.toList⟩, ⟨some (g_20.2.1, 89), [sl g_22.1 ((r_21.2.1).length) ((r_21.2.1 ++ g_22.2).length)]⟩, ⟨some (g_20.2.1, 90), [v64 r_21.2.2]⟩, ⟨g_22.1, e8 r_21.2.1⟩]) (is := []) rfl Try.call31 (F31_calls g_20.2.1 0 g_22.1 ((r_21.2.1 ++ g_22.2).length) r_2.1 r_21.1 r_2.2.2.1 r_21.2.1 r_21.2.2 (row_le _ _) r_22 hr_22) rfl ⟨SrcD.own (j := 4) rfl, SrcD.own (j := 0) rfl, SrcD.own (j := 5) rfl, SrcD.own (j := 1) rfl, SrcD.own (j := 3) rfl, (srcdRow (SrcD.own (j := 2) rfl)), trivial⟩) (fun g_23 => ?_)
          refine TL_v rfl rfl rfl (V_move rfl) ?_
          obtain ⟨r_23, hr_23, H⟩ := bind_elim H
          refine TL_e rfl rfl rfl (E_call (Γ := Nat × Adr × List (BitVec 8)) (val := fun g => ptr (some (g.1, 0)) 0) (mem := fun g => [⟨some (g.1, 0), [vi r_23.1]⟩, ⟨some (g.1, 1), e64 r_23.2.1.toList⟩, ⟨some (g.1, 9), e64 r_23.2.2.1.toList⟩, ⟨some (g.1, 89), [sl g.2.1 ((r_23.2.2.2.1).length) ((r_23.2.2.2.1 ++ g.2.2).length)]⟩, ⟨g.2.1, e8 (r_23.2.2.2.1 ++ g.2.2)⟩, ⟨some (g.1, 90), [v64 r_23.2.2.2.2]⟩]) (vs := [ptr (some (g_20.2.1, 0)) 0]) (Lin := []) (Ro := [⟨some (g_20.2.1, 0), [vi r_2.1]⟩, ⟨some (g_20.2.1, 1), e64 r_21.1.toList⟩, ⟨some (g_20.2.1, 9), e64 r_2.2.2.1.toList⟩, ⟨some (g_20.2.1, 89), [sl g_22.1 ((r_21.2.1).length) ((r_21.2.1 ++ g_22.2).length)]⟩, ⟨some (g_20.2.1, 90), [v64 r_21.2.2]⟩, ⟨g_22.1, e8 r_21.2.1⟩]) (is := []) rfl Try.call31 (F31_calls g_20.2.1 0 g_22.1 ((r_21.2.1 ++ g_22.2).length) r_2.1 r_21.1 r_2.2.2.1 r_21.2.1 r_21.2.2 (row_le _ _) r_23 hr_23) rfl ⟨SrcD.own (j := 10) rfl, SrcD.own (j := 6) rfl, SrcD.own (j := 11) rfl, SrcD.own (j := 7) rfl, SrcD.own (j := 9) rfl, (srcdRow (SrcD.own (j := 8) rfl)), trivial⟩) (fun g_24 => ?_)
          refine TL_v rfl rfl rfl (V_assign rfl) ?_
          refine TL_v rfl rfl rfl (V_assign rfl) ?_
          refine TL_nil ?_
          refine TX_next ?_
          refine TC_seq ?_
          refine TC_region ?_
          refine TL_v rfl rfl rfl (V_move rfl) ?_
          refine TL_v rfl rfl rfl (V_move rfl) ?_
          obtain ⟨r_24, hr_24, H⟩ := bind_elim H
          refine TL_e rfl rfl rfl (E_call (Γ := Adr × List (BitVec 8)) (val := fun g => Value.tuple [].toArray) (mem := fun g => [⟨some (g_23.1, 1), e64 r_24.1.toList⟩, ⟨some (g_23.1, 89), [sl g.1 ((r_24.2.1).length) ((r_24.2.1 ++ g.2).length)]⟩, ⟨g.1, e8 (r_24.2.1 ++ g.2)⟩, ⟨some (g_23.1, 90), [v64 r_24.2.2]⟩]) (vs := [ptr (some (g_23.1, 0)) 0, vs b]) (Lin := [⟨some (g_23.1, 1), e64 r_22.2.1.toList⟩, ⟨some (g_23.1, 89), [sl g_23.2.1 ((r_22.2.2.2.1).length) ((r_22.2.2.2.1 ++ g_23.2.2).length)]⟩, ⟨some (g_23.1, 90), [v64 r_22.2.2.2.2]⟩, ⟨g_23.2.1, e8 (r_22.2.2.2.1 ++ g_23.2.2)⟩]) (Ro := [⟨some (g_23.1, 0), [vi r_22.1]⟩, ⟨some (g_23.1, 9), e64 r_22.2.2.1.toList⟩]) (is := [7, 8, 9, 8]) rfl Try.call32 (F32_calls g_23.1 0 g_23.2.1 g_23.2.2 r_22.1 r_22.2.1 r_22.2.2.1 r_22.2.2.2.1 r_22.2.2.2.2 b r_24 hr_24) rfl ⟨SrcD.own (j := 6) rfl, SrcD.own (j := 7) rfl, trivial⟩) (fun g_25 => ?_)
          refine TL_nil ?_
          refine TX_next ?_
          refine TC_seq ?_
          refine TC_region ?_
          refine TL_v rfl rfl rfl (V_move rfl) ?_
          obtain ⟨r_25, hr_25, H⟩ := bind_elim H
          refine TL_e rfl rfl rfl (E_call (Γ := Nat × Adr × List (BitVec 8)) (val := fun g => ptr (some (g.1, 0)) 0) (mem := fun g => [⟨some (g.1, 0), [vi r_25.1]⟩, ⟨some (g.1, 1), e64 r_25.2.1.toList⟩, ⟨some (g.1, 9), e64 r_25.2.2.1.toList⟩, ⟨some (g.1, 89), [sl g.2.1 ((r_25.2.2.2.1).length) ((r_25.2.2.2.1 ++ g.2.2).length)]⟩, ⟨g.2.1, e8 (r_25.2.2.2.1 ++ g.2.2)⟩, ⟨some (g.1, 90), [v64 r_25.2.2.2.2]⟩]) (vs := [ptr (some (g_23.1, 0)) 0]) (Lin := []) (Ro := [⟨some (g_23.1, 0), [vi r_22.1]⟩, ⟨some (g_23.1, 1), e64 r_24.1.toList⟩, ⟨some (g_23.1, 9), e64 r_22.2.2.1.toList⟩, ⟨some (g_23.1, 89), [sl g_25.1 ((r_24.2.1).length) ((r_24.2.1 ++ g_25.2).length)]⟩, ⟨some (g_23.1, 90), [v64 r_24.2.2]⟩, ⟨g_25.1, e8 r_24.2.1⟩]) (is := []) rfl Try.call31 (F31_calls g_23.1 0 g_25.1 ((r_24.2.1 ++ g_25.2).length) r_22.1 r_24.1 r_22.2.2.1 r_24.2.1 r_24.2.2 (row_le _ _) r_25 hr_25) rfl ⟨SrcD.own (j := 10) rfl, SrcD.own (j := 0) rfl, SrcD.own (j := 11) rfl, SrcD.own (j := 1) rfl, SrcD.own (j := 3) rfl, (srcdRow (SrcD.own (j := 2) rfl)), trivial⟩) (fun g_26 => ?_)
          refine TL_v rfl rfl rfl (V_assign rfl) ?_
          refine TL_nil ?_
          refine TX_next ?_
          refine TC_seq ?_
          refine TC_region ?_
          refine TL_v rfl rfl rfl (V_move rfl) ?_
          refine TL_v rfl rfl rfl (V_move rfl) ?_
          obtain ⟨r_26, hr_26, H⟩ := bind_elim H
          refine TL_e rfl rfl rfl (E_call (Γ := Adr × List (BitVec 8)) (val := fun g => Value.tuple [].toArray) (mem := fun g => [⟨some (g_24.1, 1), e64 r_26.1.toList⟩, ⟨some (g_24.1, 89), [sl g.1 ((r_26.2.1).length) ((r_26.2.1 ++ g.2).length)]⟩, ⟨g.1, e8 (r_26.2.1 ++ g.2)⟩, ⟨some (g_24.1, 90), [v64 r_26.2.2]⟩]) (vs := [ptr (some (g_24.1, 0)) 0, vs c]) (Lin := [⟨some (g_24.1, 1), e64 r_23.2.1.toList⟩, ⟨some (g_24.1, 89), [sl g_24.2.1 ((r_23.2.2.2.1).length) ((r_23.2.2.2.1 ++ g_24.2.2).length)]⟩, ⟨some (g_24.1, 90), [v64 r_23.2.2.2.2]⟩, ⟨g_24.2.1, e8 (r_23.2.2.2.1 ++ g_24.2.2)⟩]) (Ro := [⟨some (g_24.1, 0), [vi r_23.1]⟩, ⟨some (g_24.1, 9), e64 r_23.2.2.1.toList⟩]) (is := [11, 12, 13, 12]) rfl Try.call32 (F32_calls g_24.1 0 g_24.2.1 g_24.2.2 r_23.1 r_23.2.1 r_23.2.2.1 r_23.2.2.2.1 r_23.2.2.2.2 c r_26 hr_26) rfl ⟨SrcD.own (j := 10) rfl, SrcD.own (j := 11) rfl, trivial⟩) (fun g_27 => ?_)
          refine TL_nil ?_
          refine TX_next ?_
          refine TC.sub (m' := [(1, vs a_), (2, vs b), (3, vs c), (9, vi j1), (10, ptr (some (g_20.2.1, 0)) 0), (12, ptr (some (g_23.1, 0)) 0), (13, ptr (some (g_24.1, 0)) 0), (14, ptr (some (g_26.1, 0)) 0)]) ⟨rfl, rfl, rfl, rfl, rfl, rfl, rfl, rfl, trivial⟩ ?_
          refine TC_seq ?_
          refine TC_region ?_
          refine TL_v rfl rfl rfl (V_move rfl) ?_
          refine TL_v rfl rfl rfl (V_move rfl) ?_
          obtain ⟨r_27, hr_27, H⟩ := bind_elim H
          refine TL_e rfl rfl rfl (E_call (Γ := Adr × List (BitVec 8)) (val := fun g => Value.tuple [].toArray) (mem := fun g => [⟨some (g_26.1, 1), e64 r_27.1.toList⟩, ⟨some (g_26.1, 89), [sl g.1 ((r_27.2.1).length) ((r_27.2.1 ++ g.2).length)]⟩, ⟨g.1, e8 (r_27.2.1 ++ g.2)⟩, ⟨some (g_26.1, 90), [v64 r_27.2.2]⟩]) (vs := [ptr (some (g_26.1, 0)) 0, vs c]) (Lin := [⟨some (g_26.1, 1), e64 r_25.2.1.toList⟩, ⟨some (g_26.1, 89), [sl g_26.2.1 ((r_25.2.2.2.1).length) ((r_25.2.2.2.1 ++ g_26.2.2).length)]⟩, ⟨some (g_26.1, 90), [v64 r_25.2.2.2.2]⟩, ⟨g_26.2.1, e8 (r_25.2.2.2.1 ++ g_26.2.2)⟩]) (Ro := [⟨some (g_26.1, 0), [vi r_25.1]⟩, ⟨some (g_26.1, 9), e64 r_25.2.2.1.toList⟩]) (is := [5, 6, 7, 6]) rfl Try.call32 (F32_calls g_26.1 0 g_26.2.1 g_26.2.2 r_25.1 r_25.2.1 r_25.2.2.1 r_25.2.2.2.1 r_25.2.2.2.2 c r_27 hr_27) rfl ⟨SrcD.own (j := 4) rfl, SrcD.own (j := 5) rfl, trivial⟩) (fun g_28 => ?_)
          refine TL_nil ?_
          refine TX_next ?_
          refine TC_seq ?_
          refine TC_region ?_
          refine TL_v rfl rfl rfl (V_move rfl) ?_
          refine TL_v rfl rfl rfl (V_move rfl) ?_
          obtain ⟨r_28, hr_28, H⟩ := bind_elim H
          refine TL_e rfl rfl rfl (E_call (Γ := Unit) (val := fun g => Value.tuple [vs r_28.1, vi r_28.2].toArray) (mem := fun g => []) (vs := [vi j1, vs a_]) (Lin := []) (Ro := []) (is := []) rfl Try.call27 (F27_calls j1 a_ r_28 hr_28) rfl trivial) (fun g_29 => ?_)
          refine TL_v rfl rfl rfl (V_move rfl) ?_
          refine TL_v rfl rfl rfl (V_extract (vs := [vs r_28.1, vi r_28.2]) rfl rfl) ?_
          refine TL_v rfl rfl rfl (V_extract (vs := [vs r_28.1, vi r_28.2]) rfl rfl) ?_
          refine TL_v rfl rfl rfl (V_assign rfl) ?_
          refine TL_v rfl rfl rfl (V_assign rfl) ?_
          refine TL_nil ?_
          refine TX_next ?_
          refine TC_seq ?_
          refine TC_region ?_
          refine TL_v rfl rfl rfl (V_move rfl) ?_
          refine TL_v rfl rfl rfl (V_move rfl) ?_
          refine TL_v rfl rfl rfl (V_move rfl) ?_
          obtain ⟨h5, H⟩ := if_elim H
          refine TL_v rfl rfl rfl (V_bin rfl rfl (fun w => addS w a_ b h5)) ?_
          obtain ⟨r_29, hr_29, H⟩ := bind_elim H
          refine TL_e rfl rfl rfl (E_call (Γ := Unit) (val := fun g => Value.tuple [vs r_29.1, vi r_29.2].toArray) (mem := fun g => []) (vs := [vi j1, vs (a_ ++ b)]) (Lin := []) (Ro := []) (is := []) rfl Try.call27 (F27_calls j1 (a_ ++ b) r_29 hr_29) rfl trivial) (fun g_30 => ?_)
          refine TL_v rfl rfl rfl (V_move rfl) ?_
          refine TL_v rfl rfl rfl (V_extract (vs := [vs r_29.1, vi r_29.2]) rfl rfl) ?_
          refine TL_v rfl rfl rfl (V_extract (vs := [vs r_29.1, vi r_29.2]) rfl rfl) ?_
          refine TL_v rfl rfl rfl (V_assign rfl) ?_
          refine TL_v rfl rfl rfl (V_assign rfl) ?_
          refine TL_nil ?_
          refine TX_next ?_
          refine TC_seq ?_
          refine TC_region ?_
          refine TL_v rfl rfl rfl (V_move rfl) ?_
          refine TL_v rfl rfl rfl (V_move rfl) ?_
          refine TL_v rfl rfl rfl (V_move rfl) ?_
          obtain ⟨h6, H⟩ := if_elim H
          refine TL_v rfl rfl rfl (V_bin rfl rfl (fun w => addS w a_ c h6)) ?_
          obtain ⟨r_30, hr_30, H⟩ := bind_elim H
          refine TL_e rfl rfl rfl (E_call (Γ := Unit) (val := fun g => Value.tuple [vs r_30.1, vi r_30.2].toArray) (mem := fun g => []) (vs := [vi j1, vs (a_ ++ c)]) (Lin := []) (Ro := []) (is := []) rfl Try.call27 (F27_calls j1 (a_ ++ c) r_30 hr_30) rfl trivial) (fun g_31 => ?_)
          refine TL_v rfl rfl rfl (V_move rfl) ?_
          refine TL_v rfl rfl rfl (V_extract (vs := [vs r_30.1, vi r_30.2]) rfl rfl) ?_
          refine TL_v rfl rfl rfl (V_extract (vs := [vs r_30.1, vi r_30.2]) rfl rfl) ?_
          refine TL_v rfl rfl rfl (V_assign rfl) ?_
          refine TL_v rfl rfl rfl (V_assign rfl) ?_
          refine TL_nil ?_
          refine TX_next ?_
          refine TC.sub (m' := [(1, vs a_), (2, vs b), (3, vs c), (9, vi j1), (10, ptr (some (g_20.2.1, 0)) 0), (12, ptr (some (g_23.1, 0)) 0), (13, ptr (some (g_24.1, 0)) 0), (14, ptr (some (g_26.1, 0)) 0), (15, vs r_28.1), (17, vs r_29.1), (19, vs r_30.1)]) ⟨rfl, rfl, rfl, rfl, rfl, rfl, rfl, rfl, rfl, rfl, rfl, trivial⟩ ?_
          refine TC_seq ?_
          refine TC_region ?_
          refine TL_v rfl rfl rfl (V_move rfl) ?_
          refine TL_v rfl rfl rfl (V_move rfl) ?_
          refine TL_v rfl rfl rfl (V_move rfl) ?_
          obtain ⟨h7, H⟩ := if_elim H
          refine TL_v rfl rfl rfl (V_bin rfl rfl (fun w => addS w a_ b h7)) ?_
          refine TL_v rfl rfl rfl (V_move rfl) ?_
          obtain ⟨h8, H⟩ := if_elim H
          refine TL_v rfl rfl rfl (V_bin rfl rfl (fun w => addS w (a_ ++ b) c h8)) ?_
          obtain ⟨r_31, hr_31, H⟩ := bind_elim H
          refine TL_e rfl rfl rfl (E_call (Γ := Unit) (val := fun g => Value.tuple [vs r_31.1, vi r_31.2].toArray) (mem := fun g => []) (vs := [vi j1, vs ((a_ ++ b) ++ c)]) (Lin := []) (Ro := []) (is := []) rfl Try.call27 (F27_calls j1 ((a_ ++ b) ++ c) r_31 hr_31) rfl trivial) (fun g_32 => ?_)
          refine TL_v rfl rfl rfl (V_move rfl) ?_
          refine TL_v rfl rfl rfl (V_extract (vs := [vs r_31.1, vi r_31.2]) rfl rfl) ?_
          refine TL_v rfl rfl rfl (V_extract (vs := [vs r_31.1, vi r_31.2]) rfl rfl) ?_
          refine TL_v rfl rfl rfl (V_assign rfl) ?_
          refine TL_v rfl rfl rfl (V_assign rfl) ?_
          refine TL_nil ?_
          refine TX_next ?_
          refine TC_seq ?_
          refine TC_region ?_
          refine TL_v rfl rfl rfl (V_move rfl) ?_
          obtain ⟨r_32, hr_32, H⟩ := bind_elim H
          refine TL_e rfl rfl rfl (E_call (Γ := Unit) (val := fun g => vs r_32) (mem := fun g => []) (vs := [ptr (some (g_20.2.1, 0)) 0]) (Lin := []) (Ro := [⟨some (g_20.2.1, 0), [vi r_2.1]⟩, ⟨some (g_20.2.1, 1), e64 r_21.1.toList⟩, ⟨some (g_20.2.1, 9), e64 r_2.2.2.1.toList⟩, ⟨some (g_20.2.1, 89), [sl g_22.1 ((r_21.2.1).length) ((r_21.2.1 ++ g_22.2).length)]⟩, ⟨some (g_20.2.1, 90), [v64 r_21.2.2]⟩, ⟨g_22.1, e8 r_21.2.1⟩]) (is := []) rfl Try.call33 (F33_calls g_20.2.1 0 g_22.1 ((r_21.2.1 ++ g_22.2).length) r_2.1 r_21.1 r_2.2.2.1 r_21.2.1 r_21.2.2 (row_le _ _) r_32 hr_32) rfl ⟨SrcD.own (j := 22) rfl, SrcD.own (j := 18) rfl, SrcD.own (j := 23) rfl, SrcD.own (j := 19) rfl, SrcD.own (j := 21) rfl, (srcdRow (SrcD.own (j := 20) rfl)), trivial⟩) (fun g_33 => ?_)
          refine TL_v rfl rfl rfl (V_move rfl) ?_
          refine TL_v rfl rfl rfl (V_bin rfl rfl (fun w => eqlS w r_32 r_28.1)) ?_
          refine TL_v rfl rfl rfl (V_move rfl) ?_
          refine TL_fork (d := 88) (b := (decide (r_32 = r_28.1))) rfl (fun hc => ?_) (fun hc => ?_)
          · replace H := ite_t (of_decide_eq_true hc) H
            refine TL_want rfl rfl rfl rfl rfl rfl (V_move rfl) ?_
            obtain ⟨r_33, hr_33, H⟩ := bind_elim H
            refine TL_wantE rfl rfl rfl rfl rfl rfl (E_call (Γ := Unit) (val := fun g => vs r_33) (mem := fun g => []) (vs := [ptr (some (g_23.1, 0)) 0]) (Lin := []) (Ro := [⟨some (g_23.1, 0), [vi r_22.1]⟩, ⟨some (g_23.1, 1), e64 r_24.1.toList⟩, ⟨some (g_23.1, 9), e64 r_22.2.2.1.toList⟩, ⟨some (g_23.1, 89), [sl g_25.1 ((r_24.2.1).length) ((r_24.2.1 ++ g_25.2).length)]⟩, ⟨some (g_23.1, 90), [v64 r_24.2.2]⟩, ⟨g_25.1, e8 r_24.2.1⟩]) (is := []) rfl Try.call33 (F33_calls g_23.1 0 g_25.1 ((r_24.2.1 ++ g_25.2).length) r_22.1 r_24.1 r_22.2.2.1 r_24.2.1 r_24.2.2 (row_le _ _) r_33 hr_33) rfl ⟨SrcD.own (j := 16) rfl, SrcD.own (j := 10) rfl, SrcD.own (j := 17) rfl, SrcD.own (j := 11) rfl, SrcD.own (j := 13) rfl, (srcdRow (SrcD.own (j := 12) rfl)), trivial⟩) (fun g_34 => ?_)
            refine TL_want rfl rfl rfl rfl rfl rfl (V_move rfl) ?_
            refine TL_want rfl rfl rfl rfl rfl rfl (V_bin rfl rfl (fun w => eqlS w r_33 r_29.1)) ?_
            refine TL_v rfl rfl rfl (V_pick (b := true) rfl rfl) ?_
            refine TL_v rfl rfl rfl (V_move rfl) ?_
            refine TL_fork (d := 94) (b := (decide (r_33 = r_29.1))) rfl (fun hc => ?_) (fun hc => ?_)
            · replace H := ite_t (of_decide_eq_true hc) H
              refine TL_want rfl rfl rfl rfl rfl rfl (V_move rfl) ?_
              obtain ⟨r_34, hr_34, H⟩ := bind_elim H
              refine TL_wantE rfl rfl rfl rfl rfl rfl (E_call (Γ := Unit) (val := fun g => vs r_34) (mem := fun g => []) (vs := [ptr (some (g_24.1, 0)) 0]) (Lin := []) (Ro := [⟨some (g_24.1, 0), [vi r_23.1]⟩, ⟨some (g_24.1, 1), e64 r_26.1.toList⟩, ⟨some (g_24.1, 9), e64 r_23.2.2.1.toList⟩, ⟨some (g_24.1, 89), [sl g_27.1 ((r_26.2.1).length) ((r_26.2.1 ++ g_27.2).length)]⟩, ⟨some (g_24.1, 90), [v64 r_26.2.2]⟩, ⟨g_27.1, e8 r_26.2.1⟩]) (is := []) rfl Try.call33 (F33_calls g_24.1 0 g_27.1 ((r_26.2.1 ++ g_27.2).length) r_23.1 r_26.1 r_23.2.2.1 r_26.2.1 r_26.2.2 (row_le _ _) r_34 hr_34) rfl ⟨SrcD.own (j := 14) rfl, SrcD.own (j := 4) rfl, SrcD.own (j := 15) rfl, SrcD.own (j := 5) rfl, SrcD.own (j := 7) rfl, (srcdRow (SrcD.own (j := 6) rfl)), trivial⟩) (fun g_35 => ?_)
              refine TL_want rfl rfl rfl rfl rfl rfl (V_move rfl) ?_
              refine TL_want rfl rfl rfl rfl rfl rfl (V_bin rfl rfl (fun w => eqlS w r_34 r_30.1)) ?_
              refine TL_v rfl rfl rfl (V_pick (b := true) rfl rfl) ?_
              refine TL_v rfl rfl rfl (V_move rfl) ?_
              refine TL_fork (d := 100) (b := (decide (r_34 = r_30.1))) rfl (fun hc => ?_) (fun hc => ?_)
              · replace H := ite_t (of_decide_eq_true hc) H
                refine TL_want rfl rfl rfl rfl rfl rfl (V_move rfl) ?_
                obtain ⟨r_35, hr_35, H⟩ := bind_elim H
                refine TL_wantE rfl rfl rfl rfl rfl rfl (E_call (Γ := Unit) (val := fun g => vs r_35) (mem := fun g => []) (vs := [ptr (some (g_26.1, 0)) 0]) (Lin := []) (Ro := [⟨some (g_26.1, 0), [vi r_25.1]⟩, ⟨some (g_26.1, 1), e64 r_27.1.toList⟩, ⟨some (g_26.1, 9), e64 r_25.2.2.1.toList⟩, ⟨some (g_26.1, 89), [sl g_28.1 ((r_27.2.1).length) ((r_27.2.1 ++ g_28.2).length)]⟩, ⟨some (g_26.1, 90), [v64 r_27.2.2]⟩, ⟨g_28.1, e8 r_27.2.1⟩]) (is := []) rfl Try.call33 (F33_calls g_26.1 0 g_28.1 ((r_27.2.1 ++ g_28.2).length) r_25.1 r_27.1 r_25.2.2.1 r_27.2.1 r_27.2.2 (row_le _ _) r_35 hr_35) rfl ⟨SrcD.own (j := 8) rfl, SrcD.own (j := 0) rfl, SrcD.own (j := 9) rfl, SrcD.own (j := 1) rfl, SrcD.own (j := 3) rfl, (srcdRow (SrcD.own (j := 2) rfl)), trivial⟩) (fun g_36 => ?_)
                refine TL_want rfl rfl rfl rfl rfl rfl (V_move rfl) ?_
                refine TL_want rfl rfl rfl rfl rfl rfl (V_bin rfl rfl (fun w => eqlS w r_35 r_31.1)) ?_
                refine TL_v rfl rfl rfl (V_pick (b := true) rfl rfl) ?_
                refine TL_v rfl rfl rfl (V_move rfl) ?_
                refine TL_fork (d := 106) (b := (decide (r_35 = r_31.1))) rfl (fun hc => ?_) (fun hc => ?_)
                · replace H := ite_t (of_decide_eq_true hc) H
                  refine TL_want rfl rfl rfl rfl rfl rfl (V_move rfl) ?_
                  obtain ⟨r_36, hr_36, H⟩ := bind_elim H
                  refine TL_wantE rfl rfl rfl rfl rfl rfl (E_call (Γ := Unit) (val := fun g => vs r_36) (mem := fun g => []) (vs := [ptr (some (g_20.2.1, 0)) 0]) (Lin := []) (Ro := [⟨some (g_20.2.1, 0), [vi r_2.1]⟩, ⟨some (g_20.2.1, 1), e64 r_21.1.toList⟩, ⟨some (g_20.2.1, 9), e64 r_2.2.2.1.toList⟩, ⟨some (g_20.2.1, 89), [sl g_22.1 ((r_21.2.1).length) ((r_21.2.1 ++ g_22.2).length)]⟩, ⟨some (g_20.2.1, 90), [v64 r_21.2.2]⟩, ⟨g_22.1, e8 r_21.2.1⟩]) (is := []) rfl Try.call33 (F33_calls g_20.2.1 0 g_22.1 ((r_21.2.1 ++ g_22.2).length) r_2.1 r_21.1 r_2.2.2.1 r_21.2.1 r_21.2.2 (row_le _ _) r_36 hr_36) rfl ⟨SrcD.own (j := 22) rfl, SrcD.own (j := 18) rfl, SrcD.own (j := 23) rfl, SrcD.own (j := 19) rfl, SrcD.own (j := 21) rfl, (srcdRow (SrcD.own (j := 20) rfl)), trivial⟩) (fun g_37 => ?_)
                  refine TL_want rfl rfl rfl rfl rfl rfl (V_move rfl) ?_
                  refine TL_want rfl rfl rfl rfl rfl rfl (V_bin rfl rfl (fun w => eqlS w r_36 r_28.1)) ?_
                  refine TL_v rfl rfl rfl (V_pick (b := true) rfl rfl) ?_
                  refine TL_v rfl rfl rfl (V_assign rfl) ?_
                  obtain ⟨x2, hx2, H⟩ := ltt_elim H
                  refine TL_re (d := 8) (v := vb (decide (r_36 = r_28.1))) (v' := vb x2) rfl (congrArg vb hx2) ?_
                  refine TL_nil ?_
                  refine TX_next ?_
                  refine TC.sub (m' := [(8, vb x2)]) ⟨rfl, trivial⟩ ?_
                  refine TC_ret ?_
                  have hrv := Option.some.inj H
                  subst hrv
                  exact TX_ret (rs := [.tmp 8]) (vs := [vb x2]) rfl ⟨rfl, trivial⟩ (fun w' hs' => ⟨(), rfl, Step.left (Step.pulled (is := []) (A := []) hs' rfl)⟩)
                · replace H := ite_f (of_decide_eq_false hc) H
                  refine TL_skip rfl rfl rfl rfl rfl rfl rfl ?_
                  refine TL_skip rfl rfl rfl rfl rfl rfl rfl ?_
                  refine TL_skip rfl rfl rfl rfl rfl rfl rfl ?_
                  refine TL_skip rfl rfl rfl rfl rfl rfl rfl ?_
                  refine TL_v rfl rfl rfl (V_pick (b := false) rfl rfl) ?_
                  refine TL_v rfl rfl rfl (V_assign rfl) ?_
                  refine TL_nil ?_
                  refine TX_next ?_
                  refine TC.sub (m' := [(8, vb false)]) ⟨rfl, trivial⟩ ?_
                  refine TC_ret ?_
                  have hrv := Option.some.inj H
                  subst hrv
                  exact TX_ret (rs := [.tmp 8]) (vs := [vb false]) rfl ⟨rfl, trivial⟩ (fun w' hs' => ⟨(), rfl, Step.left (Step.pulled (is := []) (A := []) hs' rfl)⟩)
              · replace H := ite_f (of_decide_eq_false hc) H
                refine TL_skip rfl rfl rfl rfl rfl rfl rfl ?_
                refine TL_skip rfl rfl rfl rfl rfl rfl rfl ?_
                refine TL_skip rfl rfl rfl rfl rfl rfl rfl ?_
                refine TL_skip rfl rfl rfl rfl rfl rfl rfl ?_
                refine TL_v rfl rfl rfl (V_pick (b := false) rfl rfl) ?_
                refine TL_v rfl rfl rfl (V_move rfl) ?_
                refine TL_skip rfl rfl rfl rfl rfl rfl rfl ?_
                refine TL_skip rfl rfl rfl rfl rfl rfl rfl ?_
                refine TL_skip rfl rfl rfl rfl rfl rfl rfl ?_
                refine TL_skip rfl rfl rfl rfl rfl rfl rfl ?_
                refine TL_v rfl rfl rfl (V_pick (b := false) rfl rfl) ?_
                refine TL_v rfl rfl rfl (V_assign rfl) ?_
                refine TL_nil ?_
                refine TX_next ?_
                refine TC.sub (m' := [(8, vb false)]) ⟨rfl, trivial⟩ ?_
                refine TC_ret ?_
                have hrv := Option.some.inj H
                subst hrv
                exact TX_ret (rs := [.tmp 8]) (vs := [vb false]) rfl ⟨rfl, trivial⟩ (fun w' hs' => ⟨(), rfl, Step.left (Step.pulled (is := []) (A := []) hs' rfl)⟩)
            · replace H := ite_f (of_decide_eq_false hc) H
              refine TL_skip rfl rfl rfl rfl rfl rfl rfl ?_
              refine TL_skip rfl rfl rfl rfl rfl rfl rfl ?_
              refine TL_skip rfl rfl rfl rfl rfl rfl rfl ?_
              refine TL_skip rfl rfl rfl rfl rfl rfl rfl ?_
              refine TL_v rfl rfl rfl (V_pick (b := false) rfl rfl) ?_
              refine TL_v rfl rfl rfl (V_move rfl) ?_
              refine TL_skip rfl rfl rfl rfl rfl rfl rfl ?_
              refine TL_skip rfl rfl rfl rfl rfl rfl rfl ?_
              refine TL_skip rfl rfl rfl rfl rfl rfl rfl ?_
              refine TL_skip rfl rfl rfl rfl rfl rfl rfl ?_
              refine TL_v rfl rfl rfl (V_pick (b := false) rfl rfl) ?_
              refine TL_v rfl rfl rfl (V_move rfl) ?_
              refine TL_skip rfl rfl rfl rfl rfl rfl rfl ?_
              refine TL_skip rfl rfl rfl rfl rfl rfl rfl ?_
              refine TL_skip rfl rfl rfl rfl rfl rfl rfl ?_
              refine TL_skip rfl rfl rfl rfl rfl rfl rfl ?_
              refine TL_v rfl rfl rfl (V_pick (b := false) rfl rfl) ?_
              refine TL_v rfl rfl rfl (V_assign rfl) ?_
              refine TL_nil ?_
              refine TX_next ?_
              refine TC.sub (m' := [(8, vb false)]) ⟨rfl, trivial⟩ ?_
              refine TC_ret ?_
              have hrv := Option.some.inj H
              subst hrv
              exact TX_ret (rs := [.tmp 8]) (vs := [vb false]) rfl ⟨rfl, trivial⟩ (fun w' hs' => ⟨(), rfl, Step.left (Step.pulled (is := []) (A := []) hs' rfl)⟩)
          · replace H := ite_f (of_decide_eq_false hc) H
            refine TL_skip rfl rfl rfl rfl rfl rfl rfl ?_
            refine TL_skip rfl rfl rfl rfl rfl rfl rfl ?_
            refine TL_skip rfl rfl rfl rfl rfl rfl rfl ?_
            refine TL_skip rfl rfl rfl rfl rfl rfl rfl ?_
            refine TL_v rfl rfl rfl (V_pick (b := false) rfl rfl) ?_
            refine TL_v rfl rfl rfl (V_move rfl) ?_
            refine TL_skip rfl rfl rfl rfl rfl rfl rfl ?_
            refine TL_skip rfl rfl rfl rfl rfl rfl rfl ?_
            refine TL_skip rfl rfl rfl rfl rfl rfl rfl ?_
            refine TL_skip rfl rfl rfl rfl rfl rfl rfl ?_
            refine TL_v rfl rfl rfl (V_pick (b := false) rfl rfl) ?_
            refine TL_v rfl rfl rfl (V_move rfl) ?_
            refine TL_skip rfl rfl rfl rfl rfl rfl rfl ?_
            refine TL_skip rfl rfl rfl rfl rfl rfl rfl ?_
            refine TL_skip rfl rfl rfl rfl rfl rfl rfl ?_
            refine TL_skip rfl rfl rfl rfl rfl rfl rfl ?_
            refine TL_v rfl rfl rfl (V_pick (b := false) rfl rfl) ?_
            refine TL_v rfl rfl rfl (V_move rfl) ?_
            refine TL_skip rfl rfl rfl rfl rfl rfl rfl ?_
            refine TL_skip rfl rfl rfl rfl rfl rfl rfl ?_
            refine TL_skip rfl rfl rfl rfl rfl rfl rfl ?_
            refine TL_skip rfl rfl rfl rfl rfl rfl rfl ?_
            refine TL_v rfl rfl rfl (V_pick (b := false) rfl rfl) ?_
            refine TL_v rfl rfl rfl (V_assign rfl) ?_
            refine TL_nil ?_
            refine TX_next ?_
            refine TC.sub (m' := [(8, vb false)]) ⟨rfl, trivial⟩ ?_
            refine TC_ret ?_
            have hrv := Option.some.inj H
            subst hrv
            exact TX_ret (rs := [.tmp 8]) (vs := [vb false]) rfl ⟨rfl, trivial⟩ (fun w' hs' => ⟨(), rfl, Step.left (Step.pulled (is := []) (A := []) hs' rfl)⟩)
    · intro hJ
      replace H := Hj
      refine TC_cond (b := wide) rfl (fun hc => ?_) (fun hc => ?_)
      · replace H := ite_t hc H
        refine TC_region ?_
        refine TL_v rfl rfl rfl (V_assign rfl) ?_
        refine TL_nil ?_
        refine TX.sub (m' := [(1, vs a_), (2, vs b), (3, vs c), (9, vi 384)]) ⟨rfl, rfl, rfl, rfl, trivial⟩ ?_
        refine TX.pull (is := []) (L' := []) rfl ?_
        obtain rfl := Option.some.inj H
        exact hJ ()
      · replace H := ite_f (Bool.eq_false_iff.1 hc) H
        refine TC_skip ?_
        refine TX.sub (m' := [(1, vs a_), (2, vs b), (3, vs c), (9, vi 256)]) ⟨rfl, rfl, rfl, rfl, trivial⟩ ?_
        refine TX.pull (is := []) (L' := []) rfl ?_
        obtain rfl := Option.some.inj H
        exact hJ ()

end Go.Proofs
end

section
namespace Go.Proofs
open Go Go.Kx
set_option linter.unusedVariables false
set_option linter.unusedSimpArgs false
def halberdlaw2_ShaSplits.b0 (cuts : List (Int)) (s0 : Str × Int) : Option ((Str × Int) ⊕ (Str)) :=
  if s0.1 ≠ ([] : Str) then (if s0.2 < 3000 then (ltt (((s0.1).length : Int)) fun (k_1 : Int) => ((if s0.2 < ((cuts).length : Int) then (if 0 ≤ s0.2 ∧ s0.2 < ((cuts).length : Int) then (ltt (min k_1 (iop (· &&& ·) (lg cuts ((s0.2).toNat)) 63)) fun (k_2 : Int) => (some k_2)) else none) else (some k_1)).bind fun (j2 : Int) => (if 0 ≤ j2 then (if (j2).toNat ≤ (s0.1).length then ((sha_Hash_Write_nil0 (sub s0.1 0 ((j2).toNat))).bind fun (r_6 : Unit) => ((sha_Hash_Write_nil0 ([] : Str)).bind fun (r_7 : Unit) => (if 0 ≤ j2 then (if (j2).toNat ≤ (s0.1).length then (ltt (sub s0.1 ((j2).toNat) ((s0.1).length)) fun (t_2 : Str) => (ltt (w64 (s0.2 + 1)) fun (i1 : Int) => (some (.inl (t_2, i1))))) else none) else none))) else none) else none))) else (some (.inr s0.1))) else (some (.inr s0.1))

def halberdlaw2_ShaSplits.b1 (cuts : List (Int)) (r_2 : Int × Vector (BitVec 64) 8 × Vector (BitVec 64) 80 × List (BitVec 8)) (r_12 : Int × Vector (BitVec 64) 8 × Vector (BitVec 64) 80 × List (BitVec 8)) (s1 : Str × Int × Vector (BitVec 64) 8 × List (BitVec 8) × BitVec 64 × Vector (BitVec 64) 8 × List (BitVec 8) × BitVec 64) : Option ((Str × Int × Vector (BitVec 64) 8 × List (BitVec 8) × BitVec 64 × Vector (BitVec 64) 8 × List (BitVec 8) × BitVec 64) ⊕ (Str × Vector (BitVec 64) 8 × List (BitVec 8) × BitVec 64 × Vector (BitVec 64) 8 × List (BitVec 8) × BitVec 64)) :=
  if s1.1 ≠ ([] : Str) then (if s1.2.1 < 3000 then (ltt (((s1.1).length : Int)) fun (k_3 : Int) => ((if s1.2.1 < ((cuts).length : Int) then (if 0 ≤ s1.2.1 ∧ s1.2.1 < ((cuts).length : Int) then (ltt (min k_3 (iop (· &&& ·) (lg cuts ((s1.2.1).toNat)) 63)) fun (k_4 : Int) => (some k_4)) else none) else (some k_3)).bind fun (j3 : Int) => (if 0 ≤ j3 then (if (j3).toNat ≤ (s1.1).length then ((sha_Hash_Write r_2.1 s1.2.2.1 r_2.2.2.1 s1.2.2.2.1 s1.2.2.2.2.1 (sub s1.1 0 ((j3).toNat))).bind fun (r_15 : Vector (BitVec 64) 8 × List (BitVec 8) × BitVec 64) => ((sha_Hash_Write r_12.1 s1.2.2.2.2.2.1 r_12.2.2.1 s1.2.2.2.2.2.2.1 s1.2.2.2.2.2.2.2 ([] : Str)).bind fun (r_16 : Vector (BitVec 64) 8 × List (BitVec 8) × BitVec 64) => (if 0 ≤ j3 then (if (j3).toNat ≤ (s1.1).length then (ltt (sub s1.1 ((j3).toNat) ((s1.1).length)) fun (t_4 : Str) => (ltt (w64 (s1.2.1 + 1)) fun (i2 : Int) => (some (.inl (t_4, i2, r_15.1, r_15.2.1, r_15.2.2, r_16.1, r_16.2.1, r_16.2.2))))) else none) else none))) else none) else none))) else (some (.inr (s1.1, s1.2.2.1, s1.2.2.2.1, s1.2.2.2.2.1, s1.2.2.2.2.2.1, s1.2.2.2.2.2.2.1, s1.2.2.2.2.2.2.2)))) else (some (.inr (s1.1, s1.2.2.1, s1.2.2.2.1, s1.2.2.2.2.1, s1.2.2.2.2.2.1, s1.2.2.2.2.2.2.1, s1.2.2.2.2.2.2.2)))

def halberdlaw2_ShaSplits (wide : Bool) (s_ : Str) (cuts : List (Int)) : Option (Bool) :=
  (halberdlaw2_awake).bind fun (r_1 : Bool) => (if (!r_1) = true then (some false) else ((if wide = true then (some 384) else (some 256)).bind fun (j1 : Int) => ((sha_New j1).bind fun (r_2 : (Unit) ⊕ (Int × Vector (BitVec 64) 8 × Vector (BitVec 64) 80 × List (BitVec 8))) => (match r_2 with | .inl r_2 => ((sha_New j1).bind fun (r_3 : (Unit) ⊕ (Int × Vector (BitVec 64) 8 × Vector (BitVec 64) 80 × List (BitVec 8))) => (match r_3 with | .inl r_3 => ((halberdlaw0_Num 200).bind fun (r_4 : Int) => (if r_4 ≠ 0 then (some false) else ((halberdlaw0_Num 200).bind fun (r_5 : Int) => (if r_5 ≠ 0 then (some false) else ((loop (halberdlaw2_ShaSplits.b0 cuts) BIG (s_, 0)).bind fun (t_1 : Str) => ((sha_Sum j1 s_).bind fun (r_8 : Str × Int) => ((sha_Sum j1 ([] : Str)).bind fun (r_9 : Str × Int) => (if t_1 ≠ ([] : Str) then (some true) else ((sha_Hash_Sum_nil0).bind fun (r_10 : Unit) => (if ([] : Str) = r_8.1 then ((sha_Hash_Sum_nil0).bind fun (r_11 : Unit) => (if ([] : Str) = r_9.1 then (ltt (decide (((r_8.1).length : Int) = (w64 (j1.tdiv 8)))) fun (x1 : Bool) => (some x1)) else (some false))) else (some false))))))))))) | .inr r_3 => (none))) | .inr r_2 => ((sha_New j1).bind fun (r_12 : (Unit) ⊕ (Int × Vector (BitVec 64) 8 × Vector (BitVec 64) 80 × List (BitVec 8))) => (match r_12 with | .inl r_12 => (none) | .inr r_12 => ((halberdlaw0_Num 0).bind fun (r_13 : Int) => (if r_13 ≠ 0 then (some false) else ((halberdlaw0_Num 0).bind fun (r_14 : Int) => (if r_14 ≠ 0 then (some false) else ((loop (halberdlaw2_ShaSplits.b1 cuts r_2 r_12) BIG (s_, 0, r_2.2.1, r_2.2.2.2, 0#64, r_12.2.1, r_12.2.2.2, 0#64)).bind fun (t_3 : Str × Vector (BitVec 64) 8 × List (BitVec 8) × BitVec 64 × Vector (BitVec 64) 8 × List (BitVec 8) × BitVec 64) => ((sha_Sum j1 s_).bind fun (r_17 : Str × Int) => ((sha_Sum j1 ([] : Str)).bind fun (r_18 : Str × Int) => (if t_3.1 ≠ ([] : Str) then (some true) else ((sha_Hash_Sum r_2.1 t_3.2.1 r_2.2.2.1 t_3.2.2.1 t_3.2.2.2.1).bind fun (r_19 : Str) => (if r_19 = r_17.1 then ((sha_Hash_Sum r_12.1 t_3.2.2.2.2.1 r_12.2.2.1 t_3.2.2.2.2.2.1 t_3.2.2.2.2.2.2).bind fun (r_20 : Str) => (if r_20 = r_18.1 then (ltt (decide (((r_17.1).length : Int) = (w64 (j1.tdiv 8)))) fun (x2 : Bool) => (some x2)) else (some false))) else (some false)))))))))))))))))

set_option maxHeartbeats 4000000 in
set_option maxRecDepth 20000 in
theorem F11_calls (Acuts : Adr) (ccuts : Nat) (wide : Bool) (s_ : Str) (cuts : List (Int)) (hccuts : (cuts).length ≤ ccuts) (r : Bool) (H : halberdlaw2_ShaSplits wide s_ cuts = some r) :
    Does Try.prog 11 [vb wide, vs s_, sl Acuts ((cuts).length) ccuts] [] [⟨Acuts, eI cuts⟩] (Γ := Unit) (fun g => vb r) (fun g => []) := by
  intro w hmem hro hd
  refine calls_of (N := 104) (m0 := [(0, vb wide), (1, vs s_), (2, sl Acuts ((cuts).length) ccuts)]) Try.func11 rfl Try.ntmps11 (argM_ok [vb wide, vs s_, sl Acuts ((cuts).length) ccuts]) rfl hmem hro hd ?_
  unfold halberdlaw2_ShaSplits at H
  refine TC_seq ?_
  refine TC_region ?_
  refine TL_v rfl rfl rfl (V_assign rfl) ?_
  refine TL_nil ?_
  refine TX_next ?_
  refine TC_seq ?_
  refine TC_seq ?_
  refine TC_region ?_
  obtain ⟨r_1, hr_1, H⟩ := bind_elim H
  refine TL_e rfl rfl rfl (E_call (Γ := Unit) (val := fun g => vb r_1) (mem := fun g => []) (vs := []) (Lin := []) (Ro := []) (is := []) rfl Try.call29 (F29_calls r_1 hr_1) rfl trivial) (fun g_1 => ?_)
  refine TL_v rfl rfl rfl (V_un rfl (fun w => notB w r_1)) ?_
  refine TL_nil ?_
  refine TX_next ?_
  refine TC_cond (b := (!r_1)) rfl (fun hc => ?_) (fun hc => ?_)
  · replace H := ite_t hc H
    refine TC_seq ?_
    refine TC_region ?_
    refine TL_v rfl rfl rfl (V_assign rfl) ?_
    refine TL_nil ?_
    refine TX_next ?_
    refine TC_ret ?_
    refine TX_then_ret ?_
    have hrv := Option.some.inj H
    subst hrv
    exact TX_ret (rs := [.tmp 6]) (vs := [vb false]) rfl ⟨rfl, trivial⟩ (fun w' hs' => ⟨(), rfl, Step.left (Step.pulled (is := []) (A := []) hs' rfl)⟩)
  · replace H := ite_f (Bool.eq_false_iff.1 hc) H
    refine TC_skip ?_
    refine TX_next ?_
    refine TC_seq ?_
    refine TC_region ?_
    refine TL_v rfl rfl rfl (V_assign rfl) ?_
    refine TL_nil ?_
    refine TX_next ?_
    refine TC_seq ?_
    refine TC_seq ?_
    refine TC_region ?_
    refine TL_v rfl rfl rfl (V_move rfl) ?_
    refine TL_nil ?_
    refine TX_next ?_
    obtain ⟨j1, Hj, H⟩ := bind_elim H
    refine TC_join (Γ := Unit) (fun gj1 => [(1, vs s_), (2, sl Acuts ((cuts).length) ccuts), (7, vi j1)]) (fun gj1 => []) ?_ ?_
    · intro gj1
      refine TX_next ?_
      refine TC_seq ?_
      refine TC_region ?_
      refine TL_v rfl rfl rfl (V_move rfl) ?_
      obtain ⟨r_2, hr_2, H⟩ := bind_elim H
      rcases r_2 with r_2 | r_2
      · dsimp only at H
        refine TL_e rfl rfl rfl (E_call (Γ := Unit × (Nat × Adr)) (val := fun g => Value.tuple [Value.pointer none, vi 200].toArray) (mem := fun g => []) (vs := [vi j1]) (Lin := []) (Ro := []) (is := []) rfl Try.call30 (F30_calls j1 (.inl r_2) hr_2) rfl trivial) (fun g_2 => ?_)
        refine TL_v rfl rfl rfl (V_move rfl) ?_
        refine TL_v rfl rfl rfl (V_extract (vs := [Value.pointer none, vi 200]) rfl rfl) ?_
        refine TL_v rfl rfl rfl (V_extract (vs := [Value.pointer none, vi 200]) rfl rfl) ?_
        refine TL_v rfl rfl rfl (V_assign rfl) ?_
        refine TL_v rfl rfl rfl (V_assign rfl) ?_
        refine TL_nil ?_
        refine TX_next ?_
        refine TC_seq ?_
        refine TC_region ?_
        refine TL_v rfl rfl rfl (V_move rfl) ?_
        obtain ⟨r_3, hr_3, H⟩ := bind_elim H
        rcases r_3 with r_3 | r_3
        · dsimp only at H
          refine TL_e rfl rfl rfl (E_call (Γ := Unit × (Nat × Adr)) (val := fun g => Value.tuple [Value.pointer none, vi 200].toArray) (mem := fun g => []) (vs := [vi j1]) (Lin := []) (Ro := []) (is := []) rfl Try.call30 (F30_calls j1 (.inl r_3) hr_3) rfl trivial) (fun g_3 => ?_)
          refine TL_v rfl rfl rfl (V_move rfl) ?_
          refine TL_v rfl rfl rfl (V_extract (vs := [Value.pointer none, vi 200]) rfl rfl) ?_
          refine TL_v rfl rfl rfl (V_extract (vs := [Value.pointer none, vi 200]) rfl rfl) ?_
          refine TL_v rfl rfl rfl (V_assign rfl) ?_
          refine TL_v rfl rfl rfl (V_assign rfl) ?_
          refine TL_nil ?_
          refine TX_next ?_
          refine TC_seq ?_
          refine TC_seq ?_
          refine TC_region ?_
          refine TL_v rfl rfl rfl (V_move rfl) ?_
          obtain ⟨r_4, hr_4, H⟩ := bind_elim H
          refine TL_e rfl rfl rfl (E_call (Γ := Unit) (val := fun g => vi r_4) (mem := fun g => []) (vs := [vi 200]) (Lin := []) (Ro := []) (is := []) rfl Try.call25 (F25_calls 200 r_4 hr_4) rfl trivial) (fun g_4 => ?_)
          refine TL_v rfl rfl rfl (V_bin rfl rfl (fun w => neqI w r_4 0)) ?_
          refine TL_v rfl rfl rfl (V_move rfl) ?_
          refine TL_fork (d := 35) (b := (decide (r_4 ≠ 0))) rfl (fun hc => ?_) (fun hc => ?_)
          · replace H := ite_t (of_decide_eq_true hc) H
            refine TL_skip rfl rfl rfl rfl rfl rfl rfl ?_
            refine TL_skip rfl rfl rfl rfl rfl rfl rfl ?_
            refine TL_skip rfl rfl rfl rfl rfl rfl rfl ?_
            refine TL_v rfl rfl rfl (V_pick (b := true) rfl rfl) ?_
            refine TL_nil ?_
            refine TX_next ?_
            refine TC_cond_t rfl ?_
            refine TC_seq ?_
            refine TC_region ?_
            refine TL_v rfl rfl rfl (V_assign rfl) ?_
            refine TL_nil ?_
            refine TX_next ?_
            refine TC_ret ?_
            refine TX_then_ret ?_
            have hrv := Option.some.inj H
            subst hrv
            exact TX_ret (rs := [.tmp 6]) (vs := [vb false]) rfl ⟨rfl, trivial⟩ (fun w' hs' => ⟨(), rfl, Step.left (Step.pulled (is := []) (A := []) hs' rfl)⟩)
          · replace H := ite_f (of_decide_eq_false hc) H
            refine TL_want rfl rfl rfl rfl rfl rfl (V_move rfl) ?_
            obtain ⟨r_5, hr_5, H⟩ := bind_elim H
            refine TL_wantE rfl rfl rfl rfl rfl rfl (E_call (Γ := Unit) (val := fun g => vi r_5) (mem := fun g => []) (vs := [vi 200]) (Lin := []) (Ro := []) (is := []) rfl Try.call25 (F25_calls 200 r_5 hr_5) rfl trivial) (fun g_5 => ?_)
            refine TL_want rfl rfl rfl rfl rfl rfl (V_bin rfl rfl (fun w => neqI w r_5 0)) ?_
            refine TL_v rfl rfl rfl (V_pick (b := false) rfl rfl) ?_
            refine TL_nil ?_
            refine TX_next ?_
            refine TC_cond (b := (decide (r_5 ≠ 0))) rfl (fun hc => ?_) (fun hc => ?_)
            · replace H := ite_t (of_decide_eq_true hc) H
              refine TC_seq ?_
              refine TC_region ?_
              refine TL_v rfl rfl rfl (V_assign rfl) ?_
              refine TL_nil ?_
              refine TX_next ?_
              refine TC_ret ?_
              refine TX_then_ret ?_
              have hrv := Option.some.inj H
              subst hrv
              exact TX_ret (rs := [.tmp 6]) (vs := [vb false]) rfl ⟨rfl, trivial⟩ (fun w' hs' => ⟨(), rfl, Step.left (Step.pulled (is := []) (A := []) hs' rfl)⟩)
            · replace H := ite_f (of_decide_eq_false hc) H
              refine TC_skip ?_
              refine TX_next ?_
              refine TC_seq ?_
              refine TC_region ?_
              refine TL_v rfl rfl rfl (V_move rfl) ?_
              refine TL_v rfl rfl rfl (V_assign rfl) ?_
              refine TL_nil ?_
              refine TX_next ?_
              refine TC_seq ?_
              refine TC_seq ?_
              refine TC_region ?_
              refine TL_v rfl rfl rfl (V_assign rfl) ?_
              refine TL_nil ?_
              refine TX_next ?_
              refine TC_block ?_
              obtain ⟨t_1, Hl, H⟩ := bind_elim H
              refine TC.sub (m' := [(1, vs s_), (2, sl Acuts ((cuts).length) ccuts), (7, vi j1), (8, Value.pointer none), (10, Value.pointer none), (12, vs s_), (13, vi 0)]) ⟨rfl, rfl, rfl, rfl, rfl, rfl, rfl, trivial⟩ ?_
              refine TC.pull (is := []) (L' := []) rfl ?_
              refine TC_loopL (id := 0) (body := (halberdlaw2_ShaSplits.b0 cuts)) (σ := Str × Int) (Γ := Unit) (Γx := Unit) (fun s0 g0_ => [(1, vs s_), (2, sl Acuts ((cuts).length) ccuts), (7, vi j1), (8, Value.pointer none), (10, Value.pointer none), (12, vs s0.1), (13, vi s0.2)]) (fun s0 g0_ => []) (fun t g => [(1, vs s_), (7, vi j1), (8, Value.pointer none), (10, Value.pointer none), (12, vs t)]) (fun t g => []) ?_ BIG (s_, 0) () t_1 Hl ?_
              · intro s0 g0_ r1 H K hK hE
                unfold halberdlaw2_ShaSplits.b0 at H
                refine TC_seq ?_
                refine TC_seq ?_
                refine TC_region ?_
                refine TL_v rfl rfl rfl (V_move rfl) ?_
                refine TL_v rfl rfl rfl (V_bin rfl rfl (fun w => neqS w s0.1 ([] : Str))) ?_
                refine TL_v rfl rfl rfl (V_move rfl) ?_
                refine TL_fork (d := 43) (b := (decide (s0.1 ≠ ([] : Str)))) rfl (fun hc => ?_) (fun hc => ?_)
                · replace H := ite_t (of_decide_eq_true hc) H
                  refine TL_want rfl rfl rfl rfl rfl rfl (V_move rfl) ?_
                  refine TL_want rfl rfl rfl rfl rfl rfl (V_bin rfl rfl (fun w => lssI w s0.2 3000)) ?_
                  refine TL_v rfl rfl rfl (V_pick (b := true) rfl rfl) ?_
                  refine TL_nil ?_
                  refine TX_next ?_
                  refine TC_cond (b := (decide (s0.2 < 3000))) rfl (fun hc => ?_) (fun hc => ?_)
                  · replace H := ite_t (of_decide_eq_true hc) H
                    refine TC_skip ?_
                    refine TX_next ?_
                    refine TC_seq ?_
                    refine TC_block ?_
                    refine TC_seq ?_
                    refine TC_region ?_
                    refine TL_v rfl rfl rfl (V_move rfl) ?_
                    refine TL_v rfl rfl rfl (V_len_str rfl Try.underlying9) ?_
                    refine TL_v rfl rfl rfl (V_assign rfl) ?_
                    obtain ⟨k_1, hk_1, H⟩ := ltt_elim H
                    refine TL_re (d := 14) (v := vi ((s0.1).length : Int)) (v' := vi k_1) rfl (congrArg vi hk_1) ?_
                    refine TL_nil ?_
                    refine TX_next ?_
                    refine TC_seq ?_
                    refine TC_seq ?_
                    refine TC_region ?_
                    refine TL_v rfl rfl rfl (V_move rfl) ?_
                    refine TL_v rfl rfl rfl (V_move rfl) ?_
                    refine TL_v rfl rfl rfl (V_len_slice rfl Try.underlying47) ?_
                    refine TL_v rfl rfl rfl (V_bin rfl rfl (fun w => lssI w s0.2 ((cuts).length : Int))) ?_
                    refine TL_nil ?_
                    refine TX_next ?_
                    obtain ⟨j2, Hj, H⟩ := bind_elim H
                    refine TC_join (Γ := Unit) (fun gj2 => [(1, vs s_), (2, sl Acuts ((cuts).length) ccuts), (7, vi j1), (8, Value.pointer none), (10, Value.pointer none), (12, vs s0.1), (13, vi s0.2), (14, vi j2)]) (fun gj2 => []) ?_ ?_
                    · intro gj2
                      refine TX_next ?_
                      refine TC_seq ?_
                      refine TC_region ?_
                      refine TL_v rfl rfl rfl (V_move rfl) ?_
                      refine TL_v rfl rfl rfl (V_move rfl) ?_
                      refine TL_v rfl rfl rfl (V_move rfl) ?_
                      obtain ⟨h1, H⟩ := if_elim H
                      obtain ⟨h2, H⟩ := if_elim H
                      refine TL_v rfl rfl rfl (V_sliceStr (l := 0) (h := (j2).toNat) rfl Try.underlying9 Bnd.none' (Bnd.some' (i := j2) rfl h1) (Nat.zero_le _) h2) ?_
                      obtain ⟨r_6, hr_6, H⟩ := bind_elim H
                      refine TL_e rfl rfl rfl (E_call (Γ := Unit) (val := fun g => Value.tuple [].toArray) (mem := fun g => []) (vs := [Value.pointer none, vs (sub s0.1 0 ((j2).toNat))]) (Lin := []) (Ro := []) (is := []) rfl Try.call32 (F32_nil0_calls (sub s0.1 0 ((j2).toNat)) r_6 hr_6) rfl trivial) (fun g_6 => ?_)
                      refine TL_nil ?_
                      refine TX_next ?_
                      refine TC_seq ?_
                      refine TC_region ?_
                      refine TL_v rfl rfl rfl (V_move rfl) ?_
                      obtain ⟨r_7, hr_7, H⟩ := bind_elim H
                      refine TL_e rfl rfl rfl (E_call (Γ := Unit) (val := fun g => Value.tuple [].toArray) (mem := fun g => []) (vs := [Value.pointer none, vs ([] : Str)]) (Lin := []) (Ro := []) (is := []) rfl Try.call32 (F32_nil0_calls ([] : Str) r_7 hr_7) rfl trivial) (fun g_7 => ?_)
                      refine TL_nil ?_
                      refine TX_next ?_
                      refine TC_region ?_
                      refine TL_v rfl rfl rfl (V_move rfl) ?_
                      refine TL_v rfl rfl rfl (V_move rfl) ?_
                      obtain ⟨h3, H⟩ := if_elim H
                      obtain ⟨h4, H⟩ := if_elim H
                      refine TL_v rfl rfl rfl (V_sliceStr (l := (j2).toNat) (h := (s0.1).length) rfl Try.underlying9 (Bnd.some' (i := j2) rfl h3) Bnd.none' h4 (Nat.le_refl _)) ?_
                      refine TL_v rfl rfl rfl (V_assign rfl) ?_
                      obtain ⟨t_2, ht_2, H⟩ := ltt_elim H
                      refine TL_re (d := 12) (v := vs (sub s0.1 ((j2).toNat) ((s0.1).length))) (v' := vs t_2) rfl (congrArg vs ht_2) ?_
                      refine TL_nil ?_
                      refine TX_block_normal ?_
                      refine TX_next ?_
                      refine TC_region ?_
                      refine TL_v rfl rfl rfl (V_move rfl) ?_
                      refine TL_v rfl rfl rfl (V_bin rfl rfl (fun w => addI w s0.2 1)) ?_
                      refine TL_v rfl rfl rfl (V_assign rfl) ?_
                      obtain ⟨i1, hi1, H⟩ := ltt_elim H
                      refine TL_re (d := 13) (v := vi (w64 (s0.2 + 1))) (v' := vi i1) rfl (congrArg vi hi1) ?_
                      refine TL_nil ?_
                      refine TX.sub (m' := [(1, vs s_), (2, sl Acuts ((cuts).length) ccuts), (7, vi j1), (8, Value.pointer none), (10, Value.pointer none), (12, vs t_2), (13, vi i1)]) ⟨rfl, rfl, rfl, rfl, rfl, rfl, rfl, trivial⟩ ?_
                      refine TX.pull (is := []) (L' := []) rfl ?_
                      obtain rfl := Option.some.inj H
                      exact fun a w hs => hK (t_2, i1) rfl () a w hs
                    · intro hJ
                      replace H := Hj
                      refine TC_cond (b := (decide (s0.2 < ((cuts).length : Int)))) rfl (fun hc => ?_) (fun hc => ?_)
                      · replace H := ite_t (of_decide_eq_true hc) H
                        refine TC_region ?_
                        refine TL_v rfl rfl rfl (V_move rfl) ?_
                        refine TL_v rfl rfl rfl (V_move rfl) ?_
                        refine TL_v rfl rfl rfl (V_move rfl) ?_
                        obtain ⟨h5, H⟩ := if_elim H
                        refine TL_v rfl rfl rfl (V_idxSlS (i := s0.2) rfl rfl Try.underlying47 TryI.inf3 rfl (Src.ro (j := 0) rfl) (map_ne (toNat_lt h5.1 h5.2)) h5.1 h5.2 (k := (s0.2).toNat) (km1 _)) ?_
                        refine TL_v rfl rfl rfl (V_load rfl (Src.ro (j := 0) rfl) (get_map (f := vi) (l := cuts) (toNat_lt h5.1 h5.2)) Try.isAgg3) ?_
                        refine TL_v rfl rfl rfl (V_bin rfl rfl (fun w => andI w (lg cuts ((s0.2).toNat)) 63)) ?_
                        refine TL_v rfl rfl rfl (V_min rfl rfl) ?_
                        refine TL_v rfl rfl rfl (V_assign rfl) ?_
                        obtain ⟨k_2, hk_2, H⟩ := ltt_elim H
                        refine TL_re (d := 14) (v := vi (min k_1 (iop (· &&& ·) (lg cuts ((s0.2).toNat)) 63))) (v' := vi k_2) rfl (congrArg vi hk_2) ?_
                        refine TL_nil ?_
                        refine TX.sub (m' := [(1, vs s_), (2, sl Acuts ((cuts).length) ccuts), (7, vi j1), (8, Value.pointer none), (10, Value.pointer none), (12, vs s0.1), (13, vi s0.2), (14, vi k_2)]) ⟨rfl, rfl, rfl, rfl, rfl, rfl, rfl, rfl, trivial⟩ ?_
                        refine TX.pull (is := []) (L' := []) rfl ?_
                        obtain rfl := Option.some.inj H
                        exact hJ ()
                      · replace H := ite_f (of_decide_eq_false hc) H
                        refine TC_skip ?_
                        refine TX.sub (m' := [(1, vs s_), (2, sl Acuts ((cuts).length) ccuts), (7, vi j1), (8, Value.pointer none), (10, Value.pointer none), (12, vs s0.1), (13, vi s0.2), (14, vi k_1)]) ⟨rfl, rfl, rfl, rfl, rfl, rfl, rfl, rfl, trivial⟩ ?_
                        refine TX.pull (is := []) (L' := []) rfl ?_
                        obtain rfl := Option.some.inj H
                        exact hJ ()
                  · replace H := ite_f (of_decide_eq_false hc) H
                    refine TC_exit ?_
                    refine TX_then_exit ?_
                    refine TX_then_exit ?_
                    refine TX.sub (m' := [(1, vs s_), (7, vi j1), (8, Value.pointer none), (10, Value.pointer none), (12, vs s0.1)]) ⟨rfl, rfl, rfl, rfl, rfl, trivial⟩ ?_
                    refine TX.pull (is := []) (L' := []) rfl ?_
                    obtain rfl := Option.some.inj H
                    exact hE s0.1 rfl ()
                · replace H := ite_f (of_decide_eq_false hc) H
                  refine TL_skip rfl rfl rfl rfl rfl rfl rfl ?_
                  refine TL_skip rfl rfl rfl rfl rfl rfl rfl ?_
                  refine TL_v rfl rfl rfl (V_pick (b := false) rfl rfl) ?_
                  refine TL_nil ?_
                  refine TX_next ?_
                  refine TC_cond_f rfl ?_
                  refine TC_exit ?_
                  refine TX_then_exit ?_
                  refine TX_then_exit ?_
                  refine TX.sub (m' := [(1, vs s_), (7, vi j1), (8, Value.pointer none), (10, Value.pointer none), (12, vs s0.1)]) ⟨rfl, rfl, rfl, rfl, rfl, trivial⟩ ?_
                  refine TX.pull (is := []) (L' := []) rfl ?_
                  obtain rfl := Option.some.inj H
                  exact hE s0.1 rfl ()
              · intro g
                refine TX_block_exit ?_
                refine TX_next ?_
                refine TC_seq ?_
                refine TC_region ?_
                refine TL_v rfl rfl rfl (V_move rfl) ?_
                refine TL_v rfl rfl rfl (V_move rfl) ?_
                obtain ⟨r_8, hr_8, H⟩ := bind_elim H
                refine TL_e rfl rfl rfl (E_call (Γ := Unit) (val := fun g => Value.tuple [vs r_8.1, vi r_8.2].toArray) (mem := fun g => []) (vs := [vi j1, vs s_]) (Lin := []) (Ro := []) (is := []) rfl Try.call27 (F27_calls j1 s_ r_8 hr_8) rfl trivial) (fun g_8 => ?_)
                refine TL_v rfl rfl rfl (V_move rfl) ?_
                refine TL_v rfl rfl rfl (V_extract (vs := [vs r_8.1, vi r_8.2]) rfl rfl) ?_
                refine TL_v rfl rfl rfl (V_extract (vs := [vs r_8.1, vi r_8.2]) rfl rfl) ?_
                refine TL_v rfl rfl rfl (V_assign rfl) ?_
                refine TL_v rfl rfl rfl (V_assign rfl) ?_
                refine TL_nil ?_
                refine TX_next ?_
                refine TC_seq ?_
                refine TC_region ?_
                refine TL_v rfl rfl rfl (V_move rfl) ?_
                obtain ⟨r_9, hr_9, H⟩ := bind_elim H
                refine TL_e rfl rfl rfl (E_call (Γ := Unit) (val := fun g => Value.tuple [vs r_9.1, vi r_9.2].toArray) (mem := fun g => []) (vs := [vi j1, vs ([] : Str)]) (Lin := []) (Ro := []) (is := []) rfl Try.call27 (F27_calls j1 ([] : Str) r_9 hr_9) rfl trivial) (fun g_9 => ?_)
                refine TL_v rfl rfl rfl (V_move rfl) ?_
                refine TL_v rfl rfl rfl (V_extract (vs := [vs r_9.1, vi r_9.2]) rfl rfl) ?_
                refine TL_v rfl rfl rfl (V_extract (vs := [vs r_9.1, vi r_9.2]) rfl rfl) ?_
                refine TL_v rfl rfl rfl (V_assign rfl) ?_
                refine TL_v rfl rfl rfl (V_assign rfl) ?_
                refine TL_nil ?_
                refine TX_next ?_
                refine TC_seq ?_
                refine TC_region ?_
                refine TL_v rfl rfl rfl (V_move rfl) ?_
                refine TL_v rfl rfl rfl (V_bin rfl rfl (fun w => neqS w t_1 ([] : Str))) ?_
                refine TL_v rfl rfl rfl (V_move rfl) ?_
                refine TL_fork (d := 85) (b := (decide (t_1 ≠ ([] : Str)))) rfl (fun hc => ?_) (fun hc => ?_)
                · replace H := ite_t (of_decide_eq_true hc) H
                  refine TL_skip rfl rfl rfl rfl rfl rfl rfl ?_
                  refine TL_skip rfl rfl rfl rfl rfl rfl rfl ?_
                  refine TL_skip rfl rfl rfl rfl rfl rfl rfl ?_
                  refine TL_skip rfl rfl rfl rfl rfl rfl rfl ?_
                  refine TL_skip rfl rfl rfl rfl rfl rfl rfl ?_
                  refine TL_skipU rfl rfl rfl rfl rfl rfl ?_
                  refine TL_skipU rfl rfl rfl rfl rfl rfl ?_
                  refine TL_skipU rfl rfl rfl rfl rfl rfl ?_
                  refine TL_skipU rfl rfl rfl rfl rfl rfl ?_
                  refine TL_skip rfl rfl rfl rfl rfl rfl rfl ?_
                  refine TL_skip rfl rfl rfl rfl rfl rfl rfl ?_
                  refine TL_skipU rfl rfl rfl rfl rfl rfl ?_
                  refine TL_skipU rfl rfl rfl rfl rfl rfl ?_
                  refine TL_skipU rfl rfl rfl rfl rfl rfl ?_
                  refine TL_skipU rfl rfl rfl rfl rfl rfl ?_
                  refine TL_skipU rfl rfl rfl rfl rfl rfl ?_
                  refine TL_skip rfl rfl rfl rfl rfl rfl rfl ?_
                  refine TL_v rfl rfl rfl (V_pick (b := true) rfl rfl) ?_
                  refine TL_v rfl rfl rfl (V_assign rfl) ?_
                  refine TL_nil ?_
                  refine TX_next ?_
                  refine TC.sub (m' := [(6, vb true)]) ⟨rfl, trivial⟩ ?_
                  refine TC_ret ?_
                  have hrv := Option.some.inj H
                  subst hrv
                  exact TX_ret (rs := [.tmp 6]) (vs := [vb true]) rfl ⟨rfl, trivial⟩ (fun w' hs' => ⟨(), rfl, Step.left (Step.pulled (is := []) (A := []) hs' rfl)⟩)
                · replace H := ite_f (of_decide_eq_false hc) H
                  refine TL_want rfl rfl rfl rfl rfl rfl (V_move rfl) ?_
                  obtain ⟨r_10, hr_10, H⟩ := bind_elim H
                  refine TL_wantE rfl rfl rfl rfl rfl rfl (E_call (Γ := Unit) (val := fun g => vs ([] : Str)) (mem := fun g => []) (vs := [Value.pointer none]) (Lin := []) (Ro := []) (is := []) rfl Try.call33 (F33_nil0_calls r_10 hr_10) rfl trivial) (fun g_10 => ?_)
                  refine TL_want rfl rfl rfl rfl rfl rfl (V_move rfl) ?_
                  refine TL_want rfl rfl rfl rfl rfl rfl (V_bin rfl rfl (fun w => eqlS w ([] : Str) r_8.1)) ?_
                  refine TL_want rfl rfl rfl rfl rfl rfl (V_move rfl) ?_
                  refine TL_fork (d := 90) (b := (decide (([] : Str) = r_8.1))) rfl (fun hc => ?_) (fun hc => ?_)
                  · replace H := ite_t (of_decide_eq_true hc) H
                    refine TL_want rfl rfl rfl rfl rfl rfl (V_move rfl) ?_
                    obtain ⟨r_11, hr_11, H⟩ := bind_elim H
                    refine TL_wantE rfl rfl rfl rfl rfl rfl (E_call (Γ := Unit) (val := fun g => vs ([] : Str)) (mem := fun g => []) (vs := [Value.pointer none]) (Lin := []) (Ro := []) (is := []) rfl Try.call33 (F33_nil0_calls r_11 hr_11) rfl trivial) (fun g_11 => ?_)
                    refine TL_want rfl rfl rfl rfl rfl rfl (V_move rfl) ?_
                    refine TL_want rfl rfl rfl rfl rfl rfl (V_bin rfl rfl (fun w => eqlS w ([] : Str) r_9.1)) ?_
                    refine TL_want rfl rfl rfl rfl rfl rfl (V_pick (b := true) rfl rfl) ?_
                    refine TL_want rfl rfl rfl rfl rfl rfl (V_move rfl) ?_
                    refine TL_fork (d := 96) (b := (decide (([] : Str) = r_9.1))) rfl (fun hc => ?_) (fun hc => ?_)
                    · replace H := ite_t (of_decide_eq_true hc) H
                      refine TL_want rfl rfl rfl rfl rfl rfl (V_move rfl) ?_
                      refine TL_want rfl rfl rfl rfl rfl rfl (V_len_str rfl Try.underlying9) ?_
                      refine TL_want rfl rfl rfl rfl rfl rfl (V_move rfl) ?_
                      refine TL_want rfl rfl rfl rfl rfl rfl (V_bin rfl rfl (fun w => quoI w j1 8 (by decide))) ?_
                      refine TL_want rfl rfl rfl rfl rfl rfl (V_bin rfl rfl (fun w => eqlI w ((r_8.1).length : Int) (w64 (j1.tdiv 8)))) ?_
                      refine TL_want rfl rfl rfl rfl rfl rfl (V_pick (b := true) rfl rfl) ?_
                      refine TL_v rfl rfl rfl (V_pick (b := false) rfl rfl) ?_
                      refine TL_v rfl rfl rfl (V_assign rfl) ?_
                      obtain ⟨x1, hx1, H⟩ := ltt_elim H
                      refine TL_re (d := 6) (v := vb (decide (((r_8.1).length : Int) = (w64 (j1.tdiv 8))))) (v' := vb x1) rfl (congrArg vb hx1) ?_
                      refine TL_nil ?_
                      refine TX_next ?_
                      refine TC.sub (m' := [(6, vb x1)]) ⟨rfl, trivial⟩ ?_
                      refine TC_ret ?_
                      have hrv := Option.some.inj H
                      subst hrv
                      exact TX_ret (rs := [.tmp 6]) (vs := [vb x1]) rfl ⟨rfl, trivial⟩ (fun w' hs' => ⟨(), rfl, Step.left (Step.pulled (is := []) (A := []) hs' rfl)⟩)
                    · replace H := ite_f (of_decide_eq_false hc) H
                      refine TL_skip rfl rfl rfl rfl rfl rfl rfl ?_
                      refine TL_skip rfl rfl rfl rfl rfl rfl rfl ?_
                      refine TL_skip rfl rfl rfl rfl rfl rfl rfl ?_
                      refine TL_skip rfl rfl rfl rfl rfl rfl rfl ?_
                      refine TL_skip rfl rfl rfl rfl rfl rfl rfl ?_
                      refine TL_want rfl rfl rfl rfl rfl rfl (V_pick (b := false) rfl rfl) ?_
                      refine TL_v rfl rfl rfl (V_pick (b := false) rfl rfl) ?_
                      refine TL_v rfl rfl rfl (V_assign rfl) ?_
                      refine TL_nil ?_
                      refine TX_next ?_
                      refine TC.sub (m' := [(6, vb false)]) ⟨rfl, trivial⟩ ?_
                      refine TC_ret ?_
                      have hrv := Option.some.inj H
                      subst hrv
                      exact TX_ret (rs := [.tmp 6]) (vs := [vb false]) rfl ⟨rfl, trivial⟩ (fun w' hs' => ⟨(), rfl, Step.left (Step.pulled (is := []) (A := []) hs' rfl)⟩)
                  · replace H := ite_f (of_decide_eq_false hc) H
                    refine TL_skip rfl rfl rfl rfl rfl rfl rfl ?_
                    refine TL_skip rfl rfl rfl rfl rfl rfl rfl ?_
                    refine TL_skip rfl rfl rfl rfl rfl rfl rfl ?_
                    refine TL_skip rfl rfl rfl rfl rfl rfl rfl ?_
                    refine TL_want rfl rfl rfl rfl rfl rfl (V_pick (b := false) rfl rfl) ?_
                    refine TL_want rfl rfl rfl rfl rfl rfl (V_move rfl) ?_
                    refine TL_skip rfl rfl rfl rfl rfl rfl rfl ?_
                    refine TL_skip rfl rfl rfl rfl rfl rfl rfl ?_
                    refine TL_skip rfl rfl rfl rfl rfl rfl rfl ?_
                    refine TL_skip rfl rfl rfl rfl rfl rfl rfl ?_
                    refine TL_skip rfl rfl rfl rfl rfl rfl rfl ?_
                    refine TL_want rfl rfl rfl rfl rfl rfl (V_pick (b := false) rfl rfl) ?_
                    refine TL_v rfl rfl rfl (V_pick (b := false) rfl rfl) ?_
                    refine TL_v rfl rfl rfl (V_assign rfl) ?_
                    refine TL_nil ?_
                    refine TX_next ?_
                    refine TC.sub (m' := [(6, vb false)]) ⟨rfl, trivial⟩ ?_
                    refine TC_ret ?_
                    have hrv := Option.some.inj H
                    subst hrv
                    exact TX_ret (rs := [.tmp 6]) (vs := [vb false]) rfl ⟨rfl, trivial⟩ (fun w' hs' => ⟨(), rfl, Step.left (Step.pulled (is := []) (A := []) hs' rfl)⟩)
        · exact absurd (show (none : Option _) = some _ from H) (fun h => by cases h)
      · dsimp only at H
        refine TL_e rfl rfl rfl (E_call (Γ := Unit × (Nat × Adr)) (val := fun g => Value.tuple [ptr (some (g.2.1, 0)) 0, vi 0].toArray) (mem := fun g => [⟨some (g.2.1, 0), [vi r_2.1]⟩, ⟨some (g.2.1, 1), e64 r_2.2.1.toList⟩, ⟨some (g.2.1, 9), e64 r_2.2.2.1.toList⟩, ⟨some (g.2.1, 89), [sl g.2.2 ((r_2.2.2.2).length) ((r_2.2.2.2 ++ ([] : List (BitVec 8))).length)]⟩, ⟨g.2.2, e8 (r_2.2.2.2 ++ ([] : List (BitVec 8)))⟩, ⟨some (g.2.1, 90), [v64 0#64]⟩]) (vs := [vi j1]) (Lin := []) (Ro := []) (is := []) rfl Try.call30 (F30_calls j1 (.inr r_2) hr_2) rfl trivial) (fun g_12 => ?_)
        refine TL_v rfl rfl rfl (V_move rfl) ?_
        refine TL_v rfl rfl rfl (V_extract (vs := [ptr (some (g_12.2.1, 0)) 0, vi 0]) rfl rfl) ?_
        refine TL_v rfl rfl rfl (V_extract (vs := [ptr (some (g_12.2.1, 0)) 0, vi 0]) rfl rfl) ?_
        refine TL_v rfl rfl rfl (V_assign rfl) ?_
        refine TL_v rfl rfl rfl (V_assign rfl) ?_
        refine TL_nil ?_
        refine TX_next ?_
        refine TC_seq ?_
        refine TC_region ?_
        refine TL_v rfl rfl rfl (V_move rfl) ?_
        obtain ⟨r_12, hr_12, H⟩ := bind_elim H
        rcases r_12 with r_12 | r_12
        · exact absurd (show (none : Option _) = some _ from H) (fun h => by cases h)
        · dsimp only at H
          refine TL_e rfl rfl rfl (E_call (Γ := Unit × (Nat × Adr)) (val := fun g => Value.tuple [ptr (some (g.2.1, 0)) 0, vi 0].toArray) (mem := fun g => [⟨some (g.2.1, 0), [vi r_12.1]⟩, ⟨some (g.2.1, 1), e64 r_12.2.1.toList⟩, ⟨some (g.2.1, 9), e64 r_12.2.2.1.toList⟩, ⟨some (g.2.1, 89), [sl g.2.2 ((r_12.2.2.2).length) ((r_12.2.2.2 ++ ([] : List (BitVec 8))).length)]⟩, ⟨g.2.2, e8 (r_12.2.2.2 ++ ([] : List (BitVec 8)))⟩, ⟨some (g.2.1, 90), [v64 0#64]⟩]) (vs := [vi j1]) (Lin := []) (Ro := []) (is := []) rfl Try.call30 (F30_calls j1 (.inr r_12) hr_12) rfl trivial) (fun g_13 => ?_)
          refine TL_v rfl rfl rfl (V_move rfl) ?_
          refine TL_v rfl rfl rfl (V_extract (vs := [ptr (some (g_13.2.1, 0)) 0, vi 0]) rfl rfl) ?_
          refine TL_v rfl rfl rfl (V_extract (vs := [ptr (some (g_13.2.1, 0)) 0, vi 0]) rfl rfl) ?_
          refine TL_v rfl rfl rfl (V_assign rfl) ?_
          refine TL_v rfl rfl rfl (V_assign rfl) ?_
          refine TL_nil ?_
          refine TX_next ?_
          refine TC_seq ?_
          refine TC_seq ?_
          refine TC_region ?_
          refine TL_v rfl rfl rfl (V_move rfl) ?_
          obtain ⟨r_13, hr_13, H⟩ := bind_elim H
          refine TL_e rfl rfl rfl (E_call (Γ := Unit) (val := fun g => vi r_13) (mem := fun g => []) (vs := [vi 0]) (Lin := []) (Ro := []) (is := []) rfl Try.call25 (F25_calls 0 r_13 hr_13) rfl trivial) (fun g_14 => ?_)
          refine TL_v rfl rfl rfl (V_bin rfl rfl (fun w => neqI w r_13 0)) ?_
          refine TL_v rfl rfl rfl (V_move rfl) ?_
          refine TL_fork (d := 35) (b := (decide (r_13 ≠ 0))) rfl (fun hc => ?_) (fun hc => ?_)
          · replace H := ite_t (of_decide_eq_true hc) H
            refine TL_skip rfl rfl rfl rfl rfl rfl rfl ?_
            refine TL_skip rfl rfl rfl rfl rfl rfl rfl ?_
            refine TL_skip rfl rfl rfl rfl rfl rfl rfl ?_
            refine TL_v rfl rfl rfl (V_pick (b := true) rfl rfl) ?_
            refine TL_nil ?_
            refine TX_next ?_
            refine TC_cond_t rfl ?_
            refine TC_seq ?_
            refine TC_region ?_
            refine TL_v rfl rfl rfl (V_assign rfl) ?_
            refine TL_nil ?_
            refine TX_next ?_
            refine TC_ret ?_
            refine TX_then_ret ?_
            have hrv := Option.some.inj H
            subst hrv
            exact TX_ret (rs := [.tmp 6]) (vs := [vb false]) rfl ⟨rfl, trivial⟩ (fun w' hs' => ⟨(), rfl, Step.left (Step.pulled (is := []) (A := []) hs' rfl)⟩)
          · replace H := ite_f (of_decide_eq_false hc) H
            refine TL_want rfl rfl rfl rfl rfl rfl (V_move rfl) ?_
            obtain ⟨r_14, hr_14, H⟩ := bind_elim H
            refine TL_wantE rfl rfl rfl rfl rfl rfl (E_call (Γ := Unit) (val := fun g => vi r_14) (mem := fun g => []) (vs := [vi 0]) (Lin := []) (Ro := []) (is := []) rfl Try.call25 (F25_calls 0 r_14 hr_14) rfl trivial) (fun g_15 => ?_)
            refine TL_want rfl rfl rfl rfl rfl rfl (V_bin rfl rfl (fun w => neqI w r_14 0)) ?_
            refine TL_v rfl rfl rfl (V_pick (b := false) rfl rfl) ?_
            refine TL_nil ?_
            refine TX_next ?_
            refine TC_cond (b := (decide (r_14 ≠ 0))) rfl (fun hc => ?_) (fun hc => ?_)
            · replace H := ite_t (of_decide_eq_true hc) H
              refine TC_seq ?_
              refine TC_region ?_
              refine TL_v rfl rfl rfl (V_assign rfl) ?_
              refine TL_nil ?_
              refine TX_next ?_
              refine TC_ret ?_
              refine TX_then_ret ?_
              have hrv := Option.some.inj H
              subst hrv
              exact TX_ret (rs := [.tmp 6]) (vs := [vb false]) rfl ⟨rfl, trivial⟩ (fun w' hs' => ⟨(), rfl, Step.left (Step.pulled (is := []) (A := []) hs' rfl)⟩)
            · replace H := ite_f (of_decide_eq_false hc) H
              refine TC_skip ?_
              refine TX_next ?_
              refine TC_seq ?_
              refine TC_region ?_
              refine TL_v rfl rfl rfl (V_move rfl) ?_
              refine TL_v rfl rfl rfl (V_assign rfl) ?_
              refine TL_nil ?_
              refine TX_next ?_
              refine TC_seq ?_
              refine TC_seq ?_
              refine TC_region ?_
              refine TL_v rfl rfl rfl (V_assign rfl) ?_
              refine TL_nil ?_
              refine TX_next ?_
              refine TC_block ?_
              obtain ⟨t_3, Hl, H⟩ := bind_elim H
              refine TC.sub (m' := [(1, vs s_), (2, sl Acuts ((cuts).length) ccuts), (7, vi j1), (8, ptr (some (g_12.2.1, 0)) 0), (10, ptr (some (g_13.2.1, 0)) 0), (12, vs s_), (13, vi 0)]) ⟨rfl, rfl, rfl, rfl, rfl, rfl, rfl, trivial⟩ ?_
              refine TC.pull (is := [6, 6, 6, 6, 6, 6, 0, 0, 0, 0, 0, 0]) (L' := [⟨some (g_12.2.1, 0), [vi r_2.1]⟩, ⟨some (g_12.2.1, 1), e64 r_2.2.1.toList⟩, ⟨some (g_12.2.1, 9), e64 r_2.2.2.1.toList⟩, ⟨some (g_12.2.1, 89), [sl g_12.2.2 ((r_2.2.2.2).length) ((r_2.2.2.2 ++ ([] : List (BitVec 8))).length)]⟩, ⟨g_12.2.2, e8 (r_2.2.2.2 ++ ([] : List (BitVec 8)))⟩, ⟨some (g_12.2.1, 90), [v64 0#64]⟩, ⟨some (g_13.2.1, 0), [vi r_12.1]⟩, ⟨some (g_13.2.1, 1), e64 r_12.2.1.toList⟩, ⟨some (g_13.2.1, 9), e64 r_12.2.2.1.toList⟩, ⟨some (g_13.2.1, 89), [sl g_13.2.2 ((r_12.2.2.2).length) ((r_12.2.2.2 ++ ([] : List (BitVec 8))).length)]⟩, ⟨g_13.2.2, e8 (r_12.2.2.2 ++ ([] : List (BitVec 8)))⟩, ⟨some (g_13.2.1, 90), [v64 0#64]⟩]) rfl ?_
              refine TC_loopL (id := 0) (body := (halberdlaw2_ShaSplits.b1 cuts r_2 r_12)) (σ := Str × Int × Vector (BitVec 64) 8 × List (BitVec 8) × BitVec 64 × Vector (BitVec 64) 8 × List (BitVec 8) × BitVec 64) (Γ := Adr × List (BitVec 8) × Adr × List (BitVec 8)) (Γx := Adr × List (BitVec 8) × Adr × List (BitVec 8)) (fun s1 g1_ => [(1, vs s_), (2, sl Acuts ((cuts).length) ccuts), (7, vi j1), (8, ptr (some (g_12.2.1, 0)) 0), (10, ptr (some (g_13.2.1, 0)) 0), (12, vs s1.1), (13, vi s1.2.1)]) (fun s1 g1_ => [⟨some (g_12.2.1, 0), [vi r_2.1]⟩, ⟨some (g_12.2.1, 1), e64 s1.2.2.1.toList⟩, ⟨some (g_12.2.1, 9), e64 r_2.2.2.1.toList⟩, ⟨some (g_12.2.1, 89), [sl g1_.1 ((s1.2.2.2.1).length) ((s1.2.2.2.1 ++ g1_.2.1).length)]⟩, ⟨g1_.1, e8 (s1.2.2.2.1 ++ g1_.2.1)⟩, ⟨some (g_12.2.1, 90), [v64 s1.2.2.2.2.1]⟩, ⟨some (g_13.2.1, 0), [vi r_12.1]⟩, ⟨some (g_13.2.1, 1), e64 s1.2.2.2.2.2.1.toList⟩, ⟨some (g_13.2.1, 9), e64 r_12.2.2.1.toList⟩, ⟨some (g_13.2.1, 89), [sl g1_.2.2.1 ((s1.2.2.2.2.2.2.1).length) ((s1.2.2.2.2.2.2.1 ++ g1_.2.2.2).length)]⟩, ⟨g1_.2.2.1, e8 (s1.2.2.2.2.2.2.1 ++ g1_.2.2.2)⟩, ⟨some (g_13.2.1, 90), [v64 s1.2.2.2.2.2.2.2]⟩]) (fun t g => [(1, vs s_), (7, vi j1), (8, ptr (some (g_12.2.1, 0)) 0), (10, ptr (some (g_13.2.1, 0)) 0), (12, vs t.1)]) (fun t g => [⟨some (g_12.2.1, 0), [vi r_2.1]⟩, ⟨some (g_12.2.1, 1), e64 t.2.1.toList⟩, ⟨some (g_12.2.1, 9), e64 r_2.2.2.1.toList⟩, ⟨some (g_12.2.1, 89), [sl g.1 ((t.2.2.1).length) ((t.2.2.1 ++ g.2.1).length)]⟩, ⟨g.1, e8 (t.2.2.1 ++ g.2.1)⟩, ⟨some (g_12.2.1, 90), [v64 t.2.2.2.1]⟩, ⟨some (g_13.2.1, 0), [vi r_12.1]⟩, ⟨some (g_13.2.1, 1), e64 t.2.2.2.2.1.toList⟩, ⟨some (g_13.2.1, 9), e64 r_12.2.2.1.toList⟩, ⟨some (g_13.2.1, 89), [sl g.2.2.1 ((t.2.2.2.2.2.1).length) ((t.2.2.2.2.2.1 ++ g.2.2.2).length)]⟩, ⟨g.2.2.1, e8 (t.2.2.2.2.2.1 ++ g.2.2.2)⟩, ⟨some (g_13.2.1, 90), [v64 t.2.2.2.2.2.2]⟩]) ?_ BIG (s_, 0, r_2.2.1, r_2.2.2.2, 0#64, r_12.2.1, r_12.2.2.2, 0#64) (g_12.2.2, ([] : List (BitVec 8)), g_13.2.2, ([] : List (BitVec 8))) t_3 Hl ?_
              · intro s1 g1_ r1 H K hK hE
                unfold halberdlaw2_ShaSplits.b1 at H
                refine TC_seq ?_
                refine TC_seq ?_
                refine TC_region ?_
                refine TL_v rfl rfl rfl (V_move rfl) ?_
                refine TL_v rfl rfl rfl (V_bin rfl rfl (fun w => neqS w s1.1 ([] : Str))) ?_
                refine TL_v rfl rfl rfl (V_move rfl) ?_
                refine TL_fork (d := 43) (b := (decide (s1.1 ≠ ([] : Str)))) rfl (fun hc => ?_) (fun hc => ?_)
                · replace H := ite_t (of_decide_eq_true hc) H
                  refine TL_want rfl rfl rfl rfl rfl rfl (V_move rfl) ?_
                  refine TL_want rfl rfl rfl rfl rfl rfl (V_bin rfl rfl (fun w => lssI w s1.2.1 3000)) ?_
                  refine TL_v rfl rfl rfl (V_pick (b := true) rfl rfl) ?_
                  refine TL_nil ?_
                  refine TX_next ?_
                  refine TC_cond (b := (decide (s1.2.1 < 3000))) rfl (fun hc => ?_) (fun hc => ?_)
                  · replace H := ite_t (of_decide_eq_true hc) H
                    refine TC_skip ?_
                    refine TX_next ?_
                    refine TC_seq ?_
                    refine TC_block ?_
                    refine TC_seq ?_
                    refine TC_region ?_
                    refine TL_v rfl rfl rfl (V_move rfl) ?_
                    refine TL_v rfl rfl rfl (V_len_str rfl Try.underlying9) ?_
                    refine TL_v rfl rfl rfl (V_assign rfl) ?_
                    obtain ⟨k_3, hk_3, H⟩ := ltt_elim H
                    refine TL_re (d := 14) (v := vi ((s1.1).length : Int)) (v' := vi k_3) rfl (congrArg vi hk_3) ?_
                    refine TL_nil ?_
                    refine TX_next ?_
                    refine TC_seq ?_
                    refine TC_seq ?_
                    refine TC_region ?_
                    refine TL_v rfl rfl rfl (V_move rfl) ?_
                    refine TL_v rfl rfl rfl (V_move rfl) ?_
                    refine TL_v rfl rfl rfl (V_len_slice rfl Try.underlying47) ?_
                    refine TL_v rfl rfl rfl (V_bin rfl rfl (fun w => lssI w s1.2.1 ((cuts).length : Int))) ?_
                    refine TL_nil ?_
                    refine TX_next ?_
                    obtain ⟨j3, Hj, H⟩ := bind_elim H
                    refine TC_join (Γ := Unit) (fun gj3 => [(1, vs s_), (2, sl Acuts ((cuts).length) ccuts), (7, vi j1), (8, ptr (some (g_12.2.1, 0)) 0), (10, ptr (some (g_13.2.1, 0)) 0), (12, vs s1.1), (13, vi s1.2.1), (14, vi j3)]) (fun gj3 => [⟨some (g_12.2.1, 0), [vi r_2.1]⟩, ⟨some (g_12.2.1, 1), e64 s1.2.2.1.toList⟩, ⟨some (g_12.2.1, 9), e64 r_2.2.2.1.toList⟩, ⟨some (g_12.2.1, 89), [sl g1_.1 ((s1.2.2.2.1).length) ((s1.2.2.2.1 ++ g1_.2.1).length)]⟩, ⟨g1_.1, e8 (s1.2.2.2.1 ++ g1_.2.1)⟩, ⟨some (g_12.2.1, 90), [v64 s1.2.2.2.2.1]⟩, ⟨some (g_13.2.1, 0), [vi r_12.1]⟩, ⟨some (g_13.2.1, 1), e64 s1.2.2.2.2.2.1.toList⟩, ⟨some (g_13.2.1, 9), e64 r_12.2.2.1.toList⟩, ⟨some (g_13.2.1, 89), [sl g1_.2.2.1 ((s1.2.2.2.2.2.2.1).length) ((s1.2.2.2.2.2.2.1 ++ g1_.2.2.2).length)]⟩, ⟨g1_.2.2.1, e8 (s1.2.2.2.2.2.2.1 ++ g1_.2.2.2)⟩, ⟨some (g_13.2.1, 90), [v64 s1.2.2.2.2.2.2.2]⟩]) ?_ ?_
                    · intro gj3
                      refine TX_next ?_
                      refine TC_seq ?_
                      refine TC_region ?_
                      refine TL_v rfl rfl rfl (V_move rfl) ?_
                      refine TL_v rfl rfl rfl (V_move rfl) ?_
                      refine TL_v rfl rfl rfl (V_move rfl) ?_
                      obtain ⟨h6, H⟩ := if_elim H
                      obtain ⟨h7, H⟩ := if_elim H
                      refine TL_v rfl rfl rfl (V_sliceStr (l := 0) (h := (j3).toNat) rfl Try.underlying9 Bnd.none' (Bnd.some' (i := j3) rfl h6) (Nat.zero_le _) h7) ?_
                      obtain ⟨r_15, hr_15, H⟩ := bind_elim H
                      refine TL_e rfl rfl rfl (E_call (Γ := Adr × List (BitVec 8)) (val := fun g => Value.tuple [].toArray) (mem := fun g => [⟨some (g_12.2.1, 1), e64 r_15.1.toList⟩, ⟨some (g_12.2.1, 89), [sl g.1 ((r_15.2.1).length) ((r_15.2.1 ++ g.2).length)]⟩, ⟨g.1, e8 (r_15.2.1 ++ g.2)⟩, ⟨some (g_12.2.1, 90), [v64 r_15.2.2]⟩]) (vs := [ptr (some (g_12.2.1, 0)) 0, vs (sub s1.1 0 ((j3).toNat))]) (Lin := [⟨some (g_12.2.1, 1), e64 s1.2.2.1.toList⟩, ⟨some (g_12.2.1, 89), [sl g1_.1 ((s1.2.2.2.1).length) ((s1.2.2.2.1 ++ g1_.2.1).length)]⟩, ⟨some (g_12.2.1, 90), [v64 s1.2.2.2.2.1]⟩, ⟨g1_.1, e8 (s1.2.2.2.1 ++ g1_.2.1)⟩]) (Ro := [⟨some (g_12.2.1, 0), [vi r_2.1]⟩, ⟨some (g_12.2.1, 9), e64 r_2.2.2.1.toList⟩]) (is := [1, 2, 3, 2]) rfl Try.call32 (F32_calls g_12.2.1 0 g1_.1 g1_.2.1 r_2.1 s1.2.2.1 r_2.2.2.1 s1.2.2.2.1 s1.2.2.2.2.1 (sub s1.1 0 ((j3).toNat)) r_15 hr_15) rfl ⟨SrcD.own (j := 0) rfl, SrcD.own (j := 1) rfl, trivial⟩) (fun g_16 => ?_)
                      refine TL_nil ?_
                      refine TX_next ?_
                      refine TC_seq ?_
                      refine TC_region ?_
                      refine TL_v rfl rfl rfl (V_move rfl) ?_
                      obtain ⟨r_16, hr_16, H⟩ := bind_elim H
                      refine TL_e rfl rfl rfl (E_call (Γ := Adr × List (BitVec 8)) (val := fun g => Value.tuple [].toArray) (mem := fun g => [⟨some (g_13.2.1, 1), e64 r_16.1.toList⟩, ⟨some (g_13.2.1, 89), [sl g.1 ((r_16.2.1).length) ((r_16.2.1 ++ g.2).length)]⟩, ⟨g.1, e8 (r_16.2.1 ++ g.2)⟩, ⟨some (g_13.2.1, 90), [v64 r_16.2.2]⟩]) (vs := [ptr (some (g_13.2.1, 0)) 0, vs ([] : Str)]) (Lin := [⟨some (g_13.2.1, 1), e64 s1.2.2.2.2.2.1.toList⟩, ⟨some (g_13.2.1, 89), [sl g1_.2.2.1 ((s1.2.2.2.2.2.2.1).length) ((s1.2.2.2.2.2.2.1 ++ g1_.2.2.2).length)]⟩, ⟨some (g_13.2.1, 90), [v64 s1.2.2.2.2.2.2.2]⟩, ⟨g1_.2.2.1, e8 (s1.2.2.2.2.2.2.1 ++ g1_.2.2.2)⟩]) (Ro := [⟨some (g_13.2.1, 0), [vi r_12.1]⟩, ⟨some (g_13.2.1, 9), e64 r_12.2.2.1.toList⟩]) (is := [7, 8, 9, 8]) rfl Try.call32 (F32_calls g_13.2.1 0 g1_.2.2.1 g1_.2.2.2 r_12.1 s1.2.2.2.2.2.1 r_12.2.2.1 s1.2.2.2.2.2.2.1 s1.2.2.2.2.2.2.2 ([] : Str) r_16 hr_16) rfl ⟨SrcD.own (j := 6) rfl, SrcD.own (j := 7) rfl, trivial⟩) (fun g_17 => ?_)
                      refine TL_nil ?_
                      refine TX_next ?_
                      refine TC_region ?_
                      refine TL_v rfl rfl rfl (V_move rfl) ?_
                      refine TL_v rfl rfl rfl (V_move rfl) ?_
                      obtain ⟨h8, H⟩ := if_elim H
                      obtain ⟨h9, H⟩ := if_elim H
                      refine TL_v rfl rfl rfl (V_sliceStr (l := (j3).toNat) (h := (s1.1).length) rfl Try.underlying9 (Bnd.some' (i := j3) rfl h8) Bnd.none' h9 (Nat.le_refl _)) ?_
                      refine TL_v rfl rfl rfl (V_assign rfl) ?_
                      obtain ⟨t_4, ht_4, H⟩ := ltt_elim H
                      refine TL_re (d := 12) (v := vs (sub s1.1 ((j3).toNat) ((s1.1).length))) (v' := vs t_4) rfl (congrArg vs ht_4) ?_
                      refine TL_nil ?_
                      refine TX_block_normal ?_
                      refine TX_next ?_
                      refine TC_region ?_
                      refine TL_v rfl rfl rfl (V_move rfl) ?_
                      refine TL_v rfl rfl rfl (V_bin rfl rfl (fun w => addI w s1.2.1 1)) ?_
                      refine TL_v rfl rfl rfl (V_assign rfl) ?_
                      obtain ⟨i2, hi2, H⟩ := ltt_elim H
                      refine TL_re (d := 13) (v := vi (w64 (s1.2.1 + 1))) (v' := vi i2) rfl (congrArg vi hi2) ?_
                      refine TL_nil ?_
                      refine TX.sub (m' := [(1, vs s_), (2, sl Acuts ((cuts).length) ccuts), (7, vi j1), (8, ptr (some (g_12.2.1, 0)) 0), (10, ptr (some (g_13.2.1, 0)) 0), (12, vs t_4), (13, vi i2)]) ⟨rfl, rfl, rfl, rfl, rfl, rfl, rfl, trivial⟩ ?_
                      refine TX.pull (is := [8, 4, 7, 4, 4, 4, 4, 0, 3, 0, 0, 0]) (L' := [⟨some (g_12.2.1, 0), [vi r_2.1]⟩, ⟨some (g_12.2.1, 1), e64 r_15.1.toList⟩, ⟨some (g_12.2.1, 9), e64 r_2.2.2.1.toList⟩, ⟨some (g_12.2.1, 89), [sl g_16.1 ((r_15.2.1).length) ((r_15.2.1 ++ g_16.2).length)]⟩, ⟨g_16.1, e8 (r_15.2.1 ++ g_16.2)⟩, ⟨some (g_12.2.1, 90), [v64 r_15.2.2]⟩, ⟨some (g_13.2.1, 0), [vi r_12.1]⟩, ⟨some (g_13.2.1, 1), e64 r_16.1.toList⟩, ⟨some (g_13.2.1, 9), e64 r_12.2.2.1.toList⟩, ⟨some (g_13.2.1, 89), [sl g_17.1 ((r_16.2.1).length) ((r_16.2.1 ++ g_17.2).length)]⟩, ⟨g_17.1, e8 (r_16.2.1 ++ g_17.2)⟩, ⟨some (g_13.2.1, 90), [v64 r_16.2.2]⟩]) rfl ?_
                      obtain rfl := Option.some.inj H
                      exact fun a w hs => hK (t_4, i2, r_15.1, r_15.2.1, r_15.2.2, r_16.1, r_16.2.1, r_16.2.2) rfl (g_16.1, g_16.2, g_17.1, g_17.2) a w hs
                    · intro hJ
                      replace H := Hj
                      refine TC_cond (b := (decide (s1.2.1 < ((cuts).length : Int)))) rfl (fun hc => ?_) (fun hc => ?_)
                      · replace H := ite_t (of_decide_eq_true hc) H
                        refine TC_region ?_
                        refine TL_v rfl rfl rfl (V_move rfl) ?_
                        refine TL_v rfl rfl rfl (V_move rfl) ?_
                        refine TL_v rfl rfl rfl (V_move rfl) ?_
                        obtain ⟨h10, H⟩ := if_elim H
                        refine TL_v rfl rfl rfl (V_idxSlS (i := s1.2.1) rfl rfl Try.underlying47 TryI.inf3 rfl (Src.ro (j := 0) rfl) (map_ne (toNat_lt h10.1 h10.2)) h10.1 h10.2 (k := (s1.2.1).toNat) (km1 _)) ?_
                        refine TL_v rfl rfl rfl (V_load rfl (Src.ro (j := 0) rfl) (get_map (f := vi) (l := cuts) (toNat_lt h10.1 h10.2)) Try.isAgg3) ?_
                        refine TL_v rfl rfl rfl (V_bin rfl rfl (fun w => andI w (lg cuts ((s1.2.1).toNat)) 63)) ?_
                        refine TL_v rfl rfl rfl (V_min rfl rfl) ?_
                        refine TL_v rfl rfl rfl (V_assign rfl) ?_
                        obtain ⟨k_4, hk_4, H⟩ := ltt_elim H
                        refine TL_re (d := 14) (v := vi (min k_3 (iop (· &&& ·) (lg cuts ((s1.2.1).toNat)) 63))) (v' := vi k_4) rfl (congrArg vi hk_4) ?_
                        refine TL_nil ?_
                        refine TX.sub (m' := [(1, vs s_), (2, sl Acuts ((cuts).length) ccuts), (7, vi j1), (8, ptr (some (g_12.2.1, 0)) 0), (10, ptr (some (g_13.2.1, 0)) 0), (12, vs s1.1), (13, vi s1.2.1), (14, vi k_4)]) ⟨rfl, rfl, rfl, rfl, rfl, rfl, rfl, rfl, trivial⟩ ?_
                        refine TX.pull (is := [0, 0, 0, 0, 0, 0, 0, 0, 0, 0, 0, 0]) (L' := [⟨some (g_12.2.1, 0), [vi r_2.1]⟩, ⟨some (g_12.2.1, 1), e64 s1.2.2.1.toList⟩, ⟨some (g_12.2.1, 9), e64 r_2.2.2.1.toList⟩, ⟨some (g_12.2.1, 89), [sl g1_.1 ((s1.2.2.2.1).length) ((s1.2.2.2.1 ++ g1_.2.1).length)]⟩, ⟨g1_.1, e8 (s1.2.2.2.1 ++ g1_.2.1)⟩, ⟨some (g_12.2.1, 90), [v64 s1.2.2.2.2.1]⟩, ⟨some (g_13.2.1, 0), [vi r_12.1]⟩, ⟨some (g_13.2.1, 1), e64 s1.2.2.2.2.2.1.toList⟩, ⟨some (g_13.2.1, 9), e64 r_12.2.2.1.toList⟩, ⟨some (g_13.2.1, 89), [sl g1_.2.2.1 ((s1.2.2.2.2.2.2.1).length) ((s1.2.2.2.2.2.2.1 ++ g1_.2.2.2).length)]⟩, ⟨g1_.2.2.1, e8 (s1.2.2.2.2.2.2.1 ++ g1_.2.2.2)⟩, ⟨some (g_13.2.1, 90), [v64 s1.2.2.2.2.2.2.2]⟩]) rfl ?_
                        obtain rfl := Option.some.inj H
                        exact hJ ()
                      · replace H := ite_f (of_decide_eq_false hc) H
                        refine TC_skip ?_
                        refine TX.sub (m' := [(1, vs s_), (2, sl Acuts ((cuts).length) ccuts), (7, vi j1), (8, ptr (some (g_12.2.1, 0)) 0), (10, ptr (some (g_13.2.1, 0)) 0), (12, vs s1.1), (13, vi s1.2.1), (14, vi k_3)]) ⟨rfl, rfl, rfl, rfl, rfl, rfl, rfl, rfl, trivial⟩ ?_
                        refine TX.pull (is := [0, 0, 0, 0, 0, 0, 0, 0, 0, 0, 0, 0]) (L' := [⟨some (g_12.2.1, 0), [vi r_2.1]⟩, ⟨some (g_12.2.1, 1), e64 s1.2.2.1.toList⟩, ⟨some (g_12.2.1, 9), e64 r_2.2.2.1.toList⟩, ⟨some (g_12.2.1, 89), [sl g1_.1 ((s1.2.2.2.1).length) ((s1.2.2.2.1 ++ g1_.2.1).length)]⟩, ⟨g1_.1, e8 (s1.2.2.2.1 ++ g1_.2.1)⟩, ⟨some (g_12.2.1, 90), [v64 s1.2.2.2.2.1]⟩, ⟨some (g_13.2.1, 0), [vi r_12.1]⟩, ⟨some (g_13.2.1, 1), e64 s1.2.2.2.2.2.1.toList⟩, ⟨some (g_13.2.1, 9), e64 r_12.2.2.1.toList⟩, ⟨some (g_13.2.1, 89), [sl g1_.2.2.1 ((s1.2.2.2.2.2.2.1).length) ((s1.2.2.2.2.2.2.1 ++ g1_.2.2.2).length)]⟩, ⟨g1_.2.2.1, e8 (s1.2.2.2.2.2.2.1 ++ g1_.2.2.2)⟩, ⟨some (g_13.2.1, 90), [v64 s1.2.2.2.2.2.2.2]⟩]) rfl ?_
                        obtain rfl := Option.some.inj H
                        exact hJ ()
                  · replace H := ite_f (of_decide_eq_false hc) H
                    refine TC_exit ?_
                    refine TX_then_exit ?_
                    refine TX_then_exit ?_
                    refine TX.sub (m' := [(1, vs s_), (7, vi j1), (8, ptr (some (g_12.2.1, 0)) 0), (10, ptr (some (g_13.2.1, 0)) 0), (12, vs s1.1)]) ⟨rfl, rfl, rfl, rfl, rfl, trivial⟩ ?_
                    refine TX.pull (is := [0, 0, 0, 0, 0, 0, 0, 0, 0, 0, 0, 0]) (L' := [⟨some (g_12.2.1, 0), [vi r_2.1]⟩, ⟨some (g_12.2.1, 1), e64 s1.2.2.1.toList⟩, ⟨some (g_12.2.1, 9), e64 r_2.2.2.1.toList⟩, ⟨some (g_12.2.1, 89), [sl g1_.1 ((s1.2.2.2.1).length) ((s1.2.2.2.1 ++ g1_.2.1).length)]⟩, ⟨g1_.1, e8 (s1.2.2.2.1 ++ g1_.2.1)⟩, ⟨some (g_12.2.1, 90), [v64 s1.2.2.2.2.1]⟩, ⟨some (g_13.2.1, 0), [vi r_12.1]⟩, ⟨some (g_13.2.1, 1), e64 s1.2.2.2.2.2.1.toList⟩, ⟨some (g_13.2.1, 9), e64 r_12.2.2.1.toList⟩, ⟨some (g_13.2.1, 89), [sl g1_.2.2.1 ((s1.2.2.2.2.2.2.1).length) ((s1.2.2.2.2.2.2.1 ++ g1_.2.2.2).length)]⟩, ⟨g1_.2.2.1, e8 (s1.2.2.2.2.2.2.1 ++ g1_.2.2.2)⟩, ⟨some (g_13.2.1, 90), [v64 s1.2.2.2.2.2.2.2]⟩]) rfl ?_
                    obtain rfl := Option.some.inj H
                    exact hE (s1.1, s1.2.2.1, s1.2.2.2.1, s1.2.2.2.2.1, s1.2.2.2.2.2.1, s1.2.2.2.2.2.2.1, s1.2.2.2.2.2.2.2) rfl (g1_.1, g1_.2.1, g1_.2.2.1, g1_.2.2.2)
                · replace H := ite_f (of_decide_eq_false hc) H
                  refine TL_skip rfl rfl rfl rfl rfl rfl rfl ?_
                  refine TL_skip rfl rfl rfl rfl rfl rfl rfl ?_
                  refine TL_v rfl rfl rfl (V_pick (b := false) rfl rfl) ?_
                  refine TL_nil ?_
                  refine TX_next ?_
                  refine TC_cond_f rfl ?_
                  refine TC_exit ?_
                  refine TX_then_exit ?_
                  refine TX_then_exit ?_
                  refine TX.sub (m' := [(1, vs s_), (7, vi j1), (8, ptr (some (g_12.2.1, 0)) 0), (10, ptr (some (g_13.2.1, 0)) 0), (12, vs s1.1)]) ⟨rfl, rfl, rfl, rfl, rfl, trivial⟩ ?_
                  refine TX.pull (is := [0, 0, 0, 0, 0, 0, 0, 0, 0, 0, 0, 0]) (L' := [⟨some (g_12.2.1, 0), [vi r_2.1]⟩, ⟨some (g_12.2.1, 1), e64 s1.2.2.1.toList⟩, ⟨some (g_12.2.1, 9), e64 r_2.2.2.1.toList⟩, ⟨some (g_12.2.1, 89), [sl g1_.1 ((s1.2.2.2.1).length) ((s1.2.2.2.1 ++ g1_.2.1).length)]⟩, ⟨g1_.1, e8 (s1.2.2.2.1 ++ g1_.2.1)⟩, ⟨some (g_12.2.1, 90), [v64 s1.2.2.2.2.1]⟩, ⟨some (g_13.2.1, 0), [vi r_12.1]⟩, ⟨some (g_13.2.1, 1), e64 s1.2.2.2.2.2.1.toList⟩, ⟨some (g_13.2.1, 9), e64 r_12.2.2.1.toList⟩, ⟨some (g_13.2.1, 89), [sl g1_.2.2.1 ((s1.2.2.2.2.2.2.1).length) ((s1.2.2.2.2.2.2.1 ++ g1_.2.2.2).length)]⟩, ⟨g1_.2.2.1, e8 (s1.2.2.2.2.2.2.1 ++ g1_.2.2.2)⟩, ⟨some (g_13.2.1, 90), [v64 s1.2.2.2.2.2.2.2]⟩]) rfl ?_
                  obtain rfl := Option.some.inj H
                  exact hE (s1.1, s1.2.2.1, s1.2.2.2.1, s1.2.2.2.2.1, s1.2.2.2.2.2.1, s1.2.2.2.2.2.2.1, s1.2.2.2.2.2.2.2) rfl (g1_.1, g1_.2.1, g1_.2.2.1, g1_.2.2.2)
              · intro g
                obtain ⟨gx2, hgx⟩ : ∃ z, z = g := ⟨g, rfl⟩; subst hgx
                refine TX_block_exit ?_
                refine TX_next ?_
                refine TC_seq ?_
                refine TC_region ?_
                refine TL_v rfl rfl rfl (V_move rfl) ?_
                refine TL_v rfl rfl rfl (V_move rfl) ?_
                obtain ⟨r_17, hr_17, H⟩ := bind_elim H
                refine TL_e rfl rfl rfl (E_call (Γ := Unit) (val := fun g => Value.tuple [vs r_17.1, vi r_17.2].toArray) (mem := fun g => []) (vs := [vi j1, vs s_]) (Lin := []) (Ro := []) (is := []) rfl Try.call27 (F27_calls j1 s_ r_17 hr_17) rfl trivial) (fun g_18 => ?_)
                refine TL_v rfl rfl rfl (V_move rfl) ?_
                refine TL_v rfl rfl rfl (V_extract (vs := [vs r_17.1, vi r_17.2]) rfl rfl) ?_
                refine TL_v rfl rfl rfl (V_extract (vs := [vs r_17.1, vi r_17.2]) rfl rfl) ?_
                refine TL_v rfl rfl rfl (V_assign rfl) ?_
                refine TL_v rfl rfl rfl (V_assign rfl) ?_
                refine TL_nil ?_
                refine TX_next ?_
                refine TC_seq ?_
                refine TC_region ?_
                refine TL_v rfl rfl rfl (V_move rfl) ?_
                obtain ⟨r_18, hr_18, H⟩ := bind_elim H
                refine TL_e rfl rfl rfl (E_call (Γ := Unit) (val := fun g => Value.tuple [vs r_18.1, vi r_18.2].toArray) (mem := fun g => []) (vs := [vi j1, vs ([] : Str)]) (Lin := []) (Ro := []) (is := []) rfl Try.call27 (F27_calls j1 ([] : Str) r_18 hr_18) rfl trivial) (fun g_19 => ?_)
                refine TL_v rfl rfl rfl (V_move rfl) ?_
                refine TL_v rfl rfl rfl (V_extract (vs := [vs r_18.1, vi r_18.2]) rfl rfl) ?_
                refine TL_v rfl rfl rfl (V_extract (vs := [vs r_18.1, vi r_18.2]) rfl rfl) ?_
                refine TL_v rfl rfl rfl (V_assign rfl) ?_
                refine TL_v rfl rfl rfl (V_assign rfl) ?_
                refine TL_nil ?_
                refine TX_next ?_
                refine TC_seq ?_
                refine TC_region ?_
                refine TL_v rfl rfl rfl (V_move rfl) ?_
                refine TL_v rfl rfl rfl (V_bin rfl rfl (fun w => neqS w t_3.1 ([] : Str))) ?_
                refine TL_v rfl rfl rfl (V_move rfl) ?_
                refine TL_fork (d := 85) (b := (decide (t_3.1 ≠ ([] : Str)))) rfl (fun hc => ?_) (fun hc => ?_)
                · replace H := ite_t (of_decide_eq_true hc) H
                  refine TL_skip rfl rfl rfl rfl rfl rfl rfl ?_
                  refine TL_skip rfl rfl rfl rfl rfl rfl rfl ?_
                  refine TL_skip rfl rfl rfl rfl rfl rfl rfl ?_
                  refine TL_skip rfl rfl rfl rfl rfl rfl rfl ?_
                  refine TL_skip rfl rfl rfl rfl rfl rfl rfl ?_
                  refine TL_skipU rfl rfl rfl rfl rfl rfl ?_
                  refine TL_skipU rfl rfl rfl rfl rfl rfl ?_
                  refine TL_skipU rfl rfl rfl rfl rfl rfl ?_
                  refine TL_skipU rfl rfl rfl rfl rfl rfl ?_
                  refine TL_skip rfl rfl rfl rfl rfl rfl rfl ?_
                  refine TL_skip rfl rfl rfl rfl rfl rfl rfl ?_
                  refine TL_skipU rfl rfl rfl rfl rfl rfl ?_
                  refine TL_skipU rfl rfl rfl rfl rfl rfl ?_
                  refine TL_skipU rfl rfl rfl rfl rfl rfl ?_
                  refine TL_skipU rfl rfl rfl rfl rfl rfl ?_
                  refine TL_skipU rfl rfl rfl rfl rfl rfl ?_
                  refine TL_skip rfl rfl rfl rfl rfl rfl rfl ?_
                  refine TL_v rfl rfl rfl (V_pick (b := true) rfl rfl) ?_
                  refine TL_v rfl rfl rfl (V_assign rfl) ?_
                  refine TL_nil ?_
                  refine TX_next ?_
                  refine TC.sub (m' := [(6, vb true)]) ⟨rfl, trivial⟩ ?_
                  refine TC_ret ?_
                  have hrv := Option.some.inj H
                  subst hrv
                  exact TX_ret (rs := [.tmp 6]) (vs := [vb true]) rfl ⟨rfl, trivial⟩ (fun w' hs' => ⟨(), rfl, Step.left (Step.pulled (is := []) (A := []) hs' rfl)⟩)
                · replace H := ite_f (of_decide_eq_false hc) H
                  refine TL_want rfl rfl rfl rfl rfl rfl (V_move rfl) ?_
                  obtain ⟨r_19, hr_19, H⟩ := bind_elim H
                  refine TL_wantE rfl rfl rfl rfl rfl rfl (E_call (Γ := Unit) (val := fun g => vs r_19) (mem := fun g => []) (vs := [ptr (some (g_12.2.1, 0)) 0]) (Lin := []) (Ro := [⟨some (g_12.2.1, 0), [vi r_2.1]⟩, ⟨some (g_12.2.1, 1), e64 t_3.2.1.toList⟩, ⟨some (g_12.2.1, 9), e64 r_2.2.2.1.toList⟩, ⟨some (g_12.2.1, 89), [sl gx2.1 ((t_3.2.2.1).length) ((t_3.2.2.1 ++ gx2.2.1).length)]⟩, ⟨some (g_12.2.1, 90), [v64 t_3.2.2.2.1]⟩, ⟨gx2.1, e8 t_3.2.2.1⟩]) (is := []) rfl Try.call33 (F33_calls g_12.2.1 0 gx2.1 ((t_3.2.2.1 ++ gx2.2.1).length) r_2.1 t_3.2.1 r_2.2.2.1 t_3.2.2.1 t_3.2.2.2.1 (row_le _ _) r_19 hr_19) rfl ⟨SrcD.own (j := 0) rfl, SrcD.own (j := 1) rfl, SrcD.own (j := 2) rfl, SrcD.own (j := 3) rfl, SrcD.own (j := 5) rfl, (srcdRow (SrcD.own (j := 4) rfl)), trivial⟩) (fun g_20 => ?_)
                  refine TL_want rfl rfl rfl rfl rfl rfl (V_move rfl) ?_
                  refine TL_want rfl rfl rfl rfl rfl rfl (V_bin rfl rfl (fun w => eqlS w r_19 r_17.1)) ?_
                  refine TL_want rfl rfl rfl rfl rfl rfl (V_move rfl) ?_
                  refine TL_fork (d := 90) (b := (decide (r_19 = r_17.1))) rfl (fun hc => ?_) (fun hc => ?_)
                  · replace H := ite_t (of_decide_eq_true hc) H
                    refine TL_want rfl rfl rfl rfl rfl rfl (V_move rfl) ?_
                    obtain ⟨r_20, hr_20, H⟩ := bind_elim H
                    refine TL_wantE rfl rfl rfl rfl rfl rfl (E_call (Γ := Unit) (val := fun g => vs r_20) (mem := fun g => []) (vs := [ptr (some (g_13.2.1, 0)) 0]) (Lin := []) (Ro := [⟨some (g_13.2.1, 0), [vi r_12.1]⟩, ⟨some (g_13.2.1, 1), e64 t_3.2.2.2.2.1.toList⟩, ⟨some (g_13.2.1, 9), e64 r_12.2.2.1.toList⟩, ⟨some (g_13.2.1, 89), [sl gx2.2.2.1 ((t_3.2.2.2.2.2.1).length) ((t_3.2.2.2.2.2.1 ++ gx2.2.2.2).length)]⟩, ⟨some (g_13.2.1, 90), [v64 t_3.2.2.2.2.2.2]⟩, ⟨gx2.2.2.1, e8 t_3.2.2.2.2.2.1⟩]) (is := []) rfl Try.call33 (F33_calls g_13.2.1 0 gx2.2.2.1 ((t_3.2.2.2.2.2.1 ++ gx2.2.2.2).length) r_12.1 t_3.2.2.2.2.1 r_12.2.2.1 t_3.2.2.2.2.2.1 t_3.2.2.2.2.2.2 (row_le _ _) r_20 hr_20) rfl ⟨SrcD.own (j := 6) rfl, SrcD.own (j := 7) rfl, SrcD.own (j := 8) rfl, SrcD.own (j := 9) rfl, SrcD.own (j := 11) rfl, (srcdRow (SrcD.own (j := 10) rfl)), trivial⟩) (fun g_21 => ?_)
                    refine TL_want rfl rfl rfl rfl rfl rfl (V_move rfl) ?_
                    refine TL_want rfl rfl rfl rfl rfl rfl (V_bin rfl rfl (fun w => eqlS w r_20 r_18.1)) ?_
                    refine TL_want rfl rfl rfl rfl rfl rfl (V_pick (b := true) rfl rfl) ?_
                    refine TL_want rfl rfl rfl rfl rfl rfl (V_move rfl) ?_
                    refine TL_fork (d := 96) (b := (decide (r_20 = r_18.1))) rfl (fun hc => ?_) (fun hc => ?_)
                    · replace H := ite_t (of_decide_eq_true hc) H
                      refine TL_want rfl rfl rfl rfl rfl rfl (V_move rfl) ?_
                      refine TL_want rfl rfl rfl rfl rfl rfl (V_len_str rfl Try.underlying9) ?_
                      refine TL_want rfl rfl rfl rfl rfl rfl (V_move rfl) ?_
                      refine TL_want rfl rfl rfl rfl rfl rfl (V_bin rfl rfl (fun w => quoI w j1 8 (by decide))) ?_
                      refine TL_want rfl rfl rfl rfl rfl rfl (V_bin rfl rfl (fun w => eqlI w ((r_17.1).length : Int) (w64 (j1.tdiv 8)))) ?_
                      refine TL_want rfl rfl rfl rfl rfl rfl (V_pick (b := true) rfl rfl) ?_
                      refine TL_v rfl rfl rfl (V_pick (b := false) rfl rfl) ?_
                      refine TL_v rfl rfl rfl (V_assign rfl) ?_
                      obtain ⟨x2, hx2, H⟩ := ltt_elim H
                      refine TL_re (d := 6) (v := vb (decide (((r_17.1).length : Int) = (w64 (j1.tdiv 8))))) (v' := vb x2) rfl (congrArg vb hx2) ?_
                      refine TL_nil ?_
                      refine TX_next ?_
                      refine TC.sub (m' := [(6, vb x2)]) ⟨rfl, trivial⟩ ?_
                      refine TC_ret ?_
                      have hrv := Option.some.inj H
                      subst hrv
                      exact TX_ret (rs := [.tmp 6]) (vs := [vb x2]) rfl ⟨rfl, trivial⟩ (fun w' hs' => ⟨(), rfl, Step.left (Step.pulled (is := []) (A := []) hs' rfl)⟩)
                    · replace H := ite_f (of_decide_eq_false hc) H
                      refine TL_skip rfl rfl rfl rfl rfl rfl rfl ?_
                      refine TL_skip rfl rfl rfl rfl rfl rfl rfl ?_
                      refine TL_skip rfl rfl rfl rfl rfl rfl rfl ?_
                      refine TL_skip rfl rfl rfl rfl rfl rfl rfl ?_
                      refine TL_skip rfl rfl rfl rfl rfl rfl rfl ?_
                      refine TL_want rfl rfl rfl rfl rfl rfl (V_pick (b := false) rfl rfl) ?_
                      refine TL_v rfl rfl rfl (V_pick (b := false) rfl rfl) ?_
                      refine TL_v rfl rfl rfl (V_assign rfl) ?_
                      refine TL_nil ?_
                      refine TX_next ?_
                      refine TC.sub (m' := [(6, vb false)]) ⟨rfl, trivial⟩ ?_
                      refine TC_ret ?_
                      have hrv := Option.some.inj H
                      subst hrv
                      exact TX_ret (rs := [.tmp 6]) (vs := [vb false]) rfl ⟨rfl, trivial⟩ (fun w' hs' => ⟨(), rfl, Step.left (Step.pulled (is := []) (A := []) hs' rfl)⟩)
                  · replace H := ite_f (of_decide_eq_false hc) H
                    refine TL_skip rfl rfl rfl rfl rfl rfl rfl ?_
                    refine TL_skip rfl rfl rfl rfl rfl rfl rfl ?_
                    refine TL_skip rfl rfl rfl rfl rfl rfl rfl ?_
                    refine TL_skip rfl rfl rfl rfl rfl rfl rfl ?_
                    refine TL_want rfl rfl rfl rfl rfl rfl (V_pick (b := false) rfl rfl) ?_
                    refine TL_want rfl rfl rfl rfl rfl rfl (V_move rfl) ?_
                    refine TL_skip rfl rfl rfl rfl rfl rfl rfl ?_
                    refine TL_skip rfl rfl rfl rfl rfl rfl rfl ?_
                    refine TL_skip rfl rfl rfl rfl rfl rfl rfl ?_
                    refine TL_skip rfl rfl rfl rfl rfl rfl rfl ?_
                    refine TL_skip rfl rfl rfl rfl rfl rfl rfl ?_
                    refine TL_want rfl rfl rfl rfl rfl rfl (V_pick (b := false) rfl rfl) ?_
                    refine TL_v rfl rfl rfl (V_pick (b := false) rfl rfl) ?_
                    refine TL_v rfl rfl rfl (V_assign rfl) ?_
                    refine TL_nil ?_
                    refine TX_next ?_
                    refine TC.sub (m' := [(6, vb false)]) ⟨rfl, trivial⟩ ?_
                    refine TC_ret ?_
                    have hrv := Option.some.inj H
                    subst hrv
                    exact TX_ret (rs := [.tmp 6]) (vs := [vb false]) rfl ⟨rfl, trivial⟩ (fun w' hs' => ⟨(), rfl, Step.left (Step.pulled (is := []) (A := []) hs' rfl)⟩)
    · intro hJ
      replace H := Hj
      refine TC_cond (b := wide) rfl (fun hc => ?_) (fun hc => ?_)
      · replace H := ite_t hc H
        refine TC_region ?_
        refine TL_v rfl rfl rfl (V_assign rfl) ?_
        refine TL_nil ?_
        refine TX.sub (m' := [(1, vs s_), (2, sl Acuts ((cuts).length) ccuts), (7, vi 384)]) ⟨rfl, rfl, rfl, trivial⟩ ?_
        refine TX.pull (is := []) (L' := []) rfl ?_
        obtain rfl := Option.some.inj H
        exact hJ ()
      · replace H := ite_f (Bool.eq_false_iff.1 hc) H
        refine TC_skip ?_
        refine TX.sub (m' := [(1, vs s_), (2, sl Acuts ((cuts).length) ccuts), (7, vi 256)]) ⟨rfl, rfl, rfl, trivial⟩ ?_
        refine TX.pull (is := []) (L' := []) rfl ?_
        obtain rfl := Option.some.inj H
        exact hJ ()

end Go.Proofs
end

section
/-
  The laws of digests.
-/
namespace Go.Proofs
open Go Go.Kx
set_option linter.unusedVariables false
set_option linter.unusedSimpArgs false
theorem Shas_true (bits : Int) (s : Str) (h : s.length ≤ 140737488351232) : halberdlaw2_Shas bits s = some true := by
  unfold halberdlaw2_Shas
  refine bind_i (Sum_eq bits s (by omega)) (bind_i (refSum_eq bits s (by omega)) (if_i rfl (bind_i (v := (if bits = 256 ∨ bits = 384 then (dig bits s, (0 : Int)) else ([], 200)).2) rfl (if_i rfl (bind_i awake2 rfl)))))
theorem dig_length (n : Int) (hn : n = 256 ∨ n = 384) (s : Str) : (dig n s).length = n.toNat / 8 := by
  unfold dig
  rw [sub_length, Nat.sub_zero]
  rw [outW_length]
  rcases hn with h | h <;> subst h <;> decide
/-- A hash object behind a text. -/
abbrev ob (n : Int) (s : Str) : Vector (BitVec 64) 8 × Str × BitVec 64 := (stH n s, stR n s, BitVec.ofNat 64 s.length)
theorem write_ob (n : Int) (s t : Str) (ht : s.length % bsz n + t.length ≤ 140737488355328) :
    sha_Hash_Write n (ob n s).1 KV (ob n s).2.1 (ob n s).2.2 t = some (ob n (s ++ t)) := by
  refine (write_eq n s t _ ht).trans ?_
  unfold ob
  rw [List.length_append, BitVec.ofNat_add]
theorem modB_lt (n : Int) (s : Str) : s.length % bsz n < 128 := by
  have := Nat.mod_lt s.length (show bsz n > 0 by have := bsz_or n; omega)
  have := bsz_or n
  omega
theorem fork_ob (n : Int) (s : Str) : sha_Hash_Fork n (ob n s).1 KV (ob n s).2.1 (ob n s).2.2 = some (n, (ob n s).1, KV, (ob n s).2.1, (ob n s).2.2) := by
  refine fork_eq n _ _ _ _ ?_
  have := stR_lt n s
  have := bsz_or n
  show (stR n s).length ≤ _
  omega
theorem ob_nil (n : Int) : ob n [] = (begn n, [], 0#64) := by simp [ob, stH_nil, stR_nil]
theorem sum_ob (n : Int) (hn : n = 256 ∨ n = 384) (s : Str) (hs : s.length < 1152921504606846976) : sha_Hash_Sum n (ob n s).1 KV (ob n s).2.1 (ob n s).2.2 = some (dig n s) := sum_eq n hn s hs

theorem ShaForks_true (wide : Bool) (a b c : Str) (ha : a.length ≤ 10000000) (hb : b.length ≤ 10000000) (hc : c.length ≤ 10000000) : halberdlaw2_ShaForks wide a b c = some true := by
  unfold halberdlaw2_ShaForks
  refine bind_i awake2 (if_n (by decide) (bind_i (v := if wide = true then 384 else 256) (by cases wide <;> rfl) ?_))
  have hn : (if wide = true then (384 : Int) else 256) = 256 ∨ (if wide = true then (384 : Int) else 256) = 384 := by cases wide <;> simp
  generalize (if wide = true then (384 : Int) else 256) = n at hn
  have hab : (a ++ b).length ≤ 20000000 := by rw [List.length_append]; omega
  have hac : (a ++ c).length ≤ 20000000 := by rw [List.length_append]; omega
  have habc : (a ++ b ++ c).length ≤ 30000000 := by rw [List.length_append]; omega
  have m0 := modB_lt n []
  have m1 := modB_lt n a
  have m2 := modB_lt n (a ++ b)
  have w1 := write_ob n [] a (by omega)
  rw [ob_nil, List.nil_append] at w1
  have s1 := Sum_eq n a (by omega)
  have s2 := Sum_eq n (a ++ b) (by omega)
  have s3 := Sum_eq n (a ++ c) (by omega)
  have s4 := Sum_eq n (a ++ b ++ c) (by omega)
  rw [if_pos hn] at s1 s2 s3 s4
  refine bind_i (new_eq n hn) ?_
  refine bind_i (v := 0) rfl (if_n (by decide) (bind_i w1 (bind_i (fork_ob n a) (bind_i (fork_ob n a) (bind_i (write_ob n a b (by omega)) (bind_i (fork_ob n (a ++ b)) (bind_i (write_ob n a c (by omega)) (bind_i (write_ob n (a ++ b) c (by omega)) ?_))))))))
  refine bind_i s1 (if_i (by omega) (bind_i s2 (if_i (by omega) (bind_i s3 (if_i (by omega) (if_i (by omega) (bind_i s4 ?_)))))))
  refine bind_i (sum_ob n hn a (by omega)) (if_i rfl (bind_i (sum_ob n hn (a ++ b) (by omega)) (if_i rfl (bind_i (sum_ob n hn (a ++ c) (by omega)) (if_i rfl (bind_i (sum_ob n hn (a ++ b ++ c) (by omega)) (if_i rfl (bind_i (sum_ob n hn a (by omega)) (ltt_i fun x hx => ?_)))))))))
  rw [hx]; simp

/-! Parts. -/
theorem iop7 (x : Int) : 0 ≤ iop (· &&& ·) x 7 ∧ iop (· &&& ·) x 7 < 8 := by
  have := and_mask x 3 (by decide)
  have h : iop (· &&& ·) x 7 = x % 8 := this
  rw [h]; omega
/-- The first parts. -/
def fst (parts : List Str) (k : Nat) : Str := (parts.take k).flatten
theorem fst_succ (parts : List Str) (k : Nat) (h : k < parts.length) : fst parts (k + 1) = fst parts k ++ lg parts k := by
  unfold fst
  rw [List.take_succ_eq_append_getElem h, List.flatten_append]
  simp [lg, h]
theorem fst_len (parts : List Str) (hp : ∀ p ∈ parts, p.length ≤ 140737488351232) : ∀ k, k ≤ parts.length → (fst parts k).length ≤ 140737488351232 * k
  | 0, _ => by simp [fst]
  | k + 1, h => by
    rw [fst_succ parts k (by omega), List.length_append]
    have := fst_len parts hp k (by omega)
    have : (lg parts k).length ≤ 140737488351232 := hp _ (by simp [lg, show k < parts.length by omega])
    omega
theorem ShaParts_true (wide : Bool) (parts : List Str) (fork : Int) (hl : parts.length < 1152921504606846976) (hp : ∀ p ∈ parts, p.length ≤ 140737488351232) : halberdlaw2_ShaParts wide parts fork = some true := by
  unfold halberdlaw2_ShaParts
  refine bind_i (v := if wide = true then 384 else 256) (by cases wide <;> rfl) ?_
  have hn : (if wide = true then (384 : Int) else 256) = 256 ∨ (if wide = true then (384 : Int) else 256) = 384 := by cases wide <;> simp
  generalize (if wide = true then (384 : Int) else 256) = n at hn
  refine bind_i (new_eq n hn) (bind_i (v := 0) rfl (if_n (by decide) ?_))
  have hm : min parts.length 12 ≤ parts.length := Nat.min_le_left _ _
  have hfl := fst_len parts hp
  refine bind_i (v := .inl (fst parts (min parts.length 12), ob n (fst parts (min parts.length 12)))) (loop_fn (fun k => (fst parts k, (k : Int), ob n (fst parts k))) (min parts.length 12) _ (by omega) ?_ (fun k hk => ?_) ?_) ?_
  · show _ = (fst parts 0, ((0 : Nat) : Int), ob n (fst parts 0))
    have : fst parts 0 = [] := rfl
    rw [this, ob_nil]; rfl
  · have hk1 : k < parts.length := by omega
    have hpk : (lg parts k).length ≤ 140737488351232 := hp _ (by simp [lg, hk1])
    have hf := hfl k (by omega)
    have hf1 := hfl (k + 1) (by omega)
    have hf2 : (fst parts k).length ≤ 140737488351232 * 12 := by omega
    have hf3 : (fst parts (k + 1)).length ≤ 140737488351232 * 13 := by omega
    have hsc := fst_succ parts k hk1
    have m1 := modB_lt n (fst parts k)
    have e1 : w64 ((k : Int) + 1) = ((k + 1 : Nat) : Int) := w64_add (b := 1) (by omega)
    have ho : (fst parts k ++ ([111#8, 116#8, 104#8, 101#8, 114#8] : Str)).length ≤ 140737488351232 * 12 + 5 := by rw [List.length_append]; simp; omega
    unfold halberdlaw2_ShaParts.b1
    simp only [e1, Int.toNat_natCast]
    clear e1
    have tail : (if 0 ≤ (k : Int) ∧ (k : Int) < (parts.length : Int) then
        (sha_Hash_Write n (ob n (fst parts k)).1 KV (ob n (fst parts k)).2.1 (ob n (fst parts k)).2.2 (lg parts k)).bind fun (r : Vector (BitVec 64) 8 × List (BitVec 8) × BitVec 64) =>
        (if 0 ≤ (k : Int) ∧ (k : Int) < (parts.length : Int) then (if (fst parts k).length + (lg parts k).length ≤ 4611686018427387904 then (ltt (fst parts k ++ lg parts k) fun (all : Str) => ((sha_Hash_Sum n r.1 KV r.2.1 r.2.2).bind fun (x : Str) => ((halberdref1_Hash n all).bind fun (y : Str) => (if x ≠ y then (some (Sum.inr (α := Str × Int × Vector (BitVec 64) 8 × List (BitVec 8) × BitVec 64) (Sum.inr (α := Str × Vector (BitVec 64) 8 × List (BitVec 8) × BitVec 64) false))) else (ltt ((k + 1 : Nat) : Int) fun (i : Int) => (some (.inl (all, i, r.1, r.2.1, r.2.2)))))))) else none) else none) else none) = some (.inl (fst parts (k + 1), ((k + 1 : Nat) : Int), ob n (fst parts (k + 1)))) := by
      refine if_i (by omega) (bind_i (write_ob n _ _ (by omega)) (if_i (by omega) (if_i (by omega) (ltt_i fun all hall => ?_))))
      rw [← hsc] at hall
      rw [hall, ← hsc]
      refine bind_i (sum_ob n hn _ (by omega)) (bind_i (Hash_eq n hn _ (by omega)) (if_n (by simp) (ltt_i fun i hi => ?_)))
      rw [hi]
    refine if_i (by omega) (if_i (by omega) ?_)
    by_cases hfk : (k : Int) = iop (· &&& ·) fork 7
    · refine if_i hfk (bind_i (fork_ob n _) (bind_i (write_ob n _ _ (by simp; omega)) (bind_i (sum_ob n hn _ (by omega)) (if_i (by simp; omega) (bind_i (Hash_eq n hn _ (by omega)) (if_n (by simp) tail))))))
    · exact if_n hfk tail
  · unfold halberdlaw2_ShaParts.b1
    by_cases hc : parts.length ≤ 12
    · refine if_n (by show ¬ (((min parts.length 12 : Nat) : Int) < _); omega) rfl
    · refine if_i (by show (((min parts.length 12 : Nat) : Int) < _); omega) (if_n (by show ¬ (((min parts.length 12 : Nat) : Int) < _); omega) rfl)
  · have hf := hfl (min parts.length 12) hm
    have hf2 : (fst parts (min parts.length 12)).length ≤ 140737488351232 * 12 := by omega
    dsimp only
    refine bind_i (new_none (w64 (n + 1)) (by rcases hn with h | h <;> subst h <;> decide)) ?_
    refine bind_i (sum_ob n hn _ (by omega)) (bind_i (Hash_eq n hn _ (by omega)) (if_i rfl (bind_i (v := 200) rfl (if_i rfl (bind_i awake2 rfl)))))
/-! Cuts. -/
theorem iop63 (x : Int) : 0 ≤ iop (· &&& ·) x 63 ∧ iop (· &&& ·) x 63 < 64 := by
  have := and_mask x 6 (by decide)
  have h : iop (· &&& ·) x 63 = x % 64 := this
  rw [h]; omega
def cutK (cuts : List Int) (t : Str) (k : Nat) : Nat := if k < cuts.length then min t.length (iop (· &&& ·) (lg cuts k) 63).toNat else t.length
theorem cutK_le (cuts : List Int) (t : Str) (k : Nat) : cutK cuts t k ≤ t.length := by
  unfold cutK; split <;> omega
/-- What is done, what is left. -/
def cutS (cuts : List Int) (k : Nat) (p : Str × Str) : Str × Str := (p.1 ++ sub p.2 0 (cutK cuts p.2 k), sub p.2 (cutK cuts p.2 k) p.2.length)
theorem cutS_app (cuts : List Int) (k : Nat) (p : Str × Str) : (cutS cuts k p).1 ++ (cutS cuts k p).2 = p.1 ++ p.2 := by
  unfold cutS sub
  simp only [List.drop_zero, Nat.sub_zero, List.append_assoc]
  rw [List.take_of_length_le (l := List.drop _ _) (by rw [List.length_drop]; exact Nat.le_refl _), List.take_append_drop]
theorem loop_ex {S τ : Type} {body : S → Option (S ⊕ τ)} (Q : Option τ → Prop) : ∀ (d fuel : Nat) (I : Nat → S → Prop) (s : S), I d s → d < fuel →
    (∀ k s, I (k + 1) s → (∃ s', body s = some (.inl s') ∧ I k s') ∨ ∃ t, body s = some (.inr t) ∧ Q (some t)) → (∀ s, I 0 s → ∃ t, body s = some (.inr t) ∧ Q (some t)) → Q (loop body fuel s)
  | 0, 0, _, _, _, h, _, _ => by omega
  | 0, fuel + 1, I, s, hI, _, _, h0 => by
    obtain ⟨t, ht, hq⟩ := h0 s hI
    simp only [loop, ht]; exact hq
  | d + 1, 0, _, _, _, h, _, _ => by omega
  | d + 1, fuel + 1, I, s, hI, h, hs, h0 => by
    rcases hs d s hI with ⟨s', hb, hI'⟩ | ⟨t, ht, hq⟩
    · simp only [loop, hb]
      exact loop_ex Q d fuel I s' hI' (by omega) hs h0
    · simp only [loop, ht]; exact hq
theorem ShaSplits_true (wide : Bool) (s : Str) (cuts : List Int) (h : s.length ≤ 140737488351232) (hc : cuts.length < 1152921504606846976) : halberdlaw2_ShaSplits wide s cuts = some true := by
  unfold halberdlaw2_ShaSplits
  refine bind_i awake2 (if_n (by decide) (bind_i (v := if wide = true then 384 else 256) (by cases wide <;> rfl) ?_))
  have hn : (if wide = true then (384 : Int) else 256) = 256 ∨ (if wide = true then (384 : Int) else 256) = 384 := by cases wide <;> simp
  generalize (if wide = true then (384 : Int) else 256) = n at hn
  refine bind_i (new_eq n hn) ?_
  dsimp only
  refine bind_i (new_eq n hn) ?_
  refine bind_i (v := 0) rfl (if_n (by decide) (bind_i (v := 0) rfl (if_n (by decide) ?_)))
  obtain ⟨N, hN⟩ : ∃ N, N = 3000 := ⟨_, rfl⟩
  have key : ∃ t : Str, (t ≠ [] ∨ True) ∧ loop (halberdlaw2_ShaSplits.b1 cuts (n, begn n, KV, []) (n, begn n, KV, [])) BIG (s, 0, begn n, [], 0#64, begn n, [], 0#64) = some (t, (ob n (s.take (s.length - t.length))).1, (ob n (s.take (s.length - t.length))).2.1, (ob n (s.take (s.length - t.length))).2.2, (ob n []).1, (ob n []).2.1, (ob n []).2.2) := by
    refine loop_ex (fun o => ∃ t : Str, (t ≠ [] ∨ True) ∧ o = some (t, (ob n (s.take (s.length - t.length))).1, (ob n (s.take (s.length - t.length))).2.1, (ob n (s.take (s.length - t.length))).2.2, (ob n []).1, (ob n []).2.1, (ob n []).2.2)) N BIG
      (fun d st => ∃ (a t : Str), a ++ t = s ∧ d ≤ N ∧ st = (t, ((N - d : Nat) : Int), (ob n a).1, (ob n a).2.1, (ob n a).2.2, (ob n []).1, (ob n []).2.1, (ob n []).2.2)) _ ⟨[], s, rfl, Nat.le_refl _, ?_⟩ (by unfold BIG; omega) ?_ ?_
    · rw [ob_nil, Nat.sub_self]; rfl
    · rintro d st ⟨a, t, hat, hd, rfl⟩
      have hta : s.take (s.length - t.length) = a := by rw [← hat]; simp
      have hlen : a.length + t.length = s.length := by rw [← hat, List.length_append]
      by_cases ht : t = []
      · refine .inr ⟨_, if_n (by simpa using ht) rfl, t, .inr trivial, ?_⟩
        rw [hta]
      · refine .inl ⟨_, ?_, a ++ sub t 0 (cutK cuts t (N - (d + 1))), sub t (cutK cuts t (N - (d + 1))) t.length, ?_, by omega, rfl⟩
        · have e1 : w64 (((N - (d + 1) : Nat) : Int) + 1) = ((N - d : Nat) : Int) := (w64_add (a := N - (d + 1)) (b := 1) (by omega)).trans (by omega)
          have m1 := modB_lt n a
          have m0 := modB_lt n []
          have hck := cutK_le cuts t (N - (d + 1))
          unfold halberdlaw2_ShaSplits.b1
          simp only [e1, Int.toNat_natCast]
          clear e1
          refine if_i ht (if_i (by omega) (ltt_i fun k3 hk3 => bind_i (v := ((cutK cuts t (N - (d + 1)) : Nat) : Int)) ?_ ?_))
          · rw [hk3]
            unfold cutK
            by_cases hcl : N - (d + 1) < cuts.length
            · rw [if_pos (by omega), if_pos (by omega), if_pos hcl]
              refine ltt_i fun k4 hk4 => ?_
              have hi63 := iop63 (lg cuts (N - (d + 1)))
              rw [hk4]
              clear hk4 hk3 m1 m0
              generalize iop (· &&& ·) (lg cuts (N - (d + 1))) 63 = y at hi63 ⊢
              exact congrArg some (by omega)
            · rw [if_neg (by omega), if_neg hcl]
          · simp only [Int.toNat_natCast]
            have hsl : (sub t 0 (cutK cuts t (N - (d + 1)))).length ≤ t.length := by rw [sub_length hck]; omega
            have wn := write_ob n [] [] (by simp)
            rw [List.append_nil] at wn
            refine if_i (by omega) (if_i hck (bind_i (write_ob n a _ (by omega)) (bind_i wn (if_i (by omega) (if_i hck (ltt_i fun t4 ht4 => ltt_i fun i2 hi2 => ?_))))))
            rw [ht4, hi2]
        · have := cutS_app cuts (N - (d + 1)) (a, t)
          exact this.trans hat
    · rintro st ⟨a, t, hat, hd, rfl⟩
      have hta : s.take (s.length - t.length) = a := by rw [← hat]; simp
      by_cases ht : t = []
      · refine ⟨_, if_n (by simpa using ht) rfl, t, .inr trivial, ?_⟩
        rw [hta]
      · refine ⟨_, if_i ht (if_n (by show ¬ (((N - 0 : Nat) : Int) < 3000); omega) rfl), t, .inr trivial, ?_⟩
        rw [hta]
  obtain ⟨t, _, hkey⟩ := key
  refine bind_i hkey ?_
  have s1 := Sum_eq n s (by omega)
  have s2 := Sum_eq n [] (by simp)
  rw [if_pos hn] at s1 s2
  refine bind_i s1 (bind_i s2 ?_)
  dsimp only
  by_cases ht : t = []
  · subst ht
    refine if_n (by simp) ?_
    have hs : s.take (s.length - ([] : Str).length) = s := by simp
    rw [hs]
    refine bind_i (sum_ob n hn s (by omega)) (if_i rfl (bind_i (sum_ob n hn [] (by simp)) (if_i rfl (ltt_i fun x hx => ?_))))
    rw [hx, dig_length n hn]
    rcases hn with h | h <;> subst h <;> rfl
  · exact if_i ht rfl

/-! All lengths about a block's. -/
theorem ends_b3 (n : Int) (t : Str) (ht : t.length < 1000) (h0 k0 : Int) (r : Int × Vector (BitVec 64) 8 × Vector (BitVec 64) 80 × List (BitVec 8)) (hr : r = (n, begn n, KV, [])) :
    loop (halberdlaw2_ShaEnds.b3 (t.length : Int) t r) BIG (0, begn n, [], 0#64) = some (ob n t) := by
  have h := loop_fn (body := halberdlaw2_ShaEnds.b3 (t.length : Int) t r) (s0 := (0, begn n, [], 0#64)) (fun k => ((k : Int), ob n (t.take k))) t.length (ob n t) (by omega) (by
    have : t.take 0 = [] := rfl
    rw [this, ob_nil]; rfl) (fun k hk => ?_) ?_
  · exact h
  · have e1 : w64 ((k : Int) + 1) = ((k + 1 : Nat) : Int) := w64_add (b := 1) (by omega)
    have hs : sub t k (k + 1) = [t[k]] := by
      unfold sub
      rw [show k + 1 - k = 1 by omega, List.drop_eq_getElem_cons hk]
      rfl
    have hta : t.take (k + 1) = t.take k ++ [t[k]] := List.take_succ_eq_append_getElem hk
    have m1 := modB_lt n (t.take k)
    unfold halberdlaw2_ShaEnds.b3
    simp only [e1, Int.toNat_natCast, hs]
    clear e1
    refine if_i (by omega) (if_i (by omega) (if_i (by omega) (if_i (by omega) (if_i (by omega) (if_i (by omega) ?_)))))
    rw [hr]
    refine bind_i (write_ob n (t.take k) [t[k]] (by simp only [List.length_cons, List.length_nil]; omega)) (ltt_i fun i hi => ?_)
    rw [hi, hta]
  · rw [List.take_length]
    exact if_n (by show ¬ ((t.length : Int) < _); omega) rfl
theorem ShaEnds_true (many fill : Int) : halberdlaw2_ShaEnds many fill = some true := by
  unfold halberdlaw2_ShaEnds
  refine bind_i awake2 (if_n (by decide) (ltt_i fun k1 hk1 => ?_))
  have hk : 0 ≤ k1 ∧ k1 < 256 := by
    have : iop (· &&& ·) many 255 = many % 256 := and255 many
    rw [hk1, this]; omega
  clear hk1
  obtain ⟨k, rfl⟩ : ∃ k : Nat, k1 = (k : Int) := ⟨k1.toNat, by omega⟩
  have hk2 : k < 256 := by omega
  refine if_i (by omega) ?_
  have key : ∃ t : Str, t.length = k ∧ loop (halberdlaw2_ShaEnds.b0 fill (k : Int)) BIG (0, List.replicate ((k : Int).toNat) 0#8) = some t := by
    refine loop_ex (fun o => ∃ t : Str, t.length = k ∧ o = some t) k BIG (fun d st => ∃ t : Str, t.length = k ∧ d ≤ k ∧ st = (((k - d : Nat) : Int), t)) _ ⟨List.replicate k 0#8, by simp, Nat.le_refl _, by rw [Nat.sub_self]; rfl⟩ (by unfold BIG; omega) ?_ ?_
    · rintro d st ⟨t, ht, hd, rfl⟩
      have e1 : w64 (((k - (d + 1) : Nat) : Int) + 1) = ((k - d : Nat) : Int) := (w64_add (a := k - (d + 1)) (b := 1) (by omega)).trans (by omega)
      refine .inl ⟨(((k - d : Nat) : Int), t.set (k - (d + 1)) (BitVec.ofInt 8 (w64 (fill + (shrI' (w64 (((k - (d + 1) : Nat) : Int) * fill)) 3))))), ?_, _, by simpa using ht, by omega, rfl⟩
      unfold halberdlaw2_ShaEnds.b0
      simp only [e1, Int.toNat_natCast]
      clear e1
      refine if_i (by omega) (if_i (by omega) (if_i (by omega) (ltt_i fun m hm => ltt_i fun i hi => ?_)))
      rw [hm, hi]
    · rintro st ⟨t, ht, hd, rfl⟩
      exact ⟨t, if_n (by show ¬ (((k - 0 : Nat) : Int) < _); omega) rfl, t, ht, rfl⟩
  obtain ⟨t, ht, hkey⟩ := key
  refine bind_i hkey ?_
  subst ht
  have one : ∀ n : Int, (n = 256 ∨ n = 384) → halberdlaw2_ShaEnds.b1 (t.length : Int) t n = some (.inl (n + 128)) := by
    intro n hn
    have e1 : w64 (n + 128) = n + 128 := w64_id (by omega) (by omega)
    have s1 := Sum_eq n t (by omega)
    rw [if_pos hn] at s1
    unfold halberdlaw2_ShaEnds.b1
    refine if_i (by omega) (bind_i (new_eq n hn) (bind_i (v := 0) rfl (if_n (by decide) (bind_i (ends_b3 n t (by omega) 0 0 _ rfl) (if_i (by omega) ?_)))))
    refine bind_i s1 (bind_i (v := 0) rfl (if_n (by decide) (bind_i (sum_ob n hn t (by omega)) (if_n (by simp) (if_i (by omega) (bind_i (Hash_eq n hn t (by omega)) (if_n (by simp) (ltt_i fun b hb => ?_))))))))
    rw [hb, e1]
  refine bind_i (v := .inl ()) (loop_fn (fun j => (256 + 128 * (j : Int))) 2 _ (by omega) rfl (fun j hj => ?_) ?_) rfl
  · have : 256 + 128 * (j : Int) = 256 ∨ 256 + 128 * (j : Int) = 384 := by omega
    rw [one _ this]
    exact congrArg some (congrArg Sum.inl (by omega))
  · unfold halberdlaw2_ShaEnds.b1
    exact if_n (by decide) rfl
end Go.Proofs
end
